/- Rules,facts and contracts that the statement's proof leans on. Conditions: none. -/
import Derived.OrdersIn
import Derived.RangeFuncIn
import Derived.RangeFuncLeaves
import Derived.RangeFuncRecord
import Derived.WalkKit
import Derived.Laws.BytesString
import Derived.Laws.BytesArg
import Derived.Laws.MakeOwn
import Derived.ArgAppend
set_option linter.unusedVariables false
set_option linter.unusedSimpArgs false
set_option linter.unusedSectionVars false
namespace Cp
open Go
inductive Val where
 | any
 | int (k : IntKind) (n : Int)
 | bool (b : Bool)
 | str (s : ByteArray)
 | nilp
 | nils
 | nilm
 | nilf
 | nili
 | ptr (k e sz i j : Nat)
 | pim (cs : List Val)
 | lst (sz : Nat) (xss : List (List Val))
 | exl (sz : Nat) (xss : List (List Val))
 | gr (k e n : Nat)
 | map (k e : Nat)
 | itr (k e : Nat)
 | yld (k e : Nat)
 | fn (f : FuncId) (caps : List Val)
 | iface (t : TypeId) (v : Val)
 | agg (cs : List Val)
 | tup (vs : List Val)
 deriving Inhabited
def GE : Nat → Option (List Val) := fun g => if g = 0 then some [.fn 160 [],.fn 161 []] else none
end Cp
namespace Cp
open Go
def Val.cell : Val → Bool
 | .any | .agg _ | .tup _ => false
 | _ => true
inductive AObj where
 | arr (sz : Nat) (xss : List (List Val))
 | fro (sz : Nat) (xss : List (List Val))
 | map (ver : Nat) (es : List (Val × Val))
 | itr (km em ver : Nat) (left : List Nat) (cur : Option Nat)
 | loop (fs : List Val) (ps : Array Tmp) (asg body : Code) (st : LoopState) (pend : Option Code)
 | nit
 | frm (ver : Nat) (es : List (Val × Val))
 | dead
 deriving Inhabited
abbrev Fr := Nat → Val
abbrev Hp := Nat → Option (Nat × AObj)
def upd {α : Type} (f : Nat → α) (k : Nat) (v : α) : Nat → α := fun t => if t = k then v else f t
@[simp] theorem A4 {α : Type} (f : Nat → α) (k : Nat) (v : α) : upd f k v k = v := by simp [upd]
theorem A0 {α : Type} (f : Nat → α) {k t : Nat} (v : α) (h : t ≠ k) : upd f k v t = f t := by simp [upd,h]
structure Gh where
 I : Nat → Prop
 K : Nat → Option Nat
 C : Nat → Nat
 E : Nat → Nat
 N : Nat → Nat
 D : List Nat
def Gh.handle (G : Gh) (k n : Nat) : Value :=
 match G.K k with
 | none => .slice none n 0
 | some b => .slice (some ⟨b,0,none⟩) n (G.C k)
inductive VR (G : Gh) (w : World) : Val → Value → Prop
 | any (x : Value) : VR G w .any x
 | int (k : IntKind) (n : Int) : VR G w (.int k n) (.int k n)
 | bool (b : Bool) : VR G w (.bool b) (.bool b)
 | str (s : ByteArray) : VR G w (.str s) (.string s)
 | nilp : VR G w .nilp (.pointer none)
 | nils (a : Option Addr) : VR G w .nils (.slice a 0 0)
 | nilm : VR G w .nilm (.map none)
 | nilf : VR G w .nilf .nilFunc
 | nili : VR G w .nili .nilIface
 | ptr (k e sz i j : Nat) (a : Addr) (he : e < G.N k) (h : G.E k = e → ∃ b,G.K k = some b ∧ a = ⟨b,i * sz + j,none⟩) :
   VR G w (.ptr k e sz i j) (.pointer (some a))
 | pim (cs : List Val) (b off : Nat) (ys : Nat → Value) (hI : G.I b) (hm : ∀ (j : Nat) (v : Val),cs[j]? = some v → w.cell? ⟨b,off + j,none⟩ = some (ys j))
   (hc : ∀ (j : Nat) (v : Val),cs[j]? = some v → v.cell = true) (hv : ∀ (j : Nat) (v : Val),cs[j]? = some v → VR G w v (ys j)) : VR G w (.pim cs) (.pointer (some ⟨b,off,none⟩))
 | lst (sz : Nat) (xss : List (List Val)) (a : Option Addr) (cap : Nat) (ys : Nat → Nat → Value) (hcap : xss.length ≤ cap) (hsz : ∀ (i : Nat) (es : List Val),xss[i]? = some es → es.length = sz)
   (ha : xss ≠ [] → ∃ b off,a = some ⟨b,off,none⟩ ∧ G.I b ∧ ∀ (i : Nat) (es : List Val),xss[i]? = some es → ∀ (j : Nat) (v : Val),es[j]? = some v → w.cell? ⟨b,off + i * sz + j,none⟩ = some (ys i j))
   (hc : ∀ (i : Nat) (es : List Val),xss[i]? = some es → ∀ (j : Nat) (v : Val),es[j]? = some v → v.cell = true)
   (hv : ∀ (i : Nat) (es : List Val),xss[i]? = some es → ∀ (j : Nat) (v : Val),es[j]? = some v → VR G w v (ys i j)) : VR G w (.lst sz xss) (.slice a xss.length cap)
 | exl (sz : Nat) (xss : List (List Val)) (a : Option Addr) (ys : Nat → Nat → Value) (hsz : ∀ (i : Nat) (es : List Val),xss[i]? = some es → es.length = sz)
   (ha : xss ≠ [] → ∃ b off,a = some ⟨b,off,none⟩ ∧ G.I b ∧ ∀ (i : Nat) (es : List Val),xss[i]? = some es → ∀ (j : Nat) (v : Val),es[j]? = some v → w.cell? ⟨b,off + i * sz + j,none⟩ = some (ys i j))
   (hc : ∀ (i : Nat) (es : List Val),xss[i]? = some es → ∀ (j : Nat) (v : Val),es[j]? = some v → v.cell = true)
   (hv : ∀ (i : Nat) (es : List Val),xss[i]? = some es → ∀ (j : Nat) (v : Val),es[j]? = some v → VR G w v (ys i j)) : VR G w (.exl sz xss) (.slice a xss.length xss.length)
 | gr (k e n : Nat) (a : Option Addr) (c : Nat) (he : e < G.N k) (h : G.E k = e → Value.slice a n c = G.handle k n) : VR G w (.gr k e n) (.slice a n c)
 | map (k e b : Nat) (he : e < G.N k) (h : G.E k = e → G.K k = some b) : VR G w (.map k e) (.map (some b))
 | itr (k e : Nat) (a : Addr) (he : e < G.N k) (h : G.E k = e → ∃ b,G.K k = some b ∧ a = ⟨b,0,none⟩) : VR G w (.itr k e) (.pointer (some a))
 | yld (k e b : Nat) (he : e < G.N k) (h : G.E k = e → G.K k = some b) : VR G w (.yld k e) (.func (.yield b) #[] #[])
 | fn (f : FuncId) (caps : List Val) (xs : Array Value) (hs : xs.size = caps.length) (hv : ∀ (i : Nat) (v : Val),caps[i]? = some v → VR G w v (xs.getD i undef)) :
   VR G w (.fn f caps) (.func (.func f) #[] xs)
 | iface (t : TypeId) (v : Val) (x : Value) (h : VR G w v x) : VR G w (.iface t v) (.iface t x)
 | agg (cs : List Val) (xs : Array Value) (hs : xs.size = cs.length) (hc : ∀ (i : Nat) (v : Val),cs[i]? = some v → v.cell = true)
   (hv : ∀ (i : Nat) (v : Val),cs[i]? = some v → VR G w v (xs.getD i undef)) : VR G w (.agg cs) (.agg xs)
 | tup (vs : List Val) (xs : Array Value) (hs : xs.size = vs.length) (hv : ∀ (i : Nat) (v : Val),vs[i]? = some v → VR G w v (xs.getD i undef)) : VR G w (.tup vs) (.tuple xs)
theorem VR.oneCell {G : Gh} {w : World} {v : Val} {x : Value} (h : VR G w v x) (hc : v.cell = true) : x.oneCell' = true := by
 cases h <;> first | rfl | simp [Val.cell] at hc
def MR (G : Gh) (w : World) (b off : Nat) (cs : List Val) : Prop :=
 ∀ (j : Nat) (v : Val),cs[j]? = some v → ∃ y,w.cell? ⟨b,off + j,none⟩ = some y ∧ v.cell = true ∧ VR G w v y
def CR (G : Gh) (w : World) (cs : List Val) (ys : List Value) : Prop :=
 ys.length = cs.length ∧ ∀ (j : Nat) (v : Val),cs[j]? = some v → ∃ y : Value,ys[j]? = some y ∧ v.cell = true ∧ VR G w v y
def Row (G : Gh) (w : World) (k sz : Nat) (xss : List (List Val)) : Prop :=
 (∀ (i : Nat) (es : List Val),xss[i]? = some es → es.length = sz) ∧
 match G.K k with
 | none => xss = [] ∧ G.C k = 0
 | some b => (∃ cs T,w.heap[b]? = some (.cells cs T (0,0)) ∧ cs.size = G.C k * sz) ∧ xss.length ≤ G.C k ∧ ∀ (i : Nat) (es : List Val),xss[i]? = some es → MR G w b (i * sz) es
def ERel (G : Gh) (w : World) (es : List (Val × Val)) (xs : List MapEntry) : Prop :=
 xs.length = es.length ∧ ∀ (i : Nat) (a v : Val),es[i]? = some (a,v) → ∃ x : MapEntry,xs[i]? = some x ∧ VR G w a x.key ∧ VR G w v x.val
def ORel (G : Gh) (w : World) (k : Nat) : AObj → Prop
 | .arr sz xss => Row G w k sz xss
 | .fro sz xss => Row G w k sz xss ∧ ∀ b,G.K k = some b → G.I b
 | .map ver es => ver < G.N k ∧ ∃ b xs clock,G.K k = some b ∧ w.heap[b]? = some (.map xs clock) ∧ ERel G w es xs.toList ∧ (xs.toList.map (·.born)).Nodup ∧ ∀ x ∈ xs.toList,x.born < clock
 | .itr km _ ver _ _ => ver < G.N km ∧ ∃ b bm clk seen,G.K k = some b ∧ w.heap[b]? = some (.mapIter (some bm) clk seen clk)
 | .loop fs ps asg body st pend => ∃ b r,G.K k = some b ∧ w.heap[b]? = some (.loop r) ∧ r.params = ps ∧ r.assign = asg ∧ r.body = body ∧ r.state = st ∧ r.pending = pend ∧ r.tmps.size = fs.length ∧
   ∀ (i : Nat) (v : Val),fs[i]? = some v → VR G w v (r.tmps.getD i undef)
 | .nit => ∃ b,G.K k = some b ∧ w.heap[b]? = some (.mapIter none 0 #[] 0)
 | .frm ver es => (ver < G.N k ∧ ∃ b xs clock,G.K k = some b ∧ w.heap[b]? = some (.map xs clock) ∧ ERel G w es xs.toList ∧ (xs.toList.map (·.born)).Nodup ∧ ∀ x ∈ xs.toList,x.born < clock) ∧ ∀ b,G.K k = some b → G.I b
 | .dead => True ∧ ∀ b,G.K k = some b → G.I b
def WB (G : Gh) (w : World) (k km : Nat) (left : List Nat) (cur : Option Nat) : Prop :=
 ∃ b bm clk seen,∃ xs : Array MapEntry,G.K k = some b ∧ w.heap[b]? = some (.mapIter (some bm) clk seen clk) ∧ G.K km = some bm ∧ w.heap[bm]? = some (.map xs clk) ∧
  left.Nodup ∧ (∀ i (x : MapEntry),xs[i]? = some x → (i ∈ left ↔ ¬ x.born ∈ seen.toList)) ∧ (∀ i ∈ left,i < xs.size) ∧
  (∀ i,cur = some i → ∃ x : MapEntry,xs[i]? = some x ∧ seen.back? = some x.born) ∧ (∀ s ∈ seen.toList,s < clk)
def AObj.owned : AObj → Bool
 | .fro .. | .frm .. | .dead => false
 | _ => true
def Own (G : Gh) (H : Hp) (b : Nat) : Prop := ∃ k e o,H k = some (e,o) ∧ o.owned = true ∧ G.K k = some b
structure HRel (G : Gh) (w : World) (H : Hp) : Prop where
 obj : ∀ k e o,H k = some (e,o) → G.E k = e ∧ e < G.N k ∧ ORel G w k o
 itr : ∀ k e km em ver left cur e' es,H k = some (e,.itr km em ver left cur) → H km = some (e',.map ver es) → e' = em → WB G w k km left cur
 inj : ∀ k k' e e' o o' b,H k = some (e,o) → H k' = some (e',o') → o.owned = true → o'.owned = true → G.K k = some b → G.K k' = some b → k = k'
 imm : ∀ b,G.I b → b < w.heap.size ∧ ¬ Own G H b
 own : ∀ b,Own G H b → b < w.heap.size
 dfr : ∀ r,r ∈ G.D → w.heap[r]? = some (.deferred (some [])) ∧ ¬ Own G H r ∧ ¬ G.I r
 glb : ∀ g cs,GE g = some cs → VR G w (.pim cs) (.pointer (some ⟨g,0,none⟩))
structure Tr (G : Gh) (H : Hp) (w : World) (G' : Gh) (H' : Hp) (w' : World) : Prop where
 os : w'.os = w.os
 tape : w'.tape = w.tape ∧ w.drawn ≤ w'.drawn
 output : w'.output = w.output
 size : w.heap.size ≤ w'.heap.size
 same : ∀ b,b < w.heap.size → ¬ Own G H b → w'.heap[b]? = w.heap[b]?
 own : ∀ b,Own G' H' b → Own G H b ∨ w.heap.size ≤ b
 I1 : ∀ b,G.I b → G'.I b
 I2 : ∀ b,G'.I b → G.I b ∨ Own G H b ∨ w.heap.size ≤ b
 N : ∀ k,G.N k ≤ G'.N k
 eps : ∀ k,(G'.E k = G.E k ∧ G'.K k = G.K k ∧ G'.C k = G.C k) ∨ G.N k ≤ G'.E k
 D : ∃ l,G'.D = l ++ G.D
theorem Ca {w w' : World} {b : Nat} (h : w'.heap[b]? = w.heap[b]?) (off : Nat) : w'.cell? ⟨b,off,none⟩ = w.cell? ⟨b,off,none⟩ := by
 simp [World.cell?,h]
theorem OW {w : World} {b off : Nat} {v : Value} (h : w.cell? ⟨b,off,none⟩ = some v) : b < w.heap.size := by
 unfold World.cell? at h
 by_cases hb : b < w.heap.size
 ·exact hb
 ·simp [Array.getElem?_eq_none (Nat.le_of_not_lt hb)] at h
theorem VR.mono {G G' : Gh} {H H' : Hp} {w w' : World} {v : Val} {x : Value} (h : VR G w v x) (hi : ∀ b,G.I b → b < w.heap.size ∧ ¬ Own G H b)
  (t : Tr G H w G' H' w') : VR G' w' v x := by
 have hI : ∀ b off,G.I b → w'.cell? ⟨b,off,none⟩ = w.cell? ⟨b,off,none⟩ := fun b off hb => Ca (t.same b (hi b hb).1 (hi b hb).2) off
 induction h with
 | any x => exact .any x
 | int k n => exact .int k n
 | bool b => exact .bool b
 | str s => exact .str s
 | nilp => exact .nilp
 | nils a => exact .nils a
 | nilm => exact .nilm
 | nilf => exact .nilf
 | nili => exact .nili
 | ptr k e sz i j a he h =>
  refine .ptr k e sz i j a (Nat.lt_of_lt_of_le he (t.N k)) (fun hE => ?_)
  rcases t.eps k with ⟨e1,e2,e3⟩ | h1
  ·rw [e2]; exact h (e1 ▸ hE)
  ·omega
 | pim cs b off ys hb hm hc hv ih =>
  exact .pim cs b off ys (t.I1 b hb) (fun j v hj => by rw [hI b _ hb]; exact hm j v hj) hc (fun j v hj => ih j v hj)
 | lst sz xss a cap ys hcap hsz ha hc hv ih =>
  refine .lst sz xss a cap ys hcap hsz (fun hne => ?_) hc (fun i es hi' j v hj => ih i es hi' j v hj)
  obtain ⟨b,off,h1,h2,h3⟩ := ha hne
  exact ⟨b,off,h1,t.I1 b h2,fun i es hi' j v hj => by rw [hI b _ h2]; exact h3 i es hi' j v hj⟩
 | exl sz xss a ys hsz ha hc hv ih =>
  refine .exl sz xss a ys hsz (fun hne => ?_) hc (fun i es hi' j v hj => ih i es hi' j v hj)
  obtain ⟨b,off,h1,h2,h3⟩ := ha hne
  exact ⟨b,off,h1,t.I1 b h2,fun i es hi' j v hj => by rw [hI b _ h2]; exact h3 i es hi' j v hj⟩
 | gr k e n a c he h =>
  refine .gr k e n a c (Nat.lt_of_lt_of_le he (t.N k)) (fun hE => ?_)
  rcases t.eps k with ⟨e1,e2,e3⟩ | h1
  ·rw [h (e1 ▸ hE)]; simp [Gh.handle,e2,e3]
  ·omega
 | map k e b he h =>
  refine .map k e b (Nat.lt_of_lt_of_le he (t.N k)) (fun hE => ?_)
  rcases t.eps k with ⟨e1,e2,e3⟩ | h1
  ·rw [e2]; exact h (e1 ▸ hE)
  ·omega
 | itr k e a he h =>
  refine .itr k e a (Nat.lt_of_lt_of_le he (t.N k)) (fun hE => ?_)
  rcases t.eps k with ⟨e1,e2,e3⟩ | h1
  ·rw [e2]; exact h (e1 ▸ hE)
  ·omega
 | yld k e b he h =>
  refine .yld k e b (Nat.lt_of_lt_of_le he (t.N k)) (fun hE => ?_)
  rcases t.eps k with ⟨e1,e2,e3⟩ | h1
  ·rw [e2]; exact h (e1 ▸ hE)
  ·omega
 | fn f caps xs hs hv ih => exact .fn f caps xs hs (fun i v hi' => ih i v hi')
 | iface t' v x h ih => exact .iface t' v x ih
 | agg cs xs hs hc hv ih => exact .agg cs xs hs hc (fun i v hi' => ih i v hi')
 | tup vs xs hs hv ih => exact .tup vs xs hs (fun i v hi' => ih i v hi')
theorem Tr.refl (G : Gh) (H : Hp) (w : World) : Tr G H w G H w :=
 ⟨rfl,⟨rfl,Nat.le_refl _⟩,rfl,Nat.le_refl _,fun _ _ _ => rfl,fun _ h => .inl h,fun _ h => h,fun _ h => .inl h,fun _ => Nat.le_refl _,fun _ => .inl ⟨rfl,rfl,rfl⟩,[],rfl⟩
theorem Tr.trans {G G1 G2 : Gh} {H H1 H2 : Hp} {w w1 w2 : World} (a : Tr G H w G1 H1 w1) (b : Tr G1 H1 w1 G2 H2 w2) : Tr G H w G2 H2 w2 where
 os := b.os.trans a.os
 tape := ⟨b.tape.1.trans a.tape.1,Nat.le_trans a.tape.2 b.tape.2⟩
 output := b.output.trans a.output
 size := Nat.le_trans a.size b.size
 same := fun i hi hn => by
  refine (b.same i (Nat.lt_of_lt_of_le hi a.size) (fun ho => ?_)).trans (a.same i hi hn)
  rcases a.own i ho with h | h
  ·exact hn h
  ·omega
 own := fun i ho => by
  rcases b.own i ho with h | h
  ·exact a.own i h
  ·exact .inr (Nat.le_trans a.size h)
 I1 := fun i h => b.I1 i (a.I1 i h)
 I2 := fun i h => by
  rcases b.I2 i h with h | h | h
  ·exact a.I2 i h
  ·rcases a.own i h with h | h
   ·exact .inr (.inl h)
   ·exact .inr (.inr h)
  ·exact .inr (.inr (Nat.le_trans a.size h))
 N := fun k => Nat.le_trans (a.N k) (b.N k)
 eps := fun k => by
  rcases b.eps k with ⟨e1,e2,e3⟩ | h
  ·rcases a.eps k with ⟨f1,f2,f3⟩ | h
   ·exact .inl ⟨e1.trans f1,e2.trans f2,e3.trans f3⟩
   ·exact .inr (e1 ▸ h)
  ·exact .inr (Nat.le_trans (a.N k) h)
 D := by
  obtain ⟨l,h⟩ := a.D
  obtain ⟨m,k⟩ := b.D
  exact ⟨m ++ l,by rw [k,h,List.append_assoc]⟩
theorem Tr.drawn {G G' : Gh} {H H' : Hp} {w w' : World} (t : Tr G H w G' H' w') (n : Nat) (hn : w'.drawn ≤ n) : Tr G H w G' H' { w' with drawn := n } :=
 ⟨t.os,⟨t.tape.1,Nat.le_trans t.tape.2 hn⟩,t.output,t.size,t.same,t.own,t.I1,t.I2,t.N,t.eps,t.D⟩
end Cp
namespace Cp
open Go
inductive TK where
 | int (k : IntKind) | bool | str | ptr | slice (e : TypeId) | array (n : Nat) (e : TypeId) | map (k e : TypeId) | struct (fs : List (Nat × Nat)) | func | iface | other
 deriving DecidableEq,Inhabited
def kindOf : TypeDesc → TK
 | .int k => .int k
 | .bool => .bool
 | .string => .str
 | .pointer _ => .ptr
 | .slice e => .slice e
 | .array n e => .array n e
 | .map k e => .map k e
 | .struct fs => if fs.toList.all (fun f => !(f.name == "_")) then .struct (fs.toList.map fun f => (f.offset,f.type)) else .other
 | .func .. => .func
 | .interface _ => .iface
 | _ => .other
def absS : Value → Val
 | .int k n => .int k n
 | .bool b => .bool b
 | .string s => .str s
 | .pointer none => .nilp
 | .slice none 0 0 => .nils
 | .map none => .nilm
 | .nilFunc => .nilf
 | .nilIface => .nili
 | _ => .any
def absV : Value → Val
 | .agg cs => if cs.toList.all (fun c => (absS c).cell) then .agg (cs.toList.map absS) else .any
 | v => absS v
structure TI where
 kind : TK
 sz : Nat
 bytes : Nat
 zero : Val
 plain : Bool := false
 deriving Inhabited
def TI.isAgg (t : TI) : Bool := match t.kind with | .struct _ | .array _ _ => true | _ => false
abbrev Tab := TypeId → Option TI
structure TIok (P : Program) (t : TypeId) (ti : TI) : Prop where
 kind : (P.underlying t).map kindOf = some ti.kind
 info : (P.info? t).map (fun i => (i.size,i.bytes,i.zero.map absV)) = some (ti.sz,ti.bytes,some ti.zero)
 plain : ti.plain = true → P.stoodInHeld t = false ∧ P.eqGuardType P.depth t = false
 fld : ∀ fs,ti.kind = .struct fs → ∀ p ∈ fs,(P.info? p.2).isSome = true
def Ad (P : Program) (T : Tab) : Prop := ∀ t ti,T t = some ti → TIok P t ti
def vcells : Val → Option (List Val)
 | .agg cs => some cs
 | .any | .tup _ => none
 | v => some [v]
section
variable {G : Gh} {w : World}
theorem EB (v : Value) : VR G w (absS v) v := by
 cases v with
 | pointer a => cases a <;> constructor
 | slice a n c =>
  cases a with
  | none => cases n <;> cases c <;> constructor
  | some a => constructor
 | map r => cases r <;> constructor
 | _ => constructor
theorem Ec (v : Value) : VR G w (absV v) v := by
 cases v with
 | agg cs =>
  by_cases h : cs.toList.all (fun c => (absS c).cell) = true
  ·have e : absV (.agg cs) = .agg (cs.toList.map absS) := by simp only [absV,h,if_true]
   rw [e]
   refine .agg _ _ (by simp) (fun i v hi => ?_) (fun i v hi => ?_)
   ·rw [List.getElem?_map,Option.map_eq_some_iff] at hi
    obtain ⟨c,hc,rfl⟩ := hi
    exact List.all_eq_true.1 h c (List.mem_of_getElem? hc)
   ·rw [List.getElem?_map,Option.map_eq_some_iff] at hi
    obtain ⟨c,hc,rfl⟩ := hi
    have hc' : cs[i]? = some c := by simpa using hc
    have : cs.getD i undef = c := by rw [Array.getD_eq_getD_getElem?,hc']; rfl
    rw [this]
    exact EB c
  ·have e : absV (.agg cs) = .any := by simp only [absV]; rw [if_neg h]
   rw [e]
   exact .any _
 | bool b => exact EB (.bool b)
 | int k n => exact EB (.int k n)
 | float k b => exact .any _
 | complex k a b => exact .any _
 | string s => exact EB (.string s)
 | pointer a => exact EB (.pointer a)
 | slice a n c => exact EB (.slice a n c)
 | map r => exact EB (.map r)
 | chan r => exact .any _
 | func f a b => exact .any _
 | nilFunc => exact .nilf
 | iface t v => exact .any _
 | nilIface => exact .nili
 | tuple vs => exact .any _
theorem VR.cells {v : Val} {x : Value} {cs : List Val} (h : VR G w v x) (hc : vcells v = some cs) : CR G w cs x.cells.toList := by
 cases h with
 | any => simp [vcells] at hc
 | tup => simp [vcells] at hc
 | agg cs' xs hs hcell hv =>
  simp only [vcells,Option.some.injEq] at hc
  subst hc
  refine ⟨by simp [Value.cells,hs],fun j v hj => ?_⟩
  have hlt : j < cs'.length := (List.getElem?_eq_some_iff.1 hj).1
  have hj' : j < xs.size := by omega
  have hx : xs.getD j undef = xs[j] := by rw [Array.getD_eq_getD_getElem?,Array.getElem?_eq_getElem hj']; rfl
  exact ⟨xs.getD j undef,by rw [hx]; simp [Value.cells,hj'],hcell j v hj,hv j v hj⟩
 | _ =>
  simp only [vcells,Option.some.injEq] at hc
  subst hc
  refine ⟨rfl,fun j v hj => ?_⟩
  cases j with
  | zero =>
   simp only [List.getElem?_cons_zero,Option.some.injEq] at hj
   subst hj
   exact ⟨_,rfl,rfl,by constructor <;> assumption⟩
  | succ j => simp at hj
end
theorem VR.cells_pim {G : Gh} {w : World} {cs : List Val} {b off : Nat} (hI : G.I b) (h : MR G w b off cs) : VR G w (.pim cs) (.pointer (some ⟨b,off,none⟩)) := by
 have hx : ∀ j,∃ y : Value,∀ v,cs[j]? = some v → w.cell? ⟨b,off + j,none⟩ = some y ∧ v.cell = true ∧ VR G w v y := fun j => by
  cases hj : cs[j]? with
  | none => exact ⟨default,fun v hv => by cases hv⟩
  | some v =>
   obtain ⟨y,h1,h2,h3⟩ := h j v hj
   exact ⟨y,fun v' hv' => by cases hv'; exact ⟨h1,h2,h3⟩⟩
 obtain ⟨ys,hys⟩ := Classical.axiomOfChoice hx
 exact .pim cs b off ys hI (fun j v hj => (hys j v hj).1) (fun j v hj => (hys j v hj).2.1) (fun j v hj => (hys j v hj).2.2)
theorem VR.pim_cells {G : Gh} {w : World} {cs : List Val} {x : Value} (h : VR G w (.pim cs) x) : ∃ b off,x = .pointer (some ⟨b,off,none⟩) ∧ G.I b ∧ MR G w b off cs := by
 cases h with
 | pim _ b off ys hI hm hc hv => exact ⟨b,off,rfl,hI,fun j v hj => ⟨ys j,hm j v hj,hc j v hj,hv j v hj⟩⟩
def ER (G : Gh) (w : World) (b off sz : Nat) (xss : List (List Val)) : Prop :=
 ∀ (i : Nat) (es : List Val),xss[i]? = some es → MR G w b (off + i * sz) es
theorem ER.choose {G : Gh} {w : World} {b off sz : Nat} {xss : List (List Val)} (h : ER G w b off sz xss) :
  ∃ ys : Nat → Nat → Value,∀ (i : Nat) (es : List Val),xss[i]? = some es → ∀ (j : Nat) (v : Val),es[j]? = some v →
   w.cell? ⟨b,off + i * sz + j,none⟩ = some (ys i j) ∧ v.cell = true ∧ VR G w v (ys i j) := by
 have hx : ∀ p : Nat × Nat,∃ y : Value,∀ (es : List Val),xss[p.1]? = some es → ∀ v : Val,es[p.2]? = some v → w.cell? ⟨b,off + p.1 * sz + p.2,none⟩ = some y ∧ v.cell = true ∧ VR G w v y := fun p => by
  cases hi : xss[p.1]? with
  | none => exact ⟨default,fun es h => by cases h⟩
  | some es =>
   cases hj : es[p.2]? with
   | none => exact ⟨default,fun es' h v hv => by cases h; rw [hj] at hv; cases hv⟩
   | some v =>
    obtain ⟨y,h1,h2,h3⟩ := h p.1 es hi p.2 v hj
    exact ⟨y,fun es' h v' hv => by cases h; rw [hj] at hv; cases hv; exact ⟨h1,h2,h3⟩⟩
 obtain ⟨ys,hys⟩ := Classical.axiomOfChoice hx
 exact ⟨fun i j => ys (i,j),fun i es hi j v hj => hys (i,j) es hi v hj⟩
theorem VR.lst_of {G : Gh} {w : World} {b off sz cap : Nat} {xss : List (List Val)} (hI : G.I b) (hsz : ∀ (i : Nat) (es : List Val),xss[i]? = some es → es.length = sz)
  (h : ER G w b off sz xss) (hcap : xss.length ≤ cap) : VR G w (.lst sz xss) (.slice (some ⟨b,off,none⟩) xss.length cap) := by
 obtain ⟨ys,hys⟩ := h.choose
 exact .lst sz xss _ cap ys hcap hsz (fun _ => ⟨b,off,rfl,hI,fun i es hi j v hj => (hys i es hi j v hj).1⟩) (fun i es hi j v hj => (hys i es hi j v hj).2.1) (fun i es hi j v hj => (hys i es hi j v hj).2.2)
theorem VR.exl_of {G : Gh} {w : World} {b off sz : Nat} {xss : List (List Val)} (hI : G.I b) (hsz : ∀ (i : Nat) (es : List Val),xss[i]? = some es → es.length = sz)
  (h : ER G w b off sz xss) : VR G w (.exl sz xss) (.slice (some ⟨b,off,none⟩) xss.length xss.length) := by
 obtain ⟨ys,hys⟩ := h.choose
 exact .exl sz xss _ ys hsz (fun _ => ⟨b,off,rfl,hI,fun i es hi j v hj => (hys i es hi j v hj).1⟩) (fun i es hi j v hj => (hys i es hi j v hj).2.1) (fun i es hi j v hj => (hys i es hi j v hj).2.2)
theorem VR.lst_nil {G : Gh} {w : World} (sz : Nat) (a : Option Addr) (cap : Nat) : VR G w (.lst sz []) (.slice a 0 cap) :=
 .lst sz [] a cap (fun _ _ => default) (Nat.zero_le _) (fun i es hi => by simp at hi) (fun h => (h rfl).elim) (fun i es hi => by simp at hi) (fun i es hi => by simp at hi)
theorem VR.lst_inv {G : Gh} {w : World} {sz : Nat} {xss : List (List Val)} {x : Value} (h : VR G w (.lst sz xss) x) :
  ∃ a cap,x = .slice a xss.length cap ∧ xss.length ≤ cap ∧ (∀ (i : Nat) (es : List Val),xss[i]? = some es → es.length = sz) ∧
   (xss ≠ [] → ∃ b off,a = some ⟨b,off,none⟩ ∧ G.I b ∧ ER G w b off sz xss) := by
 cases h with
 | lst _ _ a cap ys hcap hsz ha hc hv =>
  refine ⟨a,cap,rfl,hcap,hsz,fun hne => ?_⟩
  obtain ⟨b,off,h1,h2,h3⟩ := ha hne
  exact ⟨b,off,h1,h2,fun i es hi j v hj => ⟨ys i j,h3 i es hi j v hj,hc i es hi j v hj,hv i es hi j v hj⟩⟩
theorem VR.exl_inv {G : Gh} {w : World} {sz : Nat} {xss : List (List Val)} {x : Value} (h : VR G w (.exl sz xss) x) :
  ∃ a,x = .slice a xss.length xss.length ∧ (∀ (i : Nat) (es : List Val),xss[i]? = some es → es.length = sz) ∧
   (xss ≠ [] → ∃ b off,a = some ⟨b,off,none⟩ ∧ G.I b ∧ ER G w b off sz xss) := by
 cases h with
 | exl _ _ a ys hsz ha hc hv =>
  refine ⟨a,rfl,hsz,fun hne => ?_⟩
  obtain ⟨b,off,h1,h2,h3⟩ := ha hne
  exact ⟨b,off,h1,h2,fun i es hi j v hj => ⟨ys i j,h3 i es hi j v hj,hc i es hi j v hj,hv i es hi j v hj⟩⟩
theorem VR.exl_lst {G : Gh} {w : World} {sz : Nat} {xss : List (List Val)} {x : Value} (h : VR G w (.exl sz xss) x) : VR G w (.lst sz xss) x := by
 cases h with
 | exl _ _ a ys hsz ha hc hv => exact .lst sz xss a _ ys (Nat.le_refl _) hsz ha hc hv
theorem VR.nils_lst {G : Gh} {w : World} {x : Value} (sz : Nat) (h : VR G w .nils x) : VR G w (.lst sz []) x := by
 cases h with
 | nils a => exact .lst_nil sz a 0
end Cp
namespace Cp
open Go
def rdC (ti : TI) (cs : List Val) : Option Val :=
 match ti.kind with
 | .struct _ | .array _ _ => if ti.sz ≤ cs.length then some (.agg (cs.take ti.sz)) else none
 | .other => none
 | _ => cs.head?
def Cg (T : Tab) (H : Hp) (t : TypeId) (a : Val) : Option Val :=
 match T t with
 | none => none
 | some ti =>
  match a with
  | .pim cs => rdC ti cs
  | .ptr k e sz i j =>
   match H k with
   | some (e',.arr sz' xss) => if e = e' ∧ sz = sz' then (match xss[i]? with | some es => rdC ti (es.drop j) | none => none) else none
   | some (e',.fro sz' xss) => if e = e' ∧ sz = sz' then (match xss[i]? with | some es => rdC ti (es.drop j) | none => none) else none
   | _ => none
  | _ => none
def C6 (T : Tab) (s : TypeId) (a : Val) (f : Nat) : Option Val :=
 match T s with
 | some { kind := .struct fs,.. } =>
  match fs[f]? with
  | some (off,ft) =>
   match T ft with
   | some fi => if fi.sz = 0 then none else
    match a with
    | .pim cs => some (.pim (cs.drop off))
    | .ptr k e sz i j => some (.ptr k e sz i (j + off))
    | _ => none
   | none => none
  | none => none
 | _ => none
def AL (T : Tab) (H : Hp) (t : TypeId) (x ix : Val) : Option Val :=
 match ix with
 | .int _ i =>
  if 0 ≤ i then
   match T t with
   | some { kind := .slice et,.. } =>
    match T et with
    | some ei =>
     match x with
     | .lst sz xss => if sz = ei.sz then (match xss[i.toNat]? with | some es => some (.pim es) | none => none) else none
     | .exl sz xss => if sz = ei.sz then (match xss[i.toNat]? with | some es => some (.pim es) | none => none) else none
     | .gr k e n =>
      match H k with
      | some (e',.arr sz xss) => if e = e' ∧ sz = ei.sz ∧ n = xss.length ∧ i.toNat < n then some (.ptr k e sz i.toNat 0) else none
      | some (e',.fro sz xss) => if e = e' ∧ sz = ei.sz ∧ n = xss.length ∧ i.toNat < n then some (.ptr k e sz i.toNat 0) else none
      | _ => none
     | _ => none
    | none => none
   | some { kind := .array n et,.. } =>
    match T et with
    | some ei =>
     if i.toNat < n then
      match x with
      | .pim cs => some (.pim (cs.drop (i.toNat * ei.sz)))
      | .ptr k e sz i' j => some (.ptr k e sz i' (j + i.toNat * ei.sz))
      | _ => none
     else none
    | none => none
   | _ => none
  else none
 | _ => none
def IZ (T : Tab) (t : TypeId) (x : Val) (f : Nat) : Option Val :=
 match T t,x with
 | some { kind := .struct fs,.. },.agg cs =>
  match fs[f]? with
  | some (off,ft) => match T ft with | some fi => rdC fi (cs.drop off) | none => none
  | none => none
 | _,_ => none
def IP (T : Tab) (t : TypeId) (x ix : Val) : Option Val :=
 match ix with
 | .int _ i =>
  if 0 ≤ i then
   match T t,x with
   | some { kind := .array n et,.. },.agg cs =>
    match T et with
    | some ei => if i.toNat < n then rdC ei (cs.drop (i.toNat * ei.sz)) else none
    | none => none
   | some { kind := .str,.. },.str s => match s[i.toNat]? with | some b => some (.int .u8 b.toNat) | none => none
   | _,_ => none
  else none
 | _ => none
def DB (x : Val) (i : Nat) : Option Val := match x with | .tup vs => vs[i]? | _ => none
def FL (op : BinOp) (k : IntKind) (a b : Int) : Option Val :=
 match op with
 | .add => some (.int k (k.wrap (a + b)))
 | .sub => some (.int k (k.wrap (a - b)))
 | .mul => some (.int k (k.wrap (a * b)))
 | .quo => if b = 0 then none else some (.int k (k.wrap (a.tdiv b)))
 | .rem => if b = 0 then none else some (.int k (a.tmod b))
 | .and => some (.int k (k.wrap (BitVec.ofInt k.bits a &&& BitVec.ofInt k.bits b).toNat))
 | .or => some (.int k (k.wrap (BitVec.ofInt k.bits a ||| BitVec.ofInt k.bits b).toNat))
 | .xor => some (.int k (k.wrap (BitVec.ofInt k.bits a ^^^ BitVec.ofInt k.bits b).toNat))
 | .eql => some (.bool (decide (a = b)))
 | .neq => some (.bool (!decide (a = b)))
 | .lss => some (.bool (decide (a < b)))
 | .leq => some (.bool (decide (a ≤ b)))
 | .gtr => some (.bool (decide (b < a)))
 | .geq => some (.bool (decide (b ≤ a)))
 | _ => none
def M6 (op : BinOp) (k : IntKind) (a b : Int) : Option Val :=
 if b < 0 then none else
 match op with
 | .shl => some (.int k (k.wrap (a * 2 ^ min b.toNat k.bits)))
 | .shr => some (.int k (a.fdiv (2 ^ min b.toNat k.bits)))
 | _ => none
def Ji (op : UnOp) (x : Val) : Option Val :=
 match op,x with
 | .neg,.int k n => some (.int k (k.wrap (0 - n)))
 | .not,.bool b => some (.bool (!b))
 | _,_ => none
def byteL : List (List Val) → Option (List Int)
 | [] => some []
 | [.int .u8 n] :: l => match byteL l with | some ns => some (n :: ns) | none => none
 | _ => none
def Gr (ns : List Int) : ByteArray := ns.foldl (fun r n => r.push (UInt8.ofNat n.toNat)) ByteArray.empty
def cvB (x : Val) : Option TI → Option Val
 | some { kind := .int .u8,.. } =>
  match x with
  | .lst 1 xss => match byteL xss with | some ns => some (.str (Gr ns)) | none => none
  | .nils => some (.str (Gr []))
  | _ => none
 | _ => none
def D1 (T : Tab) (s d : TypeId) (x : Val) : Option Val :=
 match T s,T d with
 | some _,some { kind := .int k,.. } => (match x with | .int _ n => some (.int k (k.wrap n)) | _ => none)
 | some { kind := .slice e,.. },some { kind := .str,.. } => cvB x (T e)
 | _,_ => none
def xminmax (mx : Bool) : List Val → Option Val
 | [] => none
 | .int k n :: rest => go k n rest
 | _ => none
where
 go (k : IntKind) (n : Int) : List Val → Option Val
  | [] => some (.int k n)
  | .int _ m :: rest => go k (if mx then max n m else min n m) rest
  | _ => none
def xnilCheck : Val → Option Val
 | .pim cs => some (.pim cs)
 | .ptr k e sz i j => some (.ptr k e sz i j)
 | .fn f cs => some (.fn f cs)
 | _ => none
section
variable {P : Program} {T : Tab} {G : Gh} {w : World} {H : Hp}
theorem TIok.under {t : TypeId} {ti : TI} (h : TIok P t ti) : ∃ d,P.underlying t = some d ∧ kindOf d = ti.kind := by
 have := h.kind
 cases hu : P.underlying t with
 | none => rw [hu] at this; cases this
 | some d => rw [hu] at this; exact ⟨d,rfl,by simpa using this⟩
theorem TIok.infos {t : TypeId} {ti : TI} (h : TIok P t ti) : ∃ i,P.info? t = some i ∧ i.size = ti.sz ∧ i.bytes = ti.bytes ∧ ∃ z,i.zero = some z ∧ absV z = ti.zero := by
 have := h.info
 cases hu : P.info? t with
 | none => rw [hu] at this; cases this
 | some i =>
  rw [hu] at this
  simp only [Option.map_some,Option.some.injEq,Prod.mk.injEq,Option.map_eq_some_iff] at this
  exact ⟨i,rfl,this.1,this.2.1,this.2.2⟩
theorem run_underlying {t : TypeId} {d : TypeDesc} (h : P.underlying t = some d) : (underlying t).run P w = .ok d w := by
 simp [underlying,Sem.run_bind,h,Result.andThen]
theorem Ib {t : TypeId} {i : TypeInfo} (h : P.info? t = some i) : (typeInfo t).run P w = .ok i w := by
 simp [typeInfo,Sem.run_bind,h,Result.andThen]
theorem AN {t : TypeId} {i : TypeInfo} (h : P.info? t = some i) : (Go.sizeOf t).run P w = .ok i.size w := by
 simp [Go.sizeOf,Sem.run_bind,Ib h,Result.andThen]
theorem Bc {d : TypeDesc} {fs : List (Nat × Nat)} (h : kindOf d = .struct fs) : ∃ fa : Array Field,d = .struct fa ∧ fs = fa.toList.map (fun f => (f.offset,f.type)) ∧ ∀ f ∈ fa.toList,f.name ≠ "_" := by
 cases d with
 | struct fa =>
  simp only [kindOf] at h
  by_cases ha : fa.toList.all (fun f => !(f.name == "_")) = true
  ·rw [if_pos ha] at h
   injection h with h
   refine ⟨fa,rfl,h.symm,fun f hf => ?_⟩
   have := List.all_eq_true.1 ha f hf
   simpa using this
  ·rw [if_neg ha] at h; cases h
 | _ => cases h
theorem Bb {d : TypeDesc} {e : TypeId} (h : kindOf d = .slice e) : d = .slice e := by
 cases d with
 | slice e' => simp only [kindOf,TK.slice.injEq] at h; rw [h]
 | struct fa => simp only [kindOf] at h; split at h <;> cases h
 | _ => cases h
theorem Bp {d : TypeDesc} {n : Nat} {e : TypeId} (h : kindOf d = .array n e) : d = .array n e := by
 cases d with
 | array n' e' => simp only [kindOf,TK.array.injEq] at h; rw [h.1,h.2]
 | struct fa => simp only [kindOf] at h; split at h <;> cases h
 | _ => cases h
theorem C9 {d : TypeDesc} {k e : TypeId} (h : kindOf d = .map k e) : d = .map k e := by
 cases d with
 | map n' e' => simp only [kindOf,TK.map.injEq] at h; rw [h.1,h.2]
 | struct fa => simp only [kindOf] at h; split at h <;> cases h
 | _ => cases h
theorem C0 {d : TypeDesc} (h : kindOf d = .str) : d = .string := by
 cases d with
 | string => rfl
 | struct fa => simp only [kindOf] at h; split at h <;> cases h
 | _ => cases h
theorem CN {d : TypeDesc} {k : IntKind} (h : kindOf d = .int k) : d = .int k := by
 cases d with
 | int k' => simp only [kindOf,TK.int.injEq] at h; rw [h]
 | struct fa => simp only [kindOf] at h; split at h <;> cases h
 | _ => cases h
theorem Fh {t : TypeId} {ti : TI} (ht : TIok P t ti) (h : ti.isAgg = true) : (isAgg t).run P w = .ok true w := by
 obtain ⟨d,hd,hk⟩ := ht.under
 unfold isAgg
 rw [Sem.run_bind,run_underlying hd]
 unfold TI.isAgg at h
 cases hkk : ti.kind <;> rw [hkk] at h hk <;> simp only [Bool.false_eq_true] at h
 ·rw [Bp hk]; rfl
 ·obtain ⟨fa,rfl,_⟩ := Bc hk; rfl
theorem Fd {t : TypeId} {ti : TI} (ht : TIok P t ti) (h : ti.isAgg = false) (ho : ti.kind ≠ .other) : (isAgg t).run P w = .ok false w := by
 obtain ⟨d,hd,hk⟩ := ht.under
 unfold isAgg
 rw [Sem.run_bind,run_underlying hd]
 unfold TI.isAgg at h
 cases d with
 | struct fa =>
  simp only [kindOf] at hk
  split at hk
  ·rw [← hk] at h; simp at h
  ·exact (ho hk.symm).elim
 | array n e => simp only [kindOf] at hk; rw [← hk] at h; simp at h
 | _ => rfl
theorem MR.drop {b off n : Nat} {cs : List Val} (h : MR G w b off cs) : MR G w b (off + n) (cs.drop n) := by
 intro j v hj
 rw [List.getElem?_drop] at hj
 obtain ⟨y,h1,h2⟩ := h (n + j) v hj
 exact ⟨y,by rw [Nat.add_assoc]; exact h1,h2⟩
theorem MR.take {b off n : Nat} {cs : List Val} (h : MR G w b off cs) : MR G w b off (cs.take n) := by
 intro j v hj
 rw [List.getElem?_take] at hj
 split at hj
 ·exact h j v hj
 ·cases hj
theorem PE {ti : TI} {cs : List Val} {v : Val} (h : rdC ti cs = some v) (ha : ti.isAgg = true) : ti.sz ≤ cs.length ∧ v = .agg (cs.take ti.sz) := by
 unfold rdC at h
 unfold TI.isAgg at ha
 cases hk : ti.kind <;> rw [hk] at h ha <;> simp only [Bool.false_eq_true] at ha <;>
  ·simp only at h
   split at h
   ·rename_i hle; injection h with h; exact ⟨hle,h.symm⟩
   ·cases h
theorem JS {ti : TI} {cs : List Val} {v : Val} (h : rdC ti cs = some v) (ha : ti.isAgg = false) : ti.kind ≠ .other ∧ cs[0]? = some v := by
 unfold rdC at h
 unfold TI.isAgg at ha
 cases hk : ti.kind <;> rw [hk] at h ha <;> simp only [Bool.true_eq_false] at ha <;> simp only at h <;>
  first
  | (cases h; done)
  | exact ⟨by simp,by rw [← List.head?_eq_getElem?]; exact h⟩
theorem Jj {t : TypeId} {ti : TI} {b off : Nat} {cs : List Val} {v : Val} (ht : TIok P t ti) (hm : MR G w b off cs) (h : rdC ti cs = some v) :
  ∃ y,(loadVar t ⟨b,off,none⟩).run P w = .ok y w ∧ VR G w v y := by
 unfold loadVar
 cases ha : ti.isAgg with
 | true =>
  obtain ⟨hle,rfl⟩ := PE h ha
  obtain ⟨i,hi,hsz,_⟩ := ht.infos
  have hx : ∀ j,∃ y : Value,∀ v,(cs.take ti.sz)[j]? = some v → w.cell? ⟨b,off + j,none⟩ = some y ∧ v.cell = true ∧ VR G w v y := fun j => by
   cases hj : (cs.take ti.sz)[j]? with
   | none => exact ⟨default,fun v hv => by cases hv⟩
   | some v =>
    obtain ⟨y,h1,h2,h3⟩ := hm.take j v hj
    exact ⟨y,fun v' hv' => by cases hv'; exact ⟨h1,h2,h3⟩⟩
  obtain ⟨ys,hys⟩ := Classical.axiomOfChoice hx
  have hl : (cs.take ti.sz).length = ti.sz := by simp [hle]
  have hget : ∀ j,j < ti.sz → ∃ v,(cs.take ti.sz)[j]? = some v := fun j hj => ⟨(cs.take ti.sz)[j]'(by omega),List.getElem?_eq_getElem (by omega)⟩
  have hload := Go.run_loadCells (P := P) w ⟨b,off,none⟩ ti.sz ys (fun j hj => by
   obtain ⟨v,hv⟩ := hget j hj
   have := (hys j v hv).1
   unfold Addr.add
   by_cases h0 : j = 0
   ·subst h0; rw [if_pos rfl]; simpa using this
   ·rw [if_neg h0]; exact this)
  refine ⟨.agg ((List.range ti.sz).map ys).toArray,?_,?_⟩
  ·rw [Sem.run_bind,Fh ht ha]
   simp only [Result.andThen,if_true,Sem.run_bind,AN hi,hsz,hload]
   rfl
  ·refine .agg _ _ (by simp [hle]) (fun j v hj => (hys j v hj).2.1) (fun j v hj => ?_)
   have hlt : j < ti.sz := by have := (List.getElem?_eq_some_iff.1 hj).1; omega
   have : (((List.range ti.sz).map ys).toArray).getD j undef = ys j := by
    rw [Array.getD_eq_getD_getElem?]; simp [hlt]
   rw [this]
   exact (hys j v hj).2.2
 | false =>
  obtain ⟨ho,h0⟩ := JS h ha
  obtain ⟨y,h1,_,h3⟩ := hm 0 v h0
  refine ⟨y,?_,h3⟩
  rw [Sem.run_bind,Fd ht ha ho]
  simp only [Result.andThen,Bool.false_eq_true,if_false,run_load]
  simp only [Nat.add_zero] at h1
  rw [h1]
end
end Cp
namespace Cp
open Go
section
variable {P : Program} {T : Tab} {G : Gh} {w : World} {H : Hp}
theorem AU (b off n : Nat) : (⟨b,off,none⟩ : Addr).add n = ⟨b,off + n,none⟩ := by
 unfold Addr.add
 by_cases h : n = 0
 ·subst h; rfl
 ·rw [if_neg h]
theorem Row.mem {k sz b : Nat} {xss : List (List Val)} (h : Row G w k sz xss) (hk : G.K k = some b) {i : Nat} {es : List Val} (hi : xss[i]? = some es) : MR G w b (i * sz) es := by
 have := h.2
 rw [hk] at this
 exact this.2.2 i es hi
theorem N4 {t : TypeId} {a v : Val} {x : Value} (hT : Ad P T) (hR : HRel G w H) (ha : VR G w a x) (h : Cg T H t a = some v) :
  ∃ y,(Instr.loadAt t x).run P w = .ok y w ∧ VR G w v y := by
 unfold Cg at h
 cases ht : T t with
 | none => rw [ht] at h; cases h
 | some ti =>
  rw [ht] at h
  simp only at h
  have hti := hT t ti ht
  have key : ∀ (k e sz i j : Nat) (sz' : Nat) (xss : List (List Val)),VR G w (.ptr k e sz i j) x → G.E k = e → sz = sz' → Row G w k sz' xss →
    (match xss[i]? with | some es => rdC ti (es.drop j) | none => none) = some v → ∃ y,(Instr.loadAt t x).run P w = .ok y w ∧ VR G w v y := by
   intro k e sz i j sz' xss hv hE hs hrow h
   cases hi : xss[i]? with
   | none => rw [hi] at h; cases h
   | some es =>
    rw [hi] at h
    cases hv with
    | ptr _ _ _ _ _ a' he hp =>
     obtain ⟨b,hb,rfl⟩ := hp hE
     subst hs
     obtain ⟨y,hy,hvy⟩ := Jj (t := t) hti ((hrow.mem hb hi).drop (n := j)) h
     refine ⟨y,?_,hvy⟩
     simp only [Instr.loadAt,Instr.sureAddr,Sem.run_bind,Sem.run_pure,Result.andThen]
     exact hy
  cases a with
  | pim cs =>
   simp only at h
   obtain ⟨b,off,rfl,hI,hm⟩ := ha.pim_cells
   obtain ⟨y,hy,hv⟩ := Jj hti hm h
   exact ⟨y,by simp only [Instr.loadAt,Instr.sureAddr,Sem.run_bind,Sem.run_pure,Result.andThen]; exact hy,hv⟩
  | ptr k e sz i j =>
   simp only at h
   cases hk : H k with
   | none => rw [hk] at h; cases h
   | some p =>
    obtain ⟨e',o⟩ := p
    rw [hk] at h
    obtain ⟨h1,_,h3⟩ := hR.obj k e' o hk
    cases o with
    | arr sz' xss =>
     simp only at h
     split at h
     ·rename_i hc; exact key k e sz i j sz' xss ha (hc.1 ▸ h1) hc.2 h3 h
     ·cases h
    | fro sz' xss =>
     simp only at h
     split at h
     ·rename_i hc; exact key k e sz i j sz' xss ha (hc.1 ▸ h1) hc.2 h3.1 h
     ·cases h
    | _ => cases h
  | _ => cases h
theorem KY {s : TypeId} {a v : Val} {x : Value} {f : Nat} (hT : Ad P T) (ha : VR G w a x) (h : C6 T s a f = some v) :
  ∃ y,(Instr.fieldAt s x f).run P w = .ok y w ∧ VR G w v y := by
 unfold C6 at h
 cases hs : T s with
 | none => rw [hs] at h; cases h
 | some ti =>
  rw [hs] at h
  obtain ⟨kind,sz,bytes,zero,plain⟩ := ti
  cases kind with
  | struct fs =>
   simp only at h
   cases hf : fs[f]? with
   | none => rw [hf] at h; cases h
   | some p =>
    obtain ⟨off,ft⟩ := p
    rw [hf] at h
    simp only at h
    cases hft : T ft with
    | none => rw [hft] at h; cases h
    | some fi =>
     rw [hft] at h
     simp only at h
     by_cases hz : fi.sz = 0
     ·rw [if_pos hz] at h; cases h
     ·rw [if_neg hz] at h
      obtain ⟨d,hd,hk⟩ := (hT s _ hs).under
      obtain ⟨fa,rfl,rfl,_⟩ := Bc hk
      rw [List.getElem?_map,Option.map_eq_some_iff] at hf
      obtain ⟨fld,hfld,hp⟩ := hf
      injection hp with hp1 hp2
      subst hp1 hp2
      obtain ⟨i,hi,hsz,_⟩ := (hT _ _ hft).infos
      have hfld' : fa[f]? = some fld := by simpa using hfld
      have run : ∀ a',x = .pointer (some a') → (Instr.fieldAt s x f).run P w = .ok (.pointer (some (a'.add fld.offset))) w := by
       intro a' hx
       subst hx
       have : ¬ i.size = 0 := by omega
       simp [Instr.fieldAt,Sem.run_bind,run_underlying hd,Result.andThen,hfld',Instr.sureAddr,fieldPlace,AN hi,this]
      cases a with
      | pim cs =>
       simp only [Option.some.injEq] at h
       subst h
       obtain ⟨b,o,rfl,hI,hm⟩ := ha.pim_cells
       have := run _ rfl
       rw [AU] at this
       exact ⟨_,this,VR.cells_pim hI hm.drop⟩
      | ptr k e sz i j =>
       simp only [Option.some.injEq] at h
       subst h
       cases ha with
       | ptr _ _ _ _ _ a' he hp =>
        refine ⟨_,run a' rfl,.ptr _ _ _ _ _ _ he (fun hE => ?_)⟩
        obtain ⟨b,hb,rfl⟩ := hp hE
        exact ⟨b,hb,by rw [AU,Nat.add_assoc]⟩
      | _ => cases h
  | _ => cases h
theorem ER.at {b off sz i : Nat} {xss : List (List Val)} {es : List Val} (h : ER G w b off sz xss) (hi : xss[i]? = some es) : MR G w b (off + i * sz) es := h i es hi
theorem L1 {t : TypeId} {a ix v : Val} {x y : Value} (hT : Ad P T) (hR : HRel G w H) (ha : VR G w a x) (hix : VR G w ix y) (h : AL T H t a ix = some v) :
  ∃ z,(Instr.indexAt t x y).run P w = .ok z w ∧ VR G w v z := by
 unfold AL at h
 cases ix with
 | int k i =>
  cases hix
  simp only at h
  by_cases h0 : 0 ≤ i
  case neg => rw [if_neg h0] at h; cases h
  rw [if_pos h0] at h
  cases ht : T t with
  | none => rw [ht] at h; cases h
  | some ti =>
   rw [ht] at h
   obtain ⟨kind,sz,bytes,zero,plain⟩ := ti
   obtain ⟨d,hd,hk⟩ := (hT t _ ht).under
   cases kind with
   | slice et =>
    simp only at h hk
    rw [Bb hk] at hd
    cases he : T et with
    | none => rw [he] at h; cases h
    | some ei =>
     rw [he] at h
     simp only at h
     obtain ⟨ii,hi,hsz,_⟩ := (hT _ _ he).infos
     have run : ∀ a' n c,i.toNat < n → x = .slice (some a') n c → (Instr.indexAt t x (.int k i)).run P w = .ok (.pointer (some (a'.add (i.toNat * ei.sz)))) w := by
      intro a' n c hlt hx
      subst hx
      have h1 : i < (n : Int) := by omega
      simp [Instr.indexAt,asIntOf,Sem.run_bind,run_underlying hd,Result.andThen,h0,h1,AN hi,hsz]
     have lstcase : ∀ sz (xss : List (List Val)) a0 cap,x = .slice a0 xss.length cap → (xss ≠ [] → ∃ b off,a0 = some ⟨b,off,none⟩ ∧ G.I b ∧ ER G w b off sz xss) →
       (if sz = ei.sz then (match xss[i.toNat]? with | some es => some (.pim es) | none => none) else none) = some v → ∃ z,(Instr.indexAt t x (.int k i)).run P w = .ok z w ∧ VR G w v z := by
      intro sz xss a0 cap hx ha h
      by_cases hs : sz = ei.sz
      case neg => rw [if_neg hs] at h; cases h
      rw [if_pos hs] at h
      cases hes : xss[i.toNat]? with
      | none => rw [hes] at h; cases h
      | some es =>
       rw [hes] at h
       simp only [Option.some.injEq] at h
       subst h
       have hlt := (List.getElem?_eq_some_iff.1 hes).1
       obtain ⟨b,off,rfl,hI,hE⟩ := ha (by intro hn; rw [hn] at hlt; simp at hlt)
       have := run _ _ _ hlt hx
       rw [AU] at this
       exact ⟨_,this,VR.cells_pim hI (hs ▸ hE.at hes)⟩
     have grcase : ∀ k' e n e' sz xss,VR G w (.gr k' e n) x → H k' = some (e',.arr sz xss) ∨ H k' = some (e',.fro sz xss) →
       (if e = e' ∧ sz = ei.sz ∧ n = xss.length ∧ i.toNat < n then some (Val.ptr k' e sz i.toNat 0) else none) = some v → ∃ z,(Instr.indexAt t x (.int k i)).run P w = .ok z w ∧ VR G w v z := by
      intro k' e n e' sz xss hv hH h
      by_cases hc : e = e' ∧ sz = ei.sz ∧ n = xss.length ∧ i.toNat < n
      case neg => rw [if_neg hc] at h; cases h
      rw [if_pos hc] at h
      simp only [Option.some.injEq] at h
      subst h
      obtain ⟨rfl,hs,hn,hlt⟩ := hc
      have ho : G.E k' = e ∧ e < G.N k' ∧ Row G w k' sz xss := by
       rcases hH with hH | hH
       ·exact hR.obj _ _ _ hH
       ·obtain ⟨h1,h2,h3⟩ := hR.obj _ _ _ hH; exact ⟨h1,h2,h3.1⟩
      obtain ⟨hE,hN,hrow⟩ := ho
      cases hv with
      | gr _ _ _ a' c he hp =>
       have hh := hp hE
       have hr := hrow.2
       unfold Gh.handle at hh
       cases hK : G.K k' with
       | none =>
        rw [hK] at hr
        simp only at hr
        rw [hr.1] at hn
        simp at hn
        omega
       | some b =>
        rw [hK] at hh
        injection hh with hh1 hh2 hh3
        subst hh1
        have := run _ _ _ hlt rfl
        rw [AU] at this
        exact ⟨_,this,.ptr _ _ _ _ _ _ hN (fun _ => ⟨b,hK,by rw [← hs]; simp⟩)⟩
     cases a with
     | lst sz xss =>
      obtain ⟨a0,cap,hx,_,_,hh⟩ := ha.lst_inv
      exact lstcase sz xss a0 cap hx hh h
     | exl sz xss =>
      obtain ⟨a0,hx,_,hh⟩ := ha.exl_inv
      exact lstcase sz xss a0 _ hx hh h
     | gr k' e n =>
      simp only at h
      cases hH : H k' with
      | none => rw [hH] at h; cases h
      | some p =>
       obtain ⟨e',o⟩ := p
       rw [hH] at h
       cases o with
       | arr sz xss => exact grcase k' e n e' sz xss ha (.inl hH) h
       | fro sz xss => exact grcase k' e n e' sz xss ha (.inr hH) h
       | _ => cases h
     | _ => cases h
   | array n et =>
    simp only at h hk
    rw [Bp hk] at hd
    cases he : T et with
    | none => rw [he] at h; cases h
    | some ei =>
     rw [he] at h
     simp only at h
     obtain ⟨ii,hi,hsz,_⟩ := (hT _ _ he).infos
     by_cases hlt : i.toNat < n
     case neg => rw [if_neg hlt] at h; cases h
     rw [if_pos hlt] at h
     have run : ∀ a',x = .pointer (some a') → (Instr.indexAt t x (.int k i)).run P w = .ok (.pointer (some (a'.add (i.toNat * ei.sz)))) w := by
      intro a' hx
      subst hx
      have h1 : i < (n : Int) := by omega
      simp [Instr.indexAt,asIntOf,Sem.run_bind,run_underlying hd,Result.andThen,Instr.sureAddr,h0,h1,AN hi,hsz]
     cases a with
     | pim cs =>
      simp only [Option.some.injEq] at h
      subst h
      obtain ⟨b,o,rfl,hI,hm⟩ := ha.pim_cells
      have := run _ rfl
      rw [AU] at this
      exact ⟨_,this,VR.cells_pim hI hm.drop⟩
     | ptr k e sz i' j =>
      simp only [Option.some.injEq] at h
      subst h
      cases ha with
      | ptr _ _ _ _ _ a' he hp =>
       refine ⟨_,run a' rfl,.ptr _ _ _ _ _ _ he (fun hE => ?_)⟩
       obtain ⟨b,hb,rfl⟩ := hp hE
       exact ⟨b,hb,by rw [AU,Nat.add_assoc]⟩
     | _ => cases h
   | _ => cases h
 | _ => cases h
end
end Cp
namespace Cp
open Go
section
variable {P : Program} {T : Tab} {G : Gh} {w : World} {H : Hp}
theorem E9 {d : TypeDesc} (h : kindOf d = .bool) : d = .bool := by
 cases d with
 | bool => rfl
 | struct fa => simp only [kindOf] at h; split at h <;> cases h
 | _ => cases h
theorem LT (a b : Int) : (a == b) = decide (a = b) := by
 by_cases h : a = b <;> simp [h]
theorem Q2 {op : BinOp} {k : IntKind} {a b : Int} {v : Val} {t : TypeId} {x y : Operand} (h : FL op k a b = some v) (h1 : op ≠ .shl) (h2 : op ≠ .shr) :
  ∃ z,(do eqGuard op t x y (.int k a) (.int k b); binOp op t (.int k a) (.int k b) : Sem Value).run P w = .ok z w ∧ VR G w v z := by
 have hg : ∀ op,(eqGuard op t x y (.int k a) (.int k b)).run P w = .ok () w := by
  intro op
  unfold eqGuard
  cases op <;> rfl
 rw [Sem.run_bind,hg]
 simp only [Result.andThen]
 cases op <;> simp only [FL] at h <;> try (cases h; done)
 case quo =>
  by_cases hb : b = 0
  ·rw [if_pos hb] at h; cases h
  ·rw [if_neg hb] at h; cases h; exact ⟨_,by simp [binOp,Op.intDiv,hb],.int _ _⟩
 case rem =>
  by_cases hb : b = 0
  ·rw [if_pos hb] at h; cases h
  ·rw [if_neg hb] at h; cases h; exact ⟨_,by simp [binOp,Op.intDiv,hb],.int _ _⟩
 case eql =>
  cases h; refine ⟨.bool (decide (a = b)),?_,.bool _⟩
  simp only [binOp,ne_eq,not_true_eq_false,if_false,Op.intCmp,LT]
  rfl
 case neq =>
  cases h; refine ⟨.bool (!decide (a = b)),?_,.bool _⟩
  have : (a != b) = !decide (a = b) := by rw [bne,LT]
  simp only [binOp,ne_eq,not_true_eq_false,if_false,Op.intCmp,this]
  rfl
 case and => cases h; exact ⟨_,by simp only [binOp,ne_eq,not_true_eq_false,if_false,Op.intBits]; rfl,.int _ _⟩
 case or => cases h; exact ⟨_,by simp only [binOp,ne_eq,not_true_eq_false,if_false,Op.intBits]; rfl,.int _ _⟩
 case xor => cases h; exact ⟨_,by simp only [binOp,ne_eq,not_true_eq_false,if_false,Op.intBits]; rfl,.int _ _⟩
 case lss => cases h; exact ⟨.bool (decide (a < b)),by simp only [binOp,ne_eq,not_true_eq_false,if_false,Op.intCmp]; rfl,.bool _⟩
 case leq => cases h; exact ⟨.bool (decide (a ≤ b)),by simp only [binOp,ne_eq,not_true_eq_false,if_false,Op.intCmp]; rfl,.bool _⟩
 case gtr => cases h; exact ⟨.bool (decide (b < a)),by simp only [binOp,ne_eq,not_true_eq_false,if_false,Op.intCmp]; rfl,.bool _⟩
 case geq => cases h; exact ⟨.bool (decide (b ≤ a)),by simp only [binOp,ne_eq,not_true_eq_false,if_false,Op.intCmp]; rfl,.bool _⟩
 all_goals
  cases h
  exact ⟨_,by simp only [binOp,ne_eq,not_true_eq_false,if_false,Op.intArith]; rfl,.int _ _⟩
theorem Lk {op : BinOp} {k k' : IntKind} {a b : Int} {v : Val} {t : TypeId} {x y : Operand} (h : M6 op k a b = some v) (ho : op = .shl ∨ op = .shr) :
  ∃ z,(do eqGuard op t x y (.int k a) (.int k' b); binOp op t (.int k a) (.int k' b) : Sem Value).run P w = .ok z w ∧ VR G w v z := by
 unfold M6 at h
 by_cases hb : b < 0
 ·rw [if_pos hb] at h; cases h
 rw [if_neg hb] at h
 rcases ho with rfl | rfl <;> simp only at h <;> cases h
 ·refine ⟨_,?_,.int _ _⟩
  simp [Sem.run_bind,eqGuard,Result.andThen,binOp,Op.shift,hb]
 ·refine ⟨_,?_,.int _ _⟩
  simp [Sem.run_bind,eqGuard,Result.andThen,binOp,Op.shift,hb]
theorem RF {op : UnOp} {x v : Val} {y : Value} (hx : VR G w x y) (h : Ji op x = some v) : ∃ z,(Op.unary op y).run P w = .ok z w ∧ VR G w v z := by
 unfold Ji at h
 cases op <;> cases x <;> simp only at h <;> try (cases h; done)
 ·cases hx; cases h; exact ⟨_,by simp [Op.unary,Op.intArith],.int _ _⟩
 ·cases hx; cases h; exact ⟨_,by simp [Op.unary],.bool _⟩
theorem byteL_cells : ∀ {xss : List (List Val)} {ns : List Int},byteL xss = some ns → xss.length = ns.length ∧ ∀ (i : Nat) (n : Int),ns[i]? = some n → xss[i]? = some [.int .u8 n]
 | [],ns,h => by cases h; exact ⟨rfl,fun i n h => by simp at h⟩
 | es :: xss,ns,h => by
  unfold byteL at h
  split at h
  ·rename_i heq; cases heq
  ·rename_i n l heq
   cases heq
   split at h
   ·rename_i ms hms
    cases h
    obtain ⟨h1,h2⟩ := byteL_cells hms
    refine ⟨by simp [h1],fun i m hi => ?_⟩
    cases i with
    | zero => simp at hi; subst hi; rfl
    | succ i => exact h2 i m (by simpa using hi)
   ·cases h
  ·cases h
theorem VO {e : TypeId} {x v : Val} {y : Value} (hx : VR G w x y) (h : cvB x (T e) = some v) :
  (∃ ti,T e = some ti ∧ ti.kind = .int .u8) ∧ ∃ a l c,y = .slice a l c ∧ ∃ z,(Conv.bytesToString y).run P w = .ok z w ∧ VR G w v z := by
 unfold cvB at h
 split at h
 ·rename_i hT
  refine ⟨⟨_,hT,rfl⟩,?_⟩
  have empty : ∀ (a : Option Addr) (c : Nat),(Conv.bytesToString (.slice a 0 c)).run P w = .ok (.string (Gr [])) w := fun a c => by
   cases a with
   | none => rfl
   | some a =>
    exact run_bytesToString w a 0 c [] (by simp [loadCells,loadCellsFrom])
  split at h
  ·rename_i xss
   split at h
   ·rename_i ns hns
    cases h
    obtain ⟨hl,hc⟩ := byteL_cells hns
    cases hx with
    | lst _ _ a cap ys hcap hsz ha hcl hv =>
     refine ⟨a,_,cap,rfl,_,?_,.str _⟩
     cases ns with
     | nil =>
      have : xss = [] := List.eq_nil_of_length_eq_zero (by simpa using hl)
      subst this
      exact empty a cap
     | cons n0 ns0 =>
      obtain ⟨b,off,rfl,_,hcell⟩ := ha (by intro he; rw [he] at hl; simp at hl)
      rw [hl]
      refine run_bytesToString w _ _ _ _ ?_
      have := run_loadCells_list (P := P) w ⟨b,off,none⟩ ((n0 :: ns0).map (Value.int .u8)) (fun j v hj => by
       rw [List.getElem?_map,Option.map_eq_some_iff] at hj
       obtain ⟨n,hn,rfl⟩ := hj
       have hxj := hc j n hn
       have h1 := hcell j _ hxj 0 _ rfl
       have h2 := hv j _ hxj 0 _ rfl
       generalize ys j 0 = q at h1 h2
       cases h2
       rw [AU]; simpa using h1)
      simpa using this
   ·cases h
  ·cases h
   cases hx with
   | nils a => exact ⟨a,0,0,rfl,_,empty a 0,.str _⟩
  ·cases h
 ·cases h
theorem NF {s d : TypeId} {x v : Val} {y : Value} (hT : Ad P T) (hx : VR G w x y) (h : D1 T s d x = some v) : ∃ z,(convert s d y).run P w = .ok z w ∧ VR G w v z := by
 unfold D1 at h
 cases hs : T s with
 | none => rw [hs] at h; cases h
 | some si =>
  cases hd : T d with
  | none => rw [hs,hd] at h; cases h
  | some di =>
   rw [hs,hd] at h
   obtain ⟨ds,hds,hks⟩ := (hT s _ hs).under
   obtain ⟨dd,hdd,hk⟩ := (hT d _ hd).under
   obtain ⟨kind,sz,bytes,zero,plain⟩ := di
   obtain ⟨kind1,sz1,bytes1,zero1,plain1⟩ := si
   simp only at hk hks
   split at h
   ·rename_i k _ _ _ _ h1 h2
    cases h2
    split at h
    ·cases h
     cases hx
     rw [CN hk] at hdd
     refine ⟨_,?_,.int _ _⟩
     simp only [convert,Sem.run_bind,run_underlying hds,Result.andThen,run_underlying hdd]
     cases ds <;> rfl
    ·cases h
   ·rename_i e _ _ _ _ _ _ _ _ h1 h2
    cases h1
    cases h2
    obtain ⟨⟨ti,hte,htk⟩,a,l,c,rfl,z,hz,hv⟩ := VO (P := P) hx h
    obtain ⟨de,hde,hke⟩ := (hT e _ hte).under
    rw [htk] at hke
    rw [Bb hks] at hds
    rw [C0 hk] at hdd
    rw [CN hke] at hde
    exact ⟨z,by rw [run_convert_bytes_string w s d e a l c hds hde hdd]; exact hz,hv⟩
   ·cases h
theorem NX {i : Nat} {x v : Val} {y : Value} (hx : VR G w x y) (h : DB x i = some v) : ∃ z,(Instr.extract y i).run P w = .ok z w ∧ VR G w v z := by
 unfold DB at h
 cases x <;> simp only at h <;> try (cases h; done)
 rename_i vs
 cases hx with
 | tup _ xs hs hv =>
  have hlt := (List.getElem?_eq_some_iff.1 h).1
  have hx' : xs[i]? = some (xs.getD i undef) := by
   have : i < xs.size := by omega
   rw [Array.getD_eq_getD_getElem?,Array.getElem?_eq_getElem this]; rfl
  exact ⟨xs.getD i undef,by simp only [Instr.extract,hx']; rfl,hv i v h⟩
theorem LV {x v : Val} {y : Value} (hx : VR G w x y) (h : xnilCheck x = some v) (pos : String) (dst : Option Tmp) (ty : TypeId) (after : Array Edge) (guard : Option (Nat × Bool)) (o : Operand) (ρ : Operand → Value) (hρ : ρ o = y) :
  ∃ z,(execOp ρ { dst,op := .nilCheck o,type := ty,pos,after,guard }).run P w = .ok (.value z) w ∧ VR G w v z := by
 unfold xnilCheck at h
 cases x <;> simp only at h <;> try (cases h; done)
 ·cases h
  refine ⟨y,?_,hx⟩
  cases hx
  simp [execOp,hρ]
 ·cases h
  refine ⟨y,?_,hx⟩
  obtain ⟨b,off,rfl,_⟩ := hx.pim_cells
  simp [execOp,hρ]
 ·cases h
  refine ⟨y,?_,hx⟩
  cases hx
  simp [execOp,hρ]
theorem EM {t : TypeId} {ti : TI} {cs : List Val} {xs : Array Value} {v : Val} {off : Nat} (ht : TIok P t ti) (hs : xs.size = cs.length) (hc : ∀ (i : Nat) (v : Val),cs[i]? = some v → v.cell = true)
  (hv : ∀ (i : Nat) (v : Val),cs[i]? = some v → VR G w v (xs.getD i undef)) (h : rdC ti (cs.drop off) = some v) :
  ∃ y,(part t xs off).run P w = .ok y w ∧ VR G w v y := by
 unfold part
 cases ha : ti.isAgg with
 | true =>
  obtain ⟨hle,rfl⟩ := PE h ha
  obtain ⟨i,hi,hsz,_⟩ := ht.infos
  refine ⟨.agg (xs.extract off (off + ti.sz)),?_,?_⟩
  ·rw [Sem.run_bind,Fh ht ha]
   simp only [Result.andThen,if_true,Sem.run_bind,AN hi,hsz]
   rfl
  ·simp only [List.length_drop] at hle
   refine .agg _ _ (by simp; omega) (fun j v hj => ?_) (fun j v hj => ?_)
   ·rw [List.getElem?_take] at hj
    split at hj
    ·rw [List.getElem?_drop] at hj; exact hc _ v hj
    ·cases hj
   ·rw [List.getElem?_take] at hj
    split at hj
    ·rw [List.getElem?_drop] at hj
     have hlt := (List.getElem?_eq_some_iff.1 hj).1
     have := hv _ v hj
     have e : (xs.extract off (off + ti.sz)).getD j undef = xs.getD (off + j) undef := by
      rw [Array.getD_eq_getD_getElem?,Array.getD_eq_getD_getElem?,Array.getElem?_extract]
      rw [if_pos (by omega)]
     rw [e]; exact this
    ·cases hj
 | false =>
  obtain ⟨ho,h0⟩ := JS h ha
  rw [List.getElem?_drop] at h0
  simp only [Nat.add_zero] at h0
  have hlt := (List.getElem?_eq_some_iff.1 h0).1
  have hx' : xs[off]? = some (xs.getD off undef) := by
   have : off < xs.size := by omega
   rw [Array.getD_eq_getD_getElem?,Array.getElem?_eq_getElem this]; rfl
  refine ⟨xs.getD off undef,?_,hv off v h0⟩
  rw [Sem.run_bind,Fd ht ha ho]
  simp only [Result.andThen,Bool.false_eq_true,if_false,hx']
  rfl
theorem Q4 {t : TypeId} {x v : Val} {y : Value} {f : Nat} (hT : Ad P T) (hx : VR G w x y) (h : IZ T t x f = some v) :
  ∃ z,(Instr.field t y f).run P w = .ok z w ∧ VR G w v z := by
 unfold IZ at h
 cases ht : T t with
 | none => rw [ht] at h; cases h
 | some ti =>
  rw [ht] at h
  obtain ⟨kind,sz,bytes,zero,plain⟩ := ti
  cases kind <;> cases x <;> simp only at h <;> try (cases h; done)
  rename_i fs cs
  cases hf : fs[f]? with
  | none => rw [hf] at h; cases h
  | some p =>
   obtain ⟨off,ft⟩ := p
   rw [hf] at h
   simp only at h
   cases hft : T ft with
   | none => rw [hft] at h; cases h
   | some fi =>
    rw [hft] at h
    simp only at h
    obtain ⟨d,hd,hk⟩ := (hT t _ ht).under
    obtain ⟨fa,rfl,rfl,_⟩ := Bc hk
    rw [List.getElem?_map,Option.map_eq_some_iff] at hf
    obtain ⟨fld,hfld,hp⟩ := hf
    injection hp with hp1 hp2
    subst hp1 hp2
    have hfld' : fa[f]? = some fld := by simpa using hfld
    cases hx with
    | agg _ xs hs hc hv =>
     obtain ⟨z,hz,hvz⟩ := EM (hT _ _ hft) hs hc hv h
     exact ⟨z,by simp [Instr.field,Sem.run_bind,run_underlying hd,Result.andThen,hfld',asAgg,hz],hvz⟩
theorem Qv {t : TypeId} {x ix v : Val} {y yi : Value} (hT : Ad P T) (hx : VR G w x y) (hi : VR G w ix yi) (h : IP T t x ix = some v) :
  ∃ z,(Instr.index t y yi).run P w = .ok z w ∧ VR G w v z := by
 unfold IP at h
 cases ix <;> simp only at h <;> try (cases h; done)
 rename_i k i
 cases hi
 by_cases h0 : 0 ≤ i
 case neg => rw [if_neg h0] at h; cases h
 rw [if_pos h0] at h
 cases ht : T t with
 | none => rw [ht] at h; cases h
 | some ti =>
  rw [ht] at h
  obtain ⟨kind,sz,bytes,zero,plain⟩ := ti
  obtain ⟨d,hd,hk⟩ := (hT t _ ht).under
  cases kind <;> cases x <;> simp only at h hk <;> try (cases h; done)
  ·rename_i s
   rw [C0 hk] at hd
   cases hx
   cases hb : s[i.toNat]? with
   | none => rw [hb] at h; cases h
   | some b =>
    rw [hb] at h
    cases h
    exact ⟨_,by simp [Instr.index,Sem.run_bind,asIntOf,run_underlying hd,Result.andThen,h0,hb],.int _ _⟩
  ·rename_i n et cs
   rw [Bp hk] at hd
   cases het : T et with
   | none => rw [het] at h; cases h
   | some ei =>
    rw [het] at h
    simp only at h
    by_cases hlt : i.toNat < n
    case neg => rw [if_neg hlt] at h; cases h
    rw [if_pos hlt] at h
    obtain ⟨ii,hii,hsz,_⟩ := (hT _ _ het).infos
    cases hx with
    | agg _ xs hs hc hv =>
     obtain ⟨z,hz,hvz⟩ := EM (hT _ _ het) hs hc hv h
     have h1 : i < (n : Int) := by omega
     exact ⟨z,by simp [Instr.index,Sem.run_bind,asIntOf,run_underlying hd,Result.andThen,h0,h1,AN hii,hsz,hz],hvz⟩
end
end Cp
namespace Cp
open Go
abbrev Up := Option (Nat × Option (Nat × AObj))
def app (H : Hp) : Up → Hp
 | none => H
 | some (k,en) => upd H k en
def Ju (u : Up) (k' : Nat) : Nat :=
 match u with
 | some (k,some (e,.map ver _)) | some (k,some (e,.frm ver _)) => if k' = k then max (e + 1) (ver + 1) else 0
 | some (k,some (e,_)) => if k' = k then e + 1 else 0
 | _ => 0
structure GD (G G' : Gh) (u : Up) : Prop where
 D : G'.D = G.D
 N : ∀ k,G'.N k ≤ max (G.N k) (Ju u k)
theorem GD.same {G G' : Gh} {u : Up} (h : G'.D = G.D) (hN : G'.N = G.N) : GD G G' u := ⟨h,fun k => by rw [hN]; exact Nat.le_max_left _ _⟩
theorem GD.at {G G' : Gh} {k e : Nat} {ao : AObj} (h : G'.D = G.D) (hN : G'.N = upd G.N k (e + 1)) : GD G G' (some (k,some (e,ao))) := ⟨h,fun k' => by
 rw [hN]
 by_cases hk : k' = k
 ·subst hk
  rw [A4]
  cases ao <;> simp [Ju] <;> omega
 ·rw [A0 _ _ hk]; exact Nat.le_max_left _ _⟩
theorem GD.ver {G G' : Gh} {k e ver : Nat} {es : List (Val × Val)} (h : G'.D = G.D) (hN : G'.N = upd G.N k (ver + 1)) : GD G G' (some (k,some (e,.map ver es))) := ⟨h,fun k' => by
 rw [hN]
 by_cases hk : k' = k
 ·subst hk
  rw [A4]
  simp [Ju]; omega
 ·rw [A0 _ _ hk]; exact Nat.le_max_left _ _⟩
section
variable {P : Program} {T : Tab} {G G' : Gh} {w w' : World} {H H' : Hp}
theorem MR.mono {b off : Nat} {cs : List Val} (h : MR G w b off cs) (hi : ∀ b,G.I b → b < w.heap.size ∧ ¬ Own G H b) (t : Tr G H w G' H' w') (hb : w'.heap[b]? = w.heap[b]?) : MR G' w' b off cs := by
 intro j v hj
 obtain ⟨y,h1,h2,h3⟩ := h j v hj
 exact ⟨y,by rw [Ca hb]; exact h1,h2,h3.mono hi t⟩
theorem Row.mono {k sz : Nat} {xss : List (List Val)} (h : Row G w k sz xss) (hi : ∀ b,G.I b → b < w.heap.size ∧ ¬ Own G H b) (t : Tr G H w G' H' w')
  (hK : G'.K k = G.K k) (hC : G'.C k = G.C k) (hb : ∀ b,G.K k = some b → w'.heap[b]? = w.heap[b]?) : Row G' w' k sz xss := by
 refine ⟨h.1,?_⟩
 have h2 := h.2
 rw [hK,hC]
 cases hk : G.K k with
 | none => rw [hk] at h2; exact h2
 | some b =>
  rw [hk] at h2
  obtain ⟨⟨cs,ty,h3,h4⟩,h5,h6⟩ := h2
  exact ⟨⟨cs,ty,by rw [hb b hk]; exact h3,h4⟩,h5,fun i es hi' => (h6 i es hi').mono hi t (hb b hk)⟩
theorem ERel.mono {es : List (Val × Val)} {xs : List MapEntry} (h : ERel G w es xs) (hi : ∀ b,G.I b → b < w.heap.size ∧ ¬ Own G H b) (t : Tr G H w G' H' w') : ERel G' w' es xs :=
 ⟨h.1,fun i a v hv => let ⟨x,h1,h2,h3⟩ := h.2 i a v hv; ⟨x,h1,h2.mono hi t,h3.mono hi t⟩⟩
theorem ORel.mono {k : Nat} {o : AObj} (h : ORel G w k o) (hi : ∀ b,G.I b → b < w.heap.size ∧ ¬ Own G H b) (t : Tr G H w G' H' w')
  (hK : G'.K k = G.K k) (hC : G'.C k = G.C k) (hb : ∀ b,G.K k = some b → w'.heap[b]? = w.heap[b]?) : ORel G' w' k o := by
 cases o with
 | arr sz xss => exact Row.mono h hi t hK hC hb
 | fro sz xss => exact ⟨h.1.mono hi t hK hC hb,fun b hkb => t.I1 b (h.2 b (hK ▸ hkb))⟩
 | map ver es =>
  obtain ⟨h0,b,xs,clock,h1,h2,h3,h4,h5⟩ := h
  exact ⟨Nat.lt_of_lt_of_le h0 (t.N k),b,xs,clock,hK ▸ h1,by rw [hb b h1]; exact h2,h3.mono hi t,h4,h5⟩
 | itr km em ver left cur =>
  obtain ⟨h0,b,bm,clk,seen,h1,h3⟩ := h
  exact ⟨Nat.lt_of_lt_of_le h0 (t.N km),b,bm,clk,seen,hK ▸ h1,by rw [hb b h1]; exact h3⟩
 | loop fs ps asg body st pend =>
  obtain ⟨b,r,h1,h2,h3,h4,h5,h6,h7,h8,h9⟩ := h
  exact ⟨b,r,hK ▸ h1,by rw [hb b h1]; exact h2,h3,h4,h5,h6,h7,h8,fun i v hv => (h9 i v hv).mono hi t⟩
 | nit =>
  obtain ⟨b,h1,h2⟩ := h
  exact ⟨b,hK ▸ h1,by rw [hb b h1]; exact h2⟩
 | frm ver es =>
  obtain ⟨⟨h0,b,xs,clock,h1,h2,h3,h4,h5⟩,h6⟩ := h
  exact ⟨⟨Nat.lt_of_lt_of_le h0 (t.N k),b,xs,clock,hK ▸ h1,by rw [hb b h1]; exact h2,h3.mono hi t,h4,h5⟩,fun b hkb => t.I1 b (h6 b (hK ▸ hkb))⟩
 | dead => exact ⟨trivial,fun b hkb => t.I1 b (h.2 b (hK ▸ hkb))⟩
theorem Aj {w : World} {r : Nat} {o : Obj} (h : w.heap[r]? = some o) : r < w.heap.size := by
 by_cases hb : r < w.heap.size
 ·exact hb
 ·rw [Array.getElem?_eq_none (Nat.le_of_not_lt hb)] at h; cases h
theorem HRel.turn {k : Nat} (h : HRel G w H) (t : Tr G H w G' H' w') (hD : G'.D = G.D)
  (hH : ∀ k',k' ≠ k → H' k' = H k') (hG : ∀ k',k' ≠ k → G'.E k' = G.E k' ∧ G'.K k' = G.K k' ∧ G'.C k' = G.C k')
  (hw : ∀ k' e o b,k' ≠ k → H k' = some (e,o) → G.K k' = some b → w'.heap[b]? = w.heap[b]?)
  (hob : ∀ e o,H' k = some (e,o) → G'.E k = e ∧ e < G'.N k ∧ ORel G' w' k o)
  (hit : ∀ k1 e km em ver left cur e' es,H' k1 = some (e,.itr km em ver left cur) → H' km = some (e',.map ver es) → e' = em → k1 = k ∨ km = k → WB G' w' k1 km left cur)
  (hblk : ∀ e o b,H' k = some (e,o) → o.owned = true → G'.K k = some b → (w.heap.size ≤ b ∧ b < w'.heap.size) ∨ ∃ e0 o0,H k = some (e0,o0) ∧ o0.owned = true ∧ G.K k = some b)
  (himm : ∀ b,G'.I b → b < w'.heap.size ∧ ¬ Own G' H' b) : HRel G' w' H' := by
 have hsz := t.size
 refine ⟨fun k' e o hk' => ?_,fun k1 e km em ver left cur e' es h1 h2 h3 => ?_,fun k1 k2 e1 e2 o1 o2 b h1 h2 w1 w2 g1 g2 => ?_,himm,fun b hb => ?_,fun r hr => ?_,fun g cs hg => (h.glb g cs hg).mono h.imm t⟩
 ·by_cases hkk : k' = k
  ·subst hkk; exact hob e o hk'
  ·rw [hH k' hkk] at hk'
   obtain ⟨g1,g2,g3⟩ := hG k' hkk
   obtain ⟨a1,a2,a3⟩ := h.obj k' e o hk'
   exact ⟨g1.trans a1,Nat.lt_of_lt_of_le a2 (t.N k'),a3.mono h.imm t g2 g3 (fun b hb => hw k' e o b hkk hk' hb)⟩
 ·by_cases hc : k1 = k ∨ km = k
  ·exact hit k1 e km em ver left cur e' es h1 h2 h3 hc
  ·have hc1 : k1 ≠ k := fun e => hc (.inl e)
   have hc2 : km ≠ k := fun e => hc (.inr e)
   rw [hH k1 hc1] at h1
   rw [hH km hc2] at h2
   obtain ⟨b,bm,clk,seen,xs,i1,i2,i3,i4,i5⟩ := h.itr k1 e km em ver left cur e' es h1 h2 h3
   exact ⟨b,bm,clk,seen,xs,(hG k1 hc1).2.1.trans i1,by rw [hw k1 e _ b hc1 h1 i1]; exact i2,(hG km hc2).2.1.trans i3,by rw [hw km e' _ bm hc2 h2 i3]; exact i4,i5⟩
 ·have key : ∀ k' e o b,k' ≠ k → H' k' = some (e,o) → o.owned = true → G'.K k' = some b → H' k ≠ none → ∀ e1 o1,H' k = some (e1,o1) → o1.owned = true → G'.K k = some b → False := by
   intro k' e o b hne hk' ho hb _ e1 o1 hk1 ho1 hb1
   rw [hH k' hne] at hk'
   rw [(hG k' hne).2.1] at hb
   rcases hblk e1 o1 b hk1 ho1 hb1 with ⟨g,_⟩ | ⟨e0,o0,q1,q2,q3⟩
   ·have := h.own b ⟨k',e,o,hk',ho,hb⟩; omega
   ·exact hne (h.inj k' k e e0 o o0 b hk' q1 ho q2 hb q3)
  by_cases hk1 : k1 = k
  ·by_cases hk2 : k2 = k
   ·rw [hk1,hk2]
   ·subst hk1
    exact (key k2 e2 o2 b hk2 h2 w2 g2 (by rw [h1]; simp) e1 o1 h1 w1 g1).elim
  ·by_cases hk2 : k2 = k
   ·subst hk2
    exact (key k1 e1 o1 b hk1 h1 w1 g1 (by rw [h2]; simp) e2 o2 h2 w2 g2).elim
   ·rw [hH k1 hk1] at h1
    rw [hH k2 hk2] at h2
    rw [(hG k1 hk1).2.1] at g1
    rw [(hG k2 hk2).2.1] at g2
    exact h.inj k1 k2 e1 e2 o1 o2 b h1 h2 w1 w2 g1 g2
 ·obtain ⟨k',e,o,hk',ho,hkb⟩ := hb
  by_cases hkk : k' = k
  ·subst hkk
   rcases hblk e o b hk' ho hkb with ⟨_,g⟩ | ⟨e0,o0,q1,q2,q3⟩
   ·exact g
   ·have := h.own b ⟨k',e0,o0,q1,q2,q3⟩; omega
  ·rw [hH k' hkk] at hk'
   rw [(hG k' hkk).2.1] at hkb
   have := h.own b ⟨k',e,o,hk',ho,hkb⟩
   omega
 ·rw [hD] at hr
  obtain ⟨d1,d2,d3⟩ := h.dfr r hr
  have hlt := Aj d1
  refine ⟨by rw [t.same r hlt d2]; exact d1,fun ho => ?_,fun hI => ?_⟩
  ·rcases t.own r ho with ho | ho
   ·exact d2 ho
   ·omega
  ·rcases t.I2 r hI with hI | hI | hI
   ·exact d3 hI
   ·exact d2 hI
   ·omega
theorem HRel.lt (h : HRel G w H) {k e b : Nat} {o : AObj} (hk : H k = some (e,o)) (hb : G.K k = some b) : b < w.heap.size := by
 obtain ⟨_,_,ho⟩ := h.obj k e o hk
 cases o with
 | arr sz xss => have := ho.2; rw [hb] at this; obtain ⟨⟨cs,ty,h1,_⟩,_⟩ := this; exact Aj h1
 | fro sz xss => have := ho.1.2; rw [hb] at this; obtain ⟨⟨cs,ty,h1,_⟩,_⟩ := this; exact Aj h1
 | map ver es => obtain ⟨_,b',xs,clock,h1,h2,_⟩ := ho; rw [hb] at h1; cases h1; exact Aj h2
 | itr km em ver left cur => obtain ⟨_,b',bm,clk,seen,h1,h3⟩ := ho; rw [hb] at h1; cases h1; exact Aj h3
 | loop fs ps asg body st pend => obtain ⟨b',r,h1,h2,_⟩ := ho; rw [hb] at h1; cases h1; exact Aj h2
 | nit => obtain ⟨b',h1,h2⟩ := ho; rw [hb] at h1; cases h1; exact Aj h2
 | frm ver es => obtain ⟨⟨_,b',xs,clock,h1,h2,_⟩,_⟩ := ho; rw [hb] at h1; cases h1; exact Aj h2
 | dead => exact (h.imm b (ho.2 b hb)).1
theorem HRel.still (h : HRel G w H) (t : Tr G H w G' H w') (hD : G'.D = G.D) (hG : ∀ k',G'.E k' = G.E k' ∧ G'.K k' = G.K k' ∧ G'.C k' = G.C k')
  (hw : ∀ b,b < w.heap.size → w'.heap[b]? = w.heap[b]?) (himm : ∀ b,G'.I b → b < w'.heap.size ∧ ¬ Own G' H b) : HRel G' w' H := by
 have hsz := t.size
 have hlt : ∀ k' e o b,H k' = some (e,o) → G.K k' = some b → w'.heap[b]? = w.heap[b]? := fun k' e o b hk hb => hw b (h.lt hk hb)
 refine ⟨fun k' e o hk' => ?_,fun k1 e km em ver left cur e' es h1 h2 h3 => ?_,fun k1 k2 e1 e2 o1 o2 b h1 h2 w1 w2 g1 g2 => ?_,himm,fun b hb => ?_,fun r hr => ?_,fun g cs hg => (h.glb g cs hg).mono h.imm t⟩
 ·obtain ⟨g1,g2,g3⟩ := hG k'
  obtain ⟨a1,a2,a3⟩ := h.obj k' e o hk'
  exact ⟨g1.trans a1,Nat.lt_of_lt_of_le a2 (t.N k'),a3.mono h.imm t g2 g3 (fun b hb => hlt k' e o b hk' hb)⟩
 ·obtain ⟨b,bm,clk,seen,xs,i1,i2,i3,i4,i5⟩ := h.itr k1 e km em ver left cur e' es h1 h2 h3
  exact ⟨b,bm,clk,seen,xs,(hG k1).2.1.trans i1,by rw [hlt k1 e _ b h1 i1]; exact i2,(hG km).2.1.trans i3,by rw [hlt km e' _ bm h2 i3]; exact i4,i5⟩
 ·rw [(hG k1).2.1] at g1
  rw [(hG k2).2.1] at g2
  exact h.inj k1 k2 e1 e2 o1 o2 b h1 h2 w1 w2 g1 g2
 ·obtain ⟨k',e,o,hk',ho,hkb⟩ := hb
  rw [(hG k').2.1] at hkb
  have := h.own b ⟨k',e,o,hk',ho,hkb⟩
  omega
 ·rw [hD] at hr
  obtain ⟨d1,d2,d3⟩ := h.dfr r hr
  have hlt := Aj d1
  refine ⟨by rw [hw r hlt]; exact d1,fun ho => ?_,fun hI => ?_⟩
  ·rcases t.own r ho with ho | ho
   ·exact d2 ho
   ·omega
  ·rcases t.I2 r hI with hI | hI | hI
   ·exact d3 hI
   ·exact d2 hI
   ·omega
def Gh.imm (G : Gh) (b : Nat) : Gh := { G with I := fun i => G.I i ∨ i = b }
theorem Tr.imm (hR : HRel G w H) (o : Obj) : Tr G H w (G.imm w.heap.size) H (w.alloc o) where
 os := rfl
 tape := ⟨rfl,Nat.le_refl _⟩
 output := rfl
 size := by simp
 same := fun b hb _ => Go.RowKit.Below.heap_alloc w o b hb
 own := fun b ho => .inl ho
 I1 := fun b h => .inl h
 I2 := fun b h => by
  rcases h with h | rfl
  ·exact .inl h
  ·exact .inr (.inr (Nat.le_refl _))
 N := fun k => Nat.le_refl _
 eps := fun k => .inl ⟨rfl,rfl,rfl⟩
 D := ⟨[],rfl⟩
theorem HRel.alloc_imm (hR : HRel G w H) (o : Obj) : HRel (G.imm w.heap.size) (w.alloc o) H := by
 refine hR.still (Tr.imm hR o) rfl (fun k => ⟨rfl,rfl,rfl⟩) (fun b hb => Go.RowKit.Below.heap_alloc w o b hb) (fun b hb => ?_)
 rcases hb with hb | rfl
 ·have := hR.imm b hb
  exact ⟨by simp; omega,this.2⟩
 ·refine ⟨by simp,fun ho => ?_⟩
  have := hR.own _ ho
  omega
theorem GP (w : World) (cs : Array Value) (ty : TypeId) (j : Nat) : (w.alloc (.cells cs ty (0,0))).cell? ⟨w.heap.size,j,none⟩ = cs[j]? := by
 unfold World.cell?
 rw [World.alloc_heap_new]
 rfl
theorem MR.new_imm (hR : HRel G w H) {cs : List Val} {ys : Array Value} {ty : TypeId} (h : CR G w cs ys.toList) : MR (G.imm w.heap.size) (w.alloc (.cells ys ty (0,0))) w.heap.size 0 cs := by
 intro j v hj
 obtain ⟨y,h1,h2,h3⟩ := h.2 j v hj
 exact ⟨y,by rw [GP,Nat.zero_add]; simpa using h1,h2,h3.mono hR.imm (Tr.imm hR _)⟩
def Gh.lay (G : Gh) (k b c e : Nat) : Gh := { G with K := upd G.K k (some b),C := upd G.C k c,E := upd G.E k e,N := upd G.N k (e + 1) }
theorem Tr.lay (hR : HRel G w H) (k c e : Nat) (o : Obj) (ao : AObj) (he : G.N k ≤ e) : Tr G H w (G.lay k w.heap.size c e) (upd H k (some (e,ao))) (w.alloc o) where
 os := rfl
 tape := ⟨rfl,Nat.le_refl _⟩
 output := rfl
 size := by simp
 same := fun b hb _ => Go.RowKit.Below.heap_alloc w o b hb
 own := fun b ⟨k',e',o',h1,h2,h3⟩ => by
  by_cases hk : k' = k
  ·subst hk
   simp only [Gh.lay,A4,Option.some.injEq] at h3
   exact .inr (by omega)
  ·rw [A0 _ _ hk] at h1
   simp only [Gh.lay] at h3
   rw [A0 _ _ hk] at h3
   exact .inl ⟨k',e',o',h1,h2,h3⟩
 I1 := fun b h => h
 I2 := fun b h => .inl h
 N := fun k' => by
  by_cases hk : k' = k
  ·subst hk; simp only [Gh.lay,A4]; omega
  ·simp only [Gh.lay]; rw [A0 _ _ hk]; exact Nat.le_refl _
 eps := fun k' => by
  by_cases hk : k' = k
  ·subst hk; right; simp only [Gh.lay,A4]; exact he
  ·left; simp only [Gh.lay]; rw [A0 _ _ hk,A0 _ _ hk,A0 _ _ hk]; exact ⟨rfl,rfl,rfl⟩
 D := ⟨[],rfl⟩
theorem HRel.lay (hR : HRel G w H) {k c e : Nat} {o : Obj} {ao : AObj} (he : G.N k ≤ e) (hao : ORel (G.lay k w.heap.size c e) (w.alloc o) k ao)
  (hni : ∀ km em ver left cur,ao ≠ .itr km em ver left cur) (hnm : ∀ ver es,ao = .map ver es → e ≤ ver) : HRel (G.lay k w.heap.size c e) (w.alloc o) (upd H k (some (e,ao))) := by
 have hE : ∀ k',k' ≠ k → (G.lay k w.heap.size c e).E k' = G.E k' ∧ (G.lay k w.heap.size c e).K k' = G.K k' ∧ (G.lay k w.heap.size c e).C k' = G.C k' := fun k' hk => by
  simp only [Gh.lay]; rw [A0 _ _ hk,A0 _ _ hk,A0 _ _ hk]; exact ⟨rfl,rfl,rfl⟩
 have t := Tr.lay hR k c e o ao he
 refine hR.turn t rfl (fun k' hk => A0 _ _ hk) hE (fun k' e' o' b hk h1 h2 => Go.RowKit.Below.heap_alloc w o b (hR.lt h1 h2)) (fun e' o' h1 => ?_) (fun k1 e1 km em ver left cur e' es h1 h2 h3 hc => ?_) (fun e' o' b h1 h2 h3 => ?_) (fun b hb => ?_)
 ·rw [A4] at h1
  cases h1
  exact ⟨by simp [Gh.lay],by simp [Gh.lay],hao⟩
 ·exfalso
  by_cases hk1 : k1 = k
  ·subst hk1
   rw [A4] at h1
   cases h1
   exact hni _ _ _ _ _ rfl
  ·have hkm : km = k := hc.resolve_left hk1
   subst hkm
   rw [A4] at h2
   cases h2
   have := hnm _ _ rfl
   rw [A0 _ _ hk1] at h1
   have h4 := (hR.obj k1 e1 _ h1).2.2.1
   omega
 ·simp only [Gh.lay,A4,Option.some.injEq] at h3
  subst h3
  exact .inl ⟨Nat.le_refl _,by simp⟩
 ·have hI := hR.imm b hb
  refine ⟨by simp; omega,fun ho => ?_⟩
  rcases t.own b ho with ho | ho
  ·exact hI.2 ho
  ·omega
end
end Cp
namespace Cp
open Go
def Ce (place : Nat → Option (Nat × Nat)) (cells : List Val) : List (Nat × Val) → Option (List Val)
 | [] => some cells
 | (i,v) :: rest =>
  match place i,vcells v with
  | some (off,sz),some vs =>
   if vs.length = sz ∧ off + sz ≤ cells.length then Ce place (cells.take off ++ vs ++ cells.drop (off + sz)) rest else none
  | _,_ => none
def chunks (sz : Nat) : Nat → List Val → List (List Val)
 | 0,_ => []
 | n + 1,l => l.take sz :: chunks sz n (l.drop sz)
def PR (G : Gh) (w : World) (ps : List (Nat × Val)) (qs : List (Nat × Value)) : Prop :=
 qs.length = ps.length ∧ ∀ (j i : Nat) (v : Val),ps[j]? = some (i,v) → ∃ x : Value,qs[j]? = some (i,x) ∧ VR G w v x
section
variable {P : Program} {T : Tab} {G G' : Gh} {w w' : World} {H H' : Hp}
theorem Lq (off : Nat) : ∀ (vs : List Value) (s : Nat) (ys : Array Value),
  ((vs.zipIdx s).foldl (fun (cs : Array Value) (p : Value × Nat) => cs.setIfInBounds (off + p.2) p.1) ys).size = ys.size ∧
  ∀ p,((vs.zipIdx s).foldl (fun (cs : Array Value) (p : Value × Nat) => cs.setIfInBounds (off + p.2) p.1) ys)[p]? =
   if off + s ≤ p ∧ p < off + s + vs.length ∧ p < ys.size then vs[p - (off + s)]? else ys[p]?
 | [],s,ys => ⟨rfl,fun p => by
   simp only [List.zipIdx_nil,List.foldl_nil,List.length_nil]
   rw [if_neg (by omega)]⟩
 | v :: vs,s,ys => by
  obtain ⟨h1,h2⟩ := Lq off vs (s + 1) (ys.setIfInBounds (off + s) v)
  simp only [List.zipIdx_cons,List.foldl_cons]
  refine ⟨by rw [h1]; simp,fun p => ?_⟩
  rw [h2 p]
  simp only [Array.size_setIfInBounds,List.length_cons,Array.getElem?_setIfInBounds]
  by_cases hp : p = off + s
  ·subst hp
   rw [if_neg (by omega)]
   by_cases hb : off + s < ys.size
   ·rw [if_pos rfl,if_pos hb,if_pos ⟨Nat.le_refl _,by omega,hb⟩]
    simp
   ·rw [if_pos rfl,if_neg hb,if_neg (by omega)]
    rw [Array.getElem?_eq_none (Nat.le_of_not_lt hb)]
  ·by_cases hc : off + (s + 1) ≤ p ∧ p < off + (s + 1) + vs.length ∧ p < ys.size
   ·rw [if_pos hc,if_pos (by omega)]
    have : p - (off + s) = (p - (off + (s + 1))) + 1 := by omega
    rw [this,List.getElem?_cons_succ]
   ·rw [if_neg hc,if_neg (fun e => hp e.symm),if_neg (by omega)]
theorem CR.put {cs vs : List Val} {ys : Array Value} {zs : List Value} {off : Nat} (h : CR G w cs ys.toList) (hv : CR G w vs zs) (hb : off + vs.length ≤ cs.length) :
  CR G w (cs.take off ++ vs ++ cs.drop (off + vs.length)) ((zs.zipIdx).foldl (fun (cs : Array Value) (p : Value × Nat) => cs.setIfInBounds (off + p.2) p.1) ys).toList := by
 obtain ⟨h1,h2⟩ := Lq off zs 0 ys
 have hl := h.1
 have hz := hv.1
 simp only [Array.length_toList] at hl
 refine ⟨by simp [h1,hl]; omega,fun p v hp => ?_⟩
 rw [Array.getElem?_toList,h2 p]
 simp only [Nat.add_zero]
 have ht : (cs.take off).length = off := by simp; omega
 by_cases c1 : p < off
 ·rw [if_neg (by omega)]
  rw [List.append_assoc,List.getElem?_append_left (by omega),List.getElem?_take,if_pos c1] at hp
  obtain ⟨y,q1,q2⟩ := h.2 p v hp
  exact ⟨y,by simpa using q1,q2⟩
 ·by_cases c2 : p < off + vs.length
  ·rw [if_pos (by omega)]
   rw [List.getElem?_append_left (by simp; omega),List.getElem?_append_right (by omega),ht] at hp
   exact hv.2 (p - off) v hp
  ·rw [if_neg (by omega)]
   rw [List.getElem?_append_right (by simp; omega),List.getElem?_drop] at hp
   have e : off + vs.length + (p - (List.take off cs ++ vs).length) = p := by simp; omega
   rw [e] at hp
   obtain ⟨y,q1,q2⟩ := h.2 p v hp
   exact ⟨y,by simpa using q1,q2⟩
theorem Jz (placeA place : Nat → Option (Nat × Nat)) (hpl : ∀ i p,placeA i = some p → place i = some p) : ∀ (ps : List (Nat × Val)) (qs : List (Nat × Value)) (cs cs' : List Val) (ys : Array Value),PR G w ps qs → CR G w cs ys.toList →
  Ce placeA cs ps = some cs' → ∃ ys',Instr.fill place ys qs = some ys' ∧ CR G w cs' ys'.toList
 | [],qs,cs,cs',ys,hp,hc,h => by
  have : qs = [] := List.eq_nil_of_length_eq_zero (by simpa using hp.1)
  subst this
  cases h
  exact ⟨ys,rfl,hc⟩
 | (i,v) :: ps,qs,cs,cs',ys,hp,hc,h => by
  cases qs with
  | nil => have := hp.1; simp at this
  | cons q qs =>
   obtain ⟨x,hx,hvx⟩ := hp.2 0 i v rfl
   simp only [List.getElem?_cons_zero,Option.some.injEq] at hx
   subst hx
   simp only [Ce] at h
   cases hpla : placeA i with
   | none => rw [hpla] at h; cases h
   | some p =>
    obtain ⟨off,sz⟩ := p
    cases hvc : vcells v with
    | none => rw [hpla,hvc] at h; cases h
    | some vs =>
     rw [hpla,hvc] at h
     simp only at h
     by_cases hb : vs.length = sz ∧ off + sz ≤ cs.length
     case neg => rw [if_neg hb] at h; cases h
     rw [if_pos hb] at h
     obtain ⟨rfl,hb⟩ := hb
     have hcr := hvx.cells hvc
     have hl := hcr.1
     have hl2 := hc.1
     simp only [Array.length_toList] at hl hl2
     have hcr' := CR.put hc hcr hb
     obtain ⟨ys',h1,h2⟩ := Jz placeA place hpl ps qs _ cs' _ ⟨by have := hp.1; simpa using this,fun j i' v' hj => hp.2 (j + 1) i' v' (by simpa using hj)⟩ hcr' h
     refine ⟨ys',?_,h2⟩
     simp only [Instr.fill,hpl i _ hpla]
     rw [if_neg (by simp; omega)]
     rw [← h1]
     congr 1
     rw [← Array.foldl_toList]
     simp
theorem CV (sz : Nat) : ∀ (n : Nat) (l : List Val),(chunks sz n l).length = n
 | 0,_ => rfl
 | n + 1,l => by simp [chunks,CV sz n]
theorem ED (sz : Nat) : ∀ (n : Nat) (l : List Val) (i : Nat) (es : List Val),l.length = n * sz → (chunks sz n l)[i]? = some es → es.length = sz ∧ ∀ j v,es[j]? = some v → l[i * sz + j]? = some v
 | 0,l,i,es,_,h => by simp [chunks] at h
 | n + 1,l,i,es,hl,h => by
  cases i with
  | zero =>
   simp only [chunks,List.getElem?_cons_zero,Option.some.injEq] at h
   subst h
   refine ⟨by rw [List.length_take,hl,Nat.add_mul]; omega,fun j v hj => ?_⟩
   rw [List.getElem?_take] at hj
   split at hj
   ·simpa using hj
   ·cases hj
  | succ i =>
   simp only [chunks,List.getElem?_cons_succ] at h
   obtain ⟨h1,h2⟩ := ED sz n (l.drop sz) i es (by rw [List.length_drop,hl,Nat.add_mul]; omega) h
   refine ⟨h1,fun j v hj => ?_⟩
   have := h2 j v hj
   rw [List.getElem?_drop] at this
   rw [show (i + 1) * sz + j = sz + (i * sz + j) from by rw [Nat.add_mul]; omega]
   exact this
theorem MR.chunks {b off sz n : Nat} {l : List Val} (h : MR G w b off l) (hl : l.length = n * sz) : ER G w b off sz (chunks sz n l) := by
 intro i es hi j v hj
 obtain ⟨_,h2⟩ := ED sz n l i es hl hi
 obtain ⟨y,h3,h4⟩ := h _ v (h2 j v hj)
 exact ⟨y,by rw [Nat.add_assoc]; exact h3,h4⟩
def Bm (zs : List Val) (n : Nat) : List Val := (List.replicate n zs).flatten
theorem C1 (zs : List Val) : ∀ n,(Bm zs n).length = n * zs.length
 | 0 => by simp [Bm]
 | n + 1 => by
  have := C1 zs n
  simp only [Bm,List.replicate_succ,List.flatten_cons,List.length_append] at this ⊢
  rw [this,Nat.add_mul]; omega
theorem Jq (zs : List Val) : ∀ (n p : Nat),p < n * zs.length → (Bm zs n)[p]? = zs[p % zs.length]?
 | 0,p,h => by simp at h
 | n + 1,p,h => by
  simp only [Bm,List.replicate_succ,List.flatten_cons]
  by_cases hp : p < zs.length
  ·rw [List.getElem?_append_left hp,Nat.mod_eq_of_lt hp]
  ·rw [List.getElem?_append_right (by omega)]
   have := Jq zs n (p - zs.length) (by rw [Nat.add_mul] at h; omega)
   simp only [Bm] at this
   rw [this]
   congr 1
   rw [Nat.mod_eq_sub_mod (by omega : p ≥ zs.length)]
theorem CR.zeros {zs : List Val} {z : Array Value} (h : CR G w zs z.toList) (n : Nat) (hz : 0 < zs.length) :
  CR G w (Bm zs n) ((Array.range (n * zs.length)).map (fun i => z[i % z.size]!)).toList := by
 have hl := h.1
 simp only [Array.length_toList] at hl
 refine ⟨by simp [C1],fun p v hp => ?_⟩
 have hlt := (List.getElem?_eq_some_iff.1 hp).1
 rw [C1] at hlt
 rw [Jq zs n p hlt] at hp
 obtain ⟨y,h1,h2⟩ := h.2 _ v hp
 refine ⟨y,?_,h2⟩
 have hm : p % zs.length < z.size := by rw [hl]; exact Nat.mod_lt _ hz
 have h1' : z[p % zs.length]? = some y := by simpa using h1
 have e : ((Array.range (n * zs.length)).map (fun i => z[i % z.size]!))[p]? = some (z[p % z.size]!) := by simp [hlt]
 have e2 : z[p % z.size]! = y := by
  rw [hl,getElem!_def,h1']
 simp only [Array.getElem?_toList,e,e2]
end
end Cp
namespace Cp
open Go
structure Md where
 base : Nat
 own : List Nat
def Does (P : Program) (G : Gh) (w : World) (H : Hp) (s : Sem Value) (v : Val) (u : Up) : Prop :=
 ∃ x w' G',s.run P w = .ok x w' ∧ Tr G H w G' (app H u) w' ∧ HRel G' w' (app H u) ∧ GD G G' u ∧ VR G' w' v x
def Fv (T : Tab) (fs : List (Nat × Nat)) (i : Nat) : Option (Nat × Nat) :=
 match fs[i]? with
 | some (off,ft) => (match T ft with | some fi => some (off,fi.sz) | none => none)
 | none => none
def Fk (T : Tab) (t : TypeId) (ps : List (Nat × Val)) : Option Val :=
 match T t with
 | some { kind := .struct fs,zero := .agg zs,.. } =>
  match Ce (Fv T fs) zs ps with
  | some cs => some (.agg cs)
  | none => none
 | some { kind := .array n et,zero := .agg zs,.. } =>
  match T et with
  | some ei => match Ce (fun i => some (i * ei.sz,ei.sz)) zs ps with | some cs => some (.agg cs) | none => none
  | none => none
 | _ => none
def Fy (T : Tab) (k e : Nat) (t : TypeId) : Option (Val × Up) :=
 match T t with
 | some ti => match vcells ti.zero with
  | some zs => some (.ptr k e zs.length 0 0,some (k,some (e,.arr zs.length [zs])))
  | none => none
 | none => none
def Fp (own : Bool) (k e : Nat) (v : Val) : Option (Val × Up) :=
 match vcells v with
 | some cs => if own then some (.ptr k e cs.length 0 0,some (k,some (e,.arr cs.length [cs]))) else some (.pim cs,none)
 | none => none
def Al (T : Tab) (own : Bool) (k e : Nat) (t : TypeId) (n : Nat) (ps : List (Nat × Val)) : Option (Val × Up) :=
 match T t with
 | some { kind := .slice et,.. } =>
  match T et with
  | some ei =>
   match vcells ei.zero with
   | some zs =>
    if zs.length = ei.sz ∧ 0 < ei.sz ∧ n * ei.sz ≤ 16777216 then
     match Ce (fun i => some (i * ei.sz,ei.sz)) (Bm zs n) ps with
     | some cs =>
      if own then some (.gr k e n,some (k,some (e,.arr ei.sz (chunks ei.sz n cs))))
      else if n = 0 then some (.nils,none) else some (.lst ei.sz (chunks ei.sz n cs),none)
     | none => none
    else none
   | none => none
  | none => none
 | _ => none
def CT (T : Tab) (k e : Nat) (t : TypeId) (l c : Val) : Option (Val × Up) :=
 match T t,l,c with
 | some { kind := .slice et,.. },.int .i64 n,.int .i64 m =>
  match T et with
  | some ei =>
   match vcells ei.zero with
   | some zs =>
    if zs.length = ei.sz ∧ 0 < ei.sz ∧ n = m ∧ 0 ≤ n ∧ n ≤ 1073741824 ∧ ei.bytes ≤ 4096 then some (.gr k e n.toNat,some (k,some (e,.arr ei.sz (List.replicate n.toNat zs)))) else none
   | none => none
  | none => none
 | _,_,_ => none
section
variable {P : Program} {T : Tab} {G G' : Gh} {w w' : World} {H H' : Hp}
theorem Does.pure (hR : HRel G w H) {s : Sem Value} {v : Val} {x : Value} (h : s.run P w = .ok x w) (hv : VR G w v x) : Does P G w H s v none :=
 ⟨x,w,G,h,Tr.refl G H w,hR,.same rfl rfl,hv⟩
theorem Does.imm (hR : HRel G w H) {s : Sem Value} {v : Val} {x : Value} {cs : List Val} {ys : Array Value} {ty : TypeId} (hc : CR G w cs ys.toList)
  (h : s.run P w = .ok x (w.alloc (.cells ys ty (0,0)))) (hv : (MR (G.imm w.heap.size) (w.alloc (.cells ys ty (0,0))) w.heap.size 0 cs) → VR (G.imm w.heap.size) (w.alloc (.cells ys ty (0,0))) v x) : Does P G w H s v none :=
 ⟨x,_,_,h,Tr.imm hR _,hR.alloc_imm _,.same rfl rfl,hv (MR.new_imm hR hc)⟩
theorem Row.new (hR : HRel G w H) {k e n sz : Nat} {flat : List Val} {ys : Array Value} {ty : TypeId} (he : G.N k ≤ e) (hc : CR G w flat ys.toList) (hl : flat.length = n * sz) :
  Row (G.lay k w.heap.size n e) (w.alloc (.cells ys ty (0,0))) k sz (chunks sz n flat) := by
 refine ⟨fun i es hi => (ED sz n flat i es hl hi).1,?_⟩
 have hK : (G.lay k w.heap.size n e).K k = some w.heap.size := by simp [Gh.lay]
 have hC : (G.lay k w.heap.size n e).C k = n := by simp [Gh.lay]
 rw [hK,hC]
 have h1 := hc.1
 simp only [Array.length_toList] at h1
 refine ⟨⟨ys,ty,World.alloc_heap_new w _,by omega⟩,by rw [CV]; exact Nat.le_refl _,fun i es hi => ?_⟩
 have hm : MR (G.lay k w.heap.size n e) (w.alloc (.cells ys ty (0,0))) w.heap.size 0 flat := by
  intro j v hj
  obtain ⟨y,q1,q2,q3⟩ := hc.2 j v hj
  exact ⟨y,by rw [GP,Nat.zero_add]; simpa using q1,q2,q3.mono hR.imm (Tr.lay hR k n e _ (.arr sz (chunks sz n flat)) he)⟩
 have := hm.chunks hl i es hi
 simpa using this
theorem Does.lay (hR : HRel G w H) {s : Sem Value} {v : Val} {x : Value} {flat : List Val} {ys : Array Value} {ty : TypeId} {k e n sz : Nat} (he : G.N k ≤ e) (hc : CR G w flat ys.toList) (hl : flat.length = n * sz)
  (h : s.run P w = .ok x (w.alloc (.cells ys ty (0,0)))) (hv : VR (G.lay k w.heap.size n e) (w.alloc (.cells ys ty (0,0))) v x) : Does P G w H s v (some (k,some (e,.arr sz (chunks sz n flat)))) :=
 ⟨x,_,_,h,Tr.lay hR k n e _ _ he,hR.lay he (Row.new hR he hc hl) (fun _ _ _ _ _ h => by cases h) (fun _ _ h => by cases h),.at rfl rfl,hv⟩
theorem KJ (cs : List Val) : chunks cs.length 1 cs = [cs] := by simp [chunks]
theorem VR.ptr_new {k e sz n b : Nat} : VR (G.lay k b n e) w (.ptr k e sz 0 0) (.pointer (some ⟨b,0,none⟩)) :=
 .ptr _ _ _ _ _ _ (by simp [Gh.lay]) (fun _ => ⟨b,by simp [Gh.lay],by simp⟩)
theorem VR.gr_new {k e n b : Nat} : VR (G.lay k b n e) w (.gr k e n) (.slice (some ⟨b,0,none⟩) n n) :=
 .gr _ _ _ _ _ (by simp [Gh.lay]) (fun _ => by simp [Gh.handle,Gh.lay])
theorem Cf {t : TypeId} {i : TypeInfo} {z : Value} (hi : P.info? t = some i) (hz : i.zero = some z) : (zeroValue t).run P w = .ok z w := by
 simp [zeroValue,Sem.run_bind,Ib hi,hz,Result.andThen]
theorem Qw {k e : Nat} {t : TypeId} {v : Val} {u : Up} (hT : Ad P T) (hR : HRel G w H) (he : G.N k ≤ e) (h : Fy T k e t = some (v,u)) (old : Value) :
  Does P G w H (Instr.alloc t true old) v u := by
 unfold Fy at h
 cases ht : T t with
 | none => rw [ht] at h; cases h
 | some ti =>
  rw [ht] at h
  simp only at h
  cases hz : vcells ti.zero with
  | none => rw [hz] at h; cases h
  | some zs =>
   rw [hz] at h
   cases h
   obtain ⟨i,hi,hsz,_,z,hz1,hz2⟩ := (hT t ti ht).infos
   have hc : CR G w zs z.cells.toList := VR.cells (hz2 ▸ Ec z) hz
   rw [← KJ zs]
   refine Does.lay hR he hc (by simp) (ty := t) ?_ VR.ptr_new
   cases old <;> simp [Instr.alloc,Sem.run_bind,Cf hi hz1,Result.andThen,newVar,newRow]
theorem Pq {own : Bool} {k e : Nat} {t : TypeId} {a v : Val} {x : Value} {u : Up} (hR : HRel G w H) (he : G.N k ≤ e) (ha : VR G w a x) (h : Fp own k e a = some (v,u)) :
  Does P G w H (Instr.box t x) v u := by
 unfold Fp at h
 cases hv : vcells a with
 | none => rw [hv] at h; cases h
 | some cs =>
  rw [hv] at h
  have hc := ha.cells hv
  have hrun : (Instr.box t x).run P w = .ok (.pointer (some ⟨w.heap.size,0,none⟩)) (w.alloc (.cells x.cells t (0,0))) := by
   simp [Instr.box,Sem.run_bind,newVar,newRow,Result.andThen]
  cases own with
  | true =>
   cases h
   rw [← KJ cs]
   exact Does.lay hR he hc (by simp) hrun VR.ptr_new
  | false =>
   cases h
   exact Does.imm hR hc hrun (fun hm => VR.cells_pim (.inr rfl) hm)
theorem FC {own : Bool} {k e n : Nat} {t : TypeId} {v : Val} {u : Up} {ps : List (Nat × Val)} {qs : Array (Nat × Value)} (hT : Ad P T) (hR : HRel G w H) (he : G.N k ≤ e)
  (hp : PR G w ps qs.toList) (h : Al T own k e t n ps = some (v,u)) : Does P G w H (Instr.buildSlice t n qs) v u := by
 unfold Al at h
 cases ht : T t with
 | none => rw [ht] at h; cases h
 | some ti =>
  rw [ht] at h
  obtain ⟨kind,sz,bytes,zero,plain⟩ := ti
  obtain ⟨d,hd,hk⟩ := (hT t _ ht).under
  cases kind <;> simp only at h hk <;> try (cases h; done)
  rename_i et
  rw [Bb hk] at hd
  cases het : T et with
  | none => rw [het] at h; cases h
  | some ei =>
   rw [het] at h
   simp only at h
   cases hz : vcells ei.zero with
   | none => rw [hz] at h; cases h
   | some zs =>
    rw [hz] at h
    simp only at h
    by_cases hb : zs.length = ei.sz ∧ 0 < ei.sz ∧ n * ei.sz ≤ 16777216
    case neg => rw [if_neg hb] at h; cases h
    rw [if_pos hb] at h
    obtain ⟨hb1,hb2,hb3⟩ := hb
    obtain ⟨i,hi,hsz,_,z,hz1,hz2⟩ := (hT et ei het).infos
    have hc : CR G w zs z.cells.toList := VR.cells (hz2 ▸ Ec z) hz
    cases hf : Ce (fun i => some (i * ei.sz,ei.sz)) (Bm zs n) ps with
    | none => rw [hf] at h; cases h
    | some cs =>
     rw [hf] at h
     simp only at h
     have hzc := CR.zeros hc n (by omega)
     obtain ⟨ys,hy1,hy2⟩ := Jz _ _ (fun _ _ h => h) ps qs.toList _ _ _ hp hzc hf
     have hlen : ∀ (ps : List (Nat × Val)) (a b : List Val),Ce (fun i => some (i * ei.sz,ei.sz)) a ps = some b → b.length = a.length := by
      intro ps
      induction ps with
      | nil => intro a b h; cases h; rfl
      | cons p ps ih =>
       intro a b h
       obtain ⟨pi,pv⟩ := p
       simp only [Ce] at h
       cases hvc : vcells pv with
       | none => rw [hvc] at h; cases h
       | some vs =>
        rw [hvc] at h
        simp only at h
        by_cases hq : vs.length = ei.sz ∧ pi * ei.sz + ei.sz ≤ a.length
        ·rw [if_pos hq] at h
         rw [ih _ _ h]
         simp; omega
        ·rw [if_neg hq] at h; cases h
     have hl : cs.length = n * ei.sz := by rw [hlen _ _ _ hf,C1,hb1]
     have hrun : (Instr.buildSlice t n qs).run P w = .ok (.slice (some ⟨w.heap.size,0,none⟩) n n) (w.alloc (.cells ys et (0,0))) := by
      have hbig : ¬ n * i.size > 2 ^ 24 := by rw [hsz]; omega
      rw [hb1] at hy1
      by_cases hn0 : n * i.size = 0
      ·have : n = 0 := by
        rcases Nat.mul_eq_zero.1 hn0 with h | h
        ·exact h
        ·omega
       subst this
       have hr0 : Array.range 0 = #[] := rfl
       have hy1' : Instr.fill (fun i => some (i * ei.sz,ei.sz)) #[] qs.toList = some ys := by simpa [hr0] using hy1
       simp [hr0,Instr.buildSlice,Sem.run_bind,run_underlying hd,Result.andThen,AN hi,hsz,hy1',newRow]
      ·have hn0' : ¬ (n = 0 ∨ ei.sz = 0) := by rw [hsz] at hn0; exact fun h => hn0 (Nat.mul_eq_zero.2 h)
       have hbig' : ¬ 16777216 < n * ei.sz := by omega
       simp [Instr.buildSlice,Sem.run_bind,run_underlying hd,Result.andThen,AN hi,hsz,hbig',hn0',Cf hi hz1,hy1,newRow]
       intro h0
       exact (hn0' (Nat.mul_eq_zero.1 h0)).elim
     cases own with
     | true =>
      cases h
      exact Does.lay hR he hy2 hl hrun VR.gr_new
     | false =>
      simp only [Bool.false_eq_true,if_false] at h
      by_cases hn : n = 0
      ·rw [if_pos hn] at h
       cases h
       subst hn
       exact Does.imm hR hy2 hrun (fun _ => .nils _)
      ·rw [if_neg hn] at h
       cases h
       refine Does.imm hR hy2 hrun (fun hm => ?_)
       have := VR.lst_of (G := G.imm w.heap.size) (w := w.alloc (.cells ys et (0,0))) (b := w.heap.size) (off := 0) (sz := ei.sz) (cap := n) (xss := chunks ei.sz n cs) (.inr rfl)
        (fun i es hi => (ED _ _ _ i es hl hi).1) (hm.chunks hl) (by rw [CV]; exact Nat.le_refl _)
       rwa [CV] at this
theorem Il (zs : List Val) : ∀ n,chunks zs.length n (Bm zs n) = List.replicate n zs
 | 0 => rfl
 | n + 1 => by
  simp only [chunks,Bm,List.replicate_succ,List.flatten_cons]
  rw [List.take_left' rfl,List.drop_left' rfl]
  have := Il zs n
  simp only [Bm] at this
  rw [this]
theorem KN {k e : Nat} {t : TypeId} {l c v : Val} {xl xc : Value} {u : Up} (hT : Ad P T) (hR : HRel G w H) (he : G.N k ≤ e) (hxl : VR G w l xl) (hxc : VR G w c xc)
  (h : CT T k e t l c = some (v,u)) : Does P G w H (Instr.makeSlice t xl xc) v u := by
 unfold CT at h
 cases ht : T t with
 | none => rw [ht] at h; cases h
 | some ti =>
  rw [ht] at h
  obtain ⟨kind,sz,bytes,zero,plain⟩ := ti
  obtain ⟨d,hd,hk⟩ := (hT t _ ht).under
  cases kind <;> cases l <;> cases c <;> simp only at h hk <;> try (cases h; done)
  rename_i et k1 n k2 m
  cases k1 <;> cases k2 <;> simp only at h <;> try (cases h; done)
  rw [Bb hk] at hd
  cases het : T et with
  | none => rw [het] at h; cases h
  | some ei =>
   rw [het] at h
   simp only at h
   cases hz : vcells ei.zero with
   | none => rw [hz] at h; cases h
   | some zs =>
    rw [hz] at h
    simp only at h
    by_cases hb : zs.length = ei.sz ∧ 0 < ei.sz ∧ n = m ∧ 0 ≤ n ∧ n ≤ 1073741824 ∧ ei.bytes ≤ 4096
    case neg => rw [if_neg hb] at h; cases h
    rw [if_pos hb] at h
    obtain ⟨hb1,hb2,rfl,hb4,hb5,hb6⟩ := hb
    cases h
    cases hxl
    cases hxc
    obtain ⟨i,hi,hsz,hby,z,hz1,hz2⟩ := (hT et ei het).infos
    have hc : CR G w zs z.cells.toList := VR.cells (hz2 ▸ Ec z) hz
    have hzc := CR.zeros hc n.toNat (by omega)
    have hmul : (i.bytes : Int) * n ≤ 281474976710656 := by
     have h1 : (i.bytes : Int) * n ≤ 4096 * n := Int.mul_le_mul_of_nonneg_right (by omega) hb4
     omega
    have hrun := run_make (P := P) w t et i z hd hi hz1 .i64 .i64 n n hb4 (Int.le_refl _) hmul (by omega)
    rw [← hb1,← Il zs]
    refine Does.lay (ys := madeCells z.cells (n.toNat * i.size)) hR he ?_ (by rw [C1]) hrun VR.gr_new
    have e1 : madeCells z.cells (n.toNat * i.size) = (Array.range (n.toNat * zs.length)).map (fun i => z.cells[i % z.cells.size]!) := by
     unfold madeCells
     rw [hsz,hb1]
    rw [e1]
    exact hzc
end
end Cp
namespace Cp
open Go
def Aq (es : List Val) (j : Nat) (vs : List Val) : List Val := es.take j ++ vs ++ es.drop (j + vs.length)
def Dd (T : Tab) (H : Hp) (t : TypeId) (a v : Val) : Option Up :=
 match T t,vcells v with
 | some ti,some vs =>
  if vs.length = ti.sz then
   match a with
   | .ptr k e sz i j =>
    match H k with
    | some (e',.arr sz' xss) =>
     if e = e' ∧ sz = sz' then
      match xss[i]? with
      | some es => if j + vs.length ≤ es.length then some (some (k,some (e,.arr sz (xss.set i (Aq es j vs))))) else none
      | none => none
     else none
    | _ => none
   | _ => none
  else none
 | _,_ => none
section
variable {P : Program} {T : Tab} {G G' : Gh} {w w' : World} {H H' : Hp}
theorem L2 (w : World) (b o : Nat) (v : Value) :
  (w.setCell ⟨b,o,none⟩ v).os = w.os ∧ ((w.setCell ⟨b,o,none⟩ v).tape = w.tape ∧ w.drawn ≤ (w.setCell ⟨b,o,none⟩ v).drawn) ∧ (w.setCell ⟨b,o,none⟩ v).output = w.output ∧ (w.setCell ⟨b,o,none⟩ v).heap.size = w.heap.size ∧
  (∀ b',b' ≠ b → (w.setCell ⟨b,o,none⟩ v).heap[b']? = w.heap[b']?) ∧
  ∀ cs ty fz,w.heap[b]? = some (.cells cs ty fz) → (w.setCell ⟨b,o,none⟩ v).heap[b]? = some (.cells (cs.setIfInBounds o v) ty fz) := by
 refine ⟨rfl,⟨rfl,Nat.le_refl _⟩,rfl,by simp [World.setCell],fun b' hb => Go.RowKit.Below.heap_setCell w _ v b' hb,fun cs ty fz h => ?_⟩
 simp only [World.setCell,Array.getElem?_modify,if_true,h,Option.map_some]
 simp
theorem DM (b : Nat) : ∀ (vs : List Value) (o : Nat) (w : World),
  (w.setCells b o vs).os = w.os ∧ ((w.setCells b o vs).tape = w.tape ∧ w.drawn ≤ (w.setCells b o vs).drawn) ∧ (w.setCells b o vs).output = w.output ∧ (w.setCells b o vs).heap.size = w.heap.size ∧
  (∀ b',b' ≠ b → (w.setCells b o vs).heap[b']? = w.heap[b']?) ∧
  ∀ cs ty fz,w.heap[b]? = some (.cells cs ty fz) → ∃ cs',(w.setCells b o vs).heap[b]? = some (.cells cs' ty fz) ∧ cs'.size = cs.size ∧
   ∀ p,cs'[p]? = if o ≤ p ∧ p < o + vs.length ∧ p < cs.size then vs[p - o]? else cs[p]?
 | [],o,w => ⟨rfl,⟨rfl,Nat.le_refl _⟩,rfl,rfl,fun _ _ => rfl,fun cs ty fz h => ⟨cs,h,rfl,fun p => by rw [if_neg (by simp; omega)]⟩⟩
 | v :: vs,o,w => by
  obtain ⟨a1,a2,a3,a4,a5,a6⟩ := L2 w b o v
  obtain ⟨b1,b2,b3,b4,b5,b6⟩ := DM b vs (o + 1) (w.setCell ⟨b,o,none⟩ v)
  simp only [World.setCells]
  refine ⟨b1.trans a1,⟨b2.1.trans a2.1,Nat.le_trans a2.2 b2.2⟩,b3.trans a3,b4.trans a4,fun b' hb => (b5 b' hb).trans (a5 b' hb),fun cs ty fz h => ?_⟩
  obtain ⟨cs',c1,c2,c3⟩ := b6 _ ty fz (a6 cs ty fz h)
  refine ⟨cs',c1,by rw [c2]; simp,fun p => ?_⟩
  rw [c3 p]
  simp only [Array.size_setIfInBounds,List.length_cons,Array.getElem?_setIfInBounds]
  by_cases hp : p = o
  ·subst hp
   rw [if_neg (by omega),if_pos rfl]
   by_cases hb : p < cs.size
   ·rw [if_pos hb,if_pos (by omega)]; simp
   ·rw [if_neg hb,if_neg (by omega),Array.getElem?_eq_none (Nat.le_of_not_lt hb)]
  ·by_cases hc : o + 1 ≤ p ∧ p < o + 1 + vs.length ∧ p < cs.size
   ·rw [if_pos hc,if_pos (by omega)]
    rw [show p - o = (p - (o + 1)) + 1 from by omega,List.getElem?_cons_succ]
   ·rw [if_neg hc,if_neg (fun e => hp e.symm),if_neg (by omega)]
theorem EH {w : World} {b o : Nat} {cs : Array Value} {ty : TypeId} {fz : Nat × Nat} (h : w.heap[b]? = some (.cells cs ty fz)) : w.cell? ⟨b,o,none⟩ = cs[o]? := by
 simp [World.cell?,h]
theorem Ls {w : World} {b o : Nat} {cs : Array Value} {ty : TypeId} (h : w.heap[b]? = some (.cells cs ty (0,0))) : w.frozen? ⟨b,o,none⟩ = false := by
 simp [World.frozen?,h]
theorem Tr.write (hR : HRel G w H) {k b e0 : Nat} {o0 : AObj} (hk : H k = some (e0,o0)) (ho : o0.owned = true) (hb : G.K k = some b) {E' N' : Nat → Nat} {e : Nat} {ao : AObj}
  (hE : ∀ k',k' ≠ k → E' k' = G.E k' ∧ N' k' = G.N k') (hk2 : (E' k = G.E k ∧ N' k = G.N k) ∨ (G.N k ≤ E' k ∧ G.N k ≤ N' k))
  (h1 : w'.os = w.os) (h2 : w'.tape = w.tape ∧ w.drawn ≤ w'.drawn) (h3 : w'.output = w.output) (h4 : w'.heap.size = w.heap.size) (h5 : ∀ b',b' ≠ b → w'.heap[b']? = w.heap[b']?) :
  Tr G H w { G with E := E',N := N' } (upd H k (some (e,ao))) w' where
 os := h1
 tape := h2
 output := h3
 size := by omega
 same := fun b' hb' hn => h5 b' (fun e => hn (e ▸ ⟨k,e0,o0,hk,ho,hb⟩))
 own := fun b' ⟨k',e',o',q1,q2,q3⟩ => by
  left
  by_cases hkk : k' = k
  ·subst hkk
   simp only at q3
   exact ⟨k',e0,o0,hk,ho,q3⟩
  ·rw [A0 _ _ hkk] at q1
   exact ⟨k',e',o',q1,q2,q3⟩
 I1 := fun b' h => h
 I2 := fun b' h => .inl h
 N := fun k' => by
  by_cases hkk : k' = k
  ·subst hkk
   rcases hk2 with ⟨_,q⟩ | ⟨_,q⟩
   ·exact Nat.le_of_eq q.symm
   ·exact q
  ·exact Nat.le_of_eq (hE k' hkk).2.symm
 eps := fun k' => by
  by_cases hkk : k' = k
  ·subst hkk
   rcases hk2 with ⟨q,_⟩ | ⟨q,_⟩
   ·exact .inl ⟨q,rfl,rfl⟩
   ·exact .inr q
  ·exact .inl ⟨(hE k' hkk).1,rfl,rfl⟩
 D := ⟨[],rfl⟩
theorem HRel.write (hR : HRel G w H) {k b e0 : Nat} {o0 : AObj} (hk : H k = some (e0,o0)) (ho : o0.owned = true) (hb : G.K k = some b) {E' N' : Nat → Nat} {e : Nat} {ao : AObj}
  (hE : ∀ k',k' ≠ k → E' k' = G.E k' ∧ N' k' = G.N k') (hk2 : (E' k = G.E k ∧ N' k = G.N k) ∨ (G.N k ≤ E' k ∧ G.N k ≤ N' k))
  (h1 : w'.os = w.os) (h2 : w'.tape = w.tape ∧ w.drawn ≤ w'.drawn) (h3 : w'.output = w.output) (h4 : w'.heap.size = w.heap.size) (h5 : ∀ b',b' ≠ b → w'.heap[b']? = w.heap[b']?)
  (he : E' k = e ∧ e < N' k) (hao : ORel { G with E := E',N := N' } w' k ao) (hni : ∀ km em ver left cur,ao ≠ .itr km em ver left cur) (hnm : ∀ ver es,ao ≠ .map ver es) :
  HRel { G with E := E',N := N' } w' (upd H k (some (e,ao))) := by
 have t := Tr.write (w' := w') (e := e) (ao := ao) hR hk ho hb hE hk2 h1 h2 h3 h4 h5
 refine hR.turn t rfl (fun k' hkk => A0 _ _ hkk) (fun k' hkk => ⟨(hE k' hkk).1,rfl,rfl⟩) (fun k' e' o' b' hkk q1 q2 => ?_) (fun e' o' q => ?_)
  (fun k1 e1 km em ver left cur e' es q1 q2 q3 hc => ?_) (fun e' o' b' q1 q2 q3 => .inr ⟨e0,o0,hk,ho,q3⟩) (fun b' hI => ?_)
 ·by_cases hbb : b' = b
  ·subst hbb
   cases hw : o'.owned with
   | true => exact (hkk (hR.inj k' k e' e0 o' o0 b' q1 hk hw ho q2 hb)).elim
   | false =>
    cases o' <;> simp [AObj.owned] at hw
    all_goals
     have hI := (hR.obj k' e' _ q1).2.2.2 b' q2
     exact ((hR.imm b' hI).2 ⟨k,e0,o0,hk,ho,hb⟩).elim
  ·exact h5 b' hbb
 ·rw [A4] at q
  cases q
  exact ⟨he.1,he.2,hao⟩
 ·exfalso
  by_cases hk1 : k1 = k
  ·subst hk1
   rw [A4] at q1
   cases q1
   exact hni _ _ _ _ _ rfl
  ·have hkm : km = k := hc.resolve_left hk1
   subst hkm
   rw [A4] at q2
   cases q2
   exact hnm _ _ rfl
 ·have := hR.imm b' hI
  refine ⟨by rw [h4]; exact this.1,fun hO => ?_⟩
  rcases t.own b' hO with q | q
  ·exact this.2 q
  ·omega
theorem KP {es vs : List Val} {j : Nat} (h : j + vs.length ≤ es.length) : (Aq es j vs).length = es.length := by
 simp [Aq]; omega
theorem NY {es vs : List Val} {j p : Nat} (h : j + vs.length ≤ es.length) : (Aq es j vs)[p]? = if j ≤ p ∧ p < j + vs.length then vs[p - j]? else es[p]? := by
 have ht : (es.take j).length = j := by simp; omega
 unfold Aq
 by_cases c1 : p < j
 ·rw [if_neg (by omega),List.append_assoc,List.getElem?_append_left (by omega),List.getElem?_take,if_pos c1]
 ·by_cases c2 : p < j + vs.length
  ·rw [if_pos (by omega),List.getElem?_append_left (by simp; omega),List.getElem?_append_right (by omega),ht]
  ·rw [if_neg (by omega),List.getElem?_append_right (by simp; omega),List.getElem?_drop]
   congr 1
   simp; omega
theorem Qj {t : TypeId} {a v : Val} {x y : Value} {u : Up} (hT : Ad P T) (hR : HRel G w H) (ha : VR G w a x) (hv : VR G w v y) (h : Dd T H t a v = some u) :
  ∃ w' G',(Instr.storeAt t x y).run P w = .ok () w' ∧ Tr G H w G' (app H u) w' ∧ HRel G' w' (app H u) ∧ GD G G' u := by
 unfold Dd at h
 cases ht : T t with
 | none => rw [ht] at h; cases h
 | some ti =>
  cases hc : vcells v with
  | none => rw [ht,hc] at h; cases h
  | some vs =>
   rw [ht,hc] at h
   simp only at h
   by_cases hl : vs.length = ti.sz
   case neg => rw [if_neg hl] at h; cases h
   rw [if_pos hl] at h
   cases a <;> simp only at h <;> try (cases h; done)
   rename_i k e sz i j
   cases hk : H k with
   | none => rw [hk] at h; cases h
   | some p =>
    obtain ⟨e',o⟩ := p
    rw [hk] at h
    cases o <;> simp only at h <;> try (cases h; done)
    rename_i sz' xss
    by_cases hee : e = e' ∧ sz = sz'
    case neg => rw [if_neg hee] at h; cases h
    rw [if_pos hee] at h
    obtain ⟨rfl,rfl⟩ := hee
    cases hi : xss[i]? with
    | none => rw [hi] at h; cases h
    | some es =>
     rw [hi] at h
     simp only at h
     by_cases hj : j + vs.length ≤ es.length
     case neg => rw [if_neg hj] at h; cases h
     rw [if_pos hj] at h
     cases h
     obtain ⟨hE,hN,hrow⟩ := hR.obj k e _ hk
     have hilt := (List.getElem?_eq_some_iff.1 hi).1
     have hes := hrow.1 i es hi
     have hr2 := hrow.2
     cases hK : G.K k with
     | none => rw [hK] at hr2; rw [hr2.1] at hilt; simp at hilt
     | some b =>
      rw [hK] at hr2
      obtain ⟨⟨cs,ty,hb,hsz⟩,hcap,hmem⟩ := hr2
      cases ha with
      | ptr _ _ _ _ _ a' he hp =>
       obtain ⟨b',hb',rfl⟩ := hp hE
       rw [hK] at hb'
       cases hb'
       have hcr := hv.cells hc
       have hcl := hcr.1
       obtain ⟨ii,hii,hszi,_⟩ := (hT t ti ht).infos
       have hin : i * sz + j + vs.length ≤ cs.size := by
        rw [hsz]
        have : (i + 1) * sz ≤ G.C k * sz := Nat.mul_le_mul_right _ (by omega)
        rw [Nat.add_mul] at this
        omega
       obtain ⟨s1,s2,s3,s4,s5,s6⟩ := DM b y.cells.toList (i * sz + j) w
       obtain ⟨cs',c1,c2,c3⟩ := s6 cs ty (0,0) hb
       have hrun : (Instr.storeAt t (.pointer (some ⟨b,i * sz + j,none⟩)) y).run P w = .ok () (w.setCells b (i * sz + j) y.cells.toList) := by
        have hs : ¬ (y.cells.size ≠ ii.size) := by simp only [Array.length_toList] at hcl; omega
        have hst := run_storeCells_cells (P := P) b (i * sz + j) y.cells.toList 0 w (fun q hq => by
          rw [EH hb,Nat.add_zero,Array.getElem?_eq_getElem (by omega)]; rfl) (fun q hq => Ls hb) (fun u hu => by
          obtain ⟨q,hq,hqe⟩ := List.getElem_of_mem hu
          have hq' : q < vs.length := by omega
          obtain ⟨y',r1,r2,r3⟩ := hcr.2 q vs[q] (List.getElem?_eq_getElem hq')
          rw [List.getElem?_eq_getElem hq,hqe] at r1
          cases r1
          exact r3.oneCell r2)
        simp only [Nat.add_zero] at hst
        simp only [Instr.storeAt,Instr.sureAddr,Sem.run_bind,Sem.run_pure,Result.andThen,storeVar,AN hii]
        rw [if_neg hs]
        exact hst
       have hsame : ∀ k',k' ≠ k → G.E k' = G.E k' ∧ G.N k' = G.N k' := fun _ _ => ⟨rfl,rfl⟩
       have tt := Tr.write (w' := w.setCells b (i * sz + j) y.cells.toList) (e := e) (ao := .arr sz (xss.set i (Aq es j vs))) hR hk rfl hK hsame (.inl ⟨rfl,rfl⟩) s1 s2 s3 s4 s5
       refine ⟨_,{ G with E := G.E,N := G.N },hrun,tt,?_,.same rfl rfl⟩
       refine hR.write hk rfl hK hsame (.inl ⟨rfl,rfl⟩) s1 s2 s3 s4 s5 ⟨hE,hN⟩ ⟨fun i' es' hi' => ?_,?_⟩ (fun _ _ _ _ _ h => by cases h) (fun _ _ h => by cases h)
       ·rw [List.getElem?_set] at hi'
        split at hi'
        ·cases hi'; rw [KP hj]; exact hes
        ·exact hrow.1 i' es' hi'
       ·rw [show ({ G with E := G.E,N := G.N } : Gh).K k = some b from hK]
        refine ⟨⟨cs',ty,c1,by rw [c2]; exact hsz⟩,by simpa using hcap,fun i' es' hi' q v' hq => ?_⟩
        have mono : ∀ {v x},VR G w v x → VR { G with E := G.E,N := G.N } (w.setCells b (i * sz + j) y.cells.toList) v x := fun h => h.mono hR.imm tt
        rw [EH c1,c3]
        by_cases hii' : i' = i
        ·subst hii'
         rw [List.getElem?_set_self hilt] at hi'
         cases hi'
         rw [NY hj] at hq
         by_cases hr : j ≤ q ∧ q < j + vs.length
         ·rw [if_pos hr] at hq
          obtain ⟨y',r1,r2,r3⟩ := hcr.2 _ v' hq
          rw [if_pos (by omega)]
          exact ⟨y',by rw [← r1]; congr 1; omega,r2,mono r3⟩
         ·rw [if_neg hr] at hq
          obtain ⟨y',r1,r2,r3⟩ := hmem i' es hi q v' hq
          rw [EH hb] at r1
          rw [if_neg (by omega)]
          exact ⟨y',r1,r2,mono r3⟩
        ·rw [List.getElem?_set_ne (fun e => hii' e.symm)] at hi'
         obtain ⟨y',r1,r2,r3⟩ := hmem i' es' hi' q v' hq
         rw [EH hb] at r1
         have hql := (List.getElem?_eq_some_iff.1 hq).1
         have hesl := hrow.1 i' es' hi'
         have : ¬ (i * sz + j ≤ i' * sz + q ∧ i' * sz + q < i * sz + j + y.cells.toList.length ∧ i' * sz + q < cs.size) := by
          intro ⟨g1,g2,_⟩
          rcases Nat.lt_or_gt_of_ne hii' with hlt | hgt
          ·have : (i' + 1) * sz ≤ i * sz := Nat.mul_le_mul_right _ hlt
           rw [Nat.add_mul] at this; omega
          ·have : (i + 1) * sz ≤ i' * sz := Nat.mul_le_mul_right _ hgt
           rw [Nat.add_mul] at this; omega
         rw [if_neg this]
         exact ⟨y',r1,r2,mono r3⟩
end
end Cp
namespace Cp
open Go
def Cq (H : Hp) (sz : Nat) : Val → Option (List (List Val))
 | .lst s xss => if s = sz then some xss else none
 | .exl s xss => if s = sz then some xss else none
 | .nils => some []
 | .gr k e n =>
  match H k with
  | some (e',.arr s xss) => if e = e' ∧ s = sz ∧ n = xss.length then some xss else none
  | some (e',.fro s xss) => if e = e' ∧ s = sz ∧ n = xss.length then some xss else none
  | _ => none
 | _ => none
def AF (T : Tab) (H : Hp) (own : Bool) (k0 : Nat) (ep : Nat → Nat) (t tx : TypeId) (s x : Val) : Option (Val × Up) :=
 match T t with
 | some { kind := .slice et,.. } =>
  match T et with
  | some ei =>
   match vcells ei.zero,Cq H ei.sz x with
   | some zs,some yss =>
    if zs.length = ei.sz ∧ 0 < ei.sz ∧ ei.bytes ≤ 4096 ∧ tx = t then
     match s with
     | .gr k e n =>
      match H k with
      | some (e',.arr sz xss) =>
       if e = e' ∧ sz = ei.sz ∧ n = xss.length ∧ n + yss.length ≤ 1073741824 then some (.gr k (ep k) (n + yss.length),some (k,some (ep k,.arr sz (xss ++ yss)))) else none
      | _ => none
     | .nils =>
      if yss.length ≤ 1073741824 then
       if own then (if yss.length = 0 then none else some (.gr k0 (ep k0) yss.length,some (k0,some (ep k0,.arr ei.sz yss))))
       else some (.lst ei.sz yss,none)
      else none
     | .exl sz xss => if sz = ei.sz ∧ xss.length + yss.length ≤ 1073741824 ∧ own = false then some (.lst sz (xss ++ yss),none) else none
     | _ => none
    else none
   | _,_ => none
  | none => none
 | _ => none
section
variable {P : Program} {T : Tab} {G G' : Gh} {w w' : World} {H H' : Hp}
theorem DQ {sz : Nat} : ∀ {xss : List (List Val)},(∀ (i : Nat) (es : List Val),xss[i]? = some es → es.length = sz) → xss.flatten.length = xss.length * sz
 | [],_ => by simp
 | es :: xss,h => by
  have h1 := h 0 es rfl
  have h2 := DQ (xss := xss) (fun i es hi => h (i + 1) es (by simpa using hi))
  simp only [List.flatten_cons,List.length_append,List.length_cons,h1,h2,Nat.add_mul]
  omega
theorem D7 {sz : Nat} : ∀ {xss : List (List Val)} (i j : Nat) (es : List Val) (v : Val),(∀ (i : Nat) (es : List Val),xss[i]? = some es → es.length = sz) → xss[i]? = some es → es[j]? = some v → xss.flatten[i * sz + j]? = some v
 | [],i,j,es,v,_,h,_ => by simp at h
 | es0 :: xss,i,j,es,v,hl,hi,hj => by
  have h0 := hl 0 es0 rfl
  cases i with
  | zero =>
   simp only [List.getElem?_cons_zero,Option.some.injEq] at hi
   subst hi
   have := (List.getElem?_eq_some_iff.1 hj).1
   simp only [List.flatten_cons,Nat.zero_mul,Nat.zero_add]
   rw [List.getElem?_append_left this]
   exact hj
  | succ i =>
   simp only [List.getElem?_cons_succ] at hi
   have := D7 i j es v (fun i es hi => hl (i + 1) es (by simpa using hi)) hi hj
   simp only [List.flatten_cons]
   rw [List.getElem?_append_right (by rw [h0,Nat.add_mul]; omega)]
   rw [← this]
   congr 1
   rw [h0,Nat.add_mul]; omega
theorem NT {sz : Nat} (hsz : 0 < sz) {xss : List (List Val)} (hl : ∀ (i : Nat) (es : List Val),xss[i]? = some es → es.length = sz) {p : Nat} {v : Val} (h : xss.flatten[p]? = some v) :
  ∃ es,xss[p / sz]? = some es ∧ es[p % sz]? = some v := by
 have hlt := (List.getElem?_eq_some_iff.1 h).1
 rw [DQ hl] at hlt
 have hd : p / sz < xss.length := by rw [Nat.div_lt_iff_lt_mul hsz]; exact hlt
 refine ⟨xss[p / sz],List.getElem?_eq_getElem hd,?_⟩
 have hes := hl _ _ (List.getElem?_eq_getElem hd)
 have hm : p % sz < (xss[p / sz]).length := by rw [hes]; exact Nat.mod_lt _ hsz
 have := D7 (p / sz) (p % sz) _ _ hl (List.getElem?_eq_getElem hd) (List.getElem?_eq_getElem hm)
 rw [Nat.mul_comm,Nat.div_add_mod] at this
 rw [this] at h
 rw [List.getElem?_eq_getElem hm]
 exact h
theorem ER.flat {b off sz : Nat} {xss : List (List Val)} (hsz : 0 < sz) (hl : ∀ (i : Nat) (es : List Val),xss[i]? = some es → es.length = sz) (h : ER G w b off sz xss) :
  ∃ news : List Value,news.length = xss.length * sz ∧ CR G w xss.flatten news ∧ ∀ j u,news[j]? = some u → w.cell? ⟨b,off + j,none⟩ = some u := by
 have hx : ∀ p : Nat,∃ y : Value,∀ v,xss.flatten[p]? = some v → w.cell? ⟨b,off + p,none⟩ = some y ∧ v.cell = true ∧ VR G w v y := fun p => by
  cases hp : xss.flatten[p]? with
  | none => exact ⟨default,fun v hv => by cases hv⟩
  | some v =>
   obtain ⟨es,h1,h2⟩ := NT hsz hl hp
   obtain ⟨y,q1,q2,q3⟩ := h _ es h1 _ v h2
   have e1 : off + p / sz * sz + p % sz = off + p := by
    have := Nat.div_add_mod p sz
    rw [Nat.mul_comm] at this
    omega
   rw [e1] at q1
   exact ⟨y,fun v' hv' => by cases hv'; exact ⟨q1,q2,q3⟩⟩
 obtain ⟨ys,hys⟩ := Classical.axiomOfChoice hx
 have hlen := DQ hl
 refine ⟨(List.range (xss.length * sz)).map ys,by simp,⟨by simp [hlen],fun p v hp => ?_⟩,fun p u hu => ?_⟩
 ·have hlt := (List.getElem?_eq_some_iff.1 hp).1
  rw [hlen] at hlt
  exact ⟨ys p,by simp [hlt],(hys p v hp).2⟩
 ·have hlt := (List.getElem?_eq_some_iff.1 hu).1
  simp only [List.length_map,List.length_range] at hlt
  have hv : xss.flatten[p]? = some (xss.flatten[p]'(by omega)) := List.getElem?_eq_getElem (by omega)
  simp only [List.getElem?_map,List.getElem?_range hlt,Option.map_some,Option.some.injEq] at hu
  rw [← hu]
  exact (hys p _ hv).1
structure Src (G : Gh) (w : World) (sz : Nat) (xss : List (List Val)) (x : Value) where
 a : Option Addr
 c : Nat
 news : List Value
 eq : x = .slice a xss.length c
 cap : xss.length ≤ c
 len : ∀ (i : Nat) (es : List Val),xss[i]? = some es → es.length = sz
 news_len : news.length = xss.length * sz
 cr : CR G w xss.flatten news
 hnone : a = none → xss = []
 mem : ∀ ad,a = some ad → ∀ j u,news[j]? = some u → w.cell? (ad.add j) = some u
theorem Src.nil {sz : Nat} {a : Option Addr} {c : Nat} : Nonempty (Src G w sz [] (.slice a 0 c)) :=
 ⟨{ a,c,news := [],eq := rfl,cap := Nat.zero_le _,len := (fun i es h => by simp at h),news_len := by simp,cr := ⟨rfl,fun j v h => by simp at h⟩,hnone := fun _ => rfl,mem := (fun ad _ j u h => by simp at h) }⟩
theorem Src.of {sz b off c : Nat} {xss : List (List Val)} (hsz : 0 < sz) (hl : ∀ (i : Nat) (es : List Val),xss[i]? = some es → es.length = sz) (h : ER G w b off sz xss) (hc : xss.length ≤ c) :
  Nonempty (Src G w sz xss (.slice (some ⟨b,off,none⟩) xss.length c)) := by
 obtain ⟨news,h1,h2,h3⟩ := h.flat hsz hl
 exact ⟨{ a := some ⟨b,off,none⟩,c,news,eq := rfl,cap := hc,len := hl,news_len := h1,cr := h2,hnone := (fun e => by cases e),mem := (fun ad e j u hu => by cases e; rw [AU]; exact h3 j u hu) }⟩
theorem QJ {sz : Nat} {v : Val} {x : Value} {xss : List (List Val)} (hR : HRel G w H) (hsz : 0 < sz) (hv : VR G w v x) (h : Cq H sz v = some xss) : Nonempty (Src G w sz xss x) := by
 have lcase : ∀ (s : Nat) (yss : List (List Val)) a c,x = .slice a yss.length c → yss.length ≤ c → (∀ (i : Nat) (es : List Val),yss[i]? = some es → es.length = s) →
   (yss ≠ [] → ∃ b off,a = some ⟨b,off,none⟩ ∧ G.I b ∧ ER G w b off s yss) → (if s = sz then some yss else none) = some xss → Nonempty (Src G w sz xss x) := by
  intro s yss a c hx hc hl ha h
  by_cases hs : s = sz
  case neg => rw [if_neg hs] at h; cases h
  rw [if_pos hs] at h
  cases h
  subst hs
  by_cases hn : xss = []
  ·subst hn; rw [hx]; exact Src.nil
  ·obtain ⟨b,off,rfl,_,hE⟩ := ha hn
   rw [hx]
   exact Src.of hsz hl hE hc
 have gcase : ∀ (k e n e' s : Nat) (yss : List (List Val)),VR G w (.gr k e n) x → G.E k = e' → Row G w k s yss → (if e = e' ∧ s = sz ∧ n = yss.length then some yss else none) = some xss → Nonempty (Src G w sz xss x) := by
  intro k e n e' s yss hv hE hrow h
  by_cases hc : e = e' ∧ s = sz ∧ n = yss.length
  case neg => rw [if_neg hc] at h; cases h
  rw [if_pos hc] at h
  cases h
  obtain ⟨rfl,rfl,rfl⟩ := hc
  cases hv with
  | gr _ _ _ a c he hp =>
   have hh := hp hE
   have hr := hrow.2
   unfold Gh.handle at hh
   cases hK : G.K k with
   | none =>
    rw [hK] at hr
    obtain ⟨rfl,_⟩ := hr
    exact Src.nil
   | some b =>
    rw [hK] at hh hr
    injection hh with h1 h2 h3
    subst h1 h3
    exact Src.of hsz hrow.1 (fun i es hi => by rw [Nat.zero_add]; exact hr.2.2 i es hi) hr.2.1
 unfold Cq at h
 cases v <;> simp only at h <;> try (cases h; done)
 ·cases h
  cases hv
  exact Src.nil
 ·rename_i s yss
  obtain ⟨a,c,h1,h2,h3,h4⟩ := hv.lst_inv
  exact lcase s yss a c h1 h2 h3 h4 h
 ·rename_i s yss
  obtain ⟨a,h1,h3,h4⟩ := hv.exl_inv
  exact lcase s yss a _ h1 (Nat.le_refl _) h3 h4 h
 ·rename_i k e n
  cases hk : H k with
  | none => rw [hk] at h; cases h
  | some p =>
   obtain ⟨e',o⟩ := p
   rw [hk] at h
   obtain ⟨h1,_,h3⟩ := hR.obj k e' o hk
   cases o <;> simp only at h <;> try (cases h; done)
   ·exact gcase k e n e' _ _ hv h1 h3 h
   ·exact gcase k e n e' _ _ hv h1 h3.1 h
theorem HRel.drew (hR : HRel G w H) : HRel G w.drew H := by
 refine hR.still (w' := w.drew) ?_ rfl (fun _ => ⟨rfl,rfl,rfl⟩) (fun _ _ => rfl) (fun b hb => hR.imm b hb)
 exact (Tr.refl G H w).drawn _ (Nat.le_succ _)
theorem Tr.drew : Tr G H w G H w.drew := (Tr.refl G H w).drawn _ (Nat.le_succ _)
theorem CR.append {cs ds : List Val} {ys zs : List Value} (h : CR G w cs ys) (k : CR G w ds zs) : CR G w (cs ++ ds) (ys ++ zs) := by
 refine ⟨by simp [h.1,k.1],fun j v hj => ?_⟩
 by_cases hl : j < cs.length
 ·rw [List.getElem?_append_left hl] at hj
  rw [List.getElem?_append_left (by rw [h.1]; exact hl)]
  exact h.2 j v hj
 ·rw [List.getElem?_append_right (by omega)] at hj
  rw [List.getElem?_append_right (by rw [h.1]; omega),h.1]
  exact k.2 _ v hj
theorem Row.new2 (hR : HRel G w H) {k e c sz : Nat} {xss : List (List Val)} {ys : Array Value} {ty : TypeId} (he : G.N k ≤ e) (hl : ∀ (i : Nat) (es : List Val),xss[i]? = some es → es.length = sz)
  (hc : CR G w xss.flatten (ys.toList.take (xss.length * sz))) (hs : ys.size = c * sz) (hcap : xss.length ≤ c) :
  Row (G.lay k w.heap.size c e) (w.alloc (.cells ys ty (0,0))) k sz xss := by
 refine ⟨hl,?_⟩
 have hK : (G.lay k w.heap.size c e).K k = some w.heap.size := by simp [Gh.lay]
 have hC : (G.lay k w.heap.size c e).C k = c := by simp [Gh.lay]
 rw [hK,hC]
 refine ⟨⟨ys,ty,World.alloc_heap_new w _,hs⟩,hcap,fun i es hi j v hj => ?_⟩
 have hf := D7 i j es v hl hi hj
 obtain ⟨y,q1,q2,q3⟩ := hc.2 _ v hf
 rw [List.getElem?_take] at q1
 split at q1
 ·exact ⟨y,by rw [GP]; simpa using q1,q2,q3.mono hR.imm (Tr.lay hR k c e _ (.arr sz xss) he)⟩
 ·cases q1
theorem ER.new2 (hR : HRel G w H) {sz : Nat} {xss : List (List Val)} {ys : Array Value} {ty : TypeId} (hl : ∀ (i : Nat) (es : List Val),xss[i]? = some es → es.length = sz)
  (hc : CR G w xss.flatten (ys.toList.take (xss.length * sz))) : ER (G.imm w.heap.size) (w.alloc (.cells ys ty (0,0))) w.heap.size 0 sz xss := by
 intro i es hi j v hj
 have hf := D7 i j es v hl hi hj
 obtain ⟨y,q1,q2,q3⟩ := hc.2 _ v hf
 rw [List.getElem?_take] at q1
 split at q1
 ·exact ⟨y,by rw [GP,Nat.zero_add]; simpa using q1,q2,q3.mono hR.imm (Tr.imm hR _)⟩
 ·cases q1
theorem Iu {t et : TypeId} {i : TypeInfo} {z : Value} {sz n : Nat} {olds : List Value} {xss yss : List (List Val)} {base : Option Addr} {cap : Nat} {x : Value} (ty : TypeId)
  (ht : P.underlying t = some (.slice et)) (hi : P.info? et = some i) (hz : i.zero = some z) (hsz : i.size = sz) (hzs : z.cells.size = sz) (hby : i.bytes ≤ 4096)
  (hlo : olds.length = n * sz) (hb : base = none → n = 0 ∧ cap = 0) (holds : ∀ ad,base = some ad → ∀ j u,olds[j]? = some u → w.cell? (ad.add j) = some u) (s : Src G w sz yss x)
  (hg : cap < n + yss.length) (hle : n ≤ cap) (hbig : n + yss.length ≤ 1073741824) :
  ∃ c' ys,(Builtin.append_ #[t,t] ty #[.slice base n cap,x]).run P w = .ok (.slice (some ⟨w.heap.size,0,none⟩) (n + yss.length) c') (w.drew.alloc (.cells ys et (0,0))) ∧
   n + yss.length ≤ c' ∧ ys.size = c' * sz ∧ ys.toList.take ((n + yss.length) * sz) = olds ++ s.news := by
 have hy : yss ≠ [] := by intro h; rw [h] at hg; simp at hg; omega
 cases ha : s.a with
 | none => exact (hy (s.hnone ha)).elim
 | some a =>
  have hx := s.eq
  rw [ha] at hx
  have hnl : s.news.length = yss.length * i.size := by rw [hsz]; exact s.news_len
  have hmul : (n + yss.length) * i.bytes ≤ 140737488355328 := by
   have h1 : (n + yss.length) * i.bytes ≤ 1073741824 * 4096 := Nat.mul_le_mul hbig hby
   omega
  cases hbase : base with
  | none =>
   obtain ⟨rfl,rfl⟩ := hb hbase
   simp only [Nat.zero_add] at hmul hg ⊢
   have holds0 : olds = [] := List.eq_nil_of_length_eq_zero (by simpa using hlo)
   have hr := run_append_nil (P := P) w t ty et i z ht hi hz a yss.length s.c s.news hnl (s.mem a ha) hg (by omega) (by omega)
   rw [← hx] at hr
   refine ⟨_,_,hr,grownCap_ge w _ _ _,?_,?_⟩
   ·have hge := grownCap_ge w yss.length 0 et
    simp only [Array.size_append,List.size_toArray,size_zeroCells,hzs,hnl,hsz,← Nat.add_mul]
    congr 1
    omega
   ·rw [holds0]
    simp only [Array.toList_append,List.nil_append]
    rw [← s.news_len]
    exact List.take_left
  | some ad =>
   have hr := run_append_grow (P := P) w t ty et i z ht hi hz ad n cap olds (by rw [hsz]; exact hlo) (holds ad hbase) a yss.length s.c s.news hnl (s.mem a ha) hg (by omega) (growslice_fits hg hmul)
   rw [← hx] at hr
   refine ⟨_,_,hr,grownCap_ge w _ _ _,?_,?_⟩
   ·have hge := grownCap_ge w (n + yss.length) cap et
    simp only [Array.size_append,List.size_toArray,size_zeroCells,hzs,hlo,hnl,hsz,← Nat.add_mul]
    congr 1
    omega
   ·simp only [Array.toList_append,List.append_assoc]
    rw [← List.append_assoc]
    have : (olds ++ s.news).length = (n + yss.length) * sz := by rw [List.length_append,hlo,hnl,hsz,Nat.add_mul]
    rw [← this]
    exact List.take_left
theorem R2 {t et : TypeId} {i : TypeInfo} {sz n b off : Nat} {yss : List (List Val)} {cap : Nat} {x : Value} (ty : TypeId)
  (ht : P.underlying t = some (.slice et)) (hi : P.info? et = some i) (hsz : i.size = sz) (s : Src G w sz yss x)
  (hroom : n + yss.length ≤ cap) (hc : ∀ j,j < s.news.length → (w.cell? ⟨b,off + n * sz + j,none⟩).isSome = true) (hf : ∀ j,j < s.news.length → w.frozen? ⟨b,off + n * sz + j,none⟩ = false) :
  (Builtin.append_ #[t,t] ty #[.slice (some ⟨b,off,none⟩) n cap,x]).run P w = .ok (.slice (some ⟨b,off,none⟩) (n + yss.length) cap) (w.setCells b (off + n * sz) s.news) := by
 have hnl : s.news.length = yss.length * i.size := by rw [hsz]; exact s.news_len
 have hx := s.eq
 have h1 : ∀ u ∈ s.news,u.oneCell' = true := fun u hu => by
  obtain ⟨q,hq,hqe⟩ := List.getElem_of_mem hu
  have hq' : q < yss.flatten.length := by rw [← s.cr.1]; exact hq
  obtain ⟨y',r1,r2,r3⟩ := s.cr.2 q _ (List.getElem?_eq_getElem hq')
  rw [List.getElem?_eq_getElem hq,hqe] at r1
  cases r1
  exact r3.oneCell r2
 cases ha : s.a with
 | some a =>
  rw [ha] at hx
  have := run_append_room_cells (P := P) w t ty et i ht hi b off n cap a yss.length s.c s.news hnl (s.mem a ha) h1 hroom (by rw [hsz]; exact hc) (by rw [hsz]; exact hf)
  rw [← hx,hsz] at this
  exact this
 | none =>
  have hy := s.hnone ha
  rw [ha] at hx
  subst hy
  have hnn : s.news = [] := List.eq_nil_of_length_eq_zero (by simpa using hnl)
  rw [hnn,hx]
  have hst := run_storeCells_cells (P := P) b (off + n * sz) [] 0 w (by simp) (by simp) (by simp)
  simp only [List.length_nil,Nat.add_zero] at hroom hst ⊢
  simp [Builtin.append_,run_underlying ht,AN hi,Builtin.lenOf,hroom,run_firstCells_none,AU,hsz,storeCells,World.setCells,Result.andThen]
theorem KF {t et : TypeId} {i : TypeInfo} {base : Option Addr} {n cap : Nat} {x : Value} {sz : Nat} (ty : TypeId) (ht : P.underlying t = some (.slice et)) (hi : P.info? et = some i) (hle : n ≤ cap) (s : Src G w sz [] x) :
  (Builtin.append_ #[t,t] ty #[.slice base n cap,x]).run P w = .ok (.slice base n cap) w := by
 have hx := s.eq
 rw [hx]
 have hf : (Builtin.firstCells i.size 0 (.slice s.a 0 s.c)).run P w = .ok #[] w := by
  cases s.a with
  | none => exact run_firstCells_none w i.size 0 0 s.c
  | some a => simp [Builtin.firstCells,loadCells,loadCellsFrom]
 cases base <;> simp [Builtin.append_,run_underlying ht,AN hi,Builtin.lenOf,hle,hf,storeCells,Result.andThen]
end
end Cp
namespace Cp
open Go
section
variable {P : Program} {T : Tab} {G G' : Gh} {w w' : World} {H H' : Hp}
theorem Does.trans_drew {s : Sem Value} {v : Val} {u : Up} {x : Value} {w1 : World} {G1 : Gh} (hR : HRel G w H) (hrun : s.run P w = .ok x w1)
  (t : Tr G H w.drew G1 (app H u) w1) (h : HRel G1 w1 (app H u)) (hD : GD G G1 u) (hv : VR G1 w1 v x) : Does P G w H s v u :=
 ⟨x,w1,G1,hrun,Tr.trans (Tr.drew (H := H)) t,h,hD,hv⟩
def _root_.Cp.Gh.unb (G : Gh) (k e : Nat) : Gh := { G with K := upd G.K k none,C := upd G.C k 0,E := upd G.E k e,N := upd G.N k (e + 1) }
theorem Tr.unb {k e : Nat} (he : G.N k ≤ e) (ao : AObj) : Tr G H w (G.unb k e) (upd H k (some (e,ao))) w where
 os := rfl
 tape := ⟨rfl,Nat.le_refl _⟩
 output := rfl
 size := Nat.le_refl _
 same := fun _ _ _ => rfl
 own := fun b ⟨k',e',o',h1,h2,h3⟩ => by
  by_cases hk : k' = k
  ·subst hk; simp [Gh.unb] at h3
  ·rw [A0 _ _ hk] at h1
   simp only [Gh.unb] at h3
   rw [A0 _ _ hk] at h3
   exact .inl ⟨k',e',o',h1,h2,h3⟩
 I1 := fun b h => h
 I2 := fun b h => .inl h
 N := fun k' => by
  by_cases hk : k' = k
  ·subst hk; simp only [Gh.unb,A4]; omega
  ·simp only [Gh.unb]; rw [A0 _ _ hk]; exact Nat.le_refl _
 eps := fun k' => by
  by_cases hk : k' = k
  ·subst hk; right; simp only [Gh.unb,A4]; exact he
  ·left; simp only [Gh.unb]; rw [A0 _ _ hk,A0 _ _ hk,A0 _ _ hk]; exact ⟨rfl,rfl,rfl⟩
 D := ⟨[],rfl⟩
theorem HRel.unb (hR : HRel G w H) {k e sz : Nat} (he : G.N k ≤ e) : HRel (G.unb k e) w (upd H k (some (e,.arr sz []))) := by
 have t := Tr.unb (H := H) (w := w) (k := k) he (.arr sz [])
 refine hR.turn t rfl (fun k' hk => A0 _ _ hk) (fun k' hk => by simp only [Gh.unb]; rw [A0 _ _ hk,A0 _ _ hk,A0 _ _ hk]; exact ⟨rfl,rfl,rfl⟩) (fun _ _ _ _ _ _ _ => rfl) (fun e' o' q => ?_)
  (fun k1 e1 km em ver left cur e' es q1 q2 q3 hc => ?_) (fun e' o' b' q1 q2 q3 => by simp [Gh.unb] at q3) (fun b' hI => ?_)
 ·rw [A4] at q
  cases q
  exact ⟨by simp [Gh.unb],by simp [Gh.unb],fun i es h => by simp at h,by simp [Gh.unb]⟩
 ·exfalso
  by_cases hk1 : k1 = k
  ·subst hk1; rw [A4] at q1; cases q1
  ·have hkm : km = k := hc.resolve_left hk1
   subst hkm; rw [A4] at q2; cases q2
 ·have := hR.imm b' hI
  refine ⟨this.1,fun hO => ?_⟩
  rcases t.own b' hO with q | q
  ·exact this.2 q
  ·omega
theorem GK {α : Type} {xs ys : List α} {i : Nat} {a : α} (h : (xs ++ ys)[i]? = some a) : xs[i]? = some a ∨ ∃ j,i = xs.length + j ∧ ys[j]? = some a := by
 by_cases hl : i < xs.length
 ·rw [List.getElem?_append_left hl] at h; exact .inl h
 ·rw [List.getElem?_append_right (by omega)] at h; exact .inr ⟨i - xs.length,by omega,h⟩
theorem OI {own : Bool} {k0 : Nat} {ep : Nat → Nat} {t tx : TypeId} {s x v : Val} {ys yx : Value} {u : Up} (ty : TypeId) (hT : Ad P T) (hR : HRel G w H) (hep : ∀ k,G.N k ≤ ep k)
  (hs : VR G w s ys) (hx : VR G w x yx) (h : AF T H own k0 ep t tx s x = some (v,u)) : Does P G w H (Builtin.append_ #[t,tx] ty #[ys,yx]) v u := by
 unfold AF at h
 cases ht : T t with
 | none => rw [ht] at h; cases h
 | some ti =>
  rw [ht] at h
  obtain ⟨kind,sz0,bytes0,zero0,plain0⟩ := ti
  obtain ⟨d,hd,hk⟩ := (hT t _ ht).under
  cases kind <;> simp only at h hk <;> try (cases h; done)
  rename_i et
  rw [Bb hk] at hd
  cases het : T et with
  | none => rw [het] at h; cases h
  | some ei =>
   rw [het] at h
   simp only at h
   cases hz : vcells ei.zero with
   | none => rw [hz] at h; cases h
   | some zs =>
    cases hxe : Cq H ei.sz x with
    | none => rw [hz,hxe] at h; cases h
    | some yss =>
     rw [hz,hxe] at h
     simp only at h
     by_cases hb : zs.length = ei.sz ∧ 0 < ei.sz ∧ ei.bytes ≤ 4096 ∧ tx = t
     case neg => rw [if_neg hb] at h; cases h
     rw [if_pos hb] at h
     obtain ⟨hb1,hb2,hb3,rfl⟩ := hb
     obtain ⟨i,hi,hsz,hby,z,hz1,hz2⟩ := (hT et ei het).infos
     have hzc : CR G w zs z.cells.toList := VR.cells (hz2 ▸ Ec z) hz
     have hzs : z.cells.size = ei.sz := by have := hzc.1; simp only [Array.length_toList] at this; omega
     obtain ⟨src⟩ := QJ hR hb2 hx hxe
     have hRd := hR.drew
     have fresh : ∀ (xss : List (List Val)) (ysA : Array Value) (c' : Nat) (olds : List Value),(∀ (i : Nat) (es : List Val),(xss ++ yss)[i]? = some es → es.length = ei.sz) → CR G w xss.flatten olds →
       ysA.toList.take ((xss.length + yss.length) * ei.sz) = olds ++ src.news → CR G w.drew (xss ++ yss).flatten (ysA.toList.take ((xss ++ yss).length * ei.sz)) := by
      intro xss ysA c' olds hl ho htk
      rw [List.length_append,htk,List.flatten_append]
      have := ho.append src.cr
      exact ⟨this.1,fun j v hj => let ⟨y,q1,q2,q3⟩ := this.2 j v hj; ⟨y,q1,q2,q3.mono hR.imm (Tr.drew (H := H))⟩⟩
     cases s <;> simp only at h <;> try (cases h; done)
     ·
      by_cases hbig : yss.length ≤ 1073741824
      case neg => rw [if_neg hbig] at h; cases h
      rw [if_pos hbig] at h
      cases hs with
      | nils a =>
       have hgrow : 0 < yss.length → ∃ c' ysA,(Builtin.append_ #[tx,tx] ty #[.slice a 0 0,yx]).run P w = .ok (.slice (some ⟨w.heap.size,0,none⟩) yss.length c') (w.drew.alloc (.cells ysA et (0,0))) ∧
         yss.length ≤ c' ∧ ysA.size = c' * ei.sz ∧ ysA.toList.take (yss.length * ei.sz) = src.news := by
        intro hpos
        obtain ⟨c',ysA,r1,r2,r3,r4⟩ := Iu (xss := []) (base := a) (n := 0) (cap := 0) (olds := []) ty hd hi hz1 hsz hzs (by omega) (by simp) (fun _ => ⟨rfl,rfl⟩) (fun ad _ j u hu => by simp at hu) src (by omega) (Nat.le_refl _) (by omega)
        simp only [Nat.zero_add,List.nil_append] at r1 r2 r4
        exact ⟨c',ysA,r1,r2,r3,r4⟩
       have hlen : ∀ (i : Nat) (es : List Val),yss[i]? = some es → es.length = ei.sz := src.len
       cases own with
       | true =>
        simp only [if_true] at h
        by_cases hy0 : yss.length = 0
        ·rw [if_pos hy0] at h; cases h
        rw [if_neg hy0] at h
        cases h
        obtain ⟨c',ysA,r1,r2,r3,r4⟩ := hgrow (by omega)
        have hcr : CR G w.drew yss.flatten (ysA.toList.take (yss.length * ei.sz)) := by
         have := fresh [] ysA c' [] (by simpa using hlen) ⟨rfl,fun j v h => by simp at h⟩ (by simpa using r4)
         simpa using this
        have hrow := Row.new2 (k := k0) (e := ep k0) (c := c') (ty := et) hRd (hep k0) hlen hcr r3 r2
        refine Does.trans_drew (w1 := w.drew.alloc (.cells ysA et (0,0))) (G1 := G.lay k0 w.drew.heap.size c' (ep k0)) hR r1 (Tr.lay hRd k0 c' (ep k0) _ _ (hep k0))
         (hRd.lay (hep k0) hrow (fun _ _ _ _ _ h => by cases h) (fun _ _ h => by cases h)) (.at rfl rfl) ?_
        exact .gr _ _ _ _ _ (by simp [Gh.lay]) (fun _ => by simp [Gh.handle,Gh.lay])
       | false =>
        simp only [Bool.false_eq_true,if_false] at h
        cases h
        by_cases hy0 : yss = []
        ·subst hy0
         exact Does.pure hR (KF ty hd hi (Nat.le_refl _) src) (.lst_nil _ _ _)
        ·obtain ⟨c',ysA,r1,r2,r3,r4⟩ := hgrow (List.length_pos_iff.2 hy0)
         have hcr : CR G w.drew yss.flatten (ysA.toList.take (yss.length * ei.sz)) := by
          have := fresh [] ysA c' [] (by simpa using hlen) ⟨rfl,fun j v h => by simp at h⟩ (by simpa using r4)
          simpa using this
         exact Does.trans_drew (u := none) hR r1 (Tr.imm hRd _) (hRd.alloc_imm _) (.same rfl rfl) (VR.lst_of (.inr rfl) hlen (ER.new2 hRd hlen hcr) r2)
     ·
      rename_i sz xss
      by_cases hc : sz = ei.sz ∧ xss.length + yss.length ≤ 1073741824 ∧ own = false
      case neg => rw [if_neg hc] at h; cases h
      rw [if_pos hc] at h
      cases h
      obtain ⟨rfl,hbig,_⟩ := hc
      obtain ⟨a,rfl,hl,ha⟩ := hs.exl_inv
      have hlen : ∀ (i : Nat) (es : List Val),(xss ++ yss)[i]? = some es → es.length = ei.sz := fun i es hi => by
       rcases GK hi with h | ⟨j,_,h⟩
       ·exact hl i es h
       ·exact src.len j es h
      by_cases hy0 : yss = []
      ·subst hy0
       rw [List.append_nil]
       exact Does.pure hR (KF ty hd hi (Nat.le_refl _) src) hs.exl_lst
      ·have hpos := List.length_pos_iff.2 hy0
       have holds : ∃ olds : List Value,olds.length = xss.length * ei.sz ∧ CR G w xss.flatten olds ∧ (a = none → xss.length = 0 ∧ xss.length = 0) ∧ ∀ ad,a = some ad → ∀ j u,olds[j]? = some u → w.cell? (ad.add j) = some u := by
        by_cases hx0 : xss = []
        ·subst hx0; exact ⟨[],by simp,⟨rfl,fun j v h => by simp at h⟩,fun _ => ⟨rfl,rfl⟩,fun ad _ j u h => by simp at h⟩
        ·obtain ⟨b,off,rfl,hI,hE⟩ := ha hx0
         obtain ⟨olds,o1,o2,o3⟩ := hE.flat hb2 hl
         exact ⟨olds,o1,o2,(fun h => by cases h),(fun ad he j u hu => by cases he; rw [AU]; exact o3 j u hu)⟩
       obtain ⟨olds,o1,o2,o3,o4⟩ := holds
       obtain ⟨c',ysA,r1,r2,r3,r4⟩ := Iu (xss := xss) (base := a) (n := xss.length) (cap := xss.length) (olds := olds) ty hd hi hz1 hsz hzs (by omega) o1 o3 o4 src (by omega) (Nat.le_refl _) (by omega)
       have hcr := fresh xss ysA c' olds hlen o2 r4
       have := VR.lst_of (G := G.imm w.drew.heap.size) (w := w.drew.alloc (.cells ysA et (0,0))) (b := w.drew.heap.size) (off := 0) (sz := ei.sz) (cap := c') (xss := xss ++ yss) (.inr rfl) hlen (ER.new2 hRd hlen hcr) (by rw [List.length_append]; exact r2)
       rw [List.length_append] at this
       exact Does.trans_drew (u := none) hR r1 (Tr.imm hRd _) (hRd.alloc_imm _) (.same rfl rfl) this
     ·
      rename_i k e n
      cases hk' : H k with
      | none => rw [hk'] at h; cases h
      | some p =>
       obtain ⟨e',o⟩ := p
       rw [hk'] at h
       cases o <;> simp only at h <;> try (cases h; done)
       rename_i sz xss
       by_cases hc : e = e' ∧ sz = ei.sz ∧ n = xss.length ∧ n + yss.length ≤ 1073741824
       case neg => rw [if_neg hc] at h; cases h
       rw [if_pos hc] at h
       cases h
       obtain ⟨rfl,rfl,rfl,hbig⟩ := hc
       obtain ⟨hE,hN,hrow⟩ := hR.obj k e _ hk'
       have hl := hrow.1
       have hlen : ∀ (i : Nat) (es : List Val),(xss ++ yss)[i]? = some es → es.length = ei.sz := fun i es hi => by
        rcases GK hi with h | ⟨j,_,h⟩
        ·exact hl i es h
        ·exact src.len j es h
       cases hs with
       | gr _ _ _ a c he hp =>
        have hh := hp hE
        have hr := hrow.2
        unfold Gh.handle at hh
        cases hK : G.K k with
        | none =>
         rw [hK] at hh hr
         obtain ⟨rfl,hC0⟩ := hr
         injection hh with h1 h2 h3
         subst h1 h3
         simp only [List.length_nil,Nat.zero_add,List.nil_append] at *
         by_cases hy0 : yss = []
         ·subst hy0
          have hrun := KF (P := P) (base := none) (n := 0) (cap := 0) ty hd hi (Nat.le_refl _) src
          exact ⟨_,w,G.unb k (ep k),hrun,Tr.unb (hep k) _,hR.unb (hep k),.at rfl rfl,.gr _ _ _ _ _ (by simp [Gh.unb]) (fun _ => by simp [Gh.handle,Gh.unb])⟩
         ·obtain ⟨c',ysA,r1,r2,r3,r4⟩ := Iu (xss := []) (base := none) (n := 0) (cap := 0) (olds := []) ty hd hi hz1 hsz hzs (by omega) (by simp) (fun _ => ⟨rfl,rfl⟩) (fun ad _ j u hu => by simp at hu) src (by simpa using List.length_pos_iff.2 hy0) (Nat.le_refl _) (by omega)
          simp only [Nat.zero_add,List.nil_append] at r1 r2 r4
          have hcr : CR G w.drew yss.flatten (ysA.toList.take (yss.length * ei.sz)) := by
           have := fresh [] ysA c' [] (by simpa using hlen) ⟨rfl,fun j v h => by simp at h⟩ (by simpa using r4)
           simpa using this
          have hrow2 := Row.new2 (k := k) (e := ep k) (c := c') (ty := et) hRd (hep k) hlen hcr r3 r2
          refine Does.trans_drew (w1 := w.drew.alloc (.cells ysA et (0,0))) (G1 := G.lay k w.drew.heap.size c' (ep k)) hR r1 (Tr.lay hRd k c' (ep k) _ _ (hep k))
           (hRd.lay (hep k) hrow2 (fun _ _ _ _ _ h => by cases h) (fun _ _ h => by cases h)) (.at rfl rfl) ?_
          exact .gr _ _ _ _ _ (by simp [Gh.lay]) (fun _ => by simp [Gh.handle,Gh.lay])
        | some b =>
         rw [hK] at hh hr
         injection hh with h1 h2 h3
         subst h1 h3
         obtain ⟨⟨cs,tyb,hb,hcs⟩,hcap,hmem⟩ := hr
         have hER : ER G w b 0 ei.sz xss := fun i es hi => by rw [Nat.zero_add]; exact hmem i es hi
         obtain ⟨olds,o1,o2,o3⟩ := hER.flat hb2 hl
         by_cases hroom : xss.length + yss.length ≤ G.C k
         ·
          have hin : xss.length * ei.sz + src.news.length ≤ cs.size := by
           rw [hcs,src.news_len,← Nat.add_mul]; exact Nat.mul_le_mul_right _ hroom
          have hrun := R2 (P := P) (off := 0) (b := b) (n := xss.length) (cap := G.C k) ty hd hi hsz src hroom (fun j hj => by
           rw [EH hb,Nat.zero_add,Array.getElem?_eq_getElem (by omega)]; rfl) (fun j hj => Ls hb)
          obtain ⟨s1,s2,s3,s4,s5,s6⟩ := DM b src.news (0 + xss.length * ei.sz) w
          obtain ⟨cs',c1,c2,c3⟩ := s6 cs tyb (0,0) hb
          have hsame : ∀ k',k' ≠ k → upd G.E k (ep k) k' = G.E k' ∧ upd G.N k (ep k + 1) k' = G.N k' := fun k' hk => ⟨A0 _ _ hk,A0 _ _ hk⟩
          have hnew : (upd G.E k (ep k) k = G.E k ∧ upd G.N k (ep k + 1) k = G.N k) ∨ (G.N k ≤ upd G.E k (ep k) k ∧ G.N k ≤ upd G.N k (ep k + 1) k) :=
           .inr ⟨by rw [A4]; exact hep k,by rw [A4]; have := hep k; omega⟩
          have tt := Tr.write (w' := w.setCells b (0 + xss.length * ei.sz) src.news) (e := ep k) (ao := .arr ei.sz (xss ++ yss)) hR hk' rfl hK hsame hnew s1 s2 s3 s4 s5
          refine ⟨_,_,_,hrun,tt,hR.write hk' rfl hK hsame hnew s1 s2 s3 s4 s5 ⟨by rw [A4],by rw [A4]; omega⟩ ⟨hlen,?_⟩ (fun _ _ _ _ _ h => by cases h) (fun _ _ h => by cases h),.at rfl rfl,?_⟩
          ·rw [show ({ G with E := upd G.E k (ep k),N := upd G.N k (ep k + 1) } : Gh).K k = some b from hK]
           refine ⟨⟨cs',tyb,c1,by rw [c2]; exact hcs⟩,by rw [List.length_append]; exact hroom,fun i es hi j v hj => ?_⟩
           rw [EH c1,c3]
           have hesl := hlen i es hi
           have hjl := (List.getElem?_eq_some_iff.1 hj).1
           rcases GK hi with hi1 | ⟨i',rfl,hi2⟩
           ·obtain ⟨y',q1,q2,q3⟩ := hmem i es hi1 j v hj
            rw [EH hb] at q1
            have hil := (List.getElem?_eq_some_iff.1 hi1).1
            have : (i + 1) * ei.sz ≤ xss.length * ei.sz := Nat.mul_le_mul_right _ hil
            rw [Nat.add_mul] at this
            rw [if_neg (by omega)]
            exact ⟨y',q1,q2,q3.mono hR.imm tt⟩
           ·have hf := D7 i' j es v src.len hi2 hj
            obtain ⟨y',q1,q2,q3⟩ := src.cr.2 _ v hf
            have hlt := (List.getElem?_eq_some_iff.1 q1).1
            rw [Nat.add_mul,if_pos (by omega)]
            exact ⟨y',by rw [← q1]; congr 1; omega,q2,q3.mono hR.imm tt⟩
          ·exact .gr _ _ _ _ _ (by simp) (fun _ => by simp [Gh.handle,hK])
         ·
          obtain ⟨c',ysA,r1,r2,r3,r4⟩ := Iu (xss := xss) (base := some ⟨b,0,none⟩) (n := xss.length) (cap := G.C k) (olds := olds) ty hd hi hz1 hsz hzs (by omega) o1 (fun h => by cases h)
           (fun ad he j u hu => by cases he; rw [AU]; exact o3 j u hu) src (by omega) hcap (by omega)
          have hcr := fresh xss ysA c' olds hlen o2 r4
          have hrow2 := Row.new2 (k := k) (e := ep k) (c := c') (ty := et) hRd (hep k) hlen hcr r3 (by rw [List.length_append]; exact r2)
          refine Does.trans_drew (w1 := w.drew.alloc (.cells ysA et (0,0))) (G1 := G.lay k w.drew.heap.size c' (ep k)) hR r1 (Tr.lay hRd k c' (ep k) _ _ (hep k))
           (hRd.lay (hep k) hrow2 (fun _ _ _ _ _ h => by cases h) (fun _ _ h => by cases h)) (.at rfl rfl) ?_
          exact .gr _ _ _ _ _ (by simp [Gh.lay]) (fun _ => by simp [Gh.handle,Gh.lay])
end
end Cp
namespace Cp
open Go
def xint : Option Val → Option (Option Int)
 | none => some none
 | some (.int _ n) => some (some n)
 | _ => none
def cut (sz : Nat) (xss : List (List Val)) (lo hi mx : Option Int) : Option Val :=
 match mx with
 | none =>
  let h := hi.getD xss.length
  let l := lo.getD 0
  if 0 ≤ l ∧ l ≤ h ∧ h ≤ xss.length then some (.lst sz ((xss.take h.toNat).drop l.toNat)) else none
 | some m =>
  match hi with
  | none => none
  | some h =>
   let l := lo.getD 0
   if 0 ≤ l ∧ l ≤ h ∧ h ≤ xss.length ∧ m = h then some (.exl sz ((xss.take h.toNat).drop l.toNat)) else none
def Dp (T : Tab) (H : Hp) (x : Val) (lo hi mx : Option Int) : TK → Option Val
 | .slice et =>
  match T et with
  | some ei =>
   match x with
   | .lst sz xss => if sz = ei.sz then cut sz xss lo hi mx else none
   | .exl sz xss => if sz = ei.sz then cut sz xss lo hi mx else none
   | .gr k e n =>
    match H k with
    | some (e',.fro sz xss) => if e = e' ∧ sz = ei.sz ∧ n = xss.length then cut sz xss lo hi mx else none
    | _ => none
   | _ => none
  | none => none
 | .array n et =>
  match lo,hi,mx with
  | none,none,none =>
   match T et with
   | some ei =>
    match x with
    | .pim cs => if ei.sz = 1 ∧ n ≤ cs.length then some (.lst 1 ((cs.take n).map fun c => [c])) else none
    | _ => none
   | none => none
  | _,_,_ => none
 | .str =>
  match x,mx with
  | .str s,none => if 0 ≤ lo.getD 0 ∧ lo.getD 0 ≤ hi.getD s.size ∧ hi.getD s.size ≤ s.size then some (.str (s.extract (lo.getD 0).toNat (hi.getD s.size).toNat)) else none
  | _,_ => none
 | _ => none
def DT (T : Tab) (H : Hp) (t : TypeId) (x : Val) (lo hi mx : Option Val) : Option Val :=
 match T t with
 | none => none
 | some ti =>
  match xint lo with
  | none => none
  | some lo =>
   match xint hi with
   | none => none
   | some hi =>
    match xint mx with
    | none => none
    | some mx => Dp T H x lo hi mx ti.kind
def B6 (T : Tab) (t : TypeId) (x : Val) : Option Val :=
 match T t with
 | some ti => match ti.kind with | .iface => none | _ => some (.iface t x)
 | none => none
def BG (T : Tab) (x : Val) (t : TypeId) (ok : Bool) : Option Val :=
 match T t,x with
 | some ti,.iface u v =>
  match ti.kind with
  | .iface => none
  | _ => if u = t then some (if ok then .tup [v,.bool true] else v) else if ok then some (.tup [ti.zero,.bool false]) else none
 | _,_ => none
section
variable {P : Program} {T : Tab} {G G' : Gh} {w w' : World} {H H' : Hp}
theorem mapM_places : ∀ (fs : List Field),(∀ f ∈ fs,(P.info? f.type).isSome = true) →
  ∃ ps,fs.mapM (fun f => (P.info? f.type).map fun i => (f.offset,i.size)) = some ps ∧ ps.length = fs.length ∧ ∀ (j : Nat) (f : Field) (i : TypeInfo),fs[j]? = some f → P.info? f.type = some i → ps[j]? = some (f.offset,i.size)
 | [],_ => ⟨[],rfl,rfl,fun j f i h => by simp at h⟩
 | f :: fs,h => by
  obtain ⟨ps,h1,h2,h3⟩ := mapM_places fs (fun g hg => h g (by simp [hg]))
  obtain ⟨i,hi⟩ := Option.isSome_iff_exists.1 (h f (by simp))
  refine ⟨(f.offset,i.size) :: ps,by simp [List.mapM_cons,hi,h1],by simp [h2],fun j g i' hg hi' => ?_⟩
  cases j with
  | zero =>
   simp only [List.getElem?_cons_zero,Option.some.injEq] at hg
   subst hg
   rw [hi] at hi'
   cases hi'
   rfl
  | succ j => simpa using h3 j g i' (by simpa using hg) hi'
theorem Qg {t : TypeId} {ps : List (Nat × Val)} {qs : Array (Nat × Value)} {v : Val} (hT : Ad P T) (hp : PR G w ps qs.toList) (h : Fk T t ps = some v) :
  ∃ y,(Instr.build t qs).run P w = .ok y w ∧ VR G w v y := by
 unfold Fk at h
 cases ht : T t with
 | none => rw [ht] at h; cases h
 | some ti =>
  rw [ht] at h
  obtain ⟨kind,sz,bytes,zero,plain⟩ := ti
  obtain ⟨d,hd,hk⟩ := (hT t _ ht).under
  obtain ⟨it,hit,hit1,hit2,z,hz1,hz2⟩ := (hT t _ ht).infos
  have hfin : ∀ (cs zs : List Val) (ys : Array Value),zero = .agg zs → (CR G w zs z.cells.toList → ∃ ys,P.built t qs.toList = some ys ∧ CR G w cs ys.toList) → v = .agg cs → ∃ y,(Instr.build t qs).run P w = .ok y w ∧ VR G w v y := by
   intro cs zs _ hzero hb hv
   subst hzero
   simp only at hz2
   have hc : CR G w zs z.cells.toList := VR.cells (hz2 ▸ Ec z) rfl
   obtain ⟨ys,h1,h2⟩ := hb hc
   subst hv
   refine ⟨_,run_build w t qs ys h1,.agg _ _ (by have := h2.1; simpa using this) (fun i c hi => ?_) (fun i c hi => ?_)⟩
   ·exact (h2.2 i c hi).choose_spec.2.1
   ·obtain ⟨y,q1,_,q3⟩ := h2.2 i c hi
    have : ys.getD i undef = y := by
     rw [Array.getElem?_toList] at q1
     rw [Array.getD_eq_getD_getElem?,q1]; rfl
    rw [this]; exact q3
  cases kind <;> cases zero <;> simp only at h hk <;> try (cases h; done)
  ·rename_i n et zs
   rw [Bp hk] at hd
   cases het : T et with
   | none => rw [het] at h; cases h
   | some ei =>
    rw [het] at h
    simp only at h
    cases hf : Ce (fun i => some (i * ei.sz,ei.sz)) zs ps with
    | none => rw [hf] at h; cases h
    | some cs =>
     rw [hf] at h
     cases h
     obtain ⟨ie,hie,hes,_⟩ := (hT et _ het).infos
     refine hfin cs zs #[] rfl (fun hc => ?_) rfl
     obtain ⟨ys,h1,h2⟩ := Jz _ (fun i => some (i * ie.size,ie.size)) (fun i p hp => by rw [hes]; exact hp) ps qs.toList _ _ _ hp hc hf
     exact ⟨ys,by simp only [Program.built,hit,hd,hz1,hie]; exact h1,h2⟩
  ·rename_i fs zs
   obtain ⟨fa,rfl,rfl,_⟩ := Bc hk
   cases hf : Ce (Fv T (fa.toList.map fun f => (f.offset,f.type))) zs ps with
   | none => rw [hf] at h; cases h
   | some cs =>
    rw [hf] at h
    cases h
    have hfld := (hT t _ ht).fld _ rfl
    obtain ⟨places,p1,p2,p3⟩ := mapM_places (P := P) fa.toList (fun f hf => hfld (f.offset,f.type) (List.mem_map.2 ⟨f,hf,rfl⟩))
    refine hfin cs zs #[] rfl (fun hc => ?_) rfl
    have hpl : ∀ i p,Fv T (fa.toList.map fun f => (f.offset,f.type)) i = some p → places.toArray[i]? = some p := by
     intro i p hp
     unfold Fv at hp
     rw [List.getElem?_map] at hp
     cases hfi : fa.toList[i]? with
     | none => rw [hfi] at hp; cases hp
     | some f =>
      rw [hfi] at hp
      simp only [Option.map_some] at hp
      cases hft : T f.type with
      | none => rw [hft] at hp; cases hp
      | some fi =>
       rw [hft] at hp
       cases hp
       obtain ⟨ii,hii,hs,_⟩ := (hT _ _ hft).infos
       have := p3 i f ii hfi hii
       rw [hs] at this
       simpa using this
    obtain ⟨ys,h1,h2⟩ := Jz _ (places.toArray[·]?) hpl ps qs.toList _ _ _ hp hc hf
    exact ⟨ys,by simp only [Program.built,hit,hd,hz1,p1]; exact h1,h2⟩
theorem GT {t : TypeId} {x v : Val} {y : Value} (hT : Ad P T) (hx : VR G w x y) (h : B6 T t x = some v) : ∃ z,(Instr.makeInterface t y).run P w = .ok z w ∧ VR G w v z := by
 unfold B6 at h
 cases ht : T t with
 | none => rw [ht] at h; cases h
 | some ti =>
  rw [ht] at h
  simp only at h
  obtain ⟨d,hd,hk⟩ := (hT t _ ht).under
  have hni : ∀ ms,d ≠ .interface ms := fun ms e => by
   subst e
   simp only [kindOf] at hk
   rw [← hk] at h
   cases h
  have hv : v = .iface t x := by
   cases hkk : ti.kind <;> rw [hkk] at h <;> cases h <;> rfl
  subst hv
  refine ⟨.iface t y,?_,.iface _ _ _ hx⟩
  simp only [Instr.makeInterface,Sem.run_bind,run_underlying hd,Result.andThen]
  cases d <;> first | rfl | exact (hni _ rfl).elim
theorem VR.tup2 {a b : Val} {x y : Value} (h1 : VR G w a x) (h2 : VR G w b y) : VR G w (.tup [a,b]) (.tuple #[x,y]) := by
 refine .tup _ _ rfl (fun i v hi => ?_)
 match i with
 | 0 => cases hi; exact h1
 | 1 => cases hi; exact h2
 | i + 2 => simp at hi
theorem JN {t xt : TypeId} {x v : Val} {y : Value} {ok : Bool} (hT : Ad P T) (hx : VR G w x y) (h : BG T x t ok = some v) : ∃ z,(Instr.typeAssert y xt t ok).run P w = .ok z w ∧ VR G w v z := by
 unfold BG at h
 cases ht : T t with
 | none => rw [ht] at h; cases h
 | some ti =>
  rw [ht] at h
  cases x <;> simp only at h <;> try (cases h; done)
  rename_i u c
  obtain ⟨d,hd,hk⟩ := (hT t _ ht).under
  obtain ⟨i,hi,hi1,hi2,z,hz1,hz2⟩ := (hT t _ ht).infos
  have hni : ∀ ms,d ≠ .interface ms := fun ms e => by
   subst e
   simp only [kindOf] at hk
   rw [← hk] at h
   cases h
  have h' : (if u = t then some (if ok then .tup [c,.bool true] else c) else if ok then some (.tup [ti.zero,.bool false]) else none) = some v := by
   cases hkk : ti.kind <;> rw [hkk] at h <;> first | exact h | cases h
  cases hx with
  | iface _ _ y hy =>
   by_cases hu : u = t
   ·rw [if_pos hu] at h'
    subst hu
    cases ok with
    | true =>
     cases h'
     refine ⟨.tuple #[y,.bool true],?_,VR.tup2 hy (.bool _)⟩
     simp only [Instr.typeAssert,Sem.run_bind,run_underlying hd,Result.andThen]
     cases d <;> first | exact (hni _ rfl).elim | simp
    | false =>
     cases h'
     refine ⟨y,?_,hy⟩
     simp only [Instr.typeAssert,Sem.run_bind,run_underlying hd,Result.andThen]
     cases d <;> first | exact (hni _ rfl).elim | simp
   ·rw [if_neg hu] at h'
    cases ok with
    | true =>
     cases h'
     refine ⟨.tuple #[z,.bool false],?_,VR.tup2 (hz2 ▸ Ec z) (.bool _)⟩
     simp only [Instr.typeAssert,Sem.run_bind,run_underlying hd,Result.andThen]
     cases d <;> first | exact (hni _ rfl).elim | simp [hu,Cf hi hz1,Sem.run_bind,Result.andThen]
    | false => cases h'
theorem AI {k : IntKind} {i : Int} {y : Nat} {c : BoundsCode} (h0 : 0 ≤ i) (h1 : i ≤ y) : (Instr.sliceBound (.int k i) y c).run P w = .ok i.toNat w := by
 simp [Instr.sliceBound,Sem.run_bind,asIntOf,Result.andThen,h0,h1]
def BR (o : Option Int) (v : Option Value) : Prop :=
 match o,v with
 | none,none => True
 | some n,some (.int _ m) => m = n
 | _,_ => False
theorem LM {v : Option Val} {o : Option Int} {x : Option Value} (h : xint v = some o) (hv : (v = none ∧ x = none) ∨ ∃ a b,v = some a ∧ x = some b ∧ VR G w a b) : BR o x := by
 rcases hv with ⟨rfl,rfl⟩ | ⟨a,b,rfl,rfl,hab⟩
 ·cases h; exact trivial
 ·cases a <;> simp only [xint] at h <;> try (cases h; done)
  cases h
  cases hab
  exact rfl
theorem NS {len : Nat} {lo hi : Option Int} {vl vh : Option Value} (hl : BR lo vl) (hh : BR hi vh) (h : 0 ≤ lo.getD 0 ∧ lo.getD 0 ≤ hi.getD len ∧ hi.getD len ≤ len) :
  (Instr.sliceBounds false len len vl vh none).run P w = .ok ((lo.getD 0).toNat,(hi.getD len).toNat,len) w := by
 cases hi with
 | none =>
  cases vh with
  | some v => simp [BR] at hh
  | none =>
   cases lo with
   | none =>
    cases vl with
    | some v => simp [BR] at hl
    | none => simp [Instr.sliceBounds,Sem.run_bind,Result.andThen]
   | some l =>
    cases vl with
    | none => simp [BR] at hl
    | some v =>
     cases v <;> simp only [BR] at hl <;> try (exact hl.elim)
     have hl := hl.symm
     subst hl
     simp only [Option.getD_some,Option.getD_none] at h
     have hb := AI (P := P) (w := w) (k := ‹IntKind›) (y := len) (c := .sliceB) h.1 h.2.1
     simp [Instr.sliceBounds,Sem.run_bind,Result.andThen,hb]
 | some hv =>
  cases vh with
  | none => simp [BR] at hh
  | some v =>
   cases v <;> simp only [BR] at hh <;> try (exact hh.elim)
   have hh := hh.symm
   subst hh
   simp only [Option.getD_some] at h
   have hb1 := AI (P := P) (w := w) (k := ‹IntKind›) (y := len) (c := .sliceAlen) (by omega : 0 ≤ hv) (by omega)
   cases lo with
   | none =>
    cases vl with
    | some v => simp [BR] at hl
    | none => simp [Instr.sliceBounds,Sem.run_bind,Result.andThen,hb1]
   | some l =>
    cases vl with
    | none => simp [BR] at hl
    | some v =>
     cases v <;> simp only [BR] at hl <;> try (exact hl.elim)
     have hl := hl.symm
     subst hl
     simp only [Option.getD_some] at h
     have hb := AI (P := P) (w := w) (k := ‹IntKind›) (y := hv.toNat) (c := .sliceB) h.1 (by omega)
     simp [Instr.sliceBounds,Sem.run_bind,Result.andThen,hb,hb1]
theorem JM {len cap : Nat} {lo hi mx : Option Int} {vl vh vm : Option Value} (hl : BR lo vl) (hh : BR hi vh) (hm : BR mx vm) (hc : len ≤ cap)
  (h : match mx with | none => 0 ≤ lo.getD 0 ∧ lo.getD 0 ≤ hi.getD len ∧ hi.getD len ≤ len | some m => hi = some m ∧ 0 ≤ lo.getD 0 ∧ lo.getD 0 ≤ m ∧ m ≤ len) :
  (Instr.sliceBounds true len cap vl vh vm).run P w = .ok ((lo.getD 0).toNat,(match mx with | none => (hi.getD len).toNat | some m => m.toNat),(match mx with | none => cap | some m => m.toNat)) w := by
 cases mx with
 | none =>
  cases vm with
  | some v => simp [BR] at hm
  | none =>
   simp only at h
   cases hi with
   | none =>
    cases vh with
    | some v => simp [BR] at hh
    | none =>
     cases lo with
     | none =>
      cases vl with
      | some v => simp [BR] at hl
      | none => simp [Instr.sliceBounds,Sem.run_bind,Result.andThen]
     | some l =>
      cases vl with
      | none => simp [BR] at hl
      | some v =>
       cases v <;> simp only [BR] at hl <;> try (exact hl.elim)
       have hl := hl.symm
       subst hl
       simp only [Option.getD_some,Option.getD_none] at h
       have hb := AI (P := P) (w := w) (k := ‹IntKind›) (y := len) (c := .sliceB) h.1 h.2.1
       simp [Instr.sliceBounds,Sem.run_bind,Result.andThen,hb]
   | some hv =>
    cases vh with
    | none => simp [BR] at hh
    | some v =>
     cases v <;> simp only [BR] at hh <;> try (exact hh.elim)
     have hh := hh.symm
     subst hh
     simp only [Option.getD_some] at h
     have hb1 := AI (P := P) (w := w) (k := ‹IntKind›) (y := cap) (c := .sliceAcap) (by omega : 0 ≤ hv) (by omega)
     cases lo with
     | none =>
      cases vl with
      | some v => simp [BR] at hl
      | none => simp [Instr.sliceBounds,Sem.run_bind,Result.andThen,hb1]
     | some l =>
      cases vl with
      | none => simp [BR] at hl
      | some v =>
       cases v <;> simp only [BR] at hl <;> try (exact hl.elim)
       have hl := hl.symm
       subst hl
       simp only [Option.getD_some] at h
       have hb := AI (P := P) (w := w) (k := ‹IntKind›) (y := hv.toNat) (c := .sliceB) h.1 (by omega)
       simp [Instr.sliceBounds,Sem.run_bind,Result.andThen,hb,hb1]
 | some m =>
  simp only at h
  obtain ⟨rfl,h0,h1,h2⟩ := h
  cases vm with
  | none => simp [BR] at hm
  | some v =>
   cases v <;> simp only [BR] at hm <;> try (exact hm.elim)
   have hm := hm.symm
   subst hm
   have hb1 := fun k => AI (P := P) (w := w) (k := k) (y := cap) (c := .slice3Acap) (by omega : 0 ≤ m) (by omega)
   have hb2 := fun k => AI (P := P) (w := w) (k := k) (y := m.toNat) (c := .slice3B) (by omega : 0 ≤ m) (by omega)
   cases vh with
   | none => simp [BR] at hh
   | some v =>
    cases v <;> simp only [BR] at hh <;> try (exact hh.elim)
    have hh := hh.symm
    subst hh
    cases lo with
    | none =>
     cases vl with
     | some v => simp [BR] at hl
     | none => simp [Instr.sliceBounds,Sem.run_bind,Result.andThen,hb1,hb2]
    | some l =>
     cases vl with
     | none => simp [BR] at hl
     | some v =>
      cases v <;> simp only [BR] at hl <;> try (exact hl.elim)
      have hl := hl.symm
      subst hl
      simp only [Option.getD_some] at h0 h1
      have hb := fun k => AI (P := P) (w := w) (k := k) (y := m.toNat) (c := .slice3C) h0 (by omega)
      simp [Instr.sliceBounds,Sem.run_bind,Result.andThen,hb,hb1,hb2]
end
end Cp
namespace Cp
open Go
def Gp (T : Tab) (H : Hp) (t : TypeId) (v : Val) : Option Val :=
 match T t with
 | some { kind := .slice _,.. } =>
  match v with
  | .lst _ xss => some (.int .i64 xss.length)
  | .exl _ xss => some (.int .i64 xss.length)
  | .nils => some (.int .i64 0)
  | .gr _ _ n => some (.int .i64 n)
  | _ => none
 | some { kind := .str,.. } => match v with | .str s => some (.int .i64 s.size) | _ => none
 | some { kind := .map _ _,.. } =>
  match v with
  | .nilm => some (.int .i64 0)
  | .map k e => match H k with | some (e',.map _ es) => if e = e' then some (.int .i64 es.length) else none | some (e',.frm _ es) => if e = e' then some (.int .i64 es.length) else none | _ => none
  | _ => none
 | some { kind := .array n _,.. } => some (.int .i64 n)
 | _ => none
section
variable {P : Program} {T : Tab} {G G' : Gh} {w w' : World} {H H' : Hp}
theorem Pa {xss : List (List Val)} {l h : Int} (h0 : 0 ≤ l) (h1 : l ≤ h) (h2 : h ≤ xss.length) : ((xss.take h.toNat).drop l.toNat).length = h.toNat - l.toNat := by
 simp; omega
theorem Pd {xss : List (List Val)} {l h i : Nat} {es : List Val} (hi : ((xss.take h).drop l)[i]? = some es) : xss[l + i]? = some es := by
 rw [List.getElem?_drop,List.getElem?_take] at hi
 split at hi
 ·exact hi
 ·cases hi
theorem Mi {t et : TypeId} {ei : TI} {d : TypeDesc} {sz : Nat} {xss : List (List Val)} {lo hi mx : Option Int} {vl vh vm : Option Value} {v : Val} {a : Option Addr} {cap : Nat}
  (hd : P.underlying t = some (.slice et)) (hei : TIok P et ei) (hsz : sz = ei.sz) (hl : BR lo vl) (hh : BR hi vh) (hm : BR mx vm) (hcap : xss.length ≤ cap)
  (hlen : ∀ (i : Nat) (es : List Val),xss[i]? = some es → es.length = sz) (ha : xss ≠ [] → ∃ b off,a = some ⟨b,off,none⟩ ∧ G.I b ∧ ER G w b off sz xss)
  (h : cut sz xss lo hi mx = some v) : ∃ z,(Instr.sliceAt t (.slice a xss.length cap) vl vh vm).run P w = .ok z w ∧ VR G w v z := by
 obtain ⟨i,hi',his,_⟩ := hei.infos
 have hER : ∀ (l h : Nat),l < h → h ≤ xss.length → ∃ b off,a = some ⟨b,off,none⟩ ∧ G.I b ∧ ER G w b (off + l * sz) sz ((xss.take h).drop l) := by
  intro l h h1 h2
  obtain ⟨b,off,q1,q2,q3⟩ := ha (by intro e; rw [e] at h2; simp at h2; omega)
  refine ⟨b,off,q1,q2,fun i es hi j v hj => ?_⟩
  obtain ⟨y,r1,r2⟩ := q3 _ es (Pd hi) j v hj
  exact ⟨y,by rw [← r1]; congr 2; rw [Nat.add_mul]; omega,r2⟩
 have hlen' : ∀ (l h : Nat),∀ (i : Nat) (es : List Val),((xss.take h).drop l)[i]? = some es → es.length = sz := fun l h i es hi => hlen _ es (Pd hi)
 unfold cut at h
 cases mx with
 | none =>
  simp only at h
  by_cases hc : 0 ≤ lo.getD 0 ∧ lo.getD 0 ≤ hi.getD xss.length ∧ hi.getD xss.length ≤ xss.length
  case neg => rw [if_neg hc] at h; cases h
  rw [if_pos hc] at h
  cases h
  have hb := JM (P := P) (w := w) (mx := none) hl hh hm hcap hc
  simp only at hb
  obtain ⟨h0,h1,h2⟩ := hc
  generalize lo.getD 0 = l at *
  generalize hi.getD (xss.length : Int) = u at *
  have hlen2 := Pa h0 h1 h2
  have hrun : (Instr.sliceAt t (.slice a xss.length cap) vl vh vm).run P w = .ok (.slice (if cap = l.toNat then a else a.map (·.add (l.toNat * ei.sz))) (u.toNat - l.toNat) (cap - l.toNat)) w := by
   simp [Instr.sliceAt,Instr.slice,Sem.run_bind,run_underlying hd,Result.andThen,hb,AN hi',his]
  refine ⟨_,hrun,?_⟩
  by_cases he : l.toNat = u.toNat
  ·have hnil : (xss.take u.toNat).drop l.toNat = [] := List.eq_nil_of_length_eq_zero (by rw [hlen2]; omega)
   rw [hnil,show u.toNat - l.toNat = 0 from by omega]
   exact .lst_nil _ _ _
  ·obtain ⟨b,off,rfl,hI,hE⟩ := hER l.toNat u.toNat (by omega) (by omega)
   rw [if_neg (by omega)]
   simp only [Option.map_some,AU]
   have := VR.lst_of (cap := cap - l.toNat) hI (hlen' l.toNat u.toNat) hE (by rw [hlen2]; omega)
   rw [hlen2] at this
   rw [← hsz]
   exact this
 | some m =>
  cases hi with
  | none => simp at h
  | some hv =>
   simp only at h
   by_cases hc : 0 ≤ lo.getD 0 ∧ lo.getD 0 ≤ hv ∧ hv ≤ xss.length ∧ m = hv
   case neg => rw [if_neg hc] at h; cases h
   rw [if_pos hc] at h
   cases h
   obtain ⟨h0,h1,h2,rfl⟩ := hc
   have hb := JM (P := P) (w := w) (len := xss.length) (cap := cap) hl hh hm hcap ⟨rfl,h0,h1,h2⟩
   simp only at hb
   generalize lo.getD 0 = l at *
   have hlen2 := Pa h0 h1 h2
   have hrun : (Instr.sliceAt t (.slice a xss.length cap) vl vh vm).run P w = .ok (.slice (if m.toNat = l.toNat then a else a.map (·.add (l.toNat * ei.sz))) (m.toNat - l.toNat) (m.toNat - l.toNat)) w := by
    simp [Instr.sliceAt,Instr.slice,Sem.run_bind,run_underlying hd,Result.andThen,hb,AN hi',his]
   refine ⟨_,hrun,?_⟩
   by_cases he : l.toNat = m.toNat
   ·have hnil : (xss.take m.toNat).drop l.toNat = [] := List.eq_nil_of_length_eq_zero (by rw [hlen2]; omega)
    rw [hnil,show m.toNat - l.toNat = 0 from by omega]
    exact .exl sz [] _ (fun _ _ => default) (fun i es hi => by simp at hi) (fun h => (h rfl).elim) (fun i es hi => by simp at hi) (fun i es hi => by simp at hi)
   ·obtain ⟨b,off,rfl,hI,hE⟩ := hER l.toNat m.toNat (by omega) (by omega)
    rw [if_neg (by omega)]
    simp only [Option.map_some,AU]
    have := VR.exl_of hI (hlen' l.toNat m.toNat) hE
    rw [hlen2] at this
    rw [← hsz]
    exact this
def OR (G : Gh) (w : World) (v : Option Val) (x : Option Value) : Prop := (v = none ∧ x = none) ∨ ∃ a b,v = some a ∧ x = some b ∧ VR G w a b
theorem QH {t : TypeId} {x v : Val} {y : Value} {lo hi mx : Option Val} {vl vh vm : Option Value} (hT : Ad P T) (hR : HRel G w H) (hx : VR G w x y) (hl : OR G w lo vl) (hh : OR G w hi vh) (hm : OR G w mx vm)
  (h : DT T H t x lo hi mx = some v) : ∃ z,(Instr.sliceAt t y vl vh vm).run P w = .ok z w ∧ VR G w v z := by
 unfold DT at h
 cases ht : T t with
 | none => rw [ht] at h; cases h
 | some ti =>
  obtain ⟨kind,sz0,bytes0,zero0,plain0⟩ := ti
  obtain ⟨d,hd,hk⟩ := (hT t _ ht).under
  rw [ht] at h
  simp only at h
  cases hlo : xint lo with
  | none => rw [hlo] at h; cases h
  | some lo' =>
   rw [hlo] at h
   simp only at h
   cases hhi : xint hi with
   | none => rw [hhi] at h; cases h
   | some hi' =>
    rw [hhi] at h
    simp only at h
    cases hmx : xint mx with
    | none => rw [hmx] at h; cases h
    | some mx' =>
     rw [hmx] at h
     simp only at h
     have b1 := LM hlo hl
     have b2 := LM hhi hh
     have b3 := LM hmx hm
     cases kind <;> simp only [Dp] at h hk <;> try (cases h; done)
     ·rw [C0 hk] at hd
      cases x <;> (try simp only at h) <;> try (cases h; done)
      rename_i s
      cases mx' with
      | some _ => cases h
      | none =>
       simp only at h
       split at h
       ·rename_i hb
        cases h
        cases hx
        cases vm with
        | some v => simp [BR] at b3
        | none =>
         refine ⟨.string (s.extract (lo'.getD 0).toNat (hi'.getD s.size).toNat),?_,.str _⟩
         simp only [Instr.sliceAt,Instr.slice,Sem.run_bind,run_underlying hd,Result.andThen,Option.isSome_none,Bool.false_eq_true,if_false,NS b1 b2 hb,Sem.run_pure]
       ·cases h
     ·rename_i et
      rw [Bb hk] at hd
      cases het : T et with
      | none => rw [het] at h; cases h
      | some ei =>
       rw [het] at h
       simp only at h
       cases x <;> simp only at h <;> try (cases h; done)
       ·rename_i sz xss
        by_cases hs : sz = ei.sz
        case neg => rw [if_neg hs] at h; cases h
        rw [if_pos hs] at h
        obtain ⟨a,cap,rfl,h1,h2,h3⟩ := hx.lst_inv
        exact Mi (d := d) hd (hT et ei het) hs b1 b2 b3 h1 h2 h3 h
       ·rename_i sz xss
        by_cases hs : sz = ei.sz
        case neg => rw [if_neg hs] at h; cases h
        rw [if_pos hs] at h
        obtain ⟨a,rfl,h2,h3⟩ := hx.exl_inv
        exact Mi (d := d) hd (hT et ei het) hs b1 b2 b3 (Nat.le_refl _) h2 h3 h
       ·rename_i k e n
        cases hk' : H k with
        | none => rw [hk'] at h; cases h
        | some p =>
         obtain ⟨e',o⟩ := p
         rw [hk'] at h
         cases o <;> simp only at h <;> try (cases h; done)
         rename_i sz xss
         by_cases hc : e = e' ∧ sz = ei.sz ∧ n = xss.length
         case neg => rw [if_neg hc] at h; cases h
         rw [if_pos hc] at h
         obtain ⟨rfl,hs,rfl⟩ := hc
         obtain ⟨hE,hN,hrow,hI⟩ := hR.obj k e _ hk'
         cases hx with
         | gr _ _ _ a c he hp =>
          have hhd := hp hE
          have hr := hrow.2
          unfold Gh.handle at hhd
          cases hK : G.K k with
          | none =>
           rw [hK] at hr
           obtain ⟨rfl,_⟩ := hr
           rw [hK] at hhd
           injection hhd with q1 q2 q3
           subst q3
           exact Mi (d := d) hd (hT et ei het) hs b1 b2 b3 (Nat.zero_le _) hrow.1 (fun h => (h rfl).elim) h
          | some b =>
           rw [hK] at hhd hr
           injection hhd with q1 q2 q3
           subst q1 q3
           exact Mi (d := d) hd (hT et ei het) hs b1 b2 b3 hr.2.1 hrow.1 (fun _ => ⟨b,0,rfl,hI b hK,fun i es hi => by rw [Nat.zero_add]; exact hr.2.2 i es hi⟩) h
     ·rename_i n et
      rw [Bp hk] at hd
      cases lo' with
      | some _ => cases h
      | none =>
       cases hi' with
       | some _ => cases h
       | none =>
        cases mx' with
        | some _ => cases h
        | none =>
         simp only at h
         cases het : T et with
         | none => rw [het] at h; cases h
         | some ei =>
          rw [het] at h
          simp only at h
          cases x <;> simp only at h <;> try (cases h; done)
          rename_i cs
          by_cases hc : ei.sz = 1 ∧ n ≤ cs.length
          case neg => rw [if_neg hc] at h; cases h
          rw [if_pos hc] at h
          cases h
          obtain ⟨hs1,hn⟩ := hc
          obtain ⟨b,off,rfl,hI,hmr⟩ := hx.pim_cells
          obtain ⟨i,hi,his,_⟩ := (hT et ei het).infos
          cases vl with
          | some v => simp [BR] at b1
          | none =>
           cases vh with
           | some v => simp [BR] at b2
           | none =>
            cases vm with
            | some v => simp [BR] at b3
            | none =>
             have hrun : (Instr.sliceAt t (.pointer (some ⟨b,off,none⟩)) none none none).run P w = .ok (.slice (some ⟨b,off,none⟩) n n) w := by
              simp [Instr.sliceAt,Instr.sureAddr,Sem.run_bind,run_underlying hd,Result.andThen,Instr.sliceBounds,AN hi,his,AU]
             refine ⟨_,hrun,?_⟩
             have := VR.lst_of (G := G) (w := w) (b := b) (off := off) (sz := 1) (cap := n) (xss := (cs.take n).map fun c => [c]) hI (fun i es hi => ?_) (fun i es hi j v hj => ?_) (by simp; omega)
             ·have e : ((cs.take n).map fun c => [c]).length = n := by simp [hn]
              rwa [e] at this
             ·rw [List.getElem?_map,Option.map_eq_some_iff] at hi
              obtain ⟨c,_,rfl⟩ := hi
              rfl
             ·rw [List.getElem?_map,Option.map_eq_some_iff] at hi
              obtain ⟨c,hc,rfl⟩ := hi
              match j with
              | 0 =>
               simp only [List.getElem?_cons_zero,Option.some.injEq] at hj
               subst hj
               obtain ⟨y,r1,r2⟩ := hmr.take i c hc
               exact ⟨y,by rw [Nat.mul_one,Nat.add_zero]; exact r1,r2⟩
              | j + 1 => simp at hj
theorem SC {t ty : TypeId} {x v : Val} {y : Value} (hT : Ad P T) (hR : HRel G w H) (hx : VR G w x y) (h : Gp T H t x = some v) : ∃ z,(Builtin.len_ #[t] ty #[y]).run P w = .ok z w ∧ VR G w v z := by
 unfold Gp at h
 cases ht : T t with
 | none => rw [ht] at h; cases h
 | some ti =>
  rw [ht] at h
  obtain ⟨kind,sz0,bytes0,zero0,plain0⟩ := ti
  obtain ⟨d,hd,hk⟩ := (hT t _ ht).under
  cases kind <;> simp only at h hk <;> try (cases h; done)
  ·rw [C0 hk] at hd
   cases x <;> simp only at h <;> try (cases h; done)
   cases h
   cases hx
   exact ⟨_,by simp [Builtin.len_,Sem.run_bind,run_underlying hd,Result.andThen,goInt],.int _ _⟩
  ·rename_i et
   rw [Bb hk] at hd
   cases x <;> simp only at h <;> try (cases h; done)
   ·cases h
    cases hx
    exact ⟨_,by simp [Builtin.len_,Sem.run_bind,run_underlying hd,Result.andThen,goInt],.int _ _⟩
   ·cases h
    cases hx
    exact ⟨_,by simp [Builtin.len_,Sem.run_bind,run_underlying hd,Result.andThen,goInt],.int _ _⟩
   ·cases h
    cases hx
    exact ⟨_,by simp [Builtin.len_,Sem.run_bind,run_underlying hd,Result.andThen,goInt],.int _ _⟩
   ·cases h
    cases hx
    exact ⟨_,by simp [Builtin.len_,Sem.run_bind,run_underlying hd,Result.andThen,goInt],.int _ _⟩
  ·rename_i n et
   rw [Bp hk] at hd
   cases h
   exact ⟨_,by simp [Builtin.len_,Sem.run_bind,run_underlying hd,Result.andThen,goInt],.int _ _⟩
  ·rename_i kt et
   rw [C9 hk] at hd
   cases x <;> simp only at h <;> try (cases h; done)
   ·cases h
    cases hx
    exact ⟨_,by simp [Builtin.len_,Sem.run_bind,run_underlying hd,Result.andThen,goInt],.int _ _⟩
   ·rename_i k e
    cases hk' : H k with
    | none => rw [hk'] at h; cases h
    | some p =>
     obtain ⟨e',o⟩ := p
     rw [hk'] at h
     cases o <;> simp only at h <;> try (cases h; done)
     ·by_cases hc : e = e'
      case neg => rw [if_neg hc] at h; cases h
      rw [if_pos hc] at h
      cases h
      subst hc
      obtain ⟨hE,hN,_,b,xs,clock,h1,h2,h3,_⟩ := hR.obj k e _ hk'
      cases hx with
      | map _ _ b' he hp =>
       have := hp hE
       rw [h1] at this
       cases this
       have hl := h3.1
       simp only [Array.length_toList] at hl
       refine ⟨_,?_,.int _ _⟩
       rw [← hl]
       simp [Builtin.len_,Sem.run_bind,run_underlying hd,Result.andThen,goInt,getObj,Sem.run,h2]
     ·by_cases hc : e = e'
      case neg => rw [if_neg hc] at h; cases h
      rw [if_pos hc] at h
      cases h
      subst hc
      obtain ⟨hE,hN,⟨_,b,xs,clock,h1,h2,h3,_⟩,_⟩ := hR.obj k e _ hk'
      cases hx with
      | map _ _ b' he hp =>
       have := hp hE
       rw [h1] at this
       cases this
       have hl := h3.1
       simp only [Array.length_toList] at hl
       refine ⟨_,?_,.int _ _⟩
       rw [← hl]
       simp [Builtin.len_,Sem.run_bind,run_underlying hd,Result.andThen,goInt,getObj,Sem.run,h2]
theorem K6 (mx : Bool) (k : IntKind) : ∀ (vs : List Val) (ys : List Value) (n : Int) (v : Val),ys.length = vs.length → (∀ (i : Nat) (c : Val),vs[i]? = some c → ∃ y : Value,ys[i]? = some y ∧ VR G w c y) →
  xminmax.go mx k n vs = some v → ∃ z,(ys.foldlM (if mx then Builtin.max2 else Builtin.min2) (.int k n)).run P w = .ok z w ∧ VR G w v z
 | [],ys,n,v,hl,_,h => by
  cases h
  have : ys = [] := List.eq_nil_of_length_eq_zero (by simpa using hl)
  subst this
  exact ⟨_,by simp,.int _ _⟩
 | c :: vs,ys,n,v,hl,hv,h => by
  cases ys with
  | nil => simp at hl
  | cons y ys =>
   obtain ⟨y',h1,h2⟩ := hv 0 c rfl
   cases h1
   cases c <;> simp only [xminmax.go] at h <;> try (cases h; done)
   cases h2
   rename_i k' m
   obtain ⟨z,r1,r2⟩ := K6 mx k vs ys _ v (by simpa using hl) (fun i c hi => hv (i + 1) c (by simpa using hi)) h
   refine ⟨z,?_,r2⟩
   rw [← r1]
   cases mx with
   | true =>
    have : (Builtin.max2 (.int k n) (.int k' m)).run P w = .ok (.int k (max n m)) w := by
     simp only [Builtin.max2]
     have e : (if m > n then m else n) = max n m := by omega
     simp [e]
    simp [List.foldlM_cons,Sem.run_bind,this,Result.andThen]
   | false =>
    have : (Builtin.min2 (.int k n) (.int k' m)).run P w = .ok (.int k (min n m)) w := by
     simp only [Builtin.min2]
     have e : (if m < n then m else n) = min n m := by omega
     simp [e]
    simp [List.foldlM_cons,Sem.run_bind,this,Result.andThen]
end
end Cp
