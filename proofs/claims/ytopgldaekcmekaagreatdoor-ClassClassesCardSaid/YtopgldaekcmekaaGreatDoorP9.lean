/- Rules, facts and contracts that the statement's proof leans on. Conditions: none. -/
import Derived.Shelf.SlSortCmp.NoneTotal
import Derived.Test.YtopgldaekcmekaaGreatDoorP8
set_option linter.unusedVariables false
set_option linter.unusedSimpArgs false
set_option linter.unusedSectionVars false
namespace Cp
open Go Go.Proofs Go.Shelf Go.Sort
def cI {α : Type} (f : α → List (IntKind × Int)) (x : α) : List Val := (f x).map fun p => .int p.1 p.2
def vI {α : Type} (f : α → List (IntKind × Int)) (x : α) : List Value := (f x).map fun p => .int p.1 p.2
section
variable {P : Program} {ρ : Ren} {α : Type} [Inhabited α] {G : Gh} {w w' : World} {H : Hp}
def gI (I : Nat → Prop) : Gh := ⟨I, fun _ => none, fun _ => 0, fun _ => 0, fun _ => 0, []⟩
theorem gI_rel (hI : ∀ b, G.I b → b < w'.heap.size ∧ w'.heap[b]? = w.heap[b]?) (hg : ∀ g cs, GE g = some cs → VR G w (.pim cs) (.pointer (some ⟨g, 0, none⟩))) : HRel (gI G.I) w' none0 :=
 ⟨(fun k e o h => by cases h), fun k e km em ver left cur e' es h => (by cases h), fun k k' e e' o o' b h => (by cases h), fun b h => ⟨(hI b h).1, Own.none0⟩, fun b h => (Own.none0 h).elim, fun r h => (by simp [gI] at h),
  fun g cs h => (hg g cs h).noid_mono (GE_noid g cs h) fun b hb => ⟨hb, fun off => cell_same (hI b hb).2 off⟩⟩
theorem world_eq {w w' : World} (h1 : w'.os = w.os) (h2 : w'.tape = w.tape ∧ w.drawn ≤ w'.drawn) (h3 : w'.output = w.output) (h4 : w.heap.size ≤ w'.heap.size) (h5 : ∀ b, b < w.heap.size → w'.heap[b]? = w.heap[b]?) :
  ∃ q os, w' = grow (w.drewN q) os := by
 refine ⟨w'.drawn - w.drawn, w'.heap.extract w.heap.size w'.heap.size, ?_⟩
 obtain ⟨hp, tp, dr, os, out⟩ := w
 obtain ⟨hp', tp', dr', os', out'⟩ := w'
 simp only at h1 h2 h3 h4 h5
 obtain ⟨h2, h6⟩ := h2
 subst h1 h2 h3
 simp only [grow, World.drewN, World.mk.injEq, and_true, true_and]
 refine ⟨?_, by omega⟩
 apply Array.ext_getElem?
 intro i
 rw [Array.getElem?_append]
 by_cases hi : i < hp.size
 ·rw [if_pos hi]; exact h5 i hi
 ·rw [if_neg hi, Array.getElem?_extract]
  split
  ·congr 1; omega
  ·rw [Array.getElem?_eq_none (by omega)]
theorem VRs_ints {f : α → List (IntKind × Int)} {x : α} : VR G w (.agg (cI f x)) (.agg (vI f x).toArray) := by
 refine .agg _ _ (by simp [cI, vI]) (fun i v hi => ?_) (fun i v hi => ?_)
 ·simp only [cI, List.getElem?_map, Option.map_eq_some_iff] at hi
  obtain ⟨p, _, rfl⟩ := hi; rfl
 ·simp only [cI, List.getElem?_map, Option.map_eq_some_iff] at hi
  obtain ⟨p, hp, rfl⟩ := hi
  have : (vI f x).toArray.getD i undef = .int p.1 p.2 := by
   rw [Array.getD_eq_getD_getElem?, List.getElem?_toArray, vI, List.getElem?_map, hp]; rfl
  rw [this]; exact .int _ _
theorem cmp_lays {f : α → List (IntKind × Int)} {g : FuncId} {cf : α → α → Int} (h : ∀ x y, PureC P g [.agg (cI f x), .agg (cI f y)] (.int .i64 (cf x y))) (k blk off size : Nat)
  (hI : ∀ m os dk b, G.I b → b < (sortWorldK (vI f) k w blk off m dk os).heap.size ∧ (sortWorldK (vI f) k w blk off m dk os).heap[b]? = w.heap[b]?) (hg : ∀ g cs, GE g = some cs → VR G w (.pim cs) (.pointer (some ⟨g, 0, none⟩))) : CmpLays P g #[] (vI f) k cf blk off size w := by
 intro m os dk _ x y
 obtain ⟨_, _, _, hP⟩ := h x y
 refine Calls.mono (hP (gI G.I) (sortWorldK (vI f) k w blk off m dk os) _ (gI_rel (hI m os dk) hg) ⟨by simp, fun i v hi => ?_⟩) ?_
 ·match i, hi with
  | 0, hi => cases hi; exact VRs_ints
  | 1, hi => cases hi; exact VRs_ints
  | i + 2, hi => simp at hi
 ·rintro e w1 ⟨z, I', rfl, t, r, hv⟩
  cases hv
  exact ⟨rfl, world_eq t.os t.tape t.output t.size fun b hb => t.same b hb Own.none0⟩
theorem heap_putRow {enc : α → List Value} {k : Nat} {blk : Nat} {d : Array α} {m b : Nat} (h : b ≠ blk) : (putRowK enc k (Sort.ahead w m) blk 0 d).heap[b]? = w.heap[b]? := by
 show ((Sort.ahead w m).heap.modify blk _)[b]? = _
 rw [Array.getElem?_modify, if_neg (fun e => h e.symm)]
 rfl
theorem perm_of {n : Nat} {d d' : Array α} (hn : n = d.size) (h : PermIn 0 n d d') : d'.toList.Perm d.toList := by
 obtain ⟨h1, _, h3⟩ := h
 rw [hn] at h3
 have e1 : d'.extract 0 d.size = d' := by rw [← h1]; simp
 have e2 : d.extract 0 d.size = d := by simp
 rw [e1, e2] at h3
 exact h3
theorem sort_acall (L : SlLaysF0.n6 P ρ) {k : Nat} (aE : ∀ w, (isAgg (ρ.t 24)).run P w = .ok true w) (zE : ∀ w, (Go.sizeOf (ρ.t 24)).run P w = .ok k w) (hE : Ent P (ρ.f 6)) {f : α → List (IntKind × Int)} (hk : ∀ x, (f x).length = k) {g : FuncId} {cf : α → α → Int}
  (hO : SWO (ltOf cf)) (hcf : ∀ x y, PureC P g [.agg (cI f x), .agg (cI f y)] (.int .i64 (cf x y))) {j e n : Nat} {l : List α} (hj : H j = some (e, .arr k (l.map (cI f)))) (hn : n = l.length) (hl : l.length < 4611686018427387904) :
  ACall P (ρ.f 6) [.gr j e n, .fn g []] H (fun v H' => v = .tup [] ∧ ∃ l' : List α, l'.Perm l ∧ l'.Pairwise (fun a b => 0 ≤ cf b a) ∧ H' = upd H j (some (e, .arr k (l'.map (cI f))))) := by
 refine ⟨hE, fun G w xs hR hv => ?_⟩
 obtain ⟨hs, hv⟩ := hv
 obtain ⟨x0, x1, rfl⟩ : ∃ x0 x1, xs = #[x0, x1] := by
  obtain ⟨xs⟩ := xs
  match xs, hs with
  | [a, b], _ => exact ⟨a, b, rfl⟩
 have h0 := hv 0 _ rfl
 have h1 := hv 1 _ rfl
 simp only [show (#[x0, x1] : Array Value).getD 0 undef = x0 from rfl, show (#[x0, x1] : Array Value).getD 1 undef = x1 from rfl] at h0 h1
 cases h1 with
 | fn _ _ cb hcs hcv =>
  obtain rfl : cb = #[] := by simpa using hcs
  obtain ⟨hE0, hN0, hrow1, hrow2⟩ := hR.obj j e _ hj
  cases h0 with
  | gr _ _ _ a c he hp =>
   have hh := hp hE0
   unfold Gh.handle at hh
   have nul : n = 0 → Calls P (ρ.f 6) #[.slice a n c, .func (.func g) #[] #[]] w fun e1 w' => ∃ v x G' H', e1 = .returned x ∧ Tr G H w G' H' w' ∧ HRel G' w' H' ∧ G'.D = G.D ∧ VR G' w' v x ∧ (v = .tup [] ∧ ∃ l' : List α, l'.Perm l ∧ l'.Pairwise (fun a b => 0 ≤ cf b a) ∧ H' = upd H j (some (e, .arr k (l'.map (cI f))))) := fun hz => by
    have hl0 : l = [] := List.eq_nil_of_length_eq_zero (hn ▸ hz)
    subst hz
    refine Calls.mono (AnyF.slices_SortFunc_none L a c (.func (.func g) #[] #[]) w) ?_
    rintro e1 w1 ⟨rfl, rfl⟩
    refine ⟨.tup [], _, G, H, rfl, Tr.refl G H w1, hR, rfl, .tup _ _ rfl (fun i v h => by simp at h), rfl, l, .refl _, by subst hl0; exact .nil, ?_⟩
    funext t
    by_cases ht : t = j
    ·subst ht; rw [upd_same, hj]
    ·rw [upd_ne _ _ ht]
   by_cases hz : n = 0
   ·exact nul hz
   cases hK : G.K j with
   | none =>
    rw [hK] at hrow2
    obtain ⟨h2, _⟩ := hrow2
    exact absurd (by rw [hn]; have := congrArg List.length h2; simpa using this) hz
   | some b =>
    rw [hK] at hh hrow2
    simp only [Value.slice.injEq, true_and] at hh
    obtain ⟨rfl, rfl⟩ := hh
    obtain ⟨⟨cs, T0, hb, hcs2⟩, hle, hM⟩ := hrow2
    have hblk : b < w.heap.size := getElem?_lt hb
    have hklen : ∀ x, (vI f x).length = k := fun x => by simp [vI, hk]
    have hone : ∀ x, ∀ v ∈ vI f x, v.oneCell' = true := fun x v hv => by
     simp only [vI, List.mem_map] at hv
     obtain ⟨p, _, rfl⟩ := hv; rfl
    have hfroz : ∀ o, w.frozen? ⟨b, o, none⟩ = false := fun o => by simp [World.frozen?, hb]
    have hcell : ∀ (i : Nat) (x : α), l[i]? = some x → ∀ (q : Nat) (v : Value), (vI f x)[q]? = some v → w.cell? ⟨b, i * k + q, none⟩ = some v := fun i x hi q v hq => by
     have hm := hM i (cI f x) (by rw [List.getElem?_map, hi]; rfl)
     simp only [vI, List.getElem?_map, Option.map_eq_some_iff] at hq
     obtain ⟨p, hp, rfl⟩ := hq
     obtain ⟨y, q1, q2, q3⟩ := hm q (.int p.1 p.2) (by simp only [cI, List.getElem?_map, hp]; rfl)
     cases q3
     exact q1
    have hH : HoldsK (vI f) k w b 0 l.toArray := by
     intro t ht
     have ht' : t < l.toArray.size * k := by simpa using ht
     have hk0 : 0 < k := by
      rcases Nat.eq_zero_or_pos k with h | h
      ·subst h; simp at ht'
      ·exact h
     have hdiv : t / k < l.length := by
      rw [Nat.div_lt_iff_lt_mul hk0]; simpa using ht'
     have hmod := Nat.mod_lt t hk0
     refine ⟨?_, hfroz _⟩
     have hx : l[t / k]? = some l[t / k] := List.getElem?_eq_getElem hdiv
     have := hcell (t / k) _ hx (t % k) ((vI f l[t / k])[t % k]'(by rw [hklen]; exact hmod)) (List.getElem?_eq_getElem _)
     rw [Nat.div_add_mod' t k] at this
     rw [Nat.zero_add, this]
     show some _ = some (flatK (vI f) k l.toArray)[t]!
     rw [get_flatK _ _ _ _ ht']
     rw [getElem!_pos l.toArray (t / k) (by simpa using hdiv)]
     simp only [List.getElem_toArray]
     rw [getElem!_pos (vI f l[t / k]) (t % k) (by rw [hklen]; exact hmod)]
    have eg : ∀ args w, (callFunc g args).run P w = .ok (.enter g args) w := fun args w => by
     obtain ⟨fn, f1, f2, f3⟩ := (hcf default default).1
     simp only [callFunc, Sem.run_bind, run_program, Result.andThen, f1, f3, f2, Bool.false_eq_true, if_false, Sem.run_pure]
    have hsz : l.toArray.size = n := by simp [hn]
    have hlays : ∀ m os dk b', G.I b' → b' < (sortWorldK (vI f) k w b 0 m dk os).heap.size ∧ (sortWorldK (vI f) k w b 0 m dk os).heap[b']? = w.heap[b']? := fun m os dk b' hb' => by
     obtain ⟨h1, h2⟩ := hR.imm b' hb'
     have hne : b' ≠ b := fun e9 => h2 ⟨j, e, _, hj, rfl, by rw [e9]; exact hK⟩
     have hs : (putRowK (vI f) k (Sort.ahead w m) b 0 dk).heap.size = w.heap.size := by simp [putRowK, Sort.ahead]
     have e1 : (sortWorldK (vI f) k w b 0 m dk os).heap = (putRowK (vI f) k (Sort.ahead w m) b 0 dk).heap ++ os := rfl
     rw [e1, Array.size_append, hs, Array.getElem?_append_left (by omega)]
     exact ⟨by omega, heap_putRow hne⟩
    have hc := AnyQ.slices_SortFunc L k aE zE (vI f) hklen hone cf hO g #[] b 0 (G.C j) l.toArray w eg (cmp_lays (G := G) hcf _ _ _ _ hlays hR.glb) hH hblk (by simpa using hl)
    rw [hsz] at hc
    refine Calls.mono hc ?_
    rintro e1 w1 ⟨rfl, d', m, os, hperm, hsort, rfl⟩
    have hpl : d'.toList.Perm l := by
     have := perm_of (by simp [hn]) hperm
     simpa using this
    have hdl : d'.size = l.length := by have := hpl.length_eq; simpa using this
    let w2 := putRowK (vI f) k (Sort.ahead w m) b 0 d'
    have hsame : ∀ k', k' ≠ j → G.E k' = G.E k' ∧ G.N k' = G.N k' := fun _ _ => ⟨rfl, rfl⟩
    have s4 : w2.heap.size = w.heap.size := by simp [w2, putRowK, Sort.ahead]
    have s5 : ∀ b', b' ≠ b → w2.heap[b']? = w.heap[b']? := fun b' hb' => heap_putRow hb'
    have t1 := Tr.write (w' := w2) (e := e) (ao := .arr k (d'.toList.map (cI f))) (E' := G.E) (N' := G.N) hR hj rfl hK hsame (.inl ⟨rfl, rfl⟩) rfl ⟨rfl, Nat.le_add_right _ _⟩ rfl s4 s5
    have hcell2 : ∀ t, t < d'.size * k → w2.cell? ⟨b, t, none⟩ = some ((flatK (vI f) k d')[t]!) := fun t ht => by
     have := cell?_putRow id (Sort.ahead w m) b 0 (flatK (vI f) k l.toArray) (flatK (vI f) k d') (fun q hq => hH q hq) (by simp [hdl]) t (by simpa using ht)
     rwa [Nat.zero_add] at this
    obtain ⟨cs3, hb2, hcs3⟩ : ∃ cs3, w2.heap[b]? = some (.cells cs3 T0 (0, 0)) ∧ cs3.size = cs.size := by
     have e1 : w2.heap[b]? = some (onCells (putCells id 0 (flatK (vI f) k d')) (.cells cs T0 (0, 0))) := by
      show ((Sort.ahead w m).heap.modify b _)[b]? = _
      rw [Array.getElem?_modify, if_pos rfl]
      show (w.heap[b]?).map _ = _
      rw [hb]; rfl
     exact ⟨_, e1, by simp [putCells]⟩
    have hrel : HRel G w2 (upd H j (some (e, .arr k (d'.toList.map (cI f))))) := by
     refine hR.write hj rfl hK hsame (.inl ⟨rfl, rfl⟩) rfl ⟨rfl, Nat.le_add_right _ _⟩ rfl s4 s5 ⟨hE0, hN0⟩ ?_ (fun _ _ _ _ _ h => by cases h) (fun _ _ h => by cases h)
     refine ⟨fun i es hi => ?_, ?_⟩
     ·rw [List.getElem?_map, Option.map_eq_some_iff] at hi
      obtain ⟨x, _, rfl⟩ := hi
      simp [cI, hk]
     ·simp only [hK]
      refine ⟨⟨cs3, T0, hb2, by rw [hcs3, hcs2]⟩, by simpa [hdl] using hle, fun i es hi => ?_⟩
      rw [List.getElem?_map, Option.map_eq_some_iff] at hi
      obtain ⟨x, hx, rfl⟩ := hi
      intro q v hq
      simp only [cI, List.getElem?_map, Option.map_eq_some_iff] at hq
      obtain ⟨p, hp, rfl⟩ := hq
      have hql : q < k := by have := (List.getElem?_eq_some_iff.1 hp).1; rwa [hk] at this
      have hil : i < d'.size := by have := (List.getElem?_eq_some_iff.1 hx).1; simpa using this
      have hlt : i * k + q < d'.size * k := by
       have : (i + 1) * k ≤ d'.size * k := Nat.mul_le_mul_right k hil
       rw [Nat.add_mul, Nat.one_mul] at this
       omega
      refine ⟨.int p.1 p.2, ?_, rfl, .int _ _⟩
      rw [hcell2 _ hlt, get_flatK _ _ _ _ hlt]
      have hk0 : 0 < k := by omega
      have e1 : (i * k + q) / k = i := by rw [Nat.add_comm, Nat.add_mul_div_right _ _ hk0, Nat.div_eq_of_lt hql, Nat.zero_add]
      have e2 : (i * k + q) % k = q := by rw [Nat.add_comm, Nat.add_mul_mod_self_right, Nat.mod_eq_of_lt hql]
      rw [e1, e2, getElem!_pos d' i hil]
      have e3 : d'[i] = x := by
       have := hx
       rw [Array.getElem?_toList, Array.getElem?_eq_getElem hil] at this
       simpa using this
      rw [e3, getElem!_pos (vI f x) q (by rw [hklen]; exact hql)]
      have e4 : (vI f x)[q]? = some (.int p.1 p.2) := by simp only [vI, List.getElem?_map, hp]; rfl
      rw [List.getElem?_eq_getElem (by rw [hklen]; exact hql)] at e4
      simpa using e4
    have hgrow : ∀ b', b' < w2.heap.size → (grow w2 os).heap[b']? = w2.heap[b']? := fun b' hb' => by
     show (w2.heap ++ os)[b']? = _
     rw [Array.getElem?_append_left hb']
    have t2 : Tr G (upd H j (some (e, .arr k (d'.toList.map (cI f))))) w2 G (upd H j (some (e, .arr k (d'.toList.map (cI f))))) (grow w2 os) :=
     ⟨rfl, ⟨rfl, Nat.le_refl _⟩, rfl, by show w2.heap.size ≤ (w2.heap ++ os).size; simp, fun b' hb' _ => hgrow b' hb', fun b' hb' => .inl hb', fun _ h => h, fun _ h => .inl h, fun _ => Nat.le_refl _, fun _ => .inl ⟨rfl, rfl, rfl⟩, [], rfl⟩
    have hrel2 := hrel.still t2 rfl (fun _ => ⟨rfl, rfl, rfl⟩) hgrow (fun b' hb' => ⟨Nat.lt_of_lt_of_le (hrel.imm b' hb').1 t2.size, (hrel.imm b' hb').2⟩)
    refine ⟨.tup [], _, G, _, rfl, t1.trans t2, hrel2, rfl, .tup _ _ rfl (fun i v h => by simp at h), rfl, d'.toList, hpl, ?_, rfl⟩
    rw [List.pairwise_iff_getElem]
    intro i q hi hq hiq
    have hq' : q < d'.size := by simpa using hq
    have hi' : i < d'.size := by simpa using hi
    have := hsort i q (Nat.zero_le _) hiq (by omega)
    rw [getElem!_pos d' q hq', getElem!_pos d' i hi'] at this
    simp only [ltOf, decide_eq_false_iff_not] at this
    simp only [Array.getElem_toList]
    omega
end
end Cp
namespace Cp
open Go Go.Proofs
set_option maxRecDepth 10000
def sortB_ren : Go.Shelf.Ren := ⟨fun | 6 => 83 | 14 => 114 | 15 => 115 | 20 => 124 | 21 => 125 | 22 => 126 | 23 => 127 | 24 => 128 | 25 => 129 | 26 => 130 | 27 => 131 | 28 => 132 | 29 => 133 | 46 => 135 | 47 => 136 | 48 => 137 | 49 => 138 | 50 => 139 | 57 => 140 | n => n, fun | 0 => 0 | 3 => 3 | 4 => 4 | 5 => 5 | 9 => 9 | 22 => 116 | 24 => 120 | 25 => 160 | 39 => 190 | 45 => 200 | 46 => 201 | 50 => 90 | 53 => 122 | 55 => 208 | 66 => 209 | 70 => 213 | 76 => 215 | 77 => 216 | n => n, fun n => n⟩
theorem sortB : Go.Proofs.SlLaysF0.n6 Tryz.prog sortB_ren := {
 mixed := by kernel_rfl,
 f6 := ⟨Tryz.f83.name, by decide, Tryz.func83.trans (congrArg some (by kernel_rfl))⟩,
 f14 := ⟨Tryz.f114.name, by decide, Tryz.func114.trans (congrArg some (by kernel_rfl))⟩,
 f15 := Tryz.func115.trans (congrArg some (by kernel_rfl)),
 f20 := ⟨Tryz.f124.name, by decide, Tryz.func124.trans (congrArg some (by kernel_rfl))⟩,
 f21 := ⟨Tryz.f125.name, by decide, Tryz.func125.trans (congrArg some (by kernel_rfl))⟩,
 f22 := ⟨Tryz.f126.name, by decide, Tryz.func126.trans (congrArg some (by kernel_rfl))⟩,
 f23 := ⟨Tryz.f127.name, by decide, Tryz.func127.trans (congrArg some (by kernel_rfl))⟩,
 f24 := ⟨Tryz.f128.name, by decide, Tryz.func128.trans (congrArg some (by kernel_rfl))⟩,
 f25 := ⟨Tryz.f129.name, by decide, Tryz.func129.trans (congrArg some (by kernel_rfl))⟩,
 f26 := ⟨Tryz.f130.name, by decide, Tryz.func130.trans (congrArg some (by kernel_rfl))⟩,
 f27 := ⟨Tryz.f131.name, by decide, Tryz.func131.trans (congrArg some (by kernel_rfl))⟩,
 f28 := Tryz.func132.trans (congrArg some (by kernel_rfl)),
 f29 := Tryz.func133.trans (congrArg some (by kernel_rfl)),
 f46 := ⟨Tryz.f135.name, by decide, Tryz.func135.trans (congrArg some (by kernel_rfl))⟩,
 f47 := Tryz.func136.trans (congrArg some (by kernel_rfl)),
 f48 := Tryz.func137.trans (congrArg some (by kernel_rfl)),
 f49 := ⟨Tryz.f138.name, by decide, Tryz.func138.trans (congrArg some (by kernel_rfl))⟩,
 f50 := ⟨Tryz.f139.name, by decide, Tryz.func139.trans (congrArg some (by kernel_rfl))⟩,
 f57 := ⟨Tryz.f140.name, by decide, Tryz.func140.trans (congrArg some (by kernel_rfl))⟩,
 t0 := Tryz.underlying0,
 a0 := Tryz.isAgg0,
 z0 := Tryz.sizeOf0,
 v0 := Tryz.zeroValue0,
 t3 := Tryz.underlying3,
 a3 := Tryz.isAgg3,
 z3 := Tryz.sizeOf3,
 v3 := Tryz.zeroValue3,
 t4 := Tryz.underlying4,
 a4 := Tryz.isAgg4,
 z4 := Tryz.sizeOf4,
 v4 := Tryz.zeroValue4,
 t5 := Tryz.underlying5,
 a5 := Tryz.isAgg5,
 z5 := Tryz.sizeOf5,
 v5 := Tryz.zeroValue5,
 t9 := Tryz.underlying9,
 a9 := Tryz.isAgg9,
 z9 := Tryz.sizeOf9,
 v9 := Tryz.zeroValue9,
 t22 := Tryz.underlying116,
 a22 := Tryz.isAgg116,
 z22 := Tryz.sizeOf116,
 v22 := Tryz.zeroValue116,
 t25 := Tryz.underlying160,
 a25 := Tryz.isAgg160,
 z25 := Tryz.sizeOf160,
 v25 := Tryz.zeroValue160,
 t39 := Tryz.underlying190,
 a39 := Tryz.isAgg190,
 z39 := Tryz.sizeOf190,
 v39 := Tryz.zeroValue190,
 t45 := Tryz.underlying200,
 a45 := Tryz.isAgg200,
 z45 := Tryz.sizeOf200,
 v45 := Tryz.zeroValue200,
 t46 := Tryz.underlying201,
 a46 := Tryz.isAgg201,
 z46 := Tryz.sizeOf201,
 v46 := Tryz.zeroValue201,
 t50 := Tryz.underlying90,
 a50 := Tryz.isAgg90,
 z50 := Tryz.sizeOf90,
 v50 := Tryz.zeroValue90,
 t53 := Tryz.underlying122,
 a53 := Tryz.isAgg122,
 z53 := Tryz.sizeOf122,
 v53 := Tryz.zeroValue122,
 t55 := Tryz.underlying208,
 a55 := Tryz.isAgg208,
 z55 := Tryz.sizeOf208,
 v55 := Tryz.zeroValue208,
 t66 := Tryz.underlying209,
 a66 := Tryz.isAgg209,
 z66 := Tryz.sizeOf209,
 v66 := Tryz.zeroValue209,
 t70 := Tryz.underlying213,
 a70 := Tryz.isAgg213,
 z70 := Tryz.sizeOf213,
 v70 := Tryz.zeroValue213,
 t76 := Tryz.underlying215,
 a76 := Tryz.isAgg215,
 z76 := Tryz.sizeOf215,
 v76 := Tryz.zeroValue215,
 t77 := Tryz.underlying216,
 a77 := Tryz.isAgg216,
 z77 := Tryz.sizeOf216,
 v77 := Tryz.zeroValue216 }
def BrB := { b : Brc // 0 ≤ b.kind ∧ b.kind ≤ 255 }
instance : Inhabited BrB := ⟨⟨⟨0, 0, 0, 0⟩, by decide⟩⟩
def brI (b : BrB) : List (IntKind × Int) := [(.i64, b.1.m), (.u8, b.1.kind), (.i64, b.1.cpl), (.u8, b.1.known)]
theorem cmpI_cases (a b : Int) : (a < b ∧ cmpI a b = -1) ∨ (a = b ∧ cmpI a b = 0) ∨ (b < a ∧ cmpI a b = 1) := by
 unfold cmpI
 by_cases h : a < b
 ·simp [h]
 ·by_cases h2 : b < a
  ·simp [h, h2]
  ·simp [h, h2]; omega
def brLt (a b : Brc) : Prop := a.m < b.m ∨ a.m = b.m ∧ (a.kind < b.kind ∨ a.kind = b.kind ∧ a.cpl < b.cpl)
theorem cmpB_neg (a b : Brc) : cmpB a b < 0 ↔ brLt a b := by
 unfold cmpB brLt
 rcases cmpI_cases a.m b.m with ⟨h, e⟩ | ⟨h, e⟩ | ⟨h, e⟩ <;> rw [e]
 ·simp; omega
 ·rcases cmpI_cases a.kind b.kind with ⟨h2, e⟩ | ⟨h2, e⟩ | ⟨h2, e⟩ <;> rw [e]
  ·simp; omega
  ·rcases cmpI_cases a.cpl b.cpl with ⟨h3, e⟩ | ⟨h3, e⟩ | ⟨h3, e⟩ <;> rw [e] <;> simp <;> omega
  ·simp; omega
 ·simp; omega
theorem brSWO : Go.Sort.SWO (ltOf fun a b : BrB => cmpB a.1 b.1) where
 irrefl x := by simp only [ltOf, decide_eq_false_iff_not, cmpB_neg, brLt]; omega
 trans x y z h1 h2 := by simp only [ltOf, decide_eq_true_eq, cmpB_neg, brLt] at *; omega
 ntrans x y z h1 h2 := by simp only [ltOf, decide_eq_false_iff_not, cmpB_neg, brLt] at *; omega
theorem brSort (H : Hp) (j e n : Nat) (l : List Brc) (hl : ∀ b ∈ l, 0 ≤ b.kind ∧ b.kind ≤ 255) (hj : H j = some (e, .arr 4 (l.map cBrc))) (hn : n = l.length) (hlen : l.length < 4611686018427387904) :
  ACall Tryz.prog 83 [.gr j e n, .fn 84 []] H (fun v H' => ∃ l' : List Brc, l'.Perm l ∧ l'.Pairwise (fun a b => ¬ brLt b a) ∧ H' = upd H j (some (e, .arr 4 (l'.map cBrc)))) := by
 obtain ⟨lb, rfl⟩ : ∃ lb : List BrB, l = lb.map (·.1) := by
  clear hj hn hlen
  induction l with
  | nil => exact ⟨[], rfl⟩
  | cons a l ih =>
   obtain ⟨lb, rfl⟩ := ih fun b hb => hl b (by simp [hb])
   exact ⟨⟨a, hl a (by simp)⟩ :: lb, rfl⟩
 have hS := sort_acall (P := Tryz.prog) (ρ := sortB_ren) (H := H) sortB (k := 4) (fun w => Tryz.isAgg120 w) (fun w => Tryz.sizeOf120 w) ⟨Tryz.f83, by kernel_rfl, by kernel_rfl, by kernel_rfl⟩ (f := brI) (fun _ => rfl) (g := 84) (cf := fun a b => cmpB a.1 b.1) brSWO
  (fun x y => cmp_ok x.1 y.1 x.2 y.2) (j := j) (e := e) (n := n) (l := lb) (by rw [hj, List.map_map]; rfl) (by simpa using hn) (by simpa using hlen)
 refine ⟨hS.1, fun G w xs hR hv => Calls.mono (hS.2 G w xs hR hv) ?_⟩
 rintro e1 w1 ⟨v, x, G', H', h1, h2, h3, h4, h5, rfl, l', hp, hs, rfl⟩
 refine ⟨_, x, G', _, h1, h2, h3, h4, h5, l'.map (·.1), hp.map _, ?_, by rw [List.map_map]; rfl⟩
 rw [List.pairwise_map]
 refine hs.imp fun {a b} h => ?_
 rw [← cmpB_neg]
 omega
theorem brSort0 (H : Hp) (g : FuncId) : ACall Tryz.prog 83 [.nils, .fn g []] H (fun v H' => H' = H) := by
 refine ⟨⟨Tryz.f83, by kernel_rfl, by kernel_rfl, by kernel_rfl⟩, fun G w xs hR hv => ?_⟩
 obtain ⟨hs, hv⟩ := hv
 obtain ⟨x0, x1, rfl⟩ : ∃ x0 x1, xs = #[x0, x1] := by
  obtain ⟨xs⟩ := xs
  match xs, hs with
  | [a, b], _ => exact ⟨a, b, rfl⟩
 have h0 := hv 0 _ rfl
 simp only [show (#[x0, x1] : Array Value).getD 0 undef = x0 from rfl] at h0
 cases h0 with
 | nils a =>
  refine Calls.mono (AnyF.slices_SortFunc_none (P := Tryz.prog) (ρ := sortB_ren) sortB a 0 x1 w) ?_
  rintro e1 w1 ⟨rfl, rfl⟩
  exact ⟨.tup [], _, G, H, rfl, Tr.refl G H w1, hR, rfl, .tup _ _ rfl (fun i v h => by simp at h), rfl⟩
end Cp
namespace Cp
open Go
theorem sorted_uniq : ∀ (S l : List Brc), l.Perm S → S.Pairwise brLt → l.Pairwise (fun a b => ¬ brLt b a) → l = S
 | [], l, hp, _, _ => hp.eq_nil
 | s :: S, [], hp, _, _ => absurd hp.symm.eq_nil (by simp)
 | s :: S, a :: l, hp, hS, hl => by
  rw [List.pairwise_cons] at hS hl
  have hs : s = a := by
   have h1 := hp.mem_iff.1 (List.mem_cons_self (a := a) (l := l))
   have h2 := hp.mem_iff.2 (List.mem_cons_self (a := s) (l := S))
   rcases List.mem_cons.1 h1 with h1 | h1
   ·exact h1.symm
   ·rcases List.mem_cons.1 h2 with h2 | h2
    ·exact h2
    ·exact absurd (hS.1 a h1) (hl.1 s h2)
  subst hs
  rw [sorted_uniq S l (List.perm_cons s |>.1 hp) hS.2 hl.2]
theorem oneB_mem {m q c n : Int} {b : Brc} (h : b ∈ oneB m q c n) : b = ⟨m, q, c, n⟩ ∧ n ≠ 0 := by
 unfold oneB at h
 split at h
 ·simp at h
 ·rename_i hn; simp at h; exact ⟨h, hn⟩
theorem oneB_pair {m q c n : Int} : (oneB m q c n).Pairwise brLt := by unfold oneB; split <;> simp
theorem singL_mem {r : RunT} {u : RulesT} {m : Int} : ∀ {l : List Nat} {b : Brc}, b ∈ singL r u m l → ∃ i c, i ∈ l ∧ r.cpls[i]? = some c ∧ b = ⟨m, 3, c.id, singS r u c i m⟩ ∧ singS r u c i m ≠ 0
 | [], b, h => by simp [singL] at h
 | i :: l, b, h => by
  simp only [singL, List.mem_append] at h
  rcases h with h | h
  ·unfold singI at h
   split at h
   ·rename_i c hc
    obtain ⟨h1, h2⟩ := oneB_mem h
    exact ⟨i, c, by simp, hc, h1, h2⟩
   ·simp at h
  ·obtain ⟨j, c, h1, h2⟩ := singL_mem h
   exact ⟨j, c, by simp [h1], h2⟩
theorem singL_pair {r : RunT} (hF : RunF r) {u : RulesT} {m : Int} : ∀ {l : List Nat}, l.Pairwise (· < ·) → (singL r u m l).Pairwise brLt
 | [], _ => .nil
 | i :: l, h => by
  rw [List.pairwise_cons] at h
  simp only [singL]
  rw [List.pairwise_append]
  refine ⟨by unfold singI; split; exact oneB_pair; exact .nil, singL_pair hF h.2, fun a ha b hb => ?_⟩
  obtain ⟨j, c, h1, h2, rfl, _⟩ := singL_mem hb
  unfold singI at ha
  split at ha
  ·rename_i c0 hc0
   obtain ⟨rfl, _⟩ := oneB_mem ha
   have := hF.ids i j c0 c (h.1 j h1) hc0 h2
   exact .inr ⟨rfl, .inr ⟨rfl, this⟩⟩
  ·simp at ha
theorem minB_mem {r : RunT} {u : RulesT} {k : Nat} {b : Brc} (h : b ∈ minB r u k) : b.m = k ∧ ((b ∈ blindB r (k : Int) ∧ b.kind = 1) ∨ (b ∈ oneB (k : Int) 2 (-1) (areaS r u k) ∧ b.kind = 2) ∨ (b ∈ singB r u (k : Int) ∧ b.kind = 3) ∨ (b ∈ pressB r u (k : Int) ∧ b.kind = 4)) := by
 simp only [minB, List.mem_append] at h
 rcases h with ((h | h) | h) | h
 ·have h' := h
  unfold blindB at h; split at h
  ·simp at h; subst h; exact ⟨rfl, .inl ⟨h', rfl⟩⟩
  ·simp at h
 ·obtain ⟨rfl, _⟩ := oneB_mem h; exact ⟨rfl, .inr (.inl ⟨h, rfl⟩)⟩
 ·have h' := h
  unfold singB at h; split at h
  ·simp at h
  ·obtain ⟨i, c, _, _, rfl, _⟩ := singL_mem h; exact ⟨rfl, .inr (.inr (.inl ⟨h', rfl⟩))⟩
 ·have h' := h
  unfold pressB at h; split at h
  ·simp at h
  ·obtain ⟨rfl, _⟩ := oneB_mem h; exact ⟨rfl, .inr (.inr (.inr ⟨h', rfl⟩))⟩
theorem blindB_kind {r : RunT} {m : Int} {b : Brc} (h : b ∈ blindB r m) : b.m = m ∧ b.kind = 1 := by
 unfold blindB at h; split at h <;> simp at h; subst h; exact ⟨rfl, rfl⟩
theorem singB_kind {r : RunT} {u : RulesT} {m : Int} {b : Brc} (h : b ∈ singB r u m) : b.m = m ∧ b.kind = 3 := by
 unfold singB at h; split at h
 ·simp at h
 ·obtain ⟨i, c, _, _, rfl, _⟩ := singL_mem h; exact ⟨rfl, rfl⟩
theorem pressB_kind {r : RunT} {u : RulesT} {m : Int} {b : Brc} (h : b ∈ pressB r u m) : b.m = m ∧ b.kind = 4 := by
 unfold pressB at h; split at h
 ·simp at h
 ·obtain ⟨rfl, _⟩ := oneB_mem h; exact ⟨rfl, rfl⟩
theorem minB_pair {r : RunT} (hF : RunF r) {u : RulesT} {k : Nat} : (minB r u k).Pairwise brLt := by
 have h1 : (blindB r (k : Int)).Pairwise brLt := by unfold blindB; split <;> simp
 have h3 : (singB r u (k : Int)).Pairwise brLt := by unfold singB; split; exact .nil; exact singL_pair hF wk_sorted
 have h4 : (pressB r u (k : Int)).Pairwise brLt := by unfold pressB; split; exact .nil; exact oneB_pair
 simp only [minB]
 rw [List.pairwise_append, List.pairwise_append, List.pairwise_append]
 refine ⟨⟨⟨h1, oneB_pair, fun a ha b hb => ?_⟩, h3, fun a ha b hb => ?_⟩, h4, fun a ha b hb => ?_⟩
 ·obtain ⟨q1, q2⟩ := blindB_kind ha; obtain ⟨rfl, _⟩ := oneB_mem hb
  exact .inr ⟨q1, .inl (by rw [q2]; simp)⟩
 ·obtain ⟨q1, q2⟩ := singB_kind hb
  rcases List.mem_append.1 ha with ha | ha
  ·obtain ⟨p1, p2⟩ := blindB_kind ha; exact .inr ⟨by rw [p1, q1], .inl (by omega)⟩
  ·obtain ⟨rfl, _⟩ := oneB_mem ha; exact .inr ⟨by rw [q1], .inl (by simp only; omega)⟩
 ·obtain ⟨q1, q2⟩ := pressB_kind hb
  rcases List.mem_append.1 ha with ha | ha
  ·rcases List.mem_append.1 ha with ha | ha
   ·obtain ⟨p1, p2⟩ := blindB_kind ha; exact .inr ⟨by rw [p1, q1], .inl (by omega)⟩
   ·obtain ⟨rfl, _⟩ := oneB_mem ha; exact .inr ⟨by rw [q1], .inl (by simp only; omega)⟩
  ·obtain ⟨p1, p2⟩ := singB_kind ha; exact .inr ⟨by rw [p1, q1], .inl (by omega)⟩
theorem leftB_mem {r : RunT} {u : RulesT} : ∀ {k : Nat} {b : Brc}, b ∈ leftB r u k → ∃ j, 1 ≤ j ∧ j ≤ k ∧ b ∈ minB r u j
 | 0, b, h => by simp [leftB] at h
 | k + 1, b, h => by
  simp only [leftB, List.mem_append] at h
  rcases h with h | h
  ·obtain ⟨j, h1, h2, h3⟩ := leftB_mem h; exact ⟨j, h1, by omega, h3⟩
  ·exact ⟨k + 1, by omega, Nat.le_refl _, h⟩
theorem leftB_pair {r : RunT} (hF : RunF r) {u : RulesT} : ∀ {k : Nat}, (leftB r u k).Pairwise brLt
 | 0 => .nil
 | k + 1 => by
  simp only [leftB]
  rw [List.pairwise_append]
  refine ⟨leftB_pair hF, minB_pair hF, fun a ha b hb => ?_⟩
  obtain ⟨j, h1, h2, h3⟩ := leftB_mem ha
  obtain ⟨q1, _⟩ := minB_mem h3
  obtain ⟨q2, _⟩ := minB_mem hb
  exact .inl (by omega)
theorem leftS_kind {r : RunT} {u : RulesT} {b : Brc} (h : b ∈ leftS r u) : 0 ≤ b.kind ∧ b.kind ≤ 255 := by
 obtain ⟨j, _, _, h3⟩ := leftB_mem h
 obtain ⟨_, h4⟩ := minB_mem h3
 rcases h4 with h | h | h | h <;> omega
end Cp
namespace Cp
open Go
theorem PureC.weak {P : Program} {fid : FuncId} {args : List Val} {v v' : Val} (h : PureC P fid args v) (hn : noid v' = true) (hw : ∀ G w x, VR G w v x → VR G w v' x) : PureC P fid args v' :=
 ⟨h.1, h.2.1, hn, fun G w xs hR hv => Calls.mono (h.2.2.2 G w xs hR hv) (by rintro e w' ⟨x, I', h1, h2, h3, h4⟩; exact ⟨x, I', h1, h2, h3, hw _ _ _ h4⟩)⟩
theorem VR.tup_nils {G : Gh} {w : World} {n : Nat} {cs : List Val} {x : Value} (h : VR G w (.tup (.nils :: cs)) x) : VR G w (.tup (.lst n [] :: cs)) x := by
 cases h with
 | tup _ xs hs hv =>
  refine .tup _ xs (by simpa using hs) (fun i v hi => ?_)
  cases i with
  | zero => cases hi; exact (hv 0 .nils rfl).nils_lst _
  | succ i => exact hv (i + 1) v hi
def p2 (b : Brc) : Bool := !decide (b.known = 2)
def firstK (l : List Brc) : Nat := (l.takeWhile p2).length
theorem firstK_lt : ∀ {l : List Brc} {i : Nat} {b : Brc}, i < firstK l → l[i]? = some b → ¬ b.known = 2
 | [], i, b, h, hb => by simp at hb
 | a :: l, i, b, h, hb => by
  unfold firstK at h
  rw [List.takeWhile_cons] at h
  split at h
  ·rename_i hp
   cases i with
   | zero => simp at hb; subst hb; simpa [p2] using hp
   | succ i => exact firstK_lt (l := l) (i := i) (by simpa [firstK] using h) (by simpa using hb)
  ·simp at h
theorem firstK_at : ∀ {l : List Brc} {b : Brc}, l[firstK l]? = some b → b.known = 2
 | [], b, h => by simp at h
 | a :: l, b, h => by
  unfold firstK at h
  rw [List.takeWhile_cons] at h
  split at h
  ·rename_i hp
   exact firstK_at (l := l) (by simpa [firstK] using h)
  ·rename_i hp
   simp at h; subst h; simpa [p2] using hp
def firstS (l : List Brc) (t : Int) : Int × Int := match l[0]? with | some b => if b.m ≤ t then (1, b.m) else (2, 0) | none => (2, 0)
def keptL (l : List Brc) (t : Int) : Int × Int := match l[firstK l]? with | some b => if b.m ≤ t then (0, b.m) else firstS l t | none => firstS l t
theorem firstK_ge {l : List Brc} {j : Nat} (h : ∀ i b, i < j → l[i]? = some b → ¬ b.known = 2) (hj : j ≤ l.length) : j ≤ firstK l := by
 rcases Nat.lt_or_ge (firstK l) j with hlt | hge
 ·exfalso
  have hx : l[firstK l]? = some l[firstK l] := List.getElem?_eq_getElem (by omega)
  exact h _ _ hlt hx (firstK_at hx)
 ·exact hge
theorem sorted_m {l : List Brc} (hs : l.Pairwise brLt) {i j : Nat} {a b : Brc} (hij : i ≤ j) (ha : l[i]? = some a) (hb : l[j]? = some b) : a.m ≤ b.m := by
 rcases Nat.eq_or_lt_of_le hij with rfl | hlt
 ·rw [ha] at hb; cases hb; exact Int.le_refl _
 ·obtain ⟨h1, rfl⟩ := List.getElem?_eq_some_iff.1 ha
  obtain ⟨h2, rfl⟩ := List.getElem?_eq_some_iff.1 hb
  have := (List.pairwise_iff_getElem.1 hs) i j h1 h2 hlt
  unfold brLt at this
  omega
theorem keptL_stop {l : List Brc} (hs : l.Pairwise brLt) {t : Int} {j : Nat} {b : Brc} (h : ∀ i b, i < j → l[i]? = some b → ¬ b.known = 2) (hb : l[j]? = some b) (hm : t < b.m) : keptL l t = firstS l t := by
 have hge := firstK_ge h (Nat.le_of_lt (List.getElem?_eq_some_iff.1 hb).1)
 unfold keptL
 cases hq : l[firstK l]? with
 | none => rfl
 | some c =>
  have := sorted_m hs hge hb hq
  simp only
  rw [if_neg (by omega)]
theorem keptL_sure {l : List Brc} {t : Int} {j : Nat} {b : Brc} (h : ∀ i b, i < j → l[i]? = some b → ¬ b.known = 2) (hb : l[j]? = some b) (h2 : b.known = 2) (hm : b.m ≤ t) : keptL l t = (0, b.m) := by
 have hge := firstK_ge h (Nat.le_of_lt (List.getElem?_eq_some_iff.1 hb).1)
 have : firstK l = j := by
  rcases Nat.eq_or_lt_of_le hge with h | h
  ·exact h.symm
  ·exact absurd h2 (firstK_lt h hb)
 unfold keptL
 rw [this, hb]
 simp only
 rw [if_pos hm]
theorem keptL_end {l : List Brc} {t : Int} (h : ∀ i b, i < l.length → l[i]? = some b → ¬ b.known = 2) : keptL l t = firstS l t := by
 have hge := firstK_ge h (Nat.le_refl _)
 unfold keptL
 rw [List.getElem?_eq_none hge]
end Cp
namespace Cp
open Go
variable {l : List Brc} {t x : Int} {j : Nat} {b : Brc}
theorem keptL_mono {t t' : Int} (h : t ≤ t') : (keptL l t').1 ≤ (keptL l t).1 ∧ 0 ≤ (keptL l t').1 ∧ (keptL l t).1 ≤ 2 := by
 have hF : ∀ s, firstS l s = (1, (firstS l s).2) ∨ firstS l s = (2, (firstS l s).2) := fun s => by
  unfold firstS; split
  ·split
   ·exact .inl rfl
   ·exact .inr rfl
  ·exact .inr rfl
 have hF2 : (firstS l t').1 ≤ (firstS l t).1 := by
  unfold firstS; split
  ·split <;> split <;> first | omega | simp
  ·simp
 have e1 := hF t
 have e2 := hF t'
 have h1 : (firstS l t).1 = 1 ∨ (firstS l t).1 = 2 := by rcases e1 with e | e <;> rw [e] <;> simp
 have h2 : (firstS l t').1 = 1 ∨ (firstS l t').1 = 2 := by rcases e2 with e | e <;> rw [e] <;> simp
 unfold keptL
 split
 ·split <;> split <;> first | (exfalso; omega) | (refine ⟨?_, ?_, ?_⟩ <;> (try simp only) <;> omega)
 ·omega
end Cp
namespace Cp
open Go
def clsL : List Int := [5, 10, 15, 20, 30, 45, 60]
def knownAt (t : TestT) (c : Int) : Int := if (t.run.rows.length : Int) < c then 0 else (keptL (leftS t.run t.rules) c).1
def sureF2 (t : TestT) (f : FailT) (c : Int) : Bool := (decide (f.held = 2) || decide (60 * c < f.at1.lo)) && (decide (60 * c ≤ t.fin - t.clock.hi) && decide (knownAt t c = 2))
def mayF2 (t : TestT) (f : FailT) (c : Int) : Bool := (!decide (f.held = 0) || decide (60 * c < f.at1.hi)) && (decide (60 * c ≤ t.fin - t.clock.lo) && !decide (knownAt t c = 0))
def sureP (t : TestT) (l : Nat) (c : Int) : Bool := sureF2 t (letterS t l) c
def mayP (t : TestT) (l : Nat) (c : Int) : Bool := mayF2 t (letterS t l) c
def grt (p : Int → Bool) : List Int → Int → Int
 | [], b => b
 | x :: l, b => if p x = true then grt p l x else b
def lastP (p : Int → Bool) (l : List Int) (b : Int) : Int := l.foldl (fun b x => if p x = true then x else b) b
def sureS (t : TestT) (l : Nat) : Int := grt (sureP t l) clsL 0
def mayS (t : TestT) (l : Nat) : Int := grt (mayP t l) clsL 0
theorem lastP_none {p : Int → Bool} : ∀ {l : List Int} {b : Int}, (∀ x ∈ l, p x = false) → lastP p l b = b
 | [], b, _ => rfl
 | x :: l, b, h => by
  unfold lastP
  rw [List.foldl_cons, h x (by simp)]
  exact lastP_none fun y hy => h y (by simp [hy])
theorem grt_last {p : Int → Bool} : ∀ {l : List Int} {b : Int}, l.Pairwise (fun x y => p y = true → p x = true) → grt p l b = lastP p l b
 | [], b, _ => rfl
 | x :: l, b, h => by
  obtain ⟨h1, h2⟩ := List.pairwise_cons.1 h
  simp only [grt]
  by_cases hx : p x = true
  ·rw [if_pos hx, grt_last h2]
   show _ = l.foldl _ (if p x = true then x else b)
   rw [if_pos hx]; rfl
  ·rw [if_neg hx]
   show _ = l.foldl _ (if p x = true then x else b)
   rw [if_neg hx]
   exact (lastP_none fun y hy => by
    cases hy' : p y with
    | false => rfl
    | true => exact absurd (h1 y hy hy') hx).symm
theorem clsL_up : clsL.Pairwise (· ≤ ·) := by decide
theorem clsL_pos {c : Int} (h : c ∈ clsL) : 5 ≤ c ∧ c ≤ 60 := by
 simp only [clsL, List.mem_cons, List.not_mem_nil, or_false] at h
 omega
def Down (p : Int → Bool) : Prop := ∀ x y, x ≤ y → p y = true → p x = true
theorem Down.pair {p : Int → Bool} (h : Down p) : clsL.Pairwise (fun x y => p y = true → p x = true) := clsL_up.imp fun hxy => h _ _ hxy
theorem knownAt_mono {t : TestT} {x y : Int} (h : x ≤ y) : knownAt t y ≤ knownAt t x ∧ 0 ≤ knownAt t y ∧ knownAt t x ≤ 2 := by
 have hm := keptL_mono (l := leftS t.run t.rules) h
 unfold knownAt
 split <;> split <;> omega
theorem sureF2_down {t : TestT} {f : FailT} : Down (sureF2 t f) := by
 intro x y h hy
 have := knownAt_mono (t := t) h
 simp only [sureF2, Bool.and_eq_true, Bool.or_eq_true, decide_eq_true_eq] at hy ⊢
 omega
theorem mayF2_down {t : TestT} {f : FailT} : Down (mayF2 t f) := by
 intro x y h hy
 have := knownAt_mono (t := t) h
 simp only [mayF2, Bool.and_eq_true, Bool.or_eq_true, decide_eq_true_eq, Bool.not_eq_true', decide_eq_false_iff_not] at hy ⊢
 omega
end Cp
namespace Cp
open Go Go.Proofs
set_option maxRecDepth 10000
set_option maxHeartbeats 1000000
theorem btold_ok (lo hi : Int) (b : Bool) : PureC Tryz.prog 157 [.agg [.int .i64 lo, .int .i64 hi, .bool b]] (encFail ⟨if b = true then 0 else 1, ⟨lo, hi⟩⟩) := by
 refine PureC_of (fn := Tryz.f157) tabOK (by kernel_rfl) rfl (by kernel_rfl) (by simp [Tryz.f157]) (by simp [noids, noid, noidss, go_sem, encFail, cFail]) (by first | rfl | simp [noids, noid, noidss, go_sem, encFail, cFail]) ?_
 intro X hX0 hXs
 cases b with
 | true =>
  repeat' (first | with_reducible (first | (refine sk ?_; intro K hK) | intro (ep : Nat → Nat) | apply_assumption -exfalso -symm only [*]) | ((with_reducible first | refine rg (h := ?_) | refine nx ?_); try simp (disch := omega) only [encFail, cFail,go_sem, simprocAttr]) | ((with_reducible refine' cE ?hv ?_ ?_); (case hv => rfl); all_goals (intro hc; (try simp only [go_sem, simprocAttr] at hc))) | ((with_reducible refine fe ?_); refine ⟨_, (by simp only [Tryz.f157, encFail, cFail,go_sem, simprocAttr]; rfl), ?_⟩; rfl) | fail)
 | false =>
  repeat' (first | with_reducible (first | (refine sk ?_; intro K hK) | intro (ep : Nat → Nat) | apply_assumption -exfalso -symm only [*]) | ((with_reducible first | refine rg (h := ?_) | refine nx ?_); try simp (disch := omega) only [encFail, cFail,go_sem, simprocAttr]) | ((with_reducible refine' cE ?hv ?_ ?_); (case hv => rfl); all_goals (intro hc; (try simp only [go_sem, simprocAttr] at hc))) | ((with_reducible refine fe ?_); refine ⟨_, (by simp only [Tryz.f157, encFail, cFail,go_sem, simprocAttr]; rfl), ?_⟩; rfl) | fail)
theorem ktold_ok : PureC Tryz.prog 158 [.agg []] (encFail ⟨2, ⟨0, 0⟩⟩) := by
 refine PureC_of (fn := Tryz.f158) tabOK (by kernel_rfl) rfl (by kernel_rfl) (by simp [Tryz.f158]) (by simp [noids, noid, noidss, go_sem, encFail, cFail]) (by first | rfl | simp [noids, noid, noidss, go_sem, encFail, cFail]) ?_
 intro X hX0 hXs
 repeat' (first | with_reducible (first | (refine sk ?_; intro K hK) | intro (ep : Nat → Nat) | apply_assumption -exfalso -symm only [*]) | ((with_reducible first | refine rg (h := ?_) | refine nx ?_); try simp (disch := omega) only [encFail, cFail,go_sem, simprocAttr]) | ((with_reducible refine fe ?_); refine ⟨_, (by simp only [Tryz.f158, encFail, cFail,go_sem, simprocAttr]; rfl), ?_⟩; rfl) | fail)
theorem meth_b : Meth Tryz.prog 104 "cottonpad/class.told" 157 := by
 intro v w
 kernel_rfl
theorem meth_k : Meth Tryz.prog 133 "cottonpad/class.told" 158 := by
 intro v w
 kernel_rfl
theorem check0' {t : TestT} (h : checkT t = 0) : testOK t = true ∧ t.run.rows.length ≤ 60 := by
 unfold checkT at h
 split at h
 ·rename_i hE
  split at h
  ·rename_i hT
   refine ⟨hT, ?_⟩
   have h1 : runOK t.run = true := by unfold checkE at hE; split at hE <;> simp_all
   exact (run_facts h1).rows.2.1
  ·omega
 ·rename_i hE; exact absurd h hE
end Cp
namespace Cp
open Go Go.Proofs
set_option maxRecDepth 10000
set_option maxHeartbeats 1000000
def lettR (t : TestT) (l : Int) (H0 : Hp) (v : Val) (H' : Hp) : Prop :=
 (∀ j, j < 2100 → H' j = H0 j) ∧ if checkT t = 0 then (if 1 ≤ l ∧ l ≤ 3 then ∃ eb em ver m, v = .tup [.ptr 2204 eb 24 0 0, .int .i64 0] ∧ TriL t eb em ver m H' ∧ SeenM t 6 m else v = .tup [.nilp, .int .i64 2]) else v = .tup [.nilp, .int .i64 (checkT t)]
theorem lettered_ok (t : TestT) (hb : TestB t) (l : Int) (hl : 0 ≤ l ∧ l ≤ 255) (H0 : Hp) : ACall Tryz.prog 38 [encTest t, .int .u8 l] H0 (lettR t l H0) := by
 have ho := copen_ok t hb
 simp only [encTest, cTest] at ho
 unfold lettR
 refine ACall_of (fn := Tryz.f38) tabOK (by kernel_rfl) rfl (by kernel_rfl) (by simp [Tryz.f38]) ?_
 intro X hX0 hXs
 obtain ⟨e, he⟩ : ∃ e, checkT t = e := ⟨_, rfl⟩
 rw [he]
 repeat' (first | with_reducible (first | (refine sk ?_; intro K hK) | apply_assumption -exfalso -symm only [*]) | ((with_reducible refine rg (md := { base := 2700, own := [], imp := [10] }) (h := ?_)); try simp (disch := omega) only [encTest, cTest,go_sem, simprocAttr]) | fail)
 refine iK (ho _) ?_
 rintro v H2 ⟨hlow, hv⟩
 rw [he] at hv
 by_cases h : e = 0
 ·rw [if_pos h] at hv
  obtain ⟨eb, em, ver, m, rfl, h4, h2, hS⟩ := hv
  subst h
  simp only [go_sem, simprocAttr]
  by_cases hc' : 1 ≤ l ∧ l ≤ 3
  ·repeat' (first | with_reducible (first | (refine sk ?_; intro K hK) | apply_assumption -exfalso -symm only [*]) | ((first | (with_reducible first | refine rg (md := { base := 2700, own := [], imp := [10] }) (h := ?_) | refine nx ?_) | refine pK (cin_1 _ _ _) ?_); try simp (disch := omega) only [hc', h4,go_sem, simprocAttr]) | ((with_reducible refine' cE ?hv ?_ ?_); (case hv => rfl); all_goals (intro hc; (try simp only [go_sem, simprocAttr] at hc))) | fail)
   refine FnQ_end (Or.inl rfl) (.refl _) (by simp only [Tryz.f38, go_sem, simprocAttr]; rfl) ?_
   refine ⟨hlow, ?_⟩
   exact ⟨eb, em, ver, m, by simp only [go_sem, simprocAttr, h4]; rfl, ⟨h4, h2⟩, hS⟩
  ·repeat' (first | with_reducible (first | (refine sk ?_; intro K hK) | apply_assumption -exfalso -symm only [*]) | ((first | (with_reducible first | refine rg (md := { base := 2700, own := [], imp := [10] }) (h := ?_) | refine nx ?_) | refine pK (cin_1 _ _ _) ?_); try simp (disch := omega) only [hc',go_sem, simprocAttr]) | ((with_reducible refine' cE ?hv ?_ ?_); (case hv => rfl); all_goals (intro hc; (try simp only [go_sem, simprocAttr] at hc))) | fail)
   refine FnQ_end (Or.inl rfl) (.refl _) (by simp only [Tryz.f38, go_sem, simprocAttr]; rfl) ?_
   refine ⟨hlow, ?_⟩
   simp only [go_sem, simprocAttr]
 ·rw [if_neg h] at hv
  subst hv
  simp only [go_sem, simprocAttr]
  repeat' (first | with_reducible (first | (refine sk ?_; intro K hK) | apply_assumption -exfalso -symm only [*]) | ((with_reducible first | refine rg (md := { base := 2700, own := [], imp := [10] }) (h := ?_) | refine nx ?_); try simp (disch := omega) only [h,go_sem, simprocAttr]) | ((with_reducible refine' cE ?hv ?_ ?_); (case hv => rfl); all_goals (intro hc; (try simp only [go_sem, simprocAttr] at hc))) | fail)
  refine FnQ_end (Or.inl rfl) (.refl _) (by simp only [Tryz.f38, go_sem, simprocAttr]; rfl) ?_
  refine ⟨hlow, ?_⟩
  simp only [go_sem, simprocAttr]
theorem fstS_held (fs : List FailT) : (fstS fs).held = 0 ∨ (fstS fs).held = 1 ∨ (fstS fs = ⟨2, ⟨0, 0⟩⟩) := by
 unfold fstS
 split
 ·exact .inr (.inr rfl)
 ·cases sureF fs <;> simp
end Cp
namespace Cp
open Go Go.Proofs
set_option maxRecDepth 10000
set_option maxHeartbeats 1000000
theorem r2within_ok (n lo hi : Int) : PureC Tryz.prog 46 [.int .i64 n, .int .i64 lo, .int .i64 hi] (.bool (decide (lo ≤ n ∧ n ≤ hi))) := by
 refine PureC_of (fn := Tryz.f46) tabOK (by kernel_rfl) rfl (by kernel_rfl) (by simp [Tryz.f46]) (by simp [noids, noid, noidss, go_sem]) (by first | rfl | simp [noids, noid, noidss, go_sem]) ?_
 intro X hX0 hXs
 repeat' (first | with_reducible (first | (refine sk ?_; intro K hK) | apply_assumption -exfalso -symm only [*]) | ((with_reducible first | refine rg (h := ?_) | refine nx ?_); try simp (disch := omega) only [go_sem, simprocAttr]) | ((with_reducible refine grdS_split ?_ ?_) <;> intro hg <;> (try simp (disch := omega) only [hg, go_sem, simprocAttr]) <;> (try simp only [go_sem, simprocAttr] at hg) <;> (try (exfalso; omega))) | ((with_reducible refine fe ?_); refine ⟨_, (by simp only [Tryz.f46, go_sem, simprocAttr]; rfl), ?_⟩; (try simp only [go_sem, simprocAttr, seval])) | fail)
 all_goals (rw [Bool.eq_iff_iff]; simp; omega)
theorem r2spanned_ok (s : Span) (lo hi : Int) : PureC Tryz.prog 63 [encSpan s, .int .i64 lo, .int .i64 hi] (.bool (decide (lo ≤ s.lo ∧ s.lo ≤ s.hi ∧ s.hi ≤ hi))) := by
 refine PureC_of (fn := Tryz.f63) tabOK (by kernel_rfl) rfl (by kernel_rfl) (by simp [Tryz.f63]) (by simp [noids, noid, noidss, go_sem, encSpan]) (by first | rfl | simp [noids, noid, noidss, go_sem, encSpan]) ?_
 intro X hX0 hXs
 repeat' (first | with_reducible (first | (refine sk ?_; intro K hK) | apply_assumption -exfalso -symm only [*]) | ((with_reducible first | refine rg (h := ?_) | refine nx ?_); try simp (disch := omega) only [encSpan,go_sem, simprocAttr]) | ((with_reducible refine grdS_split ?_ ?_) <;> intro hg <;> (try simp (disch := omega) only [hg, encSpan,go_sem, simprocAttr]) <;> (try simp only [go_sem, simprocAttr] at hg) <;> (try (exfalso; omega))) | ((with_reducible refine fe ?_); refine ⟨_, (by simp only [Tryz.f63, encSpan,go_sem, simprocAttr]; rfl), ?_⟩; (try simp only [encSpan,go_sem, simprocAttr, seval])) | fail)
 all_goals (rw [Bool.eq_iff_iff]; simp; omega)
def NoteB (n : NoteT) : Prop := (0 ≤ n.val ∧ n.val ≤ 10000) ∧ -200 ≤ n.off.lo ∧ n.off.lo ≤ n.off.hi ∧ n.off.hi ≤ 200
theorem r2holds_ok (t : TestT) (n : NoteT) (h : NoteB n) (k : Nat) (hk : k < 6) (hn : n.kind = ((k + 1 : Nat) : Int)) : PureC Tryz.prog 31 [encTest t, encNote n] (.bool (decide (n.val - n.off.lo ≤ limC t k))) := by
 unfold NoteB at h
 have hw : IntKind.u8.wrap (k : Int) = (k : Int) := IntWalk.u8_in _ (by omega)
 have hlim := lim_at t hk
 have e : encNote n = .agg [.int .i64 n.sec, .int .u8 ((k + 1 : Nat) : Int), .int .i64 n.val, .int .i64 n.off.lo, .int .i64 n.off.hi] := by simp only [encNote, cNote, hn]
 rw [e]
 clear e
 refine PureC_of (fn := Tryz.f31) tabOK (by kernel_rfl) rfl (by kernel_rfl) (by simp [Tryz.f31]) (by simp [noids, noid, noidss, go_sem, encTest, cTest]) (by first | rfl | simp [noids, noid, noidss, go_sem, encTest, cTest]) ?_
 intro X hX0 hXs
 repeat' (first | with_reducible (first | (refine sk ?_; intro K hK) | apply_assumption -exfalso -symm only [*]) | ((with_reducible first | refine rg (h := ?_) | refine nx ?_); try simp (disch := omega) only [encTest, cTest, encNote, cNote, hw, hlim, hk, hn,go_sem, simprocAttr]) | ((with_reducible refine fe ?_); refine ⟨_, (by simp only [Tryz.f31, encTest, cTest, encNote, cNote, hw, hlim, hk, hn,go_sem, simprocAttr]; rfl), ?_⟩; rfl) | fail)
theorem r2failed_ok (t : TestT) (n : NoteT) (h : NoteB n) (k : Nat) (hk : k < 6) (hn : n.kind = ((k + 1 : Nat) : Int)) : PureC Tryz.prog 32 [encTest t, encNote n] (.bool (decide (limC t k < n.val - n.off.hi))) := by
 unfold NoteB at h
 have hw : IntKind.u8.wrap (k : Int) = (k : Int) := IntWalk.u8_in _ (by omega)
 have hlim := lim_at t hk
 have e : encNote n = .agg [.int .i64 n.sec, .int .u8 ((k + 1 : Nat) : Int), .int .i64 n.val, .int .i64 n.off.lo, .int .i64 n.off.hi] := by simp only [encNote, cNote, hn]
 rw [e]
 clear e
 refine PureC_of (fn := Tryz.f32) tabOK (by kernel_rfl) rfl (by kernel_rfl) (by simp [Tryz.f32]) (by simp [noids, noid, noidss, go_sem, encTest, cTest]) (by first | rfl | simp [noids, noid, noidss, go_sem, encTest, cTest]) ?_
 intro X hX0 hXs
 repeat' (first | with_reducible (first | (refine sk ?_; intro K hK) | apply_assumption -exfalso -symm only [*]) | ((with_reducible first | refine rg (h := ?_) | refine nx ?_); try simp (disch := omega) only [encTest, cTest, encNote, cNote, hw, hlim, hk, hn,go_sem, simprocAttr]) | ((with_reducible refine fe ?_); refine ⟨_, (by simp only [Tryz.f32, encTest, cTest, encNote, cNote, hw, hlim, hk, hn,go_sem, simprocAttr]; rfl), ?_⟩; rfl) | fail)
end Cp
namespace Cp
open Go Go.Proofs
set_option maxRecDepth 10000
set_option maxHeartbeats 1000000
def secF (t : TestT) (c : Nat) (l : List NoteT) : Int × Int × Bool := l.foldl (secStep t c) (0, t.fin, false)
theorem secF_snoc {t : TestT} {c i : Nat} {n : NoteT} (h : t.notes[i]? = some n) : secF t c (t.notes.take (i + 1)) = secStep t c (secF t c (t.notes.take i)) n := by
 rw [take_snocC h, secF, List.foldl_append]; rfl
theorem notes_sec {t : TestT} (h : notesFrom t.fin 0 t.notes = true) : ∀ n ∈ t.notes, 0 ≤ n.sec ∧ n.sec ≤ t.fin := by
 have hs : ∀ {l : List NoteT} {last : Int}, 0 ≤ last → notesFrom t.fin last l = true → ∀ n ∈ l, 0 ≤ n.sec ∧ n.sec ≤ t.fin := by
  intro l
  induction l with
  | nil => intro _ _ _ n hn; cases hn
  | cons x l ih =>
   intro last h0 h n hn
   simp only [notesFrom, noteOK, offOK, Bool.and_eq_true, decide_eq_true_eq] at h
   rcases List.mem_cons.1 hn with rfl | hn
   ·omega
   ·exact ih (by omega) h.2 n hn
 exact hs (Int.le_refl 0) h
theorem r2seconds_ok (t : TestT) (hl : t.notes.length ≤ 100000) (hN : notesFrom t.fin 0 t.notes = true) (hf : t.fin ≤ 3600) (k : Nat) (hk : k < 6) :
  PureC Tryz.prog 69 [encTest t, .int .u8 ((k + 1 : Nat) : Int)] (.tup [.int .i64 (secF t k t.notes).1, .int .i64 (secF t k t.notes).2.1, .bool (secF t k t.notes).2.2]) := by
 refine PureC_of (fn := Tryz.f69) tabOK (by kernel_rfl) rfl (by kernel_rfl) (by simp [Tryz.f69]) (by simp [noids, noid, noidss, go_sem, encTest, cTest]) (by first | rfl | simp [noids, noid, noidss, go_sem, encTest, cTest]) ?_
 intro X hX0 hXs
 repeat' (first | with_reducible (first | (refine sk ?_; intro K hK) | apply_assumption -exfalso -symm only [*]) | ((with_reducible refine rg (h := ?_)); try simp (disch := omega) only [encTest, cTest,go_sem, simprocAttr]) | fail)
 refine AW_block (AW_loop (fun m f H => ∃ i : Nat, m = t.notes.length - i ∧ i ≤ t.notes.length ∧ (f 1 = .int .u8 ((k + 1 : Nat) : Int) ∧ f 2 = .pim (cTest t) ∧ f 10 = .int .i64 (i : Int)) ∧ f 7 = .int .i64 (secF t k (t.notes.take i)).1 ∧ f 8 = .int .i64 (secF t k (t.notes.take i)).2.1 ∧ f 9 = .bool (secF t k (t.notes.take i)).2.2) t.notes.length
  ⟨0, rfl, Nat.zero_le _, by (and_intros <;> first | rfl | (simp only [cTest, go_sem, simprocAttr]; done) | (simp only [cTest, go_sem, simprocAttr]; rfl)), by (first | rfl | (simp only [secF, List.take_zero, List.foldl_nil, go_sem, simprocAttr]; done) | (simp only [secF, List.take_zero, List.foldl_nil, go_sem, simprocAttr]; rfl)), by (first | rfl | (simp only [secF, List.take_zero, List.foldl_nil, go_sem, simprocAttr]; done) | (simp only [secF, List.take_zero, List.foldl_nil, go_sem, simprocAttr]; rfl)), by (first | rfl | (simp only [secF, List.take_zero, List.foldl_nil, go_sem, simprocAttr]; done) | (simp only [secF, List.take_zero, List.foldl_nil, go_sem, simprocAttr]; rfl))⟩ ?_)
 rintro m f H ⟨i, rfl, hi, ⟨h1, h2, h10⟩, h7, h8, h9⟩
 by_cases hlt : i < t.notes.length
 ·obtain ⟨n, hn⟩ : ∃ x, t.notes[i]? = some x := ⟨_, List.getElem?_eq_getElem hlt⟩
  have hsn := secF_snoc (c := k) hn
  have hna := note_at hn
  have hnb := notes_all hN n (List.mem_of_getElem? hn)
  have hns := notes_sec hN n (List.mem_of_getElem? hn)
  generalize secF t k (t.notes.take i) = s at *
  obtain ⟨lo, hi', fl⟩ := s
  simp only at h7 h8 h9
  refine AW_keep [] ?_
  simp only [cNote] at hna
  by_cases hkd : n.kind = ((k + 1 : Nat) : Int)
  ·have c1 := r2holds_ok t n hnb.2 k hk hkd
   have c2 := r2failed_ok t n hnb.2 k hk hkd
   simp only [encTest, cTest, encNote, cNote, hkd] at c1 c2 hna
   simp only [secStep, shHold, shFail, hkd, decide_true, Bool.true_and, decide_eq_true_eq] at hsn
   repeat' (first | with_reducible (first | (refine sk ?_; intro K hK) | refine bk ?_ | intro (ep : Nat → Nat) | apply_assumption -exfalso -symm only [*]) | ((first | (with_reducible first | refine rg (h := ?_) | refine nx ?_) | refine pK (c1) ?_ | refine pK (c2) ?_); try simp (disch := omega) only [h1, h2, h7, h8, h9, h10, hna, hlt, cTest,go_sem, simprocAttr]) | ((with_reducible refine' cE ?hv ?_ ?_); (case hv => rfl); all_goals (intro hc; (try simp only [go_sem, simprocAttr] at hc); try (exfalso; omega))) | fail)
   all_goals
    refine ⟨t.notes.length - (i + 1), by omega, i + 1, rfl, by omega, rfl, ?_⟩
    rw [hsn]
    by_cases hA : n.val - n.off.lo ≤ limC t k <;> by_cases hC : limC t k < n.val - n.off.hi <;> first | (exfalso; omega) | simp [hA, hC]
  ·simp only [secStep, shHold, shFail, decide_eq_false hkd, Bool.false_and, Bool.or_false, Bool.false_eq_true, if_false] at hsn
   repeat' (first | with_reducible (first | (refine sk ?_; intro K hK) | refine bk ?_ | intro (ep : Nat → Nat) | apply_assumption -exfalso -symm only [*]) | ((with_reducible first | refine rg (h := ?_) | refine nx ?_); try simp (disch := omega) only [h1, h2, h7, h8, h9, h10, hna, hlt, hkd, cTest,go_sem, simprocAttr]) | ((with_reducible refine' cE ?hv ?_ ?_); (case hv => rfl); all_goals (intro hc; (try simp only [go_sem, simprocAttr] at hc); try (exfalso; omega))) | fail)
   exact ⟨t.notes.length - (i + 1), by omega, i + 1, rfl, by omega, by (and_intros <;> first | rfl | (simp only [h1, h2, h10, go_sem, simprocAttr]; done) | (simp only [h1, h2, h10, go_sem, simprocAttr]; rfl)), by (first | rfl | (simp only [h7, hsn, go_sem, simprocAttr]; done) | (simp only [h7, hsn, go_sem, simprocAttr]; rfl)), by (first | rfl | (simp only [h8, hsn, go_sem, simprocAttr]; done) | (simp only [h8, hsn, go_sem, simprocAttr]; rfl)), by (first | rfl | (simp only [h9, hsn, go_sem, simprocAttr]; done) | (simp only [h9, hsn, go_sem, simprocAttr]; rfl))⟩
 ·obtain rfl : i = t.notes.length := by omega
  rw [List.take_of_length_le (Nat.le_refl _)] at h7 h8 h9
  repeat' (first | with_reducible (first | (refine sk ?_; intro K hK) | apply_assumption -exfalso -symm only [*]) | ((with_reducible first | refine rg (h := ?_) | refine nx ?_); try simp (disch := omega) only [h1, h2, h7, h8, h9, h10, cTest,go_sem, simprocAttr]) | ((with_reducible refine' cE ?hv ?_ ?_); (case hv => rfl); all_goals (intro hc; (try simp only [go_sem, simprocAttr] at hc); try (exfalso; omega))) | ((with_reducible refine fe ?_); refine ⟨_, (by simp only [Tryz.f69, h1, h2, h7, h8, h9, h10, cTest,go_sem, simprocAttr]; rfl), ?_⟩; rfl) | fail)
end Cp
namespace Cp
open Go Go.Proofs
set_option maxRecDepth 10000
set_option maxHeartbeats 1000000
theorem secF_all {t : TestT} (h : notesFrom t.fin 0 t.notes = true) (k : Nat) : secF t k t.notes = (frC t k, toC t k, (badC t k).isSome) := secs_all k h
theorem fr_bnd {t : TestT} (h : notesFrom t.fin 0 t.notes = true) (hf : 0 ≤ t.fin ∧ t.fin ≤ 3600) (k : Nat) : (0 ≤ frC t k ∧ frC t k ≤ 3601) ∧ 0 ≤ toC t k ∧ toC t k ≤ 3600 := by
 obtain ⟨g, b⟩ := good_bnd h k
 unfold frC toC
 refine ⟨?_, ?_⟩
 ·cases hg : goodC t k with
  | none => simp
  | some x => have := g x hg; simp only; omega
 ·cases hb : badC t k with
  | none => simp only; omega
  | some x => have := b x hb; simp only; omega
theorem r2fails_ok (t : TestT) (hl : t.notes.length ≤ 100000) (hN : notesFrom t.fin 0 t.notes = true) (hf : 0 ≤ t.fin ∧ t.fin ≤ 3600) (hcl : -120 ≤ t.clock.lo ∧ t.clock.lo ≤ t.clock.hi ∧ t.clock.hi ≤ 120) (k : Nat) (hk : k < 6) :
  PureC Tryz.prog 51 [encTest t, .int .u8 ((k + 1 : Nat) : Int)] (encFail (failC t k)) := by
 have hs := r2seconds_ok t hl hN hf.2 k hk
 have hfb := fr_bnd hN hf k
 rw [secF_all hN] at hs
 unfold failC
 generalize frC t k = lo at *
 generalize toC t k = hi at *
 generalize (badC t k).isSome = sure at *
 have hnv : noid (encFail (if hi < lo then (⟨2, ⟨0, 0⟩⟩ : FailT) else ⟨if sure = true then 0 else 1, ⟨lo - t.clock.hi, hi - t.clock.lo⟩⟩)) = true := by split <;> rfl
 simp only [encTest, cTest] at hs
 refine PureC_of (fn := Tryz.f51) tabOK (by kernel_rfl) rfl (by kernel_rfl) (by simp [Tryz.f51]) (by simp [noids, noid, noidss, go_sem, encTest, cTest, hnv]) (by first | rfl | simp [noids, noid, noidss, go_sem, encTest, cTest, hnv]) ?_
 intro X hX0 hXs
 by_cases hlt : hi < lo
 ·simp only [if_pos hlt] at hnv ⊢
  repeat' (first | with_reducible (first | (refine sk ?_; intro K hK) | intro (ep : Nat → Nat) | apply_assumption -exfalso -symm only [*]) | ((first | (with_reducible first | refine rg (id := 1) (h := ?_) | refine rg (md := { base := 0, own := [5] }) (h := ?_) | refine nx ?_) | refine pK (hs) ?_); try simp (disch := omega) only [encTest, cTest, encFail, cFail, hlt,go_sem, simprocAttr]) | ((with_reducible refine' cE ?hv ?_ ?_); (case hv => rfl); all_goals (intro hc; (try simp only [go_sem, simprocAttr] at hc))) | ((with_reducible refine fe ?_); refine ⟨_, (by simp only [Tryz.f51, encTest, cTest, encFail, cFail, hlt,go_sem, simprocAttr]; rfl), ?_⟩; rfl) | fail)
 ·simp only [if_neg hlt] at hnv ⊢
  cases sure with
  | true =>
   repeat' (first | with_reducible (first | (refine sk ?_; intro K hK) | intro (ep : Nat → Nat) | apply_assumption -exfalso -symm only [*]) | ((first | (with_reducible first | refine rg (id := 1) (h := ?_) | refine rg (md := { base := 0, own := [5] }) (h := ?_) | refine nx ?_) | refine pK (hs) ?_); try simp (disch := omega) only [encTest, cTest, encFail, cFail, hlt,go_sem, simprocAttr]) | ((with_reducible refine' cE ?hv ?_ ?_); (case hv => rfl); all_goals (intro hc; (try simp only [go_sem, simprocAttr] at hc))) | ((with_reducible refine fe ?_); refine ⟨_, (by simp only [Tryz.f51, encTest, cTest, encFail, cFail, hlt,go_sem, simprocAttr]; rfl), ?_⟩; rfl) | fail)
  | false =>
   repeat' (first | with_reducible (first | (refine sk ?_; intro K hK) | intro (ep : Nat → Nat) | apply_assumption -exfalso -symm only [*]) | ((first | (with_reducible first | refine rg (id := 1) (h := ?_) | refine rg (md := { base := 0, own := [5] }) (h := ?_) | refine nx ?_) | refine pK (hs) ?_); try simp (disch := omega) only [encTest, cTest, encFail, cFail, hlt,go_sem, simprocAttr]) | ((with_reducible refine' cE ?hv ?_ ?_); (case hv => rfl); all_goals (intro hc; (try simp only [go_sem, simprocAttr] at hc))) | ((with_reducible refine fe ?_); refine ⟨_, (by simp only [Tryz.f51, encTest, cTest, encFail, cFail, hlt,go_sem, simprocAttr]; rfl), ?_⟩; rfl) | fail)
end Cp
namespace Cp
open Go
structure TestF (t : TestT) : Prop where
 ok : testOK t = true
 notes : notesFrom t.fin 0 t.notes = true
 fin : 1 ≤ t.fin ∧ t.fin ≤ 3600
 rows : t.fin ≤ 60 * (t.run.rows.length : Int) ∧ t.run.rows.length ≤ 60
 clock : -120 ≤ t.clock.lo ∧ t.clock.lo ≤ t.clock.hi ∧ t.clock.hi ≤ 120
 check : checkE t.run t.rules = 0
 run : runOK t.run = true
 rules : rulesOK t.rules = true
 fr : ∀ k, 0 ≤ frC t k ∧ frC t k ≤ 3601
 to : ∀ k, 0 ≤ toC t k ∧ toC t k ≤ 3600
 sure : ∀ k, k < 6 → (badC t k).isSome = true → frC t k ≤ toC t k
theorem checkT_inv {t : TestT} (h : checkT t = 0) : checkE t.run t.rules = 0 ∧ testOK t = true ∧ twistT t = false := by
 unfold checkT at h
 split at h
 ·rename_i h1
  split at h
  ·rename_i h2
   split at h
   ·omega
   ·rename_i h3; exact ⟨h1, h2, Bool.eq_false_iff.2 h3⟩
  ·omega
 ·rename_i h1; exact absurd h h1
theorem testF {t : TestT} (h : checkT t = 0) : TestF t := by
 obtain ⟨h1, h2, h3⟩ := checkT_inv h
 obtain ⟨_, hR⟩ := check0' h
 have hT := h2
 simp only [testOK, headT, Bool.and_eq_true, decide_eq_true_eq] at hT
 obtain ⟨hH, hN⟩ := hT
 have hE : runOK t.run = true ∧ rulesOK t.rules = true := by
  unfold checkE at h1
  split at h1
  ·rename_i q1
   split at h1
   ·rename_i q2; exact ⟨q1, q2⟩
   ·omega
  ·omega
 have hb := fun k => fr_bnd hN (by omega) k
 refine ⟨h2, hN, by omega, by omega, by omega, h1, hE.1, hE.2, fun k => (hb k).1, fun k => (hb k).2, fun k hk hs => ?_⟩
 have htw : twistC t k = false := by
  rw [twistT, List.any_eq_false] at h3
  exact Bool.eq_false_iff.2 (h3 k (by simpa using hk))
 rw [twist_eq k hN, hs, Bool.true_and, decide_eq_false_iff_not] at htw
 omega
theorem failC_B {t : TestT} (hF : TestF t) (c : Nat) : FailB (failC t c) := by
 refine ⟨failC_held t c, ?_⟩
 have h1 := hF.fr c
 have h2 := hF.to c
 have h3 := hF.clock
 unfold failC
 split
 ·simp
 ·simp only; omega
end Cp
namespace Cp
open Go Go.Proofs
set_option maxRecDepth 10000
theorem interp_mono {a b : Pt} {m : Int} (h0 : 0 ≤ (b.d - a.d) * (m - a.m)) (h : a.m < b.m) (hd : a.d ≤ b.d) : interp a b m ≤ interp a b (m + 1) := by
 have e : (b.d - a.d) * (m + 1 - a.m) = (b.d - a.d) * (m - a.m) + (b.d - a.d) := by
  rw [show m + 1 - a.m = (m - a.m) + 1 by omega, Int.mul_add, Int.mul_one]
 unfold interp
 rw [e, Int.tdiv_eq_ediv_of_nonneg h0, Int.tdiv_eq_ediv_of_nonneg (by omega)]
 have := Int.ediv_le_ediv (c := b.m - a.m) (by omega) (show (b.d - a.d) * (m - a.m) ≤ (b.d - a.d) * (m - a.m) + (b.d - a.d) by omega)
 omega
theorem deg_where {l : List Pt} (hc : CurveF l) {m : Int} (h0 : 0 ≤ m) (h1 : m < lastM l) : ∃ (k : Nat) (a b : Pt), l[k]? = some a ∧ l[k + 1]? = some b ∧ a.m ≤ m ∧ m < b.m := by
 obtain ⟨p, hp, hp0⟩ := hc.zero
 have key : ∀ n, n < l.length → (∃ q, l[n]? = some q ∧ q.m ≤ m) ∨ (∃ (k : Nat) (a b : Pt), l[k]? = some a ∧ l[k + 1]? = some b ∧ a.m ≤ m ∧ m < b.m) := by
  intro n
  induction n with
  | zero => exact fun _ => .inl ⟨p, hp, by omega⟩
  | succ n ih =>
   intro hn
   rcases ih (by omega) with ⟨q, hq, hqm⟩ | h
   ·have hb : l[n + 1]? = some l[n + 1] := List.getElem?_eq_getElem hn
    by_cases hm : (l[n + 1]).m ≤ m
    ·exact .inl ⟨_, hb, hm⟩
    ·exact .inr ⟨n, q, _, hq, hb, hqm, by omega⟩
   ·exact .inr h
 have hlen := hc.len
 rcases key (l.length - 1) (by omega) with ⟨q, hq, hqm⟩ | h
 ·rw [lastM_get hq] at h1; omega
 ·exact h
theorem deg_mid {l : List Pt} (hc : CurveF l) {k : Nat} {a b : Pt} {m : Int} (ha : l[k]? = some a) (hb : l[k + 1]? = some b) (h1 : a.m ≤ m) (h2 : m < b.m) : degAt l m = interp a b m := by
 by_cases he : a.m = m
 ·rw [(degAt_at hc (i := k) (b := a) (m := m) (fun j p hj hp => by have := (hc.inc j k p a hj hp ha).1; omega) ha).1 he]
  unfold interp
  rw [show m - a.m = 0 by omega]; simp
 ·refine (degAt_at hc (i := k + 1) (b := b) (m := m) (fun j p hj hp => ?_) hb).2 k a rfl ha h2
  by_cases hjk : j = k
  ·subst hjk; rw [ha] at hp; cases hp; omega
  ·have := (hc.inc j k p a (by omega) hp ha).1; omega
theorem deg_point {l : List Pt} (hc : CurveF l) {k : Nat} {b : Pt} (hb : l[k]? = some b) : degAt l b.m = b.d :=
 (degAt_at hc (i := k) (b := b) (m := b.m) (fun j p hj hp => (hc.inc j k p b hj hp hb).1) hb).1 rfl
theorem deg_mono1 {l : List Pt} (hc : CurveF l) {m : Int} (h0 : 0 ≤ m) (h1 : m < lastM l) : degAt l m ≤ degAt l (m + 1) := by
 obtain ⟨k, a, b, ha, hb, h2, h3⟩ := deg_where hc h0 h1
 have hab := hc.inc k (k + 1) a b (by omega) ha hb
 obtain ⟨⟨b1, b2⟩, b3, b4⟩ := interp_bounds (hc.all _ _ ha) (hc.all _ _ hb) hab.2 h2 h3
 rw [deg_mid hc ha hb h2 h3]
 by_cases he : m + 1 = b.m
 ·rw [he, deg_point hc hb]; unfold interp; omega
 ·rw [deg_mid hc ha hb (by omega) (by omega)]
  exact interp_mono b1 hab.1 hab.2
theorem deg_bnd {l : List Pt} (hc : CurveF l) {m : Int} (h0 : 0 ≤ m) (h1 : m ≤ lastM l) : 0 ≤ degAt l m ∧ degAt l m ≤ 2000 := by
 by_cases he : m = lastM l
 ·have hlen := hc.len
  obtain ⟨z, hz⟩ : ∃ z, l[l.length - 1]? = some z := ⟨_, List.getElem?_eq_getElem (by omega)⟩
  rw [he, lastM_get hz, deg_point hc hz]
  have := hc.all _ _ hz; omega
 ·obtain ⟨k, a, b, ha, hb, h2, h3⟩ := deg_where hc h0 (by omega)
  have hab := hc.inc k (k + 1) a b (by omega) ha hb
  obtain ⟨_, b3, b4⟩ := interp_bounds (hc.all _ _ ha) (hc.all _ _ hb) hab.2 h2 h3
  rw [deg_mid hc ha hb h2 h3]
  have := hc.all _ _ ha; have := hc.all _ _ hb
  unfold interp; omega
end Cp
namespace Cp
open Go Go.Proofs
set_option maxRecDepth 10000
def nowV (r : RunT) (k : Nat) : List Val := [.int .i64 (degAt r.curve (k : Int)), .int .i64 (cumC r k), .int .i64 (cumLo r k), .int .i64 (cumHi r k)]
theorem minutes1_ok (r : RunT) (hF : RunF r) (H0 : Hp) (ky ey : Nat) (J : Nat → Hp → Prop) (hJ0 : J 0 H0) (hloc : ∀ k H H', J k H → (∀ j, (j < 200 ∨ 300 ≤ j) → H' j = H j) → J k H')
  (hY : ∀ k H, k < r.rows.length → J k H → RoundC Tryz.prog ky ey [.int .i64 ((k + 1 : Nat) : Int), .agg (nowV r (k + 1))] H (fun v H' => v = .bool true ∧ J (k + 1) H' ∧ ∀ j, 200 ≤ j → j < 300 → H' j = H j)) :
  ACall Tryz.prog 105 [.yld ky ey, .pim [.pim (fireAt r r.rows.length)]] H0 (fun v H' => J r.rows.length H') := by
 refine ACall_of (fn := Tryz.f105) tabOK (by kernel_rfl) rfl (by kernel_rfl) (by simp [Tryz.f105]) ?_
 intro X hX0 hXs
 have hrl := hF.rows
 have hcl := hF.cpls
 have hdeg := fun m => deg_bnd (l := r.curve) hF.curve (m := m)
 refine AW_lose 203 fun H1 g3 hs1 => ?_
 have hJ1 : J 0 H1 := hloc _ _ _ hJ0 fun j hj => hs1 j (by omega)
 clear hJ0 hs1
 repeat' (first | with_reducible (first | (refine sk ?_; intro K hK) | intro (ep : Nat → Nat) | apply_assumption -exfalso -symm only [*]) | ((with_reducible refine rg (md := { base := 200, own := [] }) (h := ?_)); try simp (disch := omega) only [g3,go_sem, simprocAttr]) | fail)
 refine AW_block (AW_loop (fun n f H => ∃ k : Nat, n = r.rows.length - k ∧ k ≤ r.rows.length ∧ (f 0 = .yld ky ey ∧ f 1 = .pim [.pim (fireAt r r.rows.length)] ∧ f 4 = .int .i64 ((k + 1 : Nat) : Int)) ∧ ∃ e3 a, f 3 = .ptr 203 e3 4 0 0 ∧ H 203 = some (e3, .arr 4 [[.int .i64 a, .int .i64 (cumC r k), .int .i64 (cumLo r k), .int .i64 (cumHi r k)]]) ∧ J k H) r.rows.length
  ⟨0, by simp, Nat.zero_le _, by (and_intros <;> first | rfl | (simp only [go_sem, simprocAttr]; done) | (simp only [go_sem, simprocAttr]; rfl)), _, 0, by (first | rfl | (simp only [go_sem, simprocAttr]; done) | (simp only [go_sem, simprocAttr]; rfl)), by (first | rfl | (simp only [go_sem, simprocAttr]; done) | (simp only [go_sem, simprocAttr]; rfl)), hloc _ _ _ hJ1 fun j hj => upd_ne _ _ (by omega)⟩ ?_)
 clear hJ1 g3
 rintro n f H ⟨k, rfl, hk, ⟨h0, h1, h4⟩, e3, a, h3, hH3, hJ⟩
 obtain ⟨rest, hrest⟩ := @fireAt_run r r.rows.length
 by_cases hlt : k < r.rows.length
 ·have hwg := drop_cons (warm_get (r := r) (m := k + 1) (by omega) (n := r.rows.length) (by omega) (by omega))
  have h61 : k + 1 < 61 := by omega
  have hcb := cum_bounds hF hdeg k (by omega)
  have hd1 := hdeg ((k + 1 : Nat) : Int) (by omega) (by omega)
  have h1' := h1
  have hY' := fun H => hY k H hlt
  rw [hrest] at h1'
  by_cases hne : wk r ((k + 1 : Nat) : Int) = []
  ·have hwg' : ((fireAt r r.rows.length).drop 128).drop ((k + 1) * 1) = .bool false :: (fireAt r r.rows.length).drop (128 + (k + 1) + 1) := by rw [List.drop_drop, Nat.mul_one, hwg, hne]; rfl
   rw [hrest] at hwg'
   have hwg2 : (rest.drop 122).drop ((k + 1) * 1) = .bool false :: (cRun r ++ rest).drop (128 + (k + 1) + 1) := hwg'
   have hnow : nowV r (k + 1) = [.int .i64 (degAt r.curve ((k + 1 : Nat) : Int)), .int .i64 (cumC r k), .int .i64 (cumLo r k), .int .i64 (cumHi r k)] := by simp only [nowV, cumC, cumLo, cumHi, if_pos hne, Int.add_zero]
   rw [hnow] at hY'
   repeat' (first | with_reducible (first | (refine sk ?_; intro K hK) | refine bk ?_ | apply_assumption -exfalso -symm only [*]) | ((first | (with_reducible first | refine AW_regY (id := 8) tabOK { base := 200, own := [] } [] [] (by rw [hXs]; decide +kernel) ?_ | refine rg (md := { base := 200, own := [] }) (h := ?_) | refine nx ?_) | refine pK (degree_ok r.curve hF.curve ((k + 1 : Nat) : Int) (by omega) (by omega)) ?_); try simp (disch := omega) only [h0, h1', h3, h4, hH3, h61, hwg2, cRun,go_sem, simprocAttr]) | ((with_reducible refine' cE ?hv ?_ ?_); (case hv => rfl); all_goals (intro hc; (try simp only [go_sem, simprocAttr] at hc); try (exfalso; omega))) | fail)
   refine yldK_intro (hY' _ (hloc _ _ _ hJ fun j hj => by repeat rw [upd_ne _ _ (by omega)])) ?_
   rintro v H3 ⟨rfl, hJ3, hk3⟩
   have hH4 := hk3 203 (by decide) (by decide)
   simp only [hH3, go_sem, simprocAttr] at hH4
   simp only [go_sem, simprocAttr]
   repeat' (first | with_reducible apply_assumption -exfalso -symm only [*] | ((with_reducible first | refine rg (md := { base := 200, own := [] }) (h := ?_) | refine nx ?_); try simp (disch := omega) only [h0, h1, h3, h4, hH4,go_sem, simprocAttr]) | ((with_reducible refine' cE ?hv ?_ ?_); (case hv => rfl); all_goals (intro hc; (try simp only [go_sem, simprocAttr] at hc))) | fail)
   exact ⟨r.rows.length - (k + 1), by omega, k + 1, rfl, by omega, rfl, _, degAt r.curve ((k + 1 : Nat) : Int), rfl, by simp only [cumC, cumLo, cumHi, if_pos hne, Int.add_zero], hJ3⟩
  ·have hn0 : 0 < (wk r ((k + 1 : Nat) : Int)).length := List.length_pos_iff.2 hne
   obtain ⟨g1, g2⟩ := mean_get (r := r) (m := k + 1) (by omega) hn0 (n := r.rows.length) (by omega) (by omega)
   have g1' := drop_cons g1
   rw [drop_cons g2] at g1'
   have hwg' : ((fireAt r r.rows.length).drop 128).drop ((k + 1) * 1) = .bool true :: (fireAt r r.rows.length).drop (128 + (k + 1) + 1) := by rw [List.drop_drop, Nat.mul_one, hwg, decide_eq_true hn0]
   have g1'' : ((fireAt r r.rows.length).drop 6).drop ((k + 1) * 2) = .int .i64 (meanS r ((k + 1 : Nat) : Int)).lo :: .int .i64 (meanS r ((k + 1 : Nat) : Int)).hi :: (fireAt r r.rows.length).drop (6 + (k + 1) * 2 + 1 + 1) := by rw [List.drop_drop]; exact g1'
   rw [hrest] at hwg' g1''
   have hwg2 : (rest.drop 122).drop ((k + 1) * 1) = .bool true :: (cRun r ++ rest).drop (128 + (k + 1) + 1) := hwg'
   have g2'' : rest.drop ((k + 1) * 2) = .int .i64 (meanS r ((k + 1 : Nat) : Int)).lo :: .int .i64 (meanS r ((k + 1 : Nat) : Int)).hi :: (cRun r ++ rest).drop (6 + (k + 1) * 2 + 1 + 1) := g1''
   have hmb := mean_bounds hF (m := ((k + 1 : Nat) : Int)) (by omega) (by omega) hne
   have hnow : nowV r (k + 1) = [.int .i64 (degAt r.curve ((k + 1 : Nat) : Int)), .int .i64 (cumC r k + degAt r.curve ((k + 1 : Nat) : Int)), .int .i64 (cumLo r k + (meanS r ((k + 1 : Nat) : Int)).lo), .int .i64 (cumHi r k + (meanS r ((k + 1 : Nat) : Int)).hi)] := by simp only [nowV, cumC, cumLo, cumHi, if_neg hne]
   rw [hnow] at hY'
   repeat' (first | with_reducible (first | (refine sk ?_; intro K hK) | refine bk ?_ | apply_assumption -exfalso -symm only [*]) | ((first | (with_reducible first | refine AW_regY (id := 8) tabOK { base := 200, own := [] } [] [] (by rw [hXs]; decide +kernel) ?_ | refine rg (md := { base := 200, own := [] }) (h := ?_) | refine nx ?_) | refine pK (degree_ok r.curve hF.curve ((k + 1 : Nat) : Int) (by omega) (by omega)) ?_ | refine pK (plus_ok ⟨cumLo r k, cumHi r k⟩ (meanS r ((k + 1 : Nat) : Int)) (by simp only; omega)) ?_); try simp (disch := omega) only [h0, h1', h3, h4, hH3, h61, hwg2, g2'', cRun, encSpan,go_sem, simprocAttr]) | ((with_reducible refine' cE ?hv ?_ ?_); (case hv => rfl); all_goals (intro hc; (try simp only [go_sem, simprocAttr] at hc); try (exfalso; omega))) | fail)
   refine yldK_intro (hY' _ (hloc _ _ _ hJ fun j hj => by repeat rw [upd_ne _ _ (by omega)])) ?_
   rintro v H3 ⟨rfl, hJ3, hk3⟩
   have hH4 := hk3 203 (by decide) (by decide)
   simp only [hH3, go_sem, simprocAttr] at hH4
   simp only [go_sem, simprocAttr]
   repeat' (first | with_reducible apply_assumption -exfalso -symm only [*] | ((with_reducible first | refine rg (md := { base := 200, own := [] }) (h := ?_) | refine nx ?_); try simp (disch := omega) only [h0, h1, h3, h4, hH4,go_sem, simprocAttr]) | ((with_reducible refine' cE ?hv ?_ ?_); (case hv => rfl); all_goals (intro hc; (try simp only [go_sem, simprocAttr] at hc))) | fail)
   exact ⟨r.rows.length - (k + 1), by omega, k + 1, rfl, by omega, rfl, _, degAt r.curve ((k + 1 : Nat) : Int), rfl, by simp only [cumC, cumLo, cumHi, if_neg hne], hJ3⟩
 ·obtain rfl : k = r.rows.length := by omega
  rw [hrest] at h1
  repeat' (first | with_reducible (first | (refine sk ?_; intro K hK) | apply_assumption -exfalso -symm only [*]) | ((with_reducible first | refine rg (md := { base := 200, own := [] }) (h := ?_) | refine nx ?_); try simp (disch := omega) only [h0, h1, h3, h4, hH3, cRun,go_sem, simprocAttr]) | ((with_reducible refine' cE ?hv ?_ ?_); (case hv => rfl); all_goals (intro hc; (try simp only [go_sem, simprocAttr] at hc); try (exfalso; omega))) | fail)
  exact FnQ_end (Or.inr rfl) (.refl _) (by simp only [Tryz.f105, go_sem, simprocAttr]; rfl) hJ
end Cp
namespace Cp
open Go Go.Proofs
set_option maxRecDepth 10000
def lftV (l : List Brc) : Val := if l = [] then .nils else .lst 4 (l.map cBrc)
theorem chk_any (r : RunT) (hF : RunF r) (u : RulesT) (hU : RulesF u) (k i : Nat) (hk : k + 1 ≤ r.rows.length) (hi : i < 4) : ∃ g, chkV[i]? = some [.int .u8 ((i + 1 : Nat) : Int), .fn g []] ∧
  ∀ H0, Room H0 1000 100 → ACall Tryz.prog g [.pim (fireAt r r.rows.length), encRules u, .int .i64 ((k + 1 : Nat) : Int), .agg (nowV r (k + 1))] H0 (MapR H0 (chkX r u k i)) := by
 have hrl := hF.rows
 have hdeg := fun m => deg_bnd (l := r.curve) hF.curve (m := m)
 have hcb := cum_bounds hF hdeg (k + 1) hk
 match i, hi with
 | 0, _ => exact ⟨_, rfl, fun H0 _ => chk1_ok r hF u k hk _ _ _ _ H0⟩
 | 1, _ => exact ⟨_, rfl, fun H0 _ => chk2_ok u hU _ k _ _ _ _ (by omega) (by omega) (by omega) H0⟩
 | 2, _ => exact ⟨_, rfl, fun H0 hroom => chk3_ok r hF u hU k hk (hdeg _ (by omega) (by omega)) _ _ _ H0 hroom⟩
 | 3, _ => exact ⟨_, rfl, fun H0 _ => chk4_ok r hF u hU k hk _ rfl H0⟩
def LJ (r : RunT) (u : RulesT) (e5 e6 ey : Nat) (L : AObj) (k : Nat) (H : Hp) : Prop :=
 H 5 = some (e5, .arr 1 [[.pim (fireAt r r.rows.length)]]) ∧ H 100 = some (ey, L) ∧ Room H 1000 100 ∧ ∃ l : List Brc, l.Perm (leftB r u k) ∧ AllL e6 l H
theorem left_ok (r : RunT) (hF : RunF r) (u : RulesT) (hU : RulesF u) : PureC Tryz.prog 60 [encRun r, encRules u] (lftV (leftS r u)) := by
 have hrl := hF.rows
 have hcl := hF.cpls
 have hnn : noids (fireAt r r.rows.length) = true := noids_still fireAt_still
 have hnv : noid (lftV (leftS r u)) = true := by
  unfold lftV; split
  ·rfl
  ·simp only [noid, cBrc_noid]
 refine PureC_ofR (fn := Tryz.f60) tabOK (by kernel_rfl) rfl (by kernel_rfl) (by simp [Tryz.f60]) (by simp [noids, noid, noidss, go_sem, encRun, cRun, encRules, cRules]) hnv ?_
 intro X hX0 hXs hXr
 repeat' (first | with_reducible (first | (refine sk ?_; intro K hK) | intro (ep : Nat → Nat) | apply_assumption -exfalso -symm only [*]) | ((first | (with_reducible refine rg (h := ?_)) | refine pK (open_ok r hF) ?_ | refine pK (minutes_ok (fireAt r r.rows.length) hnn) ?_); try simp (disch := omega) only [encRun, cRun, encRules, cRules, hnn,go_sem, simprocAttr]) | fail)
 have hXs0 : X.sz = 60 := hXs
 refine AW_block ?_
 refine AW_rangeFunc 100 (by simp only [go_sem, simprocAttr]; rfl) hXr fun ey => ?_
 generalize hf0 : (upd _ _ _ : Fr) = f0
 generalize hH : (upd (upd (upd none0 _ _) _ _) _ _ : Hp) = HH
 obtain ⟨e5, e6, g3, g5, g6, G5, G6, G0⟩ : ∃ e5 e6, f0 3 = .pim (cRules u) ∧ f0 5 = .ptr 5 e5 1 0 0 ∧ f0 6 = .ptr 6 e6 1 0 0 ∧ HH 5 = some (e5, .arr 1 [[.pim (fireAt r r.rows.length)]]) ∧ HH 6 = some (e6, .arr 1 [[.nils]]) ∧ ∀ j, 7 ≤ j → HH j = none := by
  refine ⟨_, _, by rw [← hf0]; rfl, by rw [← hf0]; rfl, by rw [← hf0]; rfl, by rw [← hH]; rfl, by rw [← hH]; rfl, fun j hj => ?_⟩
  rw [← hH, upd_ne _ _ (by omega), upd_ne _ _ (by omega), upd_ne _ _ (by omega)]; rfl
 clear hf0 hH hXs
 generalize hL : AObj.loop _ _ _ _ _ _ = L
 refine ⟨fun v H' => LJ r u e5 e6 ey L r.rows.length H', minutes1_ok r hF _ 100 ey (LJ r u e5 e6 ey L) ?_ ?_ ?_, ?_⟩
 ·exact ⟨by rw [upd_ne _ _ (by decide), G5], upd_same _ _ _, fun d hd => by rw [upd_ne _ _ (by omega)]; exact G0 _ (by omega), [], .refl _, .inl ⟨rfl, by rw [upd_ne _ _ (by decide), G6]⟩⟩
 ·rintro k H H' ⟨q1, q2, q3, l, q4, q5⟩ h
  exact ⟨by rw [h _ (by omega), q1], by rw [h _ (by omega), q2], fun d hd => by rw [h _ (by omega)]; exact q3 d hd, l, q4, q5.same (h _ (by omega)) (h _ (by omega))⟩
 ·rintro k Hs hk ⟨q1, q2, q3, l, q4, q5⟩
  subst hL
  refine ⟨_, _, _, _, _, q2, rfl, fun t ht => ?_, fun X1 b h10 h1s h1r => ?_⟩
  ·rw [frL_len, hXs0]
   have ht' : t = 18 ∨ t = 19 := by simpa using ht
   rcases ht' with rfl | rfl <;> decide
  have hXs : X1.sz = 60 := by rw [h1s, frL_len, hXs0]
  show AW _ _ _ _ _ (upd (upd (frOf (frL f0 X.sz)) 18 (.int .i64 ((k + 1 : Nat) : Int))) 19 (.agg (nowV r (k + 1)))) Hs
  have k3 : frOf (frL f0 X.sz) 3 = .pim (cRules u) := by rw [frOf_frL, hXs0, if_pos (by decide), g3]
  have k5 : frOf (frL f0 X.sz) 5 = .ptr 5 e5 1 0 0 := by rw [frOf_frL, hXs0, if_pos (by decide), g5]
  have k6 : frOf (frL f0 X.sz) 6 = .ptr 6 e6 1 0 0 := by rw [frOf_frL, hXs0, if_pos (by decide), g6]
  generalize frOf (frL f0 X.sz) = f1 at k3 k5 k6
  refine AW_lose 308 fun H1 g8 hs1 => ?_
  have hs1' : ∀ j, ¬ j = 308 → H1 j = Hs j := hs1
  repeat' (first | with_reducible (first | (refine sk ?_; intro K hK) | intro (ep : Nat → Nat) | apply_assumption -exfalso -symm only [*]) | ((with_reducible refine rg (md := { base := 300, own := [33, 55], imp := [32] }) (h := ?_)); try simp (disch := omega) only [k3, k5, k6, g8, nowV,go_sem, simprocAttr]) | fail)
  refine ⟨rfl, _, _, _, _, _, by rw [upd_ne _ _ (by decide), upd_ne _ _ (by decide), hs1 _ (by decide), q2], ?_⟩
  generalize hHs : (upd (upd (upd H1 _ _) _ _) 100 _ : Hp) = HB
  generalize hfB : (upd _ _ _ : Fr) = fB
  obtain ⟨e8, b8, b7, b3, b5, b6, B8, B5, B100, Broom, BA, Bsame⟩ : ∃ e8, fB 8 = .ptr 308 e8 4 0 0 ∧ fB 7 = .int .i64 ((k + 1 : Nat) : Int) ∧ fB 3 = .pim (cRules u) ∧ fB 5 = .ptr 5 e5 1 0 0 ∧ fB 6 = .ptr 6 e6 1 0 0 ∧ HB 308 = some (e8, .arr 4 [nowV r (k + 1)]) ∧ HB 5 = some (e5, .arr 1 [[.pim (fireAt r r.rows.length)]]) ∧ HB 100 = _ ∧ Room HB 1000 100 ∧ AllL e6 l HB ∧ (∀ j, 200 ≤ j → j < 300 → HB j = Hs j) := by
   refine ⟨_, by rw [← hfB]; rfl, by rw [← hfB]; rfl, by rw [← hfB]; simp only [k3, go_sem, simprocAttr], by rw [← hfB]; simp only [k5, go_sem, simprocAttr], by rw [← hfB]; simp only [k6, go_sem, simprocAttr], by rw [← hHs]; rfl, ?_, by rw [← hHs, upd_same], fun d hd => ?_, q5.same ?_ ?_, fun j h1 h2 => ?_⟩
   ·rw [← hHs, upd_ne _ _ (by decide), upd_ne _ _ (by decide), upd_ne _ _ (by decide), hs1 _ (by decide), q1]
   ·rw [← hHs, upd_ne _ _ (by omega), upd_ne _ _ (by omega), upd_ne _ _ (by omega), hs1 _ (by omega)]; exact q3 d hd
   ·rw [← hHs, upd_ne _ _ (by decide), upd_ne _ _ (by decide), upd_ne _ _ (by decide), hs1 _ (by decide)]
   ·rw [← hHs, upd_ne _ _ (by decide), upd_ne _ _ (by decide), upd_ne _ _ (by decide), hs1 _ (by decide)]
   ·rw [← hHs, upd_ne _ _ (by omega), upd_ne _ _ (by omega), upd_ne _ _ (by omega), hs1 _ (by omega)]
  generalize hLB : (some (ey, AObj.loop _ _ _ _ _ _) : Option (Nat × AObj)) = LB at B100
  clear hHs hfB q1 q3 q5 hs1 hs1' g8 k3 k5 k6
  repeat' (first | with_reducible (first | (refine sk ?_; intro K hK) | refine bk ?_ | apply_assumption -exfalso -symm only [*]) | ((first | (with_reducible refine rg (md := { base := 300, own := [33, 55], imp := [32] }) (h := ?_)) | refine pK (checks_ok) ?_); try simp (disch := omega) only [b3, b5, b6, b7, b8, nowV,go_sem, simprocAttr]) | fail)
  refine AW_range tabOK 4 (fun i f H => (f 3 = .pim (cRules u) ∧ f 5 = .ptr 5 e5 1 0 0 ∧ f 6 = .ptr 6 e6 1 0 0 ∧ f 7 = .int .i64 ((k + 1 : Nat) : Int) ∧ f 8 = .ptr 308 e8 4 0 0 ∧ f 20 = .lst 2 chkV) ∧ H 308 = some (e8, .arr 4 [nowV r (k + 1)]) ∧ H 5 = some (e5, .arr 1 [[.pim (fireAt r r.rows.length)]]) ∧ H 100 = LB ∧ Room H 1000 100 ∧ (∀ j, 200 ≤ j → j < 300 → H j = Hs j) ∧
    ∃ l, l.Perm (leftB r u k ++ chkB r u k i) ∧ AllL e6 l H)
   (by omega) (by rw [hXs]; decide) (by decide) (by (first | rfl | (simp only [go_sem, simprocAttr]; done) | (simp only [go_sem, simprocAttr]; rfl))) (by (first | rfl | (simp only [chkV, go_sem, simprocAttr]; done) | (simp only [chkV, go_sem, simprocAttr]; rfl))) ⟨by (and_intros <;> first | rfl | (simp only [b3, b5, b6, b7, b8, chkV, go_sem, simprocAttr]; done) | (simp only [b3, b5, b6, b7, b8, chkV, go_sem, simprocAttr]; rfl)), B8, B5, B100, Broom, Bsame, l, by simpa [chkB] using q4, BA⟩ ?_ ?_
  ·rintro i f H hi h22 h21 ⟨⟨h3, h5, h6, h7, h8, h20⟩, H8, H5, H100, Hroom, Hsame, l, hl, hA⟩
   obtain ⟨g, hcv, hcall⟩ := chk_any r hF u hU k i (by omega) hi
   refine AW_lose 310 fun H1 g10 hs1 => ?_
   refine AW_lose 333 fun H2 g33 hs2 => ?_
   have hs : ∀ j, ¬ j = 310 → ¬ j = 333 → H2 j = H j := fun j h1 h2 => by rw [hs2 _ h2, hs1 _ h1]
   have g10' : H2 310 = none := by rw [hs2 _ (by decide), g10]
   have H8' := (hs 308 (by decide) (by decide)).trans H8
   have H5' := (hs 5 (by decide) (by decide)).trans H5
   have Hroom' : Room H2 1000 100 := fun d hd => by rw [hs _ (by omega) (by omega)]; exact Hroom d hd
   simp only [nowV] at H8'
   simp only [nowV, encRules, cRules] at hcall
   repeat' (first | with_reducible (first | (refine sk ?_; intro K hK) | intro (ep : Nat → Nat) | apply_assumption -exfalso -symm only [*]) | ((with_reducible refine rg (md := { base := 300, own := [33, 55], imp := [32] }) (h := ?_)); try simp (disch := omega) only [h3, h5, h6, h7, h8, h20, h21, h22, H8', H5', g10', hcv, cRules,go_sem, simprocAttr]) | fail)
   refine impK_intro (hcall _ fun d hd => by rw [upd_ne _ _ (by omega), upd_ne _ _ (by omega)]; exact Hroom' d hd) ?_
   rintro v H3 ⟨hlow, es, hperm, hres⟩
   have hlow' : ∀ j, j < 400 → ¬ j = 310 → ¬ j = 333 → H3 j = H j := fun j h1 h2 h3 => by rw [hlow _ h1, upd_ne _ _ h2, upd_ne _ _ h2, hs _ h2 h3]
   have g33' : H3 333 = none := by rw [hlow _ (by decide), upd_ne _ _ (by decide), upd_ne _ _ (by decide), g33]
   have w10 := (hlow 310 (by decide)).trans (upd_same _ _ _)
   have hkn : KnAll es := fun p hp => chkX_kn p (hperm.mem_iff.1 hp)
   have hel : es.length ≤ 8 := by rw [hperm.length_eq]; exact chkX_len hF
   have hb1 := leftB_len (u := u) hF k
   have hb2 := chkB_len (u := u) (k := k) hF (i := i) (by omega)
   have hll := hl.length_eq
   rw [List.length_append] at hll
   have hll0 : l.length ≤ 1000 := by omega
   have hB2 : ∀ l' : List Brc, l'.Perm (leftB r u k ++ chkB r u k i ++ toB ((k + 1 : Nat) : Int) ((i + 1 : Nat) : Int) es) → l'.Perm (leftB r u k ++ chkB r u k (i + 1)) := fun l' h => by
    refine h.trans ?_
    rw [List.append_assoc]
    exact .append_left _ (.append_left _ (toB_perm hperm))
   have c8 := (hlow' 308 (by decide) (by decide) (by decide)).trans H8
   have c5 := (hlow' 5 (by decide) (by decide) (by decide)).trans H5
   have c100 := (hlow' 100 (by decide) (by decide) (by decide)).trans H100
   have cA := hA.same (hlow' 6 (by decide) (by decide) (by decide)) (hlow' 355 (by decide) (by decide) (by decide))
   have csame : ∀ j, 200 ≤ j → j < 300 → H3 j = Hs j := fun j h1 h2 => by rw [hlow' j (by omega) (by omega) (by omega)]; exact Hsame j h1 h2
   clear hs hs1 hs2 g10 g10' g33 H8' H5' Hroom' hlow hlow' hcall H8 H5 H100 hA Hsame Hroom
   rcases hres with ⟨rfl, rfl⟩ | ⟨km, em, ver, hkm1, hkm2, rfl, hmap⟩
   ·simp only [g33', go_sem, simprocAttr]
    repeat' (first | with_reducible (first | intro (ep : Nat → Nat) | apply_assumption -exfalso -symm only [*]) | fail)
    refine AW_cut 400 fun H4 hlt4 hge4 => ?_
    generalize hfC : (upd _ _ _ : Fr) = fC
    obtain ⟨e33, t33, t3, t5, t6, t7, t8, t20, t21, t22, T33⟩ : ∃ e33, fC 33 = .itr 333 e33 ∧ fC 3 = .pim (cRules u) ∧ fC 5 = .ptr 5 e5 1 0 0 ∧ fC 6 = .ptr 6 e6 1 0 0 ∧ fC 7 = .int .i64 ((k + 1 : Nat) : Int) ∧ fC 8 = .ptr 308 e8 4 0 0 ∧ fC 20 = .lst 2 chkV ∧ fC 21 = .int .i64 (4 : Nat) ∧ fC 22 = .int .i64 i ∧ H4 333 = some (e33, .nit) :=
     ⟨_, by rw [← hfC]; rfl, by rw [← hfC]; simp only [h3, go_sem, simprocAttr], by rw [← hfC]; simp only [h5, go_sem, simprocAttr], by rw [← hfC]; simp only [h6, go_sem, simprocAttr], by rw [← hfC]; simp only [h7, go_sem, simprocAttr], by rw [← hfC]; simp only [h8, go_sem, simprocAttr], by rw [← hfC]; simp only [h20, go_sem, simprocAttr], by rw [← hfC]; simp only [h21, go_sem, simprocAttr], by rw [← hfC]; simp only [h22, go_sem, simprocAttr], by rw [hlt4 _ (by decide), upd_same]⟩
    have d8 := (hlt4 308 (by decide)).trans ((upd_ne _ _ (by decide)).trans c8)
    have d5 := (hlt4 5 (by decide)).trans ((upd_ne _ _ (by decide)).trans c5)
    have d100 := (hlt4 100 (by decide)).trans ((upd_ne _ _ (by decide)).trans c100)
    have dA := cA.same ((hlt4 6 (by decide)).trans (upd_ne _ _ (by decide))) ((hlt4 355 (by decide)).trans (upd_ne _ _ (by decide)))
    have dsame : ∀ j, 200 ≤ j → j < 300 → H4 j = Hs j := fun j h1 h2 => by rw [hlt4 j (by omega), upd_ne _ _ (by omega)]; exact csame j h1 h2
    clear hfC hlt4
    refine AW_block (AW_loop (fun n f1 H1 => n = 0 ∧ f1 = fC ∧ H1 = H4) 0 ⟨rfl, rfl, rfl⟩ ?_)
    rintro n f1 H1' ⟨rfl, rfl, rfl⟩
    repeat' (first | with_reducible (first | (refine sk ?_; intro K hK) | apply_assumption -exfalso -symm only [*]) | ((with_reducible first | refine AW_regN (id := 10) tabOK { base := 300, own := [33, 55], imp := [32] } [] [] (by rw [hXs]; decide +kernel) ?_ | refine nx ?_); try simp (disch := omega) only [t33, T33,go_sem, simprocAttr]) | ((with_reducible refine' cE ?hv ?_ ?_); (case hv => rfl); all_goals (intro hc; (try simp only [go_sem, simprocAttr] at hc))) | fail)
    exact ⟨t22, t21, ⟨t3, t5, t6, t7, t8, t20⟩, d8, d5, d100, fun d hd => hge4 _ (by omega), dsame, l, hB2 l (by simpa [toB] using hl), dA⟩
   ·have n333 : ¬ km = 333 := by omega
    simp only [g33', hmap, n333, go_sem, simprocAttr]
    repeat' (first | with_reducible (first | intro (ep : Nat → Nat) | apply_assumption -exfalso -symm only [*]) | fail)
    refine AW_cut 500 fun H4 hlt4 hge4 => ?_
    generalize hfC : (upd _ _ _ : Fr) = fC
    obtain ⟨e33, e10, t33, t10, t3, t5, t6, t7, t8, t20, t21, t22, T33, d10⟩ : ∃ e33 e10, fC 33 = .itr 333 e33 ∧ fC 10 = .ptr 310 e10 2 0 0 ∧ fC 3 = .pim (cRules u) ∧ fC 5 = .ptr 5 e5 1 0 0 ∧ fC 6 = .ptr 6 e6 1 0 0 ∧ fC 7 = .int .i64 ((k + 1 : Nat) : Int) ∧ fC 8 = .ptr 308 e8 4 0 0 ∧ fC 20 = .lst 2 chkV ∧ fC 21 = .int .i64 (4 : Nat) ∧ fC 22 = .int .i64 i ∧ H4 333 = some (e33, .itr km em ver (List.range es.length) none) ∧ H4 310 = some (e10, .arr 2 [[.int .u8 ((i + 1 : Nat) : Int), .fn g []]]) :=
     ⟨_, _, by rw [← hfC]; rfl, by rw [← hfC]; rfl, by rw [← hfC]; simp only [h3, go_sem, simprocAttr], by rw [← hfC]; simp only [h5, go_sem, simprocAttr], by rw [← hfC]; simp only [h6, go_sem, simprocAttr], by rw [← hfC]; simp only [h7, go_sem, simprocAttr], by rw [← hfC]; simp only [h8, go_sem, simprocAttr], by rw [← hfC]; simp only [h20, go_sem, simprocAttr], by rw [← hfC]; simp only [h21, go_sem, simprocAttr], by rw [← hfC]; simp only [h22, go_sem, simprocAttr], by rw [hlt4 _ (by decide), upd_same], by rw [hlt4 _ (by decide), upd_ne _ _ (by decide), w10]⟩
    have d8 := (hlt4 308 (by decide)).trans ((upd_ne _ _ (by decide)).trans c8)
    have d5 := (hlt4 5 (by decide)).trans ((upd_ne _ _ (by decide)).trans c5)
    have d100 := (hlt4 100 (by decide)).trans ((upd_ne _ _ (by decide)).trans c100)
    have dmap := (hlt4 km (by omega)).trans ((upd_ne _ _ n333).trans hmap)
    have dA := cA.same ((hlt4 6 (by decide)).trans (upd_ne _ _ (by decide))) ((hlt4 355 (by decide)).trans (upd_ne _ _ (by decide)))
    have dsame : ∀ j, 200 ≤ j → j < 300 → H4 j = Hs j := fun j h1 h2 => by rw [hlt4 j (by omega), upd_ne _ _ (by omega)]; exact csame j h1 h2
    have droom : Room H4 1000 100 := fun d hd => hge4 _ (by omega)
    clear hfC hlt4 hge4 c8 c5 c100 cA csame w10 g33' hmap h3 h5 h6 h7 h8 h20 h21 h22
    have n6 : ¬ km = 6 := by omega
    have n313 : ¬ km = 313 := by omega
    have n355 : ¬ km = 355 := by omega
    refine AW_block (AW_loop (fun n f H => ∃ left : List Nat, n = left.length ∧ (∀ p ∈ left, p < es.length) ∧ (f 10 = .ptr 310 e10 2 0 0 ∧ f 3 = .pim (cRules u) ∧ f 5 = .ptr 5 e5 1 0 0 ∧ f 6 = .ptr 6 e6 1 0 0 ∧ f 7 = .int .i64 ((k + 1 : Nat) : Int) ∧ f 8 = .ptr 308 e8 4 0 0 ∧ f 20 = .lst 2 chkV ∧ f 21 = .int .i64 (4 : Nat) ∧ f 22 = .int .i64 i) ∧
      H 310 = some (e10, .arr 2 [[.int .u8 ((i + 1 : Nat) : Int), .fn g []]]) ∧ H 308 = some (e8, .arr 4 [nowV r (k + 1)]) ∧ H 5 = some (e5, .arr 1 [[.pim (fireAt r r.rows.length)]]) ∧ H 100 = LB ∧ H km = some (em, .map ver (imap .i64 es)) ∧ Room H 1000 100 ∧ (∀ j, 200 ≤ j → j < 300 → H j = Hs j) ∧
      ∃ l cur, (l ++ toB ((k + 1 : Nat) : Int) ((i + 1 : Nat) : Int) (lfE es left)).Perm (leftB r u k ++ chkB r u k i ++ toB ((k + 1 : Nat) : Int) ((i + 1 : Nat) : Int) es) ∧ AllL e6 l H ∧ f 33 = .itr 333 e33 ∧ H 333 = some (e33, .itr km em ver left cur)) es.length
     ⟨List.range es.length, by simp, by simp, ⟨t10, t3, t5, t6, t7, t8, t20, t21, t22⟩, d10, d8, d5, d100, dmap, droom, dsame, l, none, by rw [lfE_all]; exact hl.append_right _, dA, t33, T33⟩ ?_)
    clear t10 t3 t5 t6 t7 t8 t20 t21 t22 d10 d8 d5 d100 dmap droom dsame dA t33 T33 hl
    rintro n f H ⟨left, rfl, hmem, ⟨t10, t3, t5, t6, t7, t8, t20, t21, t22⟩, d10, d8, d5, d100, dmap, droom, dsame, l, cur, hl, hA, t33, T33⟩
    repeat' (first | with_reducible (refine sk ?_; intro K hK) | ((with_reducible refine AW_regN (id := 10) tabOK { base := 300, own := [33, 55], imp := [32] } [] [] (by rw [hXs]; decide +kernel) ?_); try simp (disch := omega) only [t33, T33, dmap,go_sem, simprocAttr]) | fail)
    refine ⟨fun hlz => ?_, fun p hp a v hav => ?_⟩
    ·subst hlz
     repeat' (first | with_reducible (first | (refine sk ?_; intro K hK) | apply_assumption -exfalso -symm only [*]) | ((with_reducible refine nx ?_); try simp (disch := omega) only [t33, T33, dmap,go_sem, simprocAttr]) | ((with_reducible refine' cE ?hv ?_ ?_); (case hv => rfl); all_goals (intro hc; (try simp only [go_sem, simprocAttr] at hc))) | fail)
     exact ⟨t22, t21, ⟨t3, t5, t6, t7, t8, t20⟩, d8, d5, d100, droom, dsame, l, hB2 l (by simpa [lfE, toB] using hl), hA⟩
    ·obtain ⟨cp, hcp⟩ : ∃ x, es[p]? = some x := ⟨_, List.getElem?_eq_getElem (hmem p hp)⟩
     obtain ⟨kv, hkv, hk0, hk255⟩ := hkn cp (List.mem_of_getElem? hcp)
     obtain ⟨c, v2⟩ := cp
     simp only at hkv
     subst hkv
     have htk := toB_take (m := ((k + 1 : Nat) : Int)) (q := ((i + 1 : Nat) : Int)) hp hcp hl
     have hle := List.length_erase_of_mem hp
     have hpos := List.length_pos_of_mem hp
     rw [hcp] at hav
     simp only [Option.map_some, Option.some.injEq, Prod.mk.injEq] at hav
     obtain ⟨rfl, rfl⟩ := hav
     have hl0 := hl
     refine hK _ _ ?_
     refine AW_lose 313 fun H5 g13 hs5 => ?_
     have x333 := (hs5 333 (by decide)).trans (upd_same _ _ _)
     have x310 := (hs5 310 (by decide)).trans ((upd_ne _ _ (by decide)).trans d10)
     have x308 := (hs5 308 (by decide)).trans ((upd_ne _ _ (by decide)).trans d8)
     have x5 := (hs5 5 (by decide)).trans ((upd_ne _ _ (by decide)).trans d5)
     have x100 := (hs5 100 (by decide)).trans ((upd_ne _ _ (by decide)).trans d100)
     have xmap := (hs5 km n313).trans ((upd_ne _ _ n333).trans dmap)
     have xroom : Room H5 1000 100 := fun d hd => by rw [hs5 _ (by omega), upd_ne _ _ (by omega)]; exact droom d hd
     have xsame : ∀ j, 200 ≤ j → j < 300 → H5 j = Hs j := fun j h1 h2 => by rw [hs5 _ (by omega), upd_ne _ _ (by omega)]; exact dsame j h1 h2
     have xA := hA.same ((hs5 6 (by decide)).trans (upd_ne _ _ (by decide))) ((hs5 355 (by decide)).trans (upd_ne _ _ (by decide)))
     clear hs5 d10 d8 d5 d100 dmap droom dsame hA T33 hl
     have hlb : l.length + 1 ≤ 1073741824 := by
      have := hl0.length_eq
      simp only [List.length_append] at this
      have h3 : (toB ((k + 1 : Nat) : Int) ((i + 1 : Nat) : Int) es).length ≤ 8 := Nat.le_trans (toB_len _) hel
      omega
     rcases xA with ⟨rfl, x6⟩ | ⟨hlne, ea, x6, x355⟩
     ·repeat' (first | with_reducible (first | (refine sk ?_; intro K hK) | refine bk ?_ | apply_assumption -exfalso -symm only [*]) | ((with_reducible first | refine AW_regN (id := 11) tabOK { base := 300, own := [33, 55], imp := [32] } [] [] (by rw [hXs]; decide +kernel) ?_ | refine nx ?_); try simp (disch := omega) only [t33, t10, t7, t6, x333, x310, xmap, x6, hcp, g13,go_sem, simprocAttr]) | ((with_reducible refine' cE ?hv ?_ ?_); (case hv => rfl); all_goals (intro hc; (try simp only [go_sem, simprocAttr] at hc))) | fail)
      refine ⟨_, _, rfl, ?_⟩
      repeat' (first | with_reducible (first | (refine sk ?_; intro K hK) | intro (ep : Nat → Nat) | apply_assumption -exfalso -symm only [*]) | ((with_reducible first | refine rg (md := { base := 300, own := [33, 55], imp := [32] }) (h := ?_) | refine nx ?_); try simp (disch := omega) only [t33, t10, t7, t6, x333, x310, xmap, x6, hcp, g13, n6, n313, n355, kn,go_sem, simprocAttr]) | ((with_reducible refine' cE ?hv ?_ ?_); (case hv => rfl); all_goals (intro hc; (try simp only [go_sem, simprocAttr] at hc))) | fail)
      ·exact ⟨(left.erase p).length, by omega, left.erase p, rfl, fun q hq => hmem q (List.mem_of_mem_erase hq), ⟨t3, t5, t8, t20, t21, t22⟩, x308, x5, x100, fun d hd => by rw [upd_ne _ _ (by omega), upd_ne _ _ (by omega), upd_ne _ _ (by omega), upd_ne _ _ (by omega)]; exact xroom d hd, fun j h1 h2 => by rw [if_neg (by omega), if_neg (by omega), if_neg (by omega), if_neg (by omega)]; exact xsame j h1 h2, [⟨((k + 1 : Nat) : Int), ((i + 1 : Nat) : Int), c, kv⟩], some p, by have h := htk; rw [oneB, if_neg (by simpa using hc)] at h; exact h, .inr ⟨by simp, _, rfl, rfl⟩, rfl⟩
      ·exact ⟨(left.erase p).length, by omega, left.erase p, rfl, fun q hq => hmem q (List.mem_of_mem_erase hq), ⟨t3, t5, t8, t20, t21, t22⟩, x308, x5, x100, fun d hd => by rw [upd_ne _ _ (by omega), upd_ne _ _ (by omega)]; exact xroom d hd, fun j h1 h2 => by rw [if_neg (by omega), if_neg (by omega)]; exact xsame j h1 h2, [], some p, by have h := htk; rw [oneB, if_pos (by simpa using hc), List.append_nil] at h; exact h, .inl ⟨rfl, by rw [upd_ne _ _ (by decide), upd_ne _ _ (by decide)]; exact x6⟩, rfl⟩
     ·repeat' (first | with_reducible (first | (refine sk ?_; intro K hK) | refine bk ?_ | apply_assumption -exfalso -symm only [*]) | ((with_reducible first | refine AW_regN (id := 11) tabOK { base := 300, own := [33, 55], imp := [32] } [] [] (by rw [hXs]; decide +kernel) ?_ | refine nx ?_); try simp (disch := omega) only [t33, t10, t7, t6, x333, x310, xmap, x6, x355, hcp, g13,go_sem, simprocAttr]) | ((with_reducible refine' cE ?hv ?_ ?_); (case hv => rfl); all_goals (intro hc; (try simp only [go_sem, simprocAttr] at hc))) | fail)
      refine ⟨_, _, rfl, ?_⟩
      repeat' (first | with_reducible (first | (refine sk ?_; intro K hK) | intro (ep : Nat → Nat) | apply_assumption -exfalso -symm only [*]) | ((with_reducible first | refine rg (md := { base := 300, own := [33, 55], imp := [32] }) (h := ?_) | refine nx ?_); try simp (disch := omega) only [t33, t10, t7, t6, x333, x310, xmap, x6, x355, hcp, g13, hlb, n6, n313, n355, kn,go_sem, simprocAttr]) | ((with_reducible refine' cE ?hv ?_ ?_); (case hv => rfl); all_goals (intro hc; (try simp only [go_sem, simprocAttr] at hc))) | fail)
      ·exact ⟨(left.erase p).length, by omega, left.erase p, rfl, fun q hq => hmem q (List.mem_of_mem_erase hq), ⟨t3, t5, t8, t20, t21, t22⟩, x308, x5, x100, fun d hd => by rw [upd_ne _ _ (by omega), upd_ne _ _ (by omega), upd_ne _ _ (by omega), upd_ne _ _ (by omega)]; exact xroom d hd, fun j h1 h2 => by rw [if_neg (by omega), if_neg (by omega), if_neg (by omega), if_neg (by omega)]; exact xsame j h1 h2, l ++ [⟨((k + 1 : Nat) : Int), ((i + 1 : Nat) : Int), c, kv⟩], some p, by have h := htk; rw [oneB, if_neg (by simpa using hc)] at h; exact h, .inr ⟨by simp, _, by rw [List.length_append]; rfl, by rw [List.map_append]; rfl⟩, rfl⟩
      ·exact ⟨(left.erase p).length, by omega, left.erase p, rfl, fun q hq => hmem q (List.mem_of_mem_erase hq), ⟨t3, t5, t8, t20, t21, t22⟩, x308, x5, x100, fun d hd => by rw [upd_ne _ _ (by omega), upd_ne _ _ (by omega)]; exact xroom d hd, fun j h1 h2 => by rw [if_neg (by omega), if_neg (by omega)]; exact xsame j h1 h2, l, some p, by have h := htk; rw [oneB, if_pos (by simpa using hc), List.append_nil] at h; exact h, .inr ⟨hlne, _, by rw [upd_ne _ _ (by decide), upd_ne _ _ (by decide)]; exact x6, by rw [upd_ne _ _ (by decide), upd_ne _ _ (by decide)]; exact x355⟩, rfl⟩
  ·rintro f H h22 h21 ⟨⟨h3, h5, h6, h7, h8, h20⟩, H8, H5, H100, Hroom, Hsame, l, hl, hA⟩
   refine ⟨_, _, _, _, _, _, by rw [H100, ← hLB], ?_⟩
   refine ⟨rfl, ⟨by rw [upd_ne _ _ (by decide), H5], upd_same _ _ _, fun d hd => by rw [upd_ne _ _ (by omega)]; exact Hroom d hd, l, ?_, hA.same (upd_ne _ _ (by decide)) (upd_ne _ _ (by decide))⟩, fun j h1 h2 => by rw [upd_ne _ _ (by omega)]; exact Hsame j h1 h2⟩
   rw [chkB_all] at hl
   exact hl
 ·rintro v H' ⟨p5, p100, proom, l, hl, hA⟩
  subst hL
  refine ⟨_, _, _, _, _, _, p100, by simp, ?_⟩
  have hXs : X.sz = 60 := hXs0
  have hA' : AllL e6 l (upd H' 100 none) := hA.same (upd_ne _ _ (by decide)) (upd_ne _ _ (by decide))
  generalize upd H' 100 none = H2 at hA'
  clear hA p5 p100 proom
  have hkd : ∀ b ∈ l, 0 ≤ b.kind ∧ b.kind ≤ 255 := fun b hb => leftS_kind (hl.mem_iff.1 hb)
  rcases hA' with ⟨rfl, x6⟩ | ⟨hlne, ea, x6, x355⟩
  ·have hS : leftS r u = [] := hl.symm.eq_nil
   rw [hS]
   repeat' (first | with_reducible (first | (refine sk ?_; intro K hK) | apply_assumption -exfalso -symm only [*]) | ((with_reducible refine rg (md := { base := 0, own := [], imp := [58] }) (h := ?_)); try simp (disch := omega) only [g6, x6,go_sem, simprocAttr]) | refine iK (brSort0 _ _) ?_ | fail)
   rintro v H3 rfl
   simp only [go_sem, simprocAttr]
   repeat' (first | with_reducible (first | (refine sk ?_; intro K hK) | apply_assumption -exfalso -symm only [*]) | ((with_reducible first | refine rg (md := { base := 0, own := [], imp := [58] }) (h := ?_) | refine nx ?_); try simp (disch := omega) only [g6, x6,go_sem, simprocAttr]) | ((with_reducible refine fe ?_); refine ⟨_, (by simp only [Tryz.f60, g6, x6,go_sem, simprocAttr]; rfl), ?_⟩; (try simp only [g6, x6,go_sem, simprocAttr, seval])) | fail)
   rw [lftV, if_pos hS]
  ·have hlen := hl.length_eq
   have hb := leftB_len (u := u) hF r.rows.length
   repeat' (first | with_reducible (first | (refine sk ?_; intro K hK) | apply_assumption -exfalso -symm only [*]) | ((with_reducible refine rg (md := { base := 0, own := [], imp := [58] }) (h := ?_)); try simp (disch := omega) only [g6, x6,go_sem, simprocAttr]) | refine iK (brSort _ 355 ea l.length l hkd x355 rfl (by omega)) ?_ | fail)
   rintro v H3 ⟨l', hp, hs, rfl⟩
   have hS : l' = leftS r u := sorted_uniq _ _ (hp.trans hl) (leftB_pair hF) hs
   have hne : leftS r u ≠ [] := fun e => by
    rw [← hS] at e; subst e; exact hlne hp.symm.eq_nil
   have hll : l.length = (leftS r u).length := by rw [← hS]; exact hp.length_eq.symm
   rw [hll] at x6
   subst hS
   simp only [go_sem, simprocAttr]
   repeat' (first | with_reducible (first | (refine sk ?_; intro K hK) | apply_assumption -exfalso -symm only [*]) | ((with_reducible first | refine rg (md := { base := 0, own := [], imp := [58] }) (h := ?_) | refine nx ?_); try simp (disch := omega) only [g6, x6, x355,go_sem, simprocAttr]) | fail)
   refine FnP_frz 355 (Or.inl rfl) (by simp only [go_sem, simprocAttr]; rfl) ⟨_, (by simp only [Tryz.f60, go_sem, simprocAttr]; rfl), ?_⟩
   rw [lftV, if_neg hne]
   simp only [go_sem, simprocAttr]
end Cp
namespace Cp
open Go Go.Proofs
set_option maxRecDepth 10000
set_option maxHeartbeats 4000000
theorem rpart_ok (u : RulesT) (hU : RulesF u) (m : Int) : PureC Tryz.prog 97 [encRules u, .int .i64 m] (.int .i64 (partS u m)) := by
 have hul := hU.len
 refine PureC_of (fn := Tryz.f97) tabOK (by kernel_rfl) rfl (by kernel_rfl) (by simp [Tryz.f97]) (by simp [noids, noid, noidss, go_sem, encRules, cRules]) (by first | rfl | simp [noids, noid, noidss, go_sem, encRules, cRules]) ?_
 intro X hX0 hXs
 repeat' (first | with_reducible (first | (refine sk ?_; intro K hK) | apply_assumption -exfalso -symm only [*]) | ((with_reducible refine rg (h := ?_)); try simp (disch := omega) only [encRules, cRules,go_sem, simprocAttr]) | fail)
 refine AW_block (AW_loop (fun n f H => ∃ k : Nat, n = u.steps.length - k ∧ k ≤ u.steps.length ∧ (f 1 = .int .i64 m ∧ f 2 = .pim (cRules u) ∧ f 6 = .int .i64 k) ∧ ∃ a, f 5 = .int .i64 a ∧ partS u m = partFrom m a (u.steps.drop k)) u.steps.length
  ⟨0, by simp, Nat.zero_le _, by (and_intros <;> first | rfl | (simp only [cRules, go_sem, simprocAttr]; done) | (simp only [cRules, go_sem, simprocAttr]; rfl)), -1, by (first | rfl | (simp only [go_sem, simprocAttr]; done) | (simp only [go_sem, simprocAttr]; rfl)), rfl⟩ ?_)
 rintro n f H ⟨k, rfl, hk, ⟨h1, h2, h6⟩, a, h5, hr⟩
 refine AW_keep [] ?_
 by_cases hlt : k < u.steps.length
 ·obtain ⟨s, hs⟩ : ∃ s, u.steps[k]? = some s := ⟨_, List.getElem?_eq_getElem hlt⟩
  rw [drop_cons hs, partFrom] at hr
  by_cases hm : s.frm ≤ m
  ·rw [if_pos hm] at hr
   repeat' (first | with_reducible (first | (refine sk ?_; intro K hK) | refine bk ?_ | apply_assumption -exfalso -symm only [*]) | ((with_reducible first | refine rg (h := ?_) | refine nx ?_); try simp (disch := omega) only [h1, h2, h5, h6, hs, hm, cRules, cStep,go_sem, simprocAttr]) | ((with_reducible refine' cE ?hv ?_ ?_); (case hv => rfl); all_goals (intro hc; (try simp only [go_sem, simprocAttr] at hc); try (exfalso; omega))) | fail)
   exact ⟨u.steps.length - (k + 1), by omega, k + 1, rfl, by omega, rfl, _, rfl, hr⟩
  ·rw [if_neg hm] at hr
   repeat' (first | with_reducible (first | (refine sk ?_; intro K hK) | refine bk ?_ | apply_assumption -exfalso -symm only [*]) | ((with_reducible first | refine rg (h := ?_) | refine nx ?_); try simp (disch := omega) only [h1, h2, h5, h6, hs, hm, cRules, cStep,go_sem, simprocAttr]) | ((with_reducible refine' cE ?hv ?_ ?_); (case hv => rfl); all_goals (intro hc; (try simp only [go_sem, simprocAttr] at hc); try (exfalso; omega))) | fail)
   exact ⟨u.steps.length - (k + 1), by omega, k + 1, rfl, by omega, rfl, _, rfl, hr⟩
 ·rw [drop_none (by omega), partFrom] at hr
  repeat' (first | with_reducible (first | (refine sk ?_; intro K hK) | apply_assumption -exfalso -symm only [*]) | ((with_reducible first | refine rg (h := ?_) | refine nx ?_); try simp (disch := omega) only [h1, h2, h5, h6, cRules,go_sem, simprocAttr]) | ((with_reducible refine' cE ?hv ?_ ?_); (case hv => rfl); all_goals (intro hc; (try simp only [go_sem, simprocAttr] at hc); try (exfalso; omega))) | ((with_reducible refine fe ?_); refine ⟨_, (by simp only [Tryz.f97, h1, h2, h5, h6, cRules,go_sem, simprocAttr]; rfl), ?_⟩; (try simp only [h1, h2, h5, h6, cRules,go_sem, simprocAttr, seval])) | fail)
  exact hr.symm
theorem oneB_ne {m q c n : Int} (h : ¬ n = 0) : oneB m q c n = [⟨m, q, c, n⟩] := by unfold oneB; rw [if_neg h]
theorem oneB_eq {m q c n : Int} (h : n = 0) : oneB m q c n = [] := by unfold oneB; rw [if_pos h]
def OutL (l : List Brc) (f : Fr) (H : Hp) : Prop := ∃ e, f 5 = .gr 5 e l.length ∧ H 5 = some (e, .arr 4 (l.map cBrc))
theorem OutL_app {l : List Brc} {b : Brc} {f : Fr} {H : Hp} {e : Nat} (h1 : f 5 = .gr 5 e (l.length + 1)) (h2 : H 5 = some (e, .arr 4 (l.map cBrc ++ [cBrc b]))) : OutL (l ++ [b]) f H :=
 ⟨e, by rw [List.length_append]; exact h1, by rw [List.map_append]; exact h2⟩
theorem rleft_ok (r : RunT) (hF : RunF r) (u : RulesT) (hU : RulesF u) : PureC Tryz.prog 72 [encRun r, encRules u] (.lst 4 ((leftS r u).map cBrc)) := by
 have hrl := hF.rows
 have hcl := hF.cpls
 have hus := hU.single
 have hg := hF.gauge
 have hup := hU.press
 have hdeg := fun m => deg_bnd (l := r.curve) hF.curve (m := m)
 refine PureC_of (fn := Tryz.f72) tabOK (by kernel_rfl) rfl (by kernel_rfl) (by simp [Tryz.f72]) (by simp [noids, noid, noidss, go_sem, encRun, cRun, encRules, cRules]) (by first | rfl | simp [noids, noid, noidss, go_sem, encRun, cRun, encRules, cRules]) ?_
 intro X hX0 hXs
 repeat' (first | with_reducible (first | (refine sk ?_; intro K hK) | intro (ep : Nat → Nat) | apply_assumption -exfalso -symm only [*]) | ((with_reducible refine rg (md := { base := 0, own := [5, 43, 88, 137, 175] }) (h := ?_)); try simp (disch := omega) only [encRun, cRun, encRules, cRules,go_sem, simprocAttr]) | fail)
 refine AW_block (AW_loop (fun n f H => ∃ k : Nat, n = r.rows.length - k ∧ k ≤ r.rows.length ∧ (f 2 = .pim (cRun r) ∧ f 3 = .pim (cRules u) ∧ f 9 = .int .i64 ((k + 1 : Nat) : Int) ∧ f 6 = .int .i64 (cumLo r k) ∧ f 7 = .int .i64 (cumHi r k) ∧ f 8 = .int .i64 (cumC r k)) ∧ ∃ e, f 5 = .gr 5 e (leftB r u k).length ∧ H 5 = some (e, .arr 4 ((leftB r u k).map cBrc))) r.rows.length
  ⟨0, by simp, Nat.zero_le _, by (and_intros <;> first | rfl | (simp only [cRun, cRules, cumLo, cumHi, cumC, go_sem, simprocAttr]; done) | (simp only [cRun, cRules, cumLo, cumHi, cumC, go_sem, simprocAttr]; rfl)), _, by (first | rfl | (simp only [go_sem, simprocAttr]; done) | (simp only [go_sem, simprocAttr]; rfl)), by (first | rfl | (simp only [go_sem, simprocAttr]; done) | (simp only [go_sem, simprocAttr]; rfl))⟩ ?_)
 rintro n f H ⟨k, rfl, hk, ⟨h2, h3, h9, h6, h7, h8⟩, e, h5, hH5⟩
 refine AW_keep [5] ?_
 by_cases hlt : k < r.rows.length
 ·obtain ⟨m, hm⟩ : ∃ m, ((k + 1 : Nat) : Int) = m := ⟨_, rfl⟩
  have hm1 : 1 ≤ m := by omega
  have hm2 : m ≤ r.rows.length := by omega
  have hcb := cum_bounds hF hdeg k (by omega)
  have hcb2 := cum_bounds hF hdeg (k + 1) (by omega)
  have hd1 := hdeg ((k + 1 : Nat) : Int) (by omega) (by omega)
  have hlen := leftB_len (u := u) hF k
  repeat' (first | with_reducible (first | ((fail_if_success (refine AW_at (id := 8) ?_)); refine sk ?_; intro K hK) | refine bk ?_ | apply_assumption -exfalso -symm only [*]) | ((first | (with_reducible first | refine rg (md := { base := 0, own := [5, 43, 88, 137, 175] }) (h := ?_) | refine nx ?_) | refine pK (rdegree_ok r.curve hF.curve ((k + 1 : Nat) : Int) (by omega) (by omega)) ?_ | refine pK (rworking_ok r ((k + 1 : Nat) : Int) (by omega)) ?_); try simp (disch := omega) only [h2, h3, h5, h6, h7, h8, h9, hH5, cRun,go_sem, simprocAttr]) | ((with_reducible refine' cE ?hv ?_ ?_); (case hv => rfl); all_goals (intro hc; (try simp only [go_sem, simprocAttr] at hc); try (exfalso; omega))) | fail)
  have hwl := @wk_len r ((k + 1 : Nat) : Int)
  have hnl : (natI (wk r ((k + 1 : Nat) : Int))).length = (wk r ((k + 1 : Nat) : Int)).length := natI_length
  have hbl : (blindB r ((k + 1 : Nat) : Int)).length ≤ 1 := by unfold blindB; split <;> simp
  have hol := @oneB_len ((k + 1 : Nat) : Int) 2 (-1) (areaS r u (k + 1))
  have hcutA : ∀ f H, (f 2 = .pim (cRun r) ∧ f 3 = .pim (cRules u) ∧ f 9 = .int .i64 ((k + 1 : Nat) : Int) ∧ f 10 = .int .i64 (degAt r.curve ((k + 1 : Nat) : Int)) ∧ f 11 = .lst 1 (ints (natI (wk r ((k + 1 : Nat) : Int)))) ∧ f 6 = .int .i64 (cumLo r (k + 1)) ∧ f 7 = .int .i64 (cumHi r (k + 1)) ∧ f 8 = .int .i64 (cumC r (k + 1))) ∧ OutL (leftB r u k ++ blindB r ((k + 1 : Nat) : Int)) f H → K f H := by
   clear h2 h3 h5 h6 h7 h8 h9 hH5
   rintro f H ⟨⟨h2, h3, h9, h10, h11, h6, h7, h8⟩, e, h5, hH5⟩
   refine hK f H ?_
   clear hK
   refine AW_keep [5] ?_
   repeat' (first | with_reducible ((fail_if_success (refine AW_at (id := 12) ?_)); refine sk ?_; intro K hK) | fail)
   have hcutB : ∀ f H, (f 2 = .pim (cRun r) ∧ f 3 = .pim (cRules u) ∧ f 9 = .int .i64 ((k + 1 : Nat) : Int) ∧ f 10 = .int .i64 (degAt r.curve ((k + 1 : Nat) : Int)) ∧ f 11 = .lst 1 (ints (natI (wk r ((k + 1 : Nat) : Int)))) ∧ f 6 = .int .i64 (cumLo r (k + 1)) ∧ f 7 = .int .i64 (cumHi r (k + 1)) ∧ f 8 = .int .i64 (cumC r (k + 1))) ∧ OutL (leftB r u k ++ blindB r ((k + 1 : Nat) : Int) ++ oneB ((k + 1 : Nat) : Int) 2 (-1) (areaS r u (k + 1))) f H → K f H := by
    clear h2 h3 h5 h6 h7 h8 h9 h10 h11 hH5
    rintro f H ⟨⟨h2, h3, h9, h10, h11, h6, h7, h8⟩, e, h5, hH5⟩
    refine hK f H ?_
    clear hK
    refine AW_keep [5] ?_
    obtain ⟨A2, hA2⟩ : ∃ A2, leftB r u k ++ blindB r ((k + 1 : Nat) : Int) ++ oneB ((k + 1 : Nat) : Int) 2 (-1) (areaS r u (k + 1)) = A2 := ⟨_, rfl⟩
    have hA2l : A2.length ≤ 1000 := by rw [← hA2]; simp only [List.length_append]; omega
    rw [hA2] at h5 hH5
    repeat' (first | with_reducible ((fail_if_success (refine AW_at (id := 18) ?_)); refine sk ?_; intro K hK) | fail)
    have hcutC : ∀ f H, (f 2 = .pim (cRun r) ∧ f 3 = .pim (cRules u) ∧ f 9 = .int .i64 ((k + 1 : Nat) : Int) ∧ f 10 = .int .i64 (degAt r.curve ((k + 1 : Nat) : Int)) ∧ f 11 = .lst 1 (ints (natI (wk r ((k + 1 : Nat) : Int)))) ∧ f 6 = .int .i64 (cumLo r (k + 1)) ∧ f 7 = .int .i64 (cumHi r (k + 1)) ∧ f 8 = .int .i64 (cumC r (k + 1))) ∧ OutL (A2 ++ singB r u ((k + 1 : Nat) : Int)) f H → K f H := by
     clear h2 h3 h5 h6 h7 h8 h9 h10 h11 hH5
     rintro f H ⟨⟨h2, h3, h9, h10, h11, h6, h7, h8⟩, e, h5, hH5⟩
     refine hK f H ?_
     clear hK
     refine AW_keep [5] ?_
     obtain ⟨x, hx⟩ : ∃ x, r.rows[k]? = some x := ⟨_, List.getElem?_eq_getElem (by omega)⟩
     have hxb := hF.row k x hx
     have hpa : pressAt r ((k + 1 : Nat) : Int) = x.press := by
      unfold pressAt
      rw [show (((k + 1 : Nat) : Int) - 1).toNat = k by omega, hx]; rfl
     have hro := routside_ok ⟨x.press - r.gauge.hi, x.press - r.gauge.lo⟩ u.press
     have hps : pressS r u ((k + 1 : Nat) : Int) = outK ⟨x.press - r.gauge.hi, x.press - r.gauge.lo⟩ u.press := by unfold pressS; rw [hpa]
     obtain ⟨pv, hpv⟩ : ∃ pv, pressS r u ((k + 1 : Nat) : Int) = pv := ⟨_, rfl⟩
     have hpb := @outK_bnd ⟨x.press - r.gauge.hi, x.press - r.gauge.lo⟩ u.press
     rw [← hps, hpv] at hro hpb
     have hsl : (singB r u ((k + 1 : Nat) : Int)).length ≤ 8 := by
      have := singL_len (r := r) (u := u) (m := ((k + 1 : Nat) : Int)) (wk r ((k + 1 : Nat) : Int))
      unfold singB; split; simp; omega
     obtain ⟨A3, hA3⟩ : ∃ A3, A2 ++ singB r u ((k + 1 : Nat) : Int) = A3 := ⟨_, rfl⟩
     have hA3l : A3.length ≤ 1073741823 := by rw [← hA3, List.length_append]; omega
     rw [hA3] at h5 hH5
     have hend : leftB r u (k + 1) = A3 ++ pressB r u ((k + 1 : Nat) : Int) := by
      rw [← hA3, ← hA2]; simp only [leftB, minB, List.append_assoc]
     have hkk : ∀ f H, OutL (leftB r u (k + 1)) f H → ∃ e, f 5 = .gr 5 e (leftB r u (k + 1)).length ∧ H 5 = some (e, .arr 4 ((leftB r u (k + 1)).map cBrc)) := fun f H h => h
     by_cases hq : pv > 0 ∧ u.pfrom ≤ ((k + 1 : Nat) : Int)
     ·have hq1 : 0 < pv := hq.1
      have hq2 := hq.2
      have hpB : pressB r u ((k + 1 : Nat) : Int) = [⟨((k + 1 : Nat) : Int), 4, -1, pv⟩] := by unfold pressB; rw [if_neg (by omega), hpv, oneB_ne (by omega)]
      rw [hpB] at hend
      repeat' (first | with_reducible (first | (refine sk ?_; intro K hK) | intro (ep : Nat → Nat) | apply_assumption -exfalso -symm only [*]) | ((first | (with_reducible first | refine rg (id := 28) (md := { base := 0, own := [43, 88, 137, 175] }) (h := ?_) | refine rg (md := { base := 0, own := [5, 43, 88, 137, 175] }) (h := ?_)) | refine pK (hro) ?_); try simp (disch := omega) only [h2, h3, h5, h6, h7, h8, h9, h10, h11, hH5, hx, hq1, hq2, hA3l, cRun, cRow, cRules,go_sem, simprocAttr]) | ((with_reducible refine' cE ?hv ?_ ?_); (case hv => rfl); all_goals (intro hc; (try simp only [go_sem, simprocAttr] at hc))) | fail)
      exact ⟨r.rows.length - (k + 1), by omega, k + 1, rfl, by omega, ⟨rfl, rfl, rfl, rfl⟩, _, by rw [hend, List.length_append]; rfl, by rw [hend, List.map_append]; rfl⟩
     ·have hpB : pressB r u ((k + 1 : Nat) : Int) = [] := by
       unfold pressB
       split
       ·rfl
       ·rw [hpv, oneB_eq (by omega)]
      rw [hpB, List.append_nil] at hend
      by_cases hq1 : 0 < pv
      ·have hq2 : ¬ u.pfrom ≤ ((k + 1 : Nat) : Int) := fun h => hq ⟨hq1, h⟩
       repeat' (first | with_reducible (first | (refine sk ?_; intro K hK) | apply_assumption -exfalso -symm only [*]) | ((first | (with_reducible first | refine rg (md := { base := 0, own := [5, 43, 88, 137, 175] }) (h := ?_) | refine nx ?_) | refine pK (hro) ?_); try simp (disch := omega) only [h2, h3, h5, h6, h7, h8, h9, h10, h11, hH5, hx, hq1, hq2, cRun, cRow, cRules,go_sem, simprocAttr]) | ((with_reducible refine' cE ?hv ?_ ?_); (case hv => rfl); all_goals (intro hc; (try simp only [go_sem, simprocAttr] at hc))) | fail)
       exact ⟨r.rows.length - (k + 1), by omega, k + 1, rfl, by omega, ⟨rfl, rfl, rfl, rfl⟩, _, by rw [hend], by rw [hend]⟩
      ·repeat' (first | with_reducible (first | (refine sk ?_; intro K hK) | apply_assumption -exfalso -symm only [*]) | ((first | (with_reducible first | refine rg (md := { base := 0, own := [5, 43, 88, 137, 175] }) (h := ?_) | refine nx ?_) | refine pK (hro) ?_); try simp (disch := omega) only [h2, h3, h5, h6, h7, h8, h9, h10, h11, hH5, hx, hq1, cRun, cRow, cRules,go_sem, simprocAttr]) | ((with_reducible refine' cE ?hv ?_ ?_); (case hv => rfl); all_goals (intro hc; (try simp only [go_sem, simprocAttr] at hc))) | fail)
       exact ⟨r.rows.length - (k + 1), by omega, k + 1, rfl, by omega, ⟨rfl, rfl, rfl, rfl⟩, _, by rw [hend], by rw [hend]⟩
    clear hK
    by_cases hsf : ((k + 1 : Nat) : Int) < u.sfrom
    ·have hsB : singB r u ((k + 1 : Nat) : Int) = [] := by unfold singB; rw [if_pos hsf]
     have hsf' : ¬ u.sfrom ≤ ((k + 1 : Nat) : Int) := by omega
     rw [hsB, List.append_nil] at hcutC
     repeat' (first | with_reducible (first | (refine sk ?_; intro K hK) | apply_assumption -exfalso -symm only [*]) | ((with_reducible refine rg (md := { base := 0, own := [5, 43, 88, 137, 175] }) (h := ?_)); try simp (disch := omega) only [h2, h3, h5, h6, h7, h8, h9, h10, h11, hH5,go_sem, simprocAttr]) | fail)
     generalize hfC : (upd _ _ _ : Fr) = fC
     obtain ⟨t2, t3, t9, t10, t11, t6, t7, t8, t5, t17⟩ : fC 2 = .pim (cRun r) ∧ fC 3 = .pim (cRules u) ∧ fC 9 = .int .i64 ((k + 1 : Nat) : Int) ∧ fC 10 = .int .i64 (degAt r.curve ((k + 1 : Nat) : Int)) ∧ fC 11 = .lst 1 (ints (natI (wk r ((k + 1 : Nat) : Int)))) ∧ fC 6 = .int .i64 (cumLo r (k + 1)) ∧ fC 7 = .int .i64 (cumHi r (k + 1)) ∧ fC 8 = .int .i64 (cumC r (k + 1)) ∧ fC 5 = .gr 5 e A2.length ∧ fC 17 = .int .i64 0 := by
      rw [← hfC]; exact by (and_intros <;> first | rfl | (simp only [h2, h3, h5, h6, h7, h8, h9, h10, h11, go_sem, simprocAttr]; done) | (simp only [h2, h3, h5, h6, h7, h8, h9, h10, h11, go_sem, simprocAttr]; rfl))
     refine AW_block (AW_loop (fun n f1 H1 => n = 0 ∧ f1 = fC ∧ H1 5 = some (e, .arr 4 (A2.map cBrc))) 0 ⟨rfl, rfl, by (first | rfl | (simp only [hH5, go_sem, simprocAttr]; done) | (simp only [hH5, go_sem, simprocAttr]; rfl))⟩ ?_)
     clear hfC
     rintro n f1 H1' ⟨rfl, rfl, hH5⟩
     repeat' (first | with_reducible (first | (refine sk ?_; intro K hK) | apply_assumption -exfalso -symm only [*]) | ((with_reducible first | refine rg (md := { base := 0, own := [5, 43, 88, 137, 175] }) (h := ?_) | refine nx ?_); try simp (disch := omega) only [t2, t3, t5, t6, t7, t8, t9, t10, t11, t17, hH5, hsf', cRules,go_sem, simprocAttr]) | ((with_reducible refine' cE ?hv ?_ ?_); (case hv => rfl); all_goals (intro hc; (try simp only [go_sem, simprocAttr] at hc))) | ((with_reducible refine grdS_split ?_ ?_) <;> intro hg <;> (try simp (disch := omega) only [hg, t2, t3, t5, t6, t7, t8, t9, t10, t11, t17, hH5, hsf', cRules,go_sem, simprocAttr]) <;> (try simp only [go_sem, simprocAttr] at hg) <;> (try (exfalso; omega))) | fail)
     all_goals exact ⟨by (and_intros <;> first | rfl | (simp only [t2, t3, t5, t6, t7, t8, t9, t10, t11, go_sem, simprocAttr]; done) | (simp only [t2, t3, t5, t6, t7, t8, t9, t10, t11, go_sem, simprocAttr]; rfl)), _, by (first | rfl | (simp only [t5, go_sem, simprocAttr]; done) | (simp only [t5, go_sem, simprocAttr]; rfl)), by (first | rfl | (simp only [hH5, go_sem, simprocAttr]; done) | (simp only [hH5, go_sem, simprocAttr]; rfl))⟩
    ·have hsB : singB r u ((k + 1 : Nat) : Int) = singL r u ((k + 1 : Nat) : Int) (wk r ((k + 1 : Nat) : Int)) := by unfold singB; rw [if_neg hsf]
     have hsf' : u.sfrom ≤ ((k + 1 : Nat) : Int) := by omega
     rw [hsB] at hcutC
     repeat' (first | with_reducible (first | (refine sk ?_; intro K hK) | apply_assumption -exfalso -symm only [*]) | ((with_reducible refine rg (md := { base := 0, own := [5, 43, 88, 137, 175] }) (h := ?_)); try simp (disch := omega) only [h2, h3, h5, h6, h7, h8, h9, h10, h11, hH5,go_sem, simprocAttr]) | fail)
     refine AW_block (AW_loop (fun n f H => ∃ j : Nat, n = (wk r ((k + 1 : Nat) : Int)).length - j ∧ j ≤ (wk r ((k + 1 : Nat) : Int)).length ∧ (f 2 = .pim (cRun r) ∧ f 3 = .pim (cRules u) ∧ f 9 = .int .i64 ((k + 1 : Nat) : Int) ∧ f 10 = .int .i64 (degAt r.curve ((k + 1 : Nat) : Int)) ∧ f 11 = .lst 1 (ints (natI (wk r ((k + 1 : Nat) : Int)))) ∧ f 6 = .int .i64 (cumLo r (k + 1)) ∧ f 7 = .int .i64 (cumHi r (k + 1)) ∧ f 8 = .int .i64 (cumC r (k + 1)) ∧ f 17 = .int .i64 j) ∧ OutL (A2 ++ singL r u ((k + 1 : Nat) : Int) ((wk r ((k + 1 : Nat) : Int)).take j)) f H) (wk r ((k + 1 : Nat) : Int)).length
      ⟨0, by simp, Nat.zero_le _, by (and_intros <;> first | rfl | (simp only [h2, h3, h6, h7, h8, h9, h10, h11, go_sem, simprocAttr]; done) | (simp only [h2, h3, h6, h7, h8, h9, h10, h11, go_sem, simprocAttr]; rfl)), e, by (first | rfl | (simp only [h5, singL, go_sem, simprocAttr]; done) | (simp only [h5, singL, go_sem, simprocAttr]; rfl)), by (first | rfl | (simp only [hH5, singL, go_sem, simprocAttr]; done) | (simp only [hH5, singL, go_sem, simprocAttr]; rfl))⟩ ?_)
     clear h2 h3 h5 h6 h7 h8 h9 h10 h11 hH5
     rintro n f H ⟨j, rfl, hj, ⟨h2, h3, h9, h10, h11, h6, h7, h8, h17⟩, e, h5, hH5⟩
     refine AW_keep [5] ?_
     by_cases hjl : j < (wk r ((k + 1 : Nat) : Int)).length
     ·obtain ⟨w, hw⟩ : ∃ w, (wk r ((k + 1 : Nat) : Int))[j]? = some w := ⟨_, List.getElem?_eq_getElem hjl⟩
      obtain ⟨cc, hcc, hwk⟩ := wk_mem.1 (List.mem_of_getElem? hw)
      have htb := truth_bounds hF hcc (m := ((k + 1 : Nat) : Int)) (by omega) (by omega) hwk
      have htk : singL r u ((k + 1 : Nat) : Int) ((wk r ((k + 1 : Nat) : Int)).take (j + 1)) = singL r u ((k + 1 : Nat) : Int) ((wk r ((k + 1 : Nat) : Int)).take j) ++ oneB ((k + 1 : Nat) : Int) 3 cc.id (singS r u cc w ((k + 1 : Nat) : Int)) := by
       rw [take_snoc' hw, singL_app]; simp only [singL, singI, hcc, List.append_nil]
      have hro := routside_ok (truth r cc w ((k + 1 : Nat) : Int)) ⟨degAt r.curve ((k + 1 : Nat) : Int) - u.single, degAt r.curve ((k + 1 : Nat) : Int) + u.single⟩
      obtain ⟨sv, hsv⟩ : ∃ sv, singS r u cc w ((k + 1 : Nat) : Int) = sv := ⟨_, rfl⟩
      have hsb := @outK_bnd (truth r cc w ((k + 1 : Nat) : Int)) ⟨degAt r.curve ((k + 1 : Nat) : Int) - u.single, degAt r.curve ((k + 1 : Nat) : Int) + u.single⟩
      rw [show outK (truth r cc w ((k + 1 : Nat) : Int)) ⟨degAt r.curve ((k + 1 : Nat) : Int) - u.single, degAt r.curve ((k + 1 : Nat) : Int) + u.single⟩ = sv from hsv] at hro hsb
      have hgw : (natI (wk r ((k + 1 : Nat) : Int)))[j]? = some (w : Int) := by rw [natI_get, hw]; rfl
      have hsl := singL_len (r := r) (u := u) (m := ((k + 1 : Nat) : Int)) ((wk r ((k + 1 : Nat) : Int)).take j)
      have htl : ((wk r ((k + 1 : Nat) : Int)).take j).length ≤ 8 := by simp; omega
      obtain ⟨A3, hA3⟩ : ∃ A3, A2 ++ singL r u ((k + 1 : Nat) : Int) ((wk r ((k + 1 : Nat) : Int)).take j) = A3 := ⟨_, rfl⟩
      have hA3l : A3.length ≤ 1073741823 := by rw [← hA3, List.length_append]; omega
      rw [hsv] at htk
      have htk2 : A2 ++ singL r u ((k + 1 : Nat) : Int) ((wk r ((k + 1 : Nat) : Int)).take (j + 1)) = A3 ++ oneB ((k + 1 : Nat) : Int) 3 cc.id sv := by rw [htk, ← List.append_assoc, hA3]
      rw [hA3] at h5 hH5
      have hjl' : (j : Int) < ((wk r ((k + 1 : Nat) : Int)).length : Int) := by omega
      by_cases hs0 : sv = 0
      ·have hs1 : ¬ 0 < sv := by omega
       rw [oneB_eq hs0, List.append_nil] at htk2
       repeat' (first | with_reducible (first | (refine sk ?_; intro K hK) | refine bk ?_ | intro (ep : Nat → Nat) | apply_assumption -exfalso -symm only [*]) | ((first | (with_reducible first | refine rg (md := { base := 0, own := [5, 43, 88, 137, 175] }) (h := ?_) | refine nx ?_) | refine pK (rtrue_ok r hF w ((k + 1 : Nat) : Int) cc hcc (by omega) (by omega) hwk) ?_ | refine pK (hro) ?_); try simp (disch := omega) only [h2, h3, h5, h6, h7, h8, h9, h10, h11, h17, hH5, hjl', hsf', hgw, hs1, hcc, cRun, cCpl, cRules, encSpan,go_sem, simprocAttr]) | ((with_reducible refine' cE ?hv ?_ ?_); (case hv => rfl); all_goals (intro hc; (try simp only [go_sem, simprocAttr] at hc))) | fail)
       exact ⟨(wk r ((k + 1 : Nat) : Int)).length - (j + 1), by omega, j + 1, rfl, by omega, rfl, by rw [htk2]; exact ⟨e, by (first | rfl | (simp only [h5, go_sem, simprocAttr]; done) | (simp only [h5, go_sem, simprocAttr]; rfl)), by (first | rfl | (simp only [hH5, go_sem, simprocAttr]; done) | (simp only [hH5, go_sem, simprocAttr]; rfl))⟩⟩
      ·have hs1 : 0 < sv := by omega
       rw [oneB_ne hs0] at htk2
       repeat' (first | with_reducible (first | (refine sk ?_; intro K hK) | refine bk ?_ | intro (ep : Nat → Nat) | apply_assumption -exfalso -symm only [*]) | ((first | (with_reducible first | refine rg (id := 24) (md := { base := 0, own := [43, 88, 137, 175] }) (h := ?_) | refine rg (md := { base := 0, own := [5, 43, 88, 137, 175] }) (h := ?_) | refine nx ?_) | refine pK (rtrue_ok r hF w ((k + 1 : Nat) : Int) cc hcc (by omega) (by omega) hwk) ?_ | refine pK (hro) ?_); try simp (disch := omega) only [h2, h3, h5, h6, h7, h8, h9, h10, h11, h17, hH5, hjl', hsf', hgw, hs1, hcc, hA3l, cRun, cCpl, cRules, encSpan,go_sem, simprocAttr]) | ((with_reducible refine' cE ?hv ?_ ?_); (case hv => rfl); all_goals (intro hc; (try simp only [go_sem, simprocAttr] at hc))) | fail)
       exact ⟨(wk r ((k + 1 : Nat) : Int)).length - (j + 1), by omega, j + 1, rfl, by omega, rfl, by rw [htk2]; exact OutL_app (by (first | rfl | (simp only [go_sem, simprocAttr]; done) | (simp only [go_sem, simprocAttr]; rfl))) (by (first | rfl | (simp only [go_sem, simprocAttr]; done) | (simp only [go_sem, simprocAttr]; rfl)))⟩
     ·have hjl' : ¬ (j : Int) < ((wk r ((k + 1 : Nat) : Int)).length : Int) := by omega
      rw [List.take_of_length_le (by omega)] at h5 hH5
      repeat' (first | with_reducible (first | (refine sk ?_; intro K hK) | apply_assumption -exfalso -symm only [*]) | ((with_reducible first | refine rg (md := { base := 0, own := [5, 43, 88, 137, 175] }) (h := ?_) | refine nx ?_); try simp (disch := omega) only [h2, h3, h5, h6, h7, h8, h9, h10, h11, h17, hH5, hjl', hsf', cRules,go_sem, simprocAttr]) | ((with_reducible refine' cE ?hv ?_ ?_); (case hv => rfl); all_goals (intro hc; (try simp only [go_sem, simprocAttr] at hc))) | fail)
      exact ⟨by (and_intros <;> first | rfl | (simp only [h2, h3, h6, h7, h8, h9, h10, h11, go_sem, simprocAttr]; done) | (simp only [h2, h3, h6, h7, h8, h9, h10, h11, go_sem, simprocAttr]; rfl)), _, by (first | rfl | (simp only [h5, go_sem, simprocAttr]; done) | (simp only [h5, go_sem, simprocAttr]; rfl)), by (first | rfl | (simp only [hH5, go_sem, simprocAttr]; done) | (simp only [hH5, go_sem, simprocAttr]; rfl))⟩
   clear hK
   have hpb : (¬ partS u ((k + 1 : Nat) : Int) < 0 → 0 ≤ partS u ((k + 1 : Nat) : Int) ∧ partS u ((k + 1 : Nat) : Int) ≤ 1000) := fun h => by
    obtain ⟨j, hj⟩ : ∃ j, cutS u ((k + 1 : Nat) : Int) = j + 1 := by
     rcases hq : cutS u ((k + 1 : Nat) : Int) with _ | j
     ·have := partS_none hU hq; omega
     ·exact ⟨j, rfl⟩
    obtain ⟨s, _, h1, h2⟩ := partS_some hU hj
    omega
   by_cases hp : partS u ((k + 1 : Nat) : Int) < 0
   ·have ha : areaS r u (k + 1) = 0 := by unfold areaS; rw [if_pos hp]
    have hp' : ¬ 0 ≤ partS u ((k + 1 : Nat) : Int) := by omega
    rw [oneB_eq ha, List.append_nil] at hcutB
    repeat' (first | with_reducible (first | (refine sk ?_; intro K hK) | apply_assumption -exfalso -symm only [*]) | ((first | (with_reducible first | refine rg (md := { base := 0, own := [5, 43, 88, 137, 175] }) (h := ?_) | refine nx ?_) | refine pK (rpart_ok u hU ((k + 1 : Nat) : Int)) ?_); try simp (disch := omega) only [h2, h3, h5, h6, h7, h8, h9, h10, h11, hH5, hp', encRules, cRules,go_sem, simprocAttr]) | ((with_reducible refine' cE ?hv ?_ ?_); (case hv => rfl); all_goals (intro hc; (try simp only [go_sem, simprocAttr] at hc))) | fail)
    exact ⟨by (and_intros <;> first | rfl | (simp only [h2, h3, h6, h7, h8, h9, h10, h11, go_sem, simprocAttr]; done) | (simp only [h2, h3, h6, h7, h8, h9, h10, h11, go_sem, simprocAttr]; rfl)), _, by (first | rfl | (simp only [h5, go_sem, simprocAttr]; done) | (simp only [h5, go_sem, simprocAttr]; rfl)), by (first | rfl | (simp only [hH5, go_sem, simprocAttr]; done) | (simp only [hH5, go_sem, simprocAttr]; rfl))⟩
   ·obtain ⟨p0, p1⟩ := hpb hp
    obtain ⟨pv, hpv⟩ : ∃ pv, partS u ((k + 1 : Nat) : Int) = pv := ⟨_, rfl⟩
    obtain ⟨cv, hcv⟩ : ∃ cv, cumC r (k + 1) = cv := ⟨_, rfl⟩
    have hb := mul_bnd (a := cv * 840) (q := pv) (A := 0) (B := 168000000) (C := 1000) (by omega) (by omega) (by omega) (by omega) (by omega) (by omega)
    have ha : areaS r u (k + 1) = outK ⟨cumLo r (k + 1) * 1000, cumHi r (k + 1) * 1000⟩ ⟨cv * 840 * 1000 - cv * 840 * pv, cv * 840 * 1000 + cv * 840 * pv⟩ := by
     unfold areaS; rw [if_neg hp, hpv, hcv]
    obtain ⟨av, hav⟩ : ∃ av, areaS r u (k + 1) = av := ⟨_, rfl⟩
    have hro := routside_ok ⟨cumLo r (k + 1) * 1000, cumHi r (k + 1) * 1000⟩ ⟨cv * 840 * 1000 - cv * 840 * pv, cv * 840 * 1000 + cv * 840 * pv⟩
    rw [← ha, hav] at hro
    rw [hav] at hcutB
    rw [hcv] at h8 hcb2
    rw [hpv] at p0 p1
    have hlb : (leftB r u k ++ blindB r ((k + 1 : Nat) : Int)).length ≤ 1073741823 := by rw [List.length_append]; omega
    have hab : 0 ≤ av ∧ av ≤ 2 := by rw [← hav, ha]; exact outK_bnd
    by_cases ha0 : av = 0
    ·rw [oneB_eq ha0, List.append_nil] at hcutB
     have ha1 : ¬ 0 < av := by omega
     repeat' (first | with_reducible (first | (refine sk ?_; intro K hK) | apply_assumption -exfalso -symm only [*]) | ((first | (with_reducible first | refine rg (md := { base := 0, own := [5, 43, 88, 137, 175] }) (h := ?_) | refine nx ?_) | refine pK (rpart_ok u hU ((k + 1 : Nat) : Int)) ?_ | refine pK (hro) ?_); try simp (disch := omega) only [h2, h3, h5, h6, h7, h8, h9, h10, h11, hH5, hpv, p0, ha1, encRules, cRules,go_sem, simprocAttr]) | ((with_reducible refine' cE ?hv ?_ ?_); (case hv => rfl); all_goals (intro hc; (try simp only [go_sem, simprocAttr] at hc))) | fail)
     exact ⟨by (and_intros <;> first | rfl | (simp only [h2, h3, h6, h7, hcv, h8, h9, h10, h11, go_sem, simprocAttr]; done) | (simp only [h2, h3, h6, h7, hcv, h8, h9, h10, h11, go_sem, simprocAttr]; rfl)), _, by (first | rfl | (simp only [h5, go_sem, simprocAttr]; done) | (simp only [h5, go_sem, simprocAttr]; rfl)), by (first | rfl | (simp only [hH5, go_sem, simprocAttr]; done) | (simp only [hH5, go_sem, simprocAttr]; rfl))⟩
    ·rw [oneB_ne ha0] at hcutB
     have ha1 : 0 < av := by omega
     repeat' (first | with_reducible (first | (refine sk ?_; intro K hK) | intro (ep : Nat → Nat) | apply_assumption -exfalso -symm only [*]) | ((first | (with_reducible first | refine rg (id := 17) (md := { base := 0, own := [43, 88, 137, 175] }) (h := ?_) | refine rg (md := { base := 0, own := [5, 43, 88, 137, 175] }) (h := ?_)) | refine pK (rpart_ok u hU ((k + 1 : Nat) : Int)) ?_ | refine pK (hro) ?_); try simp (disch := omega) only [h2, h3, h5, h6, h7, h8, h9, h10, h11, hH5, hpv, p0, ha1, hlb, encRules, cRules,go_sem, simprocAttr]) | ((with_reducible refine' cE ?hv ?_ ?_); (case hv => rfl); all_goals (intro hc; (try simp only [go_sem, simprocAttr] at hc))) | fail)
     exact ⟨by (and_intros <;> first | rfl | (simp only [h2, h3, h6, h7, hcv, h8, h9, h10, h11, go_sem, simprocAttr]; done) | (simp only [h2, h3, h6, h7, hcv, h8, h9, h10, h11, go_sem, simprocAttr]; rfl)), OutL_app (by (first | rfl | (simp only [go_sem, simprocAttr]; done) | (simp only [go_sem, simprocAttr]; rfl))) (by (first | rfl | (simp only [go_sem, simprocAttr]; done) | (simp only [go_sem, simprocAttr]; rfl)))⟩
  clear hK
  by_cases hne : wk r ((k + 1 : Nat) : Int) = []
  ·have hz : (natI (wk r ((k + 1 : Nat) : Int))).length = 0 := by rw [hne]; rfl
   have e1 : cumLo r (k + 1) = cumLo r k := by simp only [cumLo, if_pos hne, Int.add_zero]
   have e2 : cumHi r (k + 1) = cumHi r k := by simp only [cumHi, if_pos hne, Int.add_zero]
   have e3 : cumC r (k + 1) = cumC r k := by simp only [cumC, if_pos hne, Int.add_zero]
   have e4 : blindB r ((k + 1 : Nat) : Int) = [⟨((k + 1 : Nat) : Int), 1, -1, 2⟩] := by unfold blindB; rw [if_pos hne]
   rw [e1, e2, e3, e4] at hcutA
   have hlb : (leftB r u k).length ≤ 1073741823 := by omega
   repeat' (first | with_reducible (first | (refine sk ?_; intro K hK) | intro (ep : Nat → Nat) | apply_assumption -exfalso -symm only [*]) | ((with_reducible first | refine rg (id := 9) (md := { base := 0, own := [43, 88, 137, 175] }) (h := ?_) | refine rg (md := { base := 0, own := [5, 43, 88, 137, 175] }) (h := ?_)); try simp (disch := omega) only [h2, h3, h5, h6, h7, h8, h9, hH5, hz, hlb, cRun,go_sem, simprocAttr]) | ((with_reducible refine' cE ?hv ?_ ?_); (case hv => rfl); all_goals (intro hc; (try simp only [go_sem, simprocAttr] at hc))) | fail)
   exact ⟨by (and_intros <;> first | rfl | (simp only [h2, h3, h6, h7, h8, h9, cRun, hz, go_sem, simprocAttr]; done) | (simp only [h2, h3, h6, h7, h8, h9, cRun, hz, go_sem, simprocAttr]; rfl)), OutL_app (by (first | rfl | (simp only [go_sem, simprocAttr]; done) | (simp only [go_sem, simprocAttr]; rfl))) (by (first | rfl | (simp only [go_sem, simprocAttr]; done) | (simp only [go_sem, simprocAttr]; rfl)))⟩
  ·have hz : ¬ (natI (wk r ((k + 1 : Nat) : Int))).length = 0 := by rw [natI_length]; exact fun e => hne (List.eq_nil_of_length_eq_zero e)
   have hmb := mean_bounds hF (m := ((k + 1 : Nat) : Int)) (by omega) (by omega) hne
   have e1 : cumLo r (k + 1) = cumLo r k + (meanS r ((k + 1 : Nat) : Int)).lo := by simp only [cumLo, if_neg hne]
   have e2 : cumHi r (k + 1) = cumHi r k + (meanS r ((k + 1 : Nat) : Int)).hi := by simp only [cumHi, if_neg hne]
   have e3 : cumC r (k + 1) = cumC r k + degAt r.curve ((k + 1 : Nat) : Int) := by simp only [cumC, if_neg hne]
   have e4 : blindB r ((k + 1 : Nat) : Int) = [] := by unfold blindB; rw [if_neg hne]
   rw [e1, e2, e3, e4, List.append_nil] at hcutA
   repeat' (first | with_reducible (first | (refine sk ?_; intro K hK) | intro (ep : Nat → Nat) | apply_assumption -exfalso -symm only [*]) | ((first | (with_reducible refine rg (md := { base := 0, own := [5, 43, 88, 137, 175] }) (h := ?_)) | refine pK (rmean_ok r hF ((k + 1 : Nat) : Int) (by omega) (by omega) hne) ?_); try simp (disch := omega) only [h2, h3, h5, h6, h7, h8, h9, hH5, hz, cRun, encSpan,go_sem, simprocAttr]) | ((with_reducible refine' cE ?hv ?_ ?_); (case hv => rfl); all_goals (intro hc; (try simp only [go_sem, simprocAttr] at hc); try (exfalso; omega))) | fail)
   exact ⟨by (and_intros <;> first | rfl | (simp only [h2, h3, h6, h7, h8, h9, cRun, go_sem, simprocAttr]; done) | (simp only [h2, h3, h6, h7, h8, h9, cRun, go_sem, simprocAttr]; rfl)), _, by (first | rfl | (simp only [h5, go_sem, simprocAttr]; done) | (simp only [h5, go_sem, simprocAttr]; rfl)), by (first | rfl | (simp only [hH5, go_sem, simprocAttr]; done) | (simp only [hH5, go_sem, simprocAttr]; rfl))⟩
 ·obtain rfl : k = r.rows.length := by omega
  repeat' (first | with_reducible (first | (refine sk ?_; intro K hK) | apply_assumption -exfalso -symm only [*]) | ((with_reducible first | refine rg (md := { base := 0, own := [5, 43, 88, 137, 175] }) (h := ?_) | refine nx ?_); try simp (disch := omega) only [h2, h3, h5, h6, h7, h8, h9, hH5, cRun,go_sem, simprocAttr]) | ((with_reducible refine' cE ?hv ?_ ?_); (case hv => rfl); all_goals (intro hc; (try simp only [go_sem, simprocAttr] at hc); try (exfalso; omega))) | fail)
  refine FnP_frz 5 (Or.inl rfl) (by simp only [go_sem, simprocAttr, hH5]; rfl) ⟨_, (by simp only [Tryz.f72, go_sem, simprocAttr, h5]; rfl), ?_⟩
  simp only [go_sem, simprocAttr, leftS]
end Cp
namespace Cp
open Go Go.Proofs
set_option maxRecDepth 10000
set_option maxHeartbeats 4000000
theorem check0 {r : RunT} {u : RulesT} (h : checkE r u = 0) : runOK r = true ∧ rulesOK u = true := by
 unfold checkE at h
 split at h
 ·split at h
  ·rename_i h1 h2; exact ⟨h1, h2⟩
  ·omega
 ·omega
theorem leftl_ok (r : RunT) (hF : RunF r) (u : RulesT) (hU : RulesF u) : PureC Tryz.prog 60 [encRun r, encRules u] (.lst 4 ((leftS r u).map cBrc)) := by
 refine (left_ok r hF u hU).weak (by simp only [noid, cBrc_noid]) fun G w x h => ?_
 unfold lftV at h
 split at h
 ·rename_i he; rw [he]; exact h.nils_lst _
 ·exact h
end Cp
