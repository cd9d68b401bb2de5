/- Rules, facts and contracts that the statement's proof leans on. Conditions: none. -/
import Derived.Test.YtfpbidbjgigljaaP7
set_option linter.unusedVariables false
set_option linter.unusedSimpArgs false
set_option linter.unusedSectionVars false
namespace Cp
open Go Go.Proofs
set_option maxRecDepth 10000
set_option maxHeartbeats 4000000
theorem rem_bnd {n b : Int} (hn : 0 ≤ n) (hb : 0 < b) : 0 ≤ n.tmod b ∧ n.tmod b < b := ⟨Int.tmod_nonneg _ hn, Int.tmod_lt_of_pos _ hb⟩
theorem lspan_ok (a b : Int) : PureC Try.prog 44 [.int .i64 a, .int .i64 b] (encSpan ⟨a, b⟩) := by
  refine PureC_of (fn := Try.f44) tabOK (by kernel_rfl) rfl (by kernel_rfl) (by simp [Try.f44]) (by simp [noids, noid, noidss, go_sem, encSpan]) (by first | rfl | simp [noids, noid, noidss, go_sem, encSpan]) ?_
  intro X hX0 hXs
  repeat' (first | (with_reducible refine sk ?_; intro K hK) | ((with_reducible first | refine rg (h := ?_) | refine rgS [4] (h := ?_) | refine nx ?_); try simp (disch := omega) only [encSpan,go_sem, simprocAttr]) | (with_reducible refine bk ?_) | ((with_reducible refine' cE ?hv ?_ ?_); (case hv => first | rfl | (simp only [encSpan,go_sem, simprocAttr]; rfl)); all_goals (intro hc; (try simp only [go_sem, simprocAttr] at hc); try (exfalso; omega))) | ((with_reducible refine fe ?_); refine ⟨_, (by simp only [Try.f44, encSpan,go_sem, simprocAttr]; rfl), ?_⟩; first | rfl | (try simp only [encSpan,go_sem, simprocAttr, seval])) | with_reducible intro (ep : Nat → Nat) | with_reducible apply_assumption -exfalso -symm only [*])
def pickS (s : Span) (n : Int) : Int := s.lo + n.tmod (s.hi - s.lo + 1)
theorem pickS_bnd {s : Span} {n : Int} (hs : s.lo ≤ s.hi) (hn : 0 ≤ n) : s.lo ≤ pickS s n ∧ pickS s n ≤ s.hi := by
  have := rem_bnd (n := n) (b := s.hi - s.lo + 1) hn (by omega)
  unfold pickS; omega
theorem pick_ok (s : Span) (n : Int) (hs : 0 ≤ s.lo ∧ s.lo ≤ s.hi ∧ s.hi ≤ 1000000) (hn : 0 ≤ n ∧ n ≤ 4294967295) : PureC Try.prog 51 [encSpan s, .int .u32 n] (.int .i64 (pickS s n)) := by
  have hb := rem_bnd (n := n) (b := s.hi - s.lo + 1) hn.1 (by omega)
  have hz : ¬ s.hi - s.lo + 1 = 0 := by omega
  unfold pickS
  obtain ⟨d, hd⟩ : ∃ d, n.tmod (s.hi - s.lo + 1) = d := ⟨_, rfl⟩
  rw [hd] at hb ⊢
  refine PureC_of (fn := Try.f51) tabOK (by kernel_rfl) rfl (by kernel_rfl) (by simp [Try.f51]) (by simp [noids, noid, noidss, go_sem, encSpan]) (by first | rfl | simp [noids, noid, noidss, go_sem, encSpan]) ?_
  intro X hX0 hXs
  repeat' (first | (with_reducible refine sk ?_; intro K hK) | ((with_reducible first | refine rg (h := ?_) | refine nx ?_); try simp (disch := omega) only [encSpan, hz, hd,go_sem, simprocAttr]) | (with_reducible refine bk ?_) | ((with_reducible refine' cE ?hv ?_ ?_); (case hv => first | rfl | (simp only [encSpan, hz, hd,go_sem, simprocAttr]; rfl)); all_goals (intro hc; (try simp only [go_sem, simprocAttr] at hc); try (exfalso; omega))) | ((with_reducible refine fe ?_); refine ⟨_, (by simp only [Try.f51, encSpan, hz, hd,go_sem, simprocAttr]; rfl), ?_⟩; first | rfl | (try simp only [encSpan, hz, hd,go_sem, simprocAttr, seval])) | with_reducible intro (ep : Nat → Nat) | with_reducible apply_assumption -exfalso -symm only [*])
def hotI (g : List Int) (i : Nat) (x : Int) : Int := if g.length = 0 then x else x + ((g[((i : Int).tmod g.length).toNat]?).getD 0).tmod (2000 - x + 1)
def hotL (g l : List Int) : List Int := l.mapIdx fun i x => hotI g i x
theorem hotI_bnd {g : List Int} (hg : By16 g) {i : Nat} {x : Int} (hx : 0 ≤ x ∧ x ≤ 2000) : x ≤ hotI g i x ∧ hotI g i x ≤ 2000 := by
  unfold hotI
  split
  · omega
  · have h0 : 0 ≤ (g[((i : Int).tmod g.length).toNat]?).getD 0 := by
      cases h : g[((i : Int).tmod g.length).toNat]? with
      | none => simp
      | some y => simp; exact (hg y (List.mem_of_getElem? h)).1
    have := rem_bnd (b := 2000 - x + 1) h0 (by omega)
    omega
theorem bulb_law (h : HeadT) (l : List Int) (dg sl : Int) (g : List Int) (hdg : 0 ≤ dg ∧ dg ≤ 65535) (hsl : 0 ≤ sl ∧ sl ≤ 65535) (hg : By16 g) :
    PureC Try.prog 12 [encHead h, .lst 1 (ints l), .int .u16 dg, .int .u16 sl, .lst 1 (g.map c16)] (.bool true) := by
  have hrb := rBulb_ok h
  simp only [encHead, cHead] at hrb
  by_cases hll : l.length ≤ 60
  · have hrh := rHeat_ok l (by omega)
    by_cases hok : madeOK h 12 = true ∧ heatOK l = true
    · obtain ⟨hm, hh⟩ := hok
      have hm' := hm
      simp only [madeOK, bulbOK, Bool.and_eq_true, decide_eq_true_eq] at hm'
      obtain ⟨hn, hid, hne, hle, hbu, hsw⟩ := hm'
      have hbo : bulbOK h = true := by simp only [madeOK, Bool.and_eq_true] at hm; exact hm.2
      have hn1 : ¬ h.node < 1 := by omega
      have hn2 : ¬ 12 < h.node := by omega
      have hl60 : ¬ (60 : Int) < (l.length : Int) := by omega
      have hB := Bursts_ok h l (by omega)
      unfold burstsT at hB
      rw [if_pos hm, if_pos hh] at hB
      rw [hbo] at hrb
      rw [hh] at hrh
      have hlh : ∀ x ∈ l, 0 ≤ x ∧ x ≤ 2000 := fun x hx => by
        simp only [heatOK, Bool.and_eq_true, List.all_eq_true, decide_eq_true_eq] at hh
        exact hh.2 x hx
      have hp1 := pick_ok h.bulb dg (by omega) (by omega)
      have hp2 := pick_ok h.slow sl (by omega) (by omega)
      have hpb1 := pickS_bnd (s := h.bulb) (n := dg) (by omega) hdg.1
      have hpb2 := pickS_bnd (s := h.slow) (n := sl) (by omega) hsl.1
      obtain ⟨a, ha⟩ : ∃ a, pickS h.bulb dg = a := ⟨_, rfl⟩
      obtain ⟨t, ht⟩ : ∃ t, pickS h.slow sl = t := ⟨_, rfl⟩
      rw [ha] at hp1 hpb1
      rw [ht] at hp2 hpb2
      have q1 := burstS_bnd (l := l) (d := h.bulb.lo) (late := h.slow.lo) (by omega)
      have q2 := burstS_bnd (l := l) (d := h.bulb.hi) (late := h.slow.hi) (by omega)
      have q3 := burstS_bnd (l := l) (d := a) (late := t) (by omega)
      have m1 : burstS l h.bulb.hi h.slow.hi = 0 ∨ (0 < burstS l a t ∧ burstS l a t ≤ burstS l h.bulb.hi h.slow.hi) := by
        by_cases h0 : 0 < burstS l h.bulb.hi h.slow.hi
        · exact .inr (burstS_mono' (by omega) (by omega) (by omega) h0)
        · exact .inl (by omega)
      have m2 : burstS l a t = 0 ∨ (0 < burstS l h.bulb.lo h.slow.lo ∧ burstS l h.bulb.lo h.slow.lo ≤ burstS l a t) := by
        by_cases h0 : 0 < burstS l a t
        · exact .inr (burstS_mono' (by omega) (by omega) (by omega) h0)
        · exact .inl (by omega)
      have hE := Bursts_ok { h with bulb := ⟨a, a⟩, slow := ⟨t, t⟩ } l (by omega)
      have hmE : madeOK { h with bulb := ⟨a, a⟩, slow := ⟨t, t⟩ } 12 = true := by
        simp only [madeOK, bulbOK, Bool.and_eq_true, decide_eq_true_eq]; omega
      unfold burstsT at hE
      rw [if_pos hmE, if_pos hh] at hE
      have hhl : (hotL g l).length = l.length := by simp [hotL]
      have hhg : ∀ (i : Nat) (x y : Int), l[i]? = some x → (hotL g l)[i]? = some y → x ≤ y := fun i x y hx hy => by
        simp only [hotL, List.getElem?_mapIdx, hx, Option.map_some, Option.some.injEq] at hy
        subst hy; exact (hotI_bnd hg (hlh x (List.mem_of_getElem? hx))).1
      have hH := Bursts_ok h (hotL g l) (by omega)
      have hhH : heatOK (hotL g l) = true := by
        simp only [heatOK, Bool.and_eq_true, List.all_eq_true, decide_eq_true_eq]
        refine ⟨by omega, fun y hy => ?_⟩
        simp only [hotL, List.mem_mapIdx] at hy
        obtain ⟨i, hi, rfl⟩ := hy
        have hx := hlh l[i] (List.getElem_mem _)
        have := hotI_bnd hg (i := i) hx
        omega
      unfold burstsT at hH
      rw [if_pos hm, if_pos hhH] at hH
      have m3 : burstS l h.bulb.lo h.slow.lo = 0 ∨ (0 < burstS (hotL g l) h.bulb.lo h.slow.lo ∧ burstS (hotL g l) h.bulb.lo h.slow.lo ≤ burstS l h.bulb.lo h.slow.lo) := by
        by_cases h0 : 0 < burstS l h.bulb.lo h.slow.lo
        · exact .inr (burstS_mono (by omega) (by omega) (by omega) hhl.symm hhg h0)
        · exact .inl (by omega)
      have m4 : burstS l h.bulb.hi h.slow.hi = 0 ∨ (0 < burstS (hotL g l) h.bulb.hi h.slow.hi ∧ burstS (hotL g l) h.bulb.hi h.slow.hi ≤ burstS l h.bulb.hi h.slow.hi) := by
        by_cases h0 : 0 < burstS l h.bulb.hi h.slow.hi
        · exact .inr (burstS_mono (by omega) (by omega) (by omega) hhl.symm hhg h0)
        · exact .inl (by omega)
      obtain ⟨B, hBe⟩ : ∃ B, burstS l a t = B := ⟨_, rfl⟩
      obtain ⟨B1, hB1⟩ : ∃ B, burstS l h.bulb.lo h.slow.lo = B := ⟨_, rfl⟩
      obtain ⟨B2, hB2⟩ : ∃ B, burstS l h.bulb.hi h.slow.hi = B := ⟨_, rfl⟩
      obtain ⟨D1, hD1⟩ : ∃ B, burstS (hotL g l) h.bulb.lo h.slow.lo = B := ⟨_, rfl⟩
      obtain ⟨D2, hD2⟩ : ∃ B, burstS (hotL g l) h.bulb.hi h.slow.hi = B := ⟨_, rfl⟩
      rw [hB1, hB2] at hB
      rw [hBe] at hE q3 m1 m2
      rw [hB1] at q1 m2 m3
      rw [hB2] at q2 m1 m4
      rw [hD1] at hH m3
      rw [hD2] at hH m4
      simp only [encHead, cHead] at hB hE hH
      simp only [encSpan] at hp1 hp2
      have w1 : IntKind.u32.wrap dg = dg := IntWalk.u32_in dg (by omega)
      have w2 : IntKind.u32.wrap sl = sl := IntWalk.u32_in sl (by omega)
      clear hB1 hB2 hD1 hD2 hmE hhH hm
      refine PureC_of (fn := Try.f12) tabOK (by kernel_rfl) rfl (by kernel_rfl) (by simp [Try.f12]) (by simp [noids, noid, noidss, go_sem, encHead, cHead]) (by first | rfl | simp [noids, noid, noidss, go_sem, encHead, cHead]) ?_
      intro X hX0 hXs
      have b1 : ¬ B1 < 0 := by omega
      have b2 : ¬ B2 < 0 := by omega
      have b3 : ¬ (l.length : Int) < B1 := by omega
      have b4 : ¬ (l.length : Int) < B2 := by omega
      repeat' (first | ((fail_if_success (with_reducible refine AW_at (id := 7) ?_)); with_reducible refine sk ?_; intro K hK) | ((first | (with_reducible first | refine rg (id := 31) (md := { base := 0, own := [20, 214] }) (h := ?_) | refine rgS (id := 31) [20] (md := { base := 0, own := [20, 214] }) (h := ?_) | refine rg (md := { base := 0, own := [20, 24, 214] }) (h := ?_) | refine rgS [20] (md := { base := 0, own := [20, 24, 214] }) (h := ?_) | refine nx ?_) | refine pK (alive_run) ?_ | refine pK (hrb) ?_ | refine pK (hrh) ?_ | refine pK (hB) ?_); try simp (disch := omega) only [encHead, cHead, encSpan, hn1, hn2, hl60,go_sem, simprocAttr]) | (with_reducible refine bk ?_) | ((with_reducible refine' cE ?hv ?_ ?_); (case hv => first | rfl | (simp only [encHead, cHead, encSpan, hn1, hn2, hl60,go_sem, simprocAttr]; rfl)); all_goals (intro hc; (try simp only [go_sem, simprocAttr] at hc); try (exfalso; omega))) | ((with_reducible first | refine grdS_split ?_ ?_ | refine lkG_split ?_ ?_) <;> intro hg <;> (try simp (disch := omega) only [hg, encHead, cHead, encSpan, hn1, hn2, hl60,go_sem, simprocAttr]) <;> (try simp only [go_sem, simprocAttr] at hg) <;> (try (exfalso; omega))) | ((with_reducible refine fe ?_); refine ⟨_, (by simp only [Try.f12, encHead, cHead, encSpan, hn1, hn2, hl60,go_sem, simprocAttr]; rfl), ?_⟩; first | rfl | (try simp only [encHead, cHead, encSpan, hn1, hn2, hl60,go_sem, simprocAttr, seval])) | with_reducible intro (ep : Nat → Nat) | with_reducible apply_assumption -exfalso -symm only [*])
      have hcut0 : ∀ f H, f 1 = .lst 1 (ints l) ∧ f 2 = .int .u16 dg ∧ f 3 = .int .u16 sl ∧ f 4 = .lst 1 (g.map c16) ∧ f 5 = .pim (cHead h) ∧ f 11 = .bool true ∧ f 12 = .int .i64 B1 ∧ f 13 = .int .i64 B2 → K f H := by
        rintro f H ⟨h1, h2, h3, h4, h5, h11, h12, h13⟩
        refine hK f H ?_
        clear hK
        refine AW_keep [] ?_
        repeat' (first | ((fail_if_success (with_reducible refine AW_at (id := 11) ?_)); with_reducible refine sk ?_; intro K hK) | ((first | (with_reducible first | refine rg (id := 31) (md := { base := 0, own := [20, 214] }) (h := ?_) | refine rgS (id := 31) [20] (md := { base := 0, own := [20, 214] }) (h := ?_) | refine rg (md := { base := 0, own := [20, 24, 214] }) (h := ?_) | refine rgS [20] (md := { base := 0, own := [20, 24, 214] }) (h := ?_) | refine nx ?_) | refine pK (hp1) ?_ | refine pK (hp2) ?_); try simp (disch := omega) only [h1, h2, h3, h4, h5, h11, h12, h13, cHead, encSpan, w1, w2,go_sem, simprocAttr]) | (with_reducible refine bk ?_) | ((with_reducible refine' cE ?hv ?_ ?_); (case hv => first | rfl | (simp only [h1, h2, h3, h4, h5, h11, h12, h13, cHead, encSpan, w1, w2,go_sem, simprocAttr]; rfl)); all_goals (intro hc; (try simp only [go_sem, simprocAttr] at hc); try (exfalso; omega))) | ((with_reducible first | refine grdS_split ?_ ?_ | refine lkG_split ?_ ?_) <;> intro hg <;> (try simp (disch := omega) only [hg, h1, h2, h3, h4, h5, h11, h12, h13, cHead, encSpan, w1, w2,go_sem, simprocAttr]) <;> (try simp only [go_sem, simprocAttr] at hg) <;> (try (exfalso; omega))) | ((with_reducible refine fe ?_); refine ⟨_, (by simp only [Try.f12, h1, h2, h3, h4, h5, h11, h12, h13, cHead, encSpan, w1, w2,go_sem, simprocAttr]; rfl), ?_⟩; first | rfl | (try simp only [h1, h2, h3, h4, h5, h11, h12, h13, cHead, encSpan, w1, w2,go_sem, simprocAttr, seval])) | with_reducible intro (ep : Nat → Nat) | with_reducible apply_assumption -exfalso -symm only [*])
        have hcut : ∀ f H, f 1 = .lst 1 (ints l) ∧ f 4 = .lst 1 (g.map c16) ∧ f 5 = .pim (cHead h) ∧ f 11 = .bool true ∧ f 12 = .int .i64 B1 ∧ f 13 = .int .i64 B2 ∧ f 15 = .int .i64 a ∧ f 16 = .int .i64 t ∧ f 17 = .int .i64 B → K f H := by
          clear h1 h2 h3 h4 h5 h11 h12 h13
          rintro f H ⟨h1, h4, h5, h11, h12, h13, h15, h16, h17⟩
          refine hK f H ?_
          clear hK
          refine AW_keep [] ?_
          repeat' (first | ((fail_if_success (with_reducible refine AW_at (id := 18) ?_)); with_reducible refine sk ?_; intro K hK) | ((with_reducible first | refine rg (id := 31) (md := { base := 0, own := [20, 214] }) (h := ?_) | refine rgS (id := 31) [20] (md := { base := 0, own := [20, 214] }) (h := ?_) | refine rg (md := { base := 0, own := [20, 24, 214] }) (h := ?_) | refine rgS [20] (md := { base := 0, own := [20, 24, 214] }) (h := ?_) | refine nx ?_); try simp (disch := omega) only [h1, h4, h5, h11, h12, h13, h15, h16, h17, cHead, encSpan,go_sem, simprocAttr]) | (with_reducible refine bk ?_) | ((with_reducible refine' cE ?hv ?_ ?_); (case hv => first | rfl | (simp only [h1, h4, h5, h11, h12, h13, h15, h16, h17, cHead, encSpan,go_sem, simprocAttr]; rfl)); all_goals (intro hc; (try simp only [go_sem, simprocAttr] at hc); try (exfalso; omega))) | ((with_reducible first | refine grdS_split ?_ ?_ | refine lkG_split ?_ ?_) <;> intro hg <;> (try simp (disch := omega) only [hg, h1, h4, h5, h11, h12, h13, h15, h16, h17, cHead, encSpan,go_sem, simprocAttr]) <;> (try simp only [go_sem, simprocAttr] at hg) <;> (try (exfalso; omega))) | ((with_reducible refine fe ?_); refine ⟨_, (by simp only [Try.f12, h1, h4, h5, h11, h12, h13, h15, h16, h17, cHead, encSpan,go_sem, simprocAttr]; rfl), ?_⟩; first | rfl | (try simp only [h1, h4, h5, h11, h12, h13, h15, h16, h17, cHead, encSpan,go_sem, simprocAttr, seval])) | with_reducible intro (ep : Nat → Nat) | with_reducible apply_assumption -exfalso -symm only [*])
          have hcut2 : ∀ f H, f 1 = .lst 1 (ints l) ∧ f 4 = .lst 1 (g.map c16) ∧ f 5 = .pim (cHead h) ∧ f 11 = .bool true ∧ f 12 = .int .i64 B1 ∧ f 13 = .int .i64 B2 ∧ f 15 = .int .i64 a ∧ f 16 = .int .i64 t ∧ f 17 = .int .i64 B → K f H := by
            clear h1 h4 h5 h11 h12 h13 h15 h16 h17
            rintro f H ⟨h1, h4, h5, h11, h12, h13, h15, h16, h17⟩
            refine hK f H ?_
            clear hK
            refine AW_keep [] ?_
            repeat' (first | ((fail_if_success (with_reducible refine AW_at (id := 26) ?_)); with_reducible refine sk ?_; intro K hK) | ((first | (with_reducible first | refine rg (id := 31) (md := { base := 0, own := [20, 214] }) (h := ?_) | refine rgS (id := 31) [20] (md := { base := 0, own := [20, 214] }) (h := ?_) | refine rg (md := { base := 0, own := [20, 24, 214] }) (h := ?_) | refine rgS [20] (md := { base := 0, own := [20, 24, 214] }) (h := ?_) | refine nx ?_) | refine pK (lspan_ok _ _) ?_ | refine pK (hE) ?_); try simp (disch := omega) only [h1, h4, h5, h11, h12, h13, h15, h16, h17, cHead, encSpan,go_sem, simprocAttr]) | (with_reducible refine bk ?_) | ((with_reducible refine' cE ?hv ?_ ?_); (case hv => first | rfl | (simp only [h1, h4, h5, h11, h12, h13, h15, h16, h17, cHead, encSpan,go_sem, simprocAttr]; rfl)); all_goals (intro hc; (try simp only [go_sem, simprocAttr] at hc); try (exfalso; omega))) | ((with_reducible first | refine grdS_split ?_ ?_ | refine lkG_split ?_ ?_) <;> intro hg <;> (try simp (disch := omega) only [hg, h1, h4, h5, h11, h12, h13, h15, h16, h17, cHead, encSpan,go_sem, simprocAttr]) <;> (try simp only [go_sem, simprocAttr] at hg) <;> (try (exfalso; omega))) | ((with_reducible refine fe ?_); refine ⟨_, (by simp only [Try.f12, h1, h4, h5, h11, h12, h13, h15, h16, h17, cHead, encSpan,go_sem, simprocAttr]; rfl), ?_⟩; first | rfl | (try simp only [h1, h4, h5, h11, h12, h13, h15, h16, h17, cHead, encSpan,go_sem, simprocAttr, seval])) | with_reducible intro (ep : Nat → Nat) | with_reducible apply_assumption -exfalso -symm only [*])
            have hcut3 : ∀ f H, f 5 = .pim (cHead h) ∧ f 11 = .bool true ∧ f 12 = .int .i64 B1 ∧ f 13 = .int .i64 B2 ∧ (∃ e, f 24 = .gr 24 e l.length ∧ H 24 = some (e, .arr 1 (ints (hotL g l)))) → K f H := by
              clear h1 h4 h5 h11 h12 h13 h15 h16 h17
              rintro f H ⟨h5, h11, h12, h13, e, h24, hH24⟩
              refine hK f H ?_
              clear hK
              refine AW_freeze 24 hH24 ?_
              obtain ⟨H', hH'⟩ : ∃ H', upd H 24 (some (e, .fro 1 (ints (hotL g l)))) = H' := ⟨_, rfl⟩
              have h24' : H' 24 = some (e, .fro 1 (ints (hotL g l))) := by rw [← hH', upd_same]
              rw [hH']
              have hfz : fzd H' 6 (f 24) = .lst 1 (ints (hotL g l)) := by
                have e2 : (ints (hotL g l)).map (fun es => es.map (fzd H' 5)) = ints (hotL g l) := by unfold ints; rw [List.map_map]; exact List.map_congr_left fun s _ => rfl
                rw [h24]
                simp only [fzd, h24', ints_len, hhl, and_self, if_true]
                exact congrArg _ e2
              refine AW_retell8 24 6 hfz ?_
              refine AW_keep [] ?_
              rcases m3 with e1 | ⟨e1, e2⟩
              · obtain rfl : B1 = 0 := e1
                have e3 : ¬ 0 < B2 := by omega
                obtain rfl : B2 = 0 := by omega
                repeat' (first | (with_reducible refine sk ?_; intro K hK) | ((first | (with_reducible first | refine rg (id := 31) (md := { base := 0, own := [20, 214] }) (h := ?_) | refine rgS (id := 31) [20] (md := { base := 0, own := [20, 214] }) (h := ?_) | refine rg (md := { base := 0, own := [20, 24, 214] }) (h := ?_) | refine rgS [20] (md := { base := 0, own := [20, 24, 214] }) (h := ?_) | refine nx ?_) | refine pK (hH) ?_); try simp (disch := omega) only [h5, h11, h12, h13, cHead,go_sem, simprocAttr]) | (with_reducible refine bk ?_) | ((with_reducible refine' cE ?hv ?_ ?_); (case hv => first | rfl | (simp only [h5, h11, h12, h13, cHead,go_sem, simprocAttr]; rfl)); all_goals (intro hc; (try simp only [go_sem, simprocAttr] at hc); try (exfalso; omega))) | ((with_reducible first | refine grdS_split ?_ ?_ | refine lkG_split ?_ ?_) <;> intro hg <;> (try simp (disch := omega) only [hg, h5, h11, h12, h13, cHead,go_sem, simprocAttr]) <;> (try simp only [go_sem, simprocAttr] at hg) <;> (try (exfalso; omega))) | ((with_reducible refine fe ?_); refine ⟨_, (by simp only [Try.f12, h5, h11, h12, h13, cHead,go_sem, simprocAttr]; rfl), ?_⟩; first | rfl | (try simp only [h5, h11, h12, h13, cHead,go_sem, simprocAttr, seval])) | with_reducible intro (ep : Nat → Nat) | with_reducible apply_assumption -exfalso -symm only [*])
              · have e3 : ¬ B1 = 0 := by omega
                rcases m4 with e4 | ⟨e4, e5⟩
                · obtain rfl : B2 = 0 := e4
                  repeat' (first | (with_reducible refine sk ?_; intro K hK) | ((first | (with_reducible first | refine rg (id := 31) (md := { base := 0, own := [20, 214] }) (h := ?_) | refine rgS (id := 31) [20] (md := { base := 0, own := [20, 214] }) (h := ?_) | refine rg (md := { base := 0, own := [20, 24, 214] }) (h := ?_) | refine rgS [20] (md := { base := 0, own := [20, 24, 214] }) (h := ?_) | refine nx ?_) | refine pK (hH) ?_); try simp (disch := omega) only [h5, h11, h12, h13, e1, e2, e3, cHead,go_sem, simprocAttr]) | (with_reducible refine bk ?_) | ((with_reducible refine' cE ?hv ?_ ?_); (case hv => first | rfl | (simp only [h5, h11, h12, h13, e1, e2, e3, cHead,go_sem, simprocAttr]; rfl)); all_goals (intro hc; (try simp only [go_sem, simprocAttr] at hc); try (exfalso; omega))) | ((with_reducible first | refine grdS_split ?_ ?_ | refine lkG_split ?_ ?_) <;> intro hg <;> (try simp (disch := omega) only [hg, h5, h11, h12, h13, e1, e2, e3, cHead,go_sem, simprocAttr]) <;> (try simp only [go_sem, simprocAttr] at hg) <;> (try (exfalso; omega))) | ((with_reducible refine fe ?_); refine ⟨_, (by simp only [Try.f12, h5, h11, h12, h13, e1, e2, e3, cHead,go_sem, simprocAttr]; rfl), ?_⟩; first | rfl | (try simp only [h5, h11, h12, h13, e1, e2, e3, cHead,go_sem, simprocAttr, seval])) | with_reducible intro (ep : Nat → Nat) | with_reducible apply_assumption -exfalso -symm only [*])
                · by_cases e6 : B2 = 0
                  · obtain rfl : B2 = 0 := e6
                    repeat' (first | (with_reducible refine sk ?_; intro K hK) | ((first | (with_reducible first | refine rg (id := 31) (md := { base := 0, own := [20, 214] }) (h := ?_) | refine rgS (id := 31) [20] (md := { base := 0, own := [20, 214] }) (h := ?_) | refine rg (md := { base := 0, own := [20, 24, 214] }) (h := ?_) | refine rgS [20] (md := { base := 0, own := [20, 24, 214] }) (h := ?_) | refine nx ?_) | refine pK (hH) ?_); try simp (disch := omega) only [h5, h11, h12, h13, e1, e2, e3, cHead,go_sem, simprocAttr]) | (with_reducible refine bk ?_) | ((with_reducible refine' cE ?hv ?_ ?_); (case hv => first | rfl | (simp only [h5, h11, h12, h13, e1, e2, e3, cHead,go_sem, simprocAttr]; rfl)); all_goals (intro hc; (try simp only [go_sem, simprocAttr] at hc); try (exfalso; omega))) | ((with_reducible first | refine grdS_split ?_ ?_ | refine lkG_split ?_ ?_) <;> intro hg <;> (try simp (disch := omega) only [hg, h5, h11, h12, h13, e1, e2, e3, cHead,go_sem, simprocAttr]) <;> (try simp only [go_sem, simprocAttr] at hg) <;> (try (exfalso; omega))) | ((with_reducible refine fe ?_); refine ⟨_, (by simp only [Try.f12, h5, h11, h12, h13, e1, e2, e3, cHead,go_sem, simprocAttr]; rfl), ?_⟩; first | rfl | (try simp only [h5, h11, h12, h13, e1, e2, e3, cHead,go_sem, simprocAttr, seval])) | with_reducible intro (ep : Nat → Nat) | with_reducible apply_assumption -exfalso -symm only [*])
                  · repeat' (first | (with_reducible refine sk ?_; intro K hK) | ((first | (with_reducible first | refine rg (id := 31) (md := { base := 0, own := [20, 214] }) (h := ?_) | refine rgS (id := 31) [20] (md := { base := 0, own := [20, 214] }) (h := ?_) | refine rg (md := { base := 0, own := [20, 24, 214] }) (h := ?_) | refine rgS [20] (md := { base := 0, own := [20, 24, 214] }) (h := ?_) | refine nx ?_) | refine pK (hH) ?_); try simp (disch := omega) only [h5, h11, h12, h13, e1, e2, e3, e4, e5, e6, cHead,go_sem, simprocAttr]) | (with_reducible refine bk ?_) | ((with_reducible refine' cE ?hv ?_ ?_); (case hv => first | rfl | (simp only [h5, h11, h12, h13, e1, e2, e3, e4, e5, e6, cHead,go_sem, simprocAttr]; rfl)); all_goals (intro hc; (try simp only [go_sem, simprocAttr] at hc); try (exfalso; omega))) | ((with_reducible first | refine grdS_split ?_ ?_ | refine lkG_split ?_ ?_) <;> intro hg <;> (try simp (disch := omega) only [hg, h5, h11, h12, h13, e1, e2, e3, e4, e5, e6, cHead,go_sem, simprocAttr]) <;> (try simp only [go_sem, simprocAttr] at hg) <;> (try (exfalso; omega))) | ((with_reducible refine fe ?_); refine ⟨_, (by simp only [Try.f12, h5, h11, h12, h13, e1, e2, e3, e4, e5, e6, cHead,go_sem, simprocAttr]; rfl), ?_⟩; first | rfl | (try simp only [h5, h11, h12, h13, e1, e2, e3, e4, e5, e6, cHead,go_sem, simprocAttr, seval])) | with_reducible intro (ep : Nat → Nat) | with_reducible apply_assumption -exfalso -symm only [*])
            clear hK
            repeat' (first | (with_reducible refine sk ?_; intro K hK) | ((with_reducible first | refine rg (id := 31) (md := { base := 0, own := [20, 214] }) (h := ?_) | refine rgS (id := 31) [20] (md := { base := 0, own := [20, 214] }) (h := ?_) | refine rg (md := { base := 0, own := [20, 24, 214] }) (h := ?_) | refine rgS [20] (md := { base := 0, own := [20, 24, 214] }) (h := ?_) | refine nx ?_); try simp (disch := omega) only [h1, h4, h5, h11, h12, h13, cHead,go_sem, simprocAttr]) | (with_reducible refine bk ?_) | ((with_reducible refine' cE ?hv ?_ ?_); (case hv => first | rfl | (simp only [h1, h4, h5, h11, h12, h13, cHead,go_sem, simprocAttr]; rfl)); all_goals (intro hc; (try simp only [go_sem, simprocAttr] at hc); try (exfalso; omega))) | ((with_reducible first | refine grdS_split ?_ ?_ | refine lkG_split ?_ ?_) <;> intro hg <;> (try simp (disch := omega) only [hg, h1, h4, h5, h11, h12, h13, cHead,go_sem, simprocAttr]) <;> (try simp only [go_sem, simprocAttr] at hg) <;> (try (exfalso; omega))) | ((with_reducible refine fe ?_); refine ⟨_, (by simp only [Try.f12, h1, h4, h5, h11, h12, h13, cHead,go_sem, simprocAttr]; rfl), ?_⟩; first | rfl | (try simp only [h1, h4, h5, h11, h12, h13, cHead,go_sem, simprocAttr, seval])) | with_reducible intro (ep : Nat → Nat) | with_reducible apply_assumption -exfalso -symm only [*])
            refine AW_range tabOK l.length (fun k f H => (f 1 = .lst 1 (ints l) ∧ f 4 = .lst 1 (g.map c16) ∧ f 5 = .pim (cHead h) ∧ f 11 = .bool true ∧ f 12 = .int .i64 B1 ∧ f 13 = .int .i64 B2 ∧ f 187 = .lst 1 (ints l)) ∧ ∃ e, f 24 = .gr 24 e k ∧ H 24 = some (e, .arr 1 (ints ((hotL g l).take k)))) (by omega) (by rw [hXs]; decide) (by decide) (by (first | rfl | (simp only [go_sem, simprocAttr]; done) | (simp only [go_sem, simprocAttr]; rfl))) (by (first | rfl | (simp only [go_sem, simprocAttr]; done) | (simp only [go_sem, simprocAttr]; rfl)))
              ⟨by (and_intros <;> first | rfl | (simp only [h1, h4, h5, h11, h12, h13, cHead, go_sem, simprocAttr]; done) | (simp only [h1, h4, h5, h11, h12, h13, cHead, go_sem, simprocAttr]; rfl)), _, by (first | rfl | (simp only [go_sem, simprocAttr]; done) | (simp only [go_sem, simprocAttr]; rfl)), by (first | rfl | (simp only [ints, go_sem, simprocAttr]; done) | (simp only [ints, go_sem, simprocAttr]; rfl))⟩ ?_ ?_
            · clear h1 h4 h5 h11 h12 h13 h15 h16 h17 hcut3
              rintro k f H hk h189 h188 ⟨⟨h1, h4, h5, h11, h12, h13, h187⟩, e, h24, hH24⟩
              obtain ⟨x, hx⟩ : ∃ x, l[k]? = some x := ⟨_, List.getElem?_eq_getElem hk⟩
              have hxb := hlh x (List.mem_of_getElem? hx)
              have hhb := hotI_bnd hg (i := k) hxb
              have hy : (hotL g l)[k]? = some (hotI g k x) := by simp only [hotL, List.getElem?_mapIdx, hx, Option.map_some]
              have hts := take_snoc' hy
              unfold hotI at hhb hts
              have hlt : ((hotL g l).take k).length = k := by simp; omega
              have hkb : k ≤ 1073741823 := by omega
              refine AW_keep [24] ?_
              by_cases hg0 : g.length = 0
              · rw [if_pos hg0] at hhb hts
                repeat' (first | (with_reducible refine sk ?_; intro K hK) | ((with_reducible first | refine rg (id := 31) (md := { base := 0, own := [20, 214] }) (h := ?_) | refine rgS (id := 31) [20] (md := { base := 0, own := [20, 214] }) (h := ?_) | refine rg (md := { base := 0, own := [20, 24, 214] }) (h := ?_) | refine rgS [20] (md := { base := 0, own := [20, 24, 214] }) (h := ?_) | refine nx ?_); try simp (disch := omega) only [h1, h4, h5, h11, h12, h13, h24, h187, h188, h189, hH24, hx, hg0, hlt, hkb,go_sem, simprocAttr]) | (with_reducible refine bk ?_) | ((with_reducible refine' cE ?hv ?_ ?_); (case hv => first | rfl | (simp only [h1, h4, h5, h11, h12, h13, h24, h187, h188, h189, hH24, hx, hg0, hlt, hkb,go_sem, simprocAttr]; rfl)); all_goals (intro hc; (try simp only [go_sem, simprocAttr] at hc); try (exfalso; omega))) | ((with_reducible first | refine grdS_split ?_ ?_ | refine lkG_split ?_ ?_) <;> intro hg <;> (try simp (disch := omega) only [hg, h1, h4, h5, h11, h12, h13, h24, h187, h188, h189, hH24, hx, hg0, hlt, hkb,go_sem, simprocAttr]) <;> (try simp only [go_sem, simprocAttr] at hg) <;> (try (exfalso; omega))) | ((with_reducible refine fe ?_); refine ⟨_, (by simp only [Try.f12, h1, h4, h5, h11, h12, h13, h24, h187, h188, h189, hH24, hx, hg0, hlt, hkb,go_sem, simprocAttr]; rfl), ?_⟩; first | rfl | (try simp only [h1, h4, h5, h11, h12, h13, h24, h187, h188, h189, hH24, hx, hg0, hlt, hkb,go_sem, simprocAttr, seval])) | with_reducible intro (ep : Nat → Nat) | with_reducible apply_assumption -exfalso -symm only [*])
                all_goals exact ⟨_, rfl, by rw [hts]; simp [ints]⟩
              · rw [if_neg hg0] at hhb hts
                have hgm := rem_bnd (n := (k : Int)) (b := g.length) (by omega) (by omega)
                obtain ⟨j, hj⟩ : ∃ j : Nat, (k : Int).tmod g.length = j := ⟨((k : Int).tmod g.length).toNat, by omega⟩
                rw [hj] at hgm hhb hts
                obtain ⟨y, hyj⟩ : ∃ y, g[j]? = some y := ⟨_, List.getElem?_eq_getElem (by omega)⟩
                have hyb := hg y (List.mem_of_getElem? hyj)
                simp only [Int.toNat_natCast, hyj, Option.getD_some] at hhb hts
                have hz0 : ¬ (g.length : Int) = 0 := by omega
                have hz1 : (0 : Int) < g.length := by omega
                have hz3 : ¬ 2000 - x + 1 = 0 := by omega
                have hjl : j < g.length := by omega
                repeat' (first | (with_reducible refine sk ?_; intro K hK) | ((with_reducible first | refine rg (id := 31) (md := { base := 0, own := [20, 214] }) (h := ?_) | refine rgS (id := 31) [20] (md := { base := 0, own := [20, 214] }) (h := ?_) | refine rg (md := { base := 0, own := [20, 24, 214] }) (h := ?_) | refine rgS [20] (md := { base := 0, own := [20, 24, 214] }) (h := ?_) | refine nx ?_); try simp (disch := omega) only [h1, h4, h5, h11, h12, h13, h24, h187, h188, h189, hH24, hx, hz0, hz1, hz3, hj, hyj, hjl, hlt, hkb, c16,go_sem, simprocAttr]) | (with_reducible refine bk ?_) | ((with_reducible refine' cE ?hv ?_ ?_); (case hv => first | rfl | (simp only [h1, h4, h5, h11, h12, h13, h24, h187, h188, h189, hH24, hx, hz0, hz1, hz3, hj, hyj, hjl, hlt, hkb, c16,go_sem, simprocAttr]; rfl)); all_goals (intro hc; (try simp only [go_sem, simprocAttr] at hc); try (exfalso; omega))) | ((with_reducible first | refine grdS_split ?_ ?_ | refine lkG_split ?_ ?_) <;> intro hg <;> (try simp (disch := omega) only [hg, h1, h4, h5, h11, h12, h13, h24, h187, h188, h189, hH24, hx, hz0, hz1, hz3, hj, hyj, hjl, hlt, hkb, c16,go_sem, simprocAttr]) <;> (try simp only [go_sem, simprocAttr] at hg) <;> (try (exfalso; omega))) | ((with_reducible refine fe ?_); refine ⟨_, (by simp only [Try.f12, h1, h4, h5, h11, h12, h13, h24, h187, h188, h189, hH24, hx, hz0, hz1, hz3, hj, hyj, hjl, hlt, hkb, c16,go_sem, simprocAttr]; rfl), ?_⟩; first | rfl | (try simp only [h1, h4, h5, h11, h12, h13, h24, h187, h188, h189, hH24, hx, hz0, hz1, hz3, hj, hyj, hjl, hlt, hkb, c16,go_sem, simprocAttr, seval])) | with_reducible intro (ep : Nat → Nat) | with_reducible apply_assumption -exfalso -symm only [*])
                all_goals exact ⟨_, rfl, by rw [hts]; simp [ints]⟩
            · clear h1 h4 h5 h11 h12 h13 h15 h16 h17
              rintro f H h189 h188 ⟨⟨h1, h4, h5, h11, h12, h13, h187⟩, e, h24, hH24⟩
              rw [List.take_of_length_le (by omega)] at hH24
              repeat' (first | (with_reducible refine sk ?_; intro K hK) | ((with_reducible first | refine rg (id := 31) (md := { base := 0, own := [20, 214] }) (h := ?_) | refine rgS (id := 31) [20] (md := { base := 0, own := [20, 214] }) (h := ?_) | refine rg (md := { base := 0, own := [20, 24, 214] }) (h := ?_) | refine rgS [20] (md := { base := 0, own := [20, 24, 214] }) (h := ?_) | refine nx ?_); try simp (disch := omega) only [h1, h4, h5, h11, h12, h13, h24,go_sem, simprocAttr]) | (with_reducible refine bk ?_) | ((with_reducible refine' cE ?hv ?_ ?_); (case hv => first | rfl | (simp only [h1, h4, h5, h11, h12, h13, h24,go_sem, simprocAttr]; rfl)); all_goals (intro hc; (try simp only [go_sem, simprocAttr] at hc); try (exfalso; omega))) | ((with_reducible first | refine grdS_split ?_ ?_ | refine lkG_split ?_ ?_) <;> intro hg <;> (try simp (disch := omega) only [hg, h1, h4, h5, h11, h12, h13, h24,go_sem, simprocAttr]) <;> (try simp only [go_sem, simprocAttr] at hg) <;> (try (exfalso; omega))) | ((with_reducible refine fe ?_); refine ⟨_, (by simp only [Try.f12, h1, h4, h5, h11, h12, h13, h24,go_sem, simprocAttr]; rfl), ?_⟩; first | rfl | (try simp only [h1, h4, h5, h11, h12, h13, h24,go_sem, simprocAttr, seval])) | with_reducible intro (ep : Nat → Nat) | with_reducible apply_assumption -exfalso -symm only [*])
              exact ⟨by (first | rfl | (simp only [h5, go_sem, simprocAttr]; done) | (simp only [h5, go_sem, simprocAttr]; rfl)), by (first | rfl | (simp only [h11, go_sem, simprocAttr]; done) | (simp only [h11, go_sem, simprocAttr]; rfl)), by (first | rfl | (simp only [h12, go_sem, simprocAttr]; done) | (simp only [h12, go_sem, simprocAttr]; rfl)), by (first | rfl | (simp only [h13, go_sem, simprocAttr]; done) | (simp only [h13, go_sem, simprocAttr]; rfl)), e, by (first | rfl | (simp only [h24, go_sem, simprocAttr]; done) | (simp only [h24, go_sem, simprocAttr]; rfl)), hH24⟩
          clear hK
          by_cases hz : 0 < B
          · have b5 : ¬ B1 = 0 := by omega
            have b6 : ¬ B < B1 := by omega
            have b7 : ¬ B = 0 := by omega
            by_cases hz2 : 0 < B2
            · have b8 : ¬ B2 < B := by omega
              repeat' (first | (with_reducible refine sk ?_; intro K hK) | ((with_reducible first | refine rg (id := 31) (md := { base := 0, own := [20, 214] }) (h := ?_) | refine rgS (id := 31) [20] (md := { base := 0, own := [20, 214] }) (h := ?_) | refine rg (md := { base := 0, own := [20, 24, 214] }) (h := ?_) | refine rgS [20] (md := { base := 0, own := [20, 24, 214] }) (h := ?_) | refine nx ?_); try simp (disch := omega) only [h1, h4, h5, h11, h12, h13, h15, h16, h17, hz, hz2, b5, b6, b7, b8,go_sem, simprocAttr]) | (with_reducible refine bk ?_) | ((with_reducible refine' cE ?hv ?_ ?_); (case hv => first | rfl | (simp only [h1, h4, h5, h11, h12, h13, h15, h16, h17, hz, hz2, b5, b6, b7, b8,go_sem, simprocAttr]; rfl)); all_goals (intro hc; (try simp only [go_sem, simprocAttr] at hc); try (exfalso; omega))) | ((with_reducible first | refine grdS_split ?_ ?_ | refine lkG_split ?_ ?_) <;> intro hg <;> (try simp (disch := omega) only [hg, h1, h4, h5, h11, h12, h13, h15, h16, h17, hz, hz2, b5, b6, b7, b8,go_sem, simprocAttr]) <;> (try simp only [go_sem, simprocAttr] at hg) <;> (try (exfalso; omega))) | ((with_reducible refine fe ?_); refine ⟨_, (by simp only [Try.f12, h1, h4, h5, h11, h12, h13, h15, h16, h17, hz, hz2, b5, b6, b7, b8,go_sem, simprocAttr]; rfl), ?_⟩; first | rfl | (try simp only [h1, h4, h5, h11, h12, h13, h15, h16, h17, hz, hz2, b5, b6, b7, b8,go_sem, simprocAttr, seval])) | with_reducible intro (ep : Nat → Nat) | with_reducible apply_assumption -exfalso -symm only [*])
              all_goals (and_intros <;> first | rfl | (simp only [h1, h4, h5, h11, h12, h13, h15, h16, h17, go_sem, simprocAttr]; done) | (simp only [h1, h4, h5, h11, h12, h13, h15, h16, h17, go_sem, simprocAttr]; rfl))
            · repeat' (first | (with_reducible refine sk ?_; intro K hK) | ((with_reducible first | refine rg (id := 31) (md := { base := 0, own := [20, 214] }) (h := ?_) | refine rgS (id := 31) [20] (md := { base := 0, own := [20, 214] }) (h := ?_) | refine rg (md := { base := 0, own := [20, 24, 214] }) (h := ?_) | refine rgS [20] (md := { base := 0, own := [20, 24, 214] }) (h := ?_) | refine nx ?_); try simp (disch := omega) only [h1, h4, h5, h11, h12, h13, h15, h16, h17, hz, hz2, b5, b6, b7,go_sem, simprocAttr]) | (with_reducible refine bk ?_) | ((with_reducible refine' cE ?hv ?_ ?_); (case hv => first | rfl | (simp only [h1, h4, h5, h11, h12, h13, h15, h16, h17, hz, hz2, b5, b6, b7,go_sem, simprocAttr]; rfl)); all_goals (intro hc; (try simp only [go_sem, simprocAttr] at hc); try (exfalso; omega))) | ((with_reducible first | refine grdS_split ?_ ?_ | refine lkG_split ?_ ?_) <;> intro hg <;> (try simp (disch := omega) only [hg, h1, h4, h5, h11, h12, h13, h15, h16, h17, hz, hz2, b5, b6, b7,go_sem, simprocAttr]) <;> (try simp only [go_sem, simprocAttr] at hg) <;> (try (exfalso; omega))) | ((with_reducible refine fe ?_); refine ⟨_, (by simp only [Try.f12, h1, h4, h5, h11, h12, h13, h15, h16, h17, hz, hz2, b5, b6, b7,go_sem, simprocAttr]; rfl), ?_⟩; first | rfl | (try simp only [h1, h4, h5, h11, h12, h13, h15, h16, h17, hz, hz2, b5, b6, b7,go_sem, simprocAttr, seval])) | with_reducible intro (ep : Nat → Nat) | with_reducible apply_assumption -exfalso -symm only [*])
              all_goals (and_intros <;> first | rfl | (simp only [h1, h4, h5, h11, h12, h13, h15, h16, h17, go_sem, simprocAttr]; done) | (simp only [h1, h4, h5, h11, h12, h13, h15, h16, h17, go_sem, simprocAttr]; rfl))
          · obtain rfl : B = 0 := by omega
            have hz2 : ¬ 0 < B2 := by omega
            repeat' (first | (with_reducible refine sk ?_; intro K hK) | ((with_reducible first | refine rg (id := 31) (md := { base := 0, own := [20, 214] }) (h := ?_) | refine rgS (id := 31) [20] (md := { base := 0, own := [20, 214] }) (h := ?_) | refine rg (md := { base := 0, own := [20, 24, 214] }) (h := ?_) | refine rgS [20] (md := { base := 0, own := [20, 24, 214] }) (h := ?_) | refine nx ?_); try simp (disch := omega) only [h1, h4, h5, h11, h12, h13, h15, h16, h17, hz2,go_sem, simprocAttr]) | (with_reducible refine bk ?_) | ((with_reducible refine' cE ?hv ?_ ?_); (case hv => first | rfl | (simp only [h1, h4, h5, h11, h12, h13, h15, h16, h17, hz2,go_sem, simprocAttr]; rfl)); all_goals (intro hc; (try simp only [go_sem, simprocAttr] at hc); try (exfalso; omega))) | ((with_reducible first | refine grdS_split ?_ ?_ | refine lkG_split ?_ ?_) <;> intro hg <;> (try simp (disch := omega) only [hg, h1, h4, h5, h11, h12, h13, h15, h16, h17, hz2,go_sem, simprocAttr]) <;> (try simp only [go_sem, simprocAttr] at hg) <;> (try (exfalso; omega))) | ((with_reducible refine fe ?_); refine ⟨_, (by simp only [Try.f12, h1, h4, h5, h11, h12, h13, h15, h16, h17, hz2,go_sem, simprocAttr]; rfl), ?_⟩; first | rfl | (try simp only [h1, h4, h5, h11, h12, h13, h15, h16, h17, hz2,go_sem, simprocAttr, seval])) | with_reducible intro (ep : Nat → Nat) | with_reducible apply_assumption -exfalso -symm only [*])
            all_goals (and_intros <;> first | rfl | (simp only [h1, h4, h5, h11, h12, h13, h15, h16, h17, go_sem, simprocAttr]; done) | (simp only [h1, h4, h5, h11, h12, h13, h15, h16, h17, go_sem, simprocAttr]; rfl))
        clear hK
        repeat' (first | (with_reducible refine sk ?_; intro K hK) | ((with_reducible first | refine rg (id := 31) (md := { base := 0, own := [20, 214] }) (h := ?_) | refine rgS (id := 31) [20] (md := { base := 0, own := [20, 214] }) (h := ?_) | refine rg (md := { base := 0, own := [20, 24, 214] }) (h := ?_) | refine rgS [20] (md := { base := 0, own := [20, 24, 214] }) (h := ?_) | refine nx ?_); try simp (disch := omega) only [h1, h4, h5, h11, h12, h13, cHead,go_sem, simprocAttr]) | (with_reducible refine bk ?_) | ((with_reducible refine' cE ?hv ?_ ?_); (case hv => first | rfl | (simp only [h1, h4, h5, h11, h12, h13, cHead,go_sem, simprocAttr]; rfl)); all_goals (intro hc; (try simp only [go_sem, simprocAttr] at hc); try (exfalso; omega))) | ((with_reducible first | refine grdS_split ?_ ?_ | refine lkG_split ?_ ?_) <;> intro hg <;> (try simp (disch := omega) only [hg, h1, h4, h5, h11, h12, h13, cHead,go_sem, simprocAttr]) <;> (try simp only [go_sem, simprocAttr] at hg) <;> (try (exfalso; omega))) | ((with_reducible refine fe ?_); refine ⟨_, (by simp only [Try.f12, h1, h4, h5, h11, h12, h13, cHead,go_sem, simprocAttr]; rfl), ?_⟩; first | rfl | (try simp only [h1, h4, h5, h11, h12, h13, cHead,go_sem, simprocAttr, seval])) | with_reducible intro (ep : Nat → Nat) | with_reducible apply_assumption -exfalso -symm only [*])
        refine AW_range tabOK l.length (fun k f H => f 1 = .lst 1 (ints l) ∧ f 4 = .lst 1 (g.map c16) ∧ f 5 = .pim (cHead h) ∧ f 11 = .bool true ∧ f 12 = .int .i64 B1 ∧ f 13 = .int .i64 B2 ∧ f 15 = .int .i64 a ∧ f 16 = .int .i64 t ∧ f 17 = .int .i64 0 ∧ f 109 = .lst 1 (ints l) ∧ B = burstF l.length a t (l.drop k) k) (by omega) (by rw [hXs]; decide) (by decide) (by (first | rfl | (simp only [go_sem, simprocAttr]; done) | (simp only [go_sem, simprocAttr]; rfl))) (by (first | rfl | (simp only [go_sem, simprocAttr]; done) | (simp only [go_sem, simprocAttr]; rfl)))
          ⟨by (first | rfl | (simp only [h1, go_sem, simprocAttr]; done) | (simp only [h1, go_sem, simprocAttr]; rfl)), by (first | rfl | (simp only [h4, go_sem, simprocAttr]; done) | (simp only [h4, go_sem, simprocAttr]; rfl)), by (first | rfl | (simp only [h5, cHead, go_sem, simprocAttr]; done) | (simp only [h5, cHead, go_sem, simprocAttr]; rfl)), by (first | rfl | (simp only [h11, go_sem, simprocAttr]; done) | (simp only [h11, go_sem, simprocAttr]; rfl)), by (first | rfl | (simp only [h12, go_sem, simprocAttr]; done) | (simp only [h12, go_sem, simprocAttr]; rfl)), by (first | rfl | (simp only [h13, go_sem, simprocAttr]; done) | (simp only [h13, go_sem, simprocAttr]; rfl)), by (first | rfl | (simp only [go_sem, simprocAttr]; done) | (simp only [go_sem, simprocAttr]; rfl)), by (first | rfl | (simp only [go_sem, simprocAttr]; done) | (simp only [go_sem, simprocAttr]; rfl)), by (first | rfl | (simp only [go_sem, simprocAttr]; done) | (simp only [go_sem, simprocAttr]; rfl)), by (first | rfl | (simp only [go_sem, simprocAttr]; done) | (simp only [go_sem, simprocAttr]; rfl)), by rw [← hBe]; simp [burstS]⟩ ?_ ?_
        · clear h1 h2 h3 h4 h5 h11 h12 h13
          rintro k f H hk h111 h110 ⟨h1, h4, h5, h11, h12, h13, h15, h16, h17, h109, hr⟩
          obtain ⟨x, hx⟩ : ∃ x, l[k]? = some x := ⟨_, List.getElem?_eq_getElem hk⟩
          rw [drop_cons hx, burstF] at hr
          by_cases hdx : a ≤ x
          · rw [if_pos hdx] at hr
            by_cases hn : (l.length : Int) < k + 1 + t
            · rw [if_pos hn] at hr
              have hn2 : ¬ ((k + 1 : Nat) : Int) + t ≤ (l.length : Int) := by omega
              repeat' (first | (with_reducible refine sk ?_; intro K hK) | ((with_reducible first | refine rg (id := 31) (md := { base := 0, own := [20, 214] }) (h := ?_) | refine rgS (id := 31) [20] (md := { base := 0, own := [20, 214] }) (h := ?_) | refine rg (md := { base := 0, own := [20, 24, 214] }) (h := ?_) | refine rgS [20] (md := { base := 0, own := [20, 24, 214] }) (h := ?_) | refine nx ?_); try simp (disch := omega) only [h1, h4, h5, h11, h12, h13, h15, h16, h17, h109, h110, h111, hx, hdx, hn2,go_sem, simprocAttr]) | (with_reducible refine bk ?_) | ((with_reducible refine' cE ?hv ?_ ?_); (case hv => first | rfl | (simp only [h1, h4, h5, h11, h12, h13, h15, h16, h17, h109, h110, h111, hx, hdx, hn2,go_sem, simprocAttr]; rfl)); all_goals (intro hc; (try simp only [go_sem, simprocAttr] at hc); try (exfalso; omega))) | ((with_reducible first | refine grdS_split ?_ ?_ | refine lkG_split ?_ ?_) <;> intro hg <;> (try simp (disch := omega) only [hg, h1, h4, h5, h11, h12, h13, h15, h16, h17, h109, h110, h111, hx, hdx, hn2,go_sem, simprocAttr]) <;> (try simp only [go_sem, simprocAttr] at hg) <;> (try (exfalso; omega))) | ((with_reducible refine fe ?_); refine ⟨_, (by simp only [Try.f12, h1, h4, h5, h11, h12, h13, h15, h16, h17, h109, h110, h111, hx, hdx, hn2,go_sem, simprocAttr]; rfl), ?_⟩; first | rfl | (try simp only [h1, h4, h5, h11, h12, h13, h15, h16, h17, h109, h110, h111, hx, hdx, hn2,go_sem, simprocAttr, seval])) | with_reducible intro (ep : Nat → Nat) | with_reducible apply_assumption -exfalso -symm only [*])
              all_goals ((try rw [hr]); ((and_intros <;> first | rfl | (simp only [h1, h4, h5, h11, h12, h13, h15, h16, h17, cHead, go_sem, simprocAttr]; done) | (simp only [h1, h4, h5, h11, h12, h13, h15, h16, h17, cHead, go_sem, simprocAttr]; rfl))))
            · rw [if_neg hn] at hr
              have hn2 : ((k + 1 : Nat) : Int) + t ≤ (l.length : Int) := by omega
              repeat' (first | (with_reducible refine sk ?_; intro K hK) | ((with_reducible first | refine rg (id := 31) (md := { base := 0, own := [20, 214] }) (h := ?_) | refine rgS (id := 31) [20] (md := { base := 0, own := [20, 214] }) (h := ?_) | refine rg (md := { base := 0, own := [20, 24, 214] }) (h := ?_) | refine rgS [20] (md := { base := 0, own := [20, 24, 214] }) (h := ?_) | refine nx ?_); try simp (disch := omega) only [h1, h4, h5, h11, h12, h13, h15, h16, h17, h109, h110, h111, hx, hdx, hn2,go_sem, simprocAttr]) | (with_reducible refine bk ?_) | ((with_reducible refine' cE ?hv ?_ ?_); (case hv => first | rfl | (simp only [h1, h4, h5, h11, h12, h13, h15, h16, h17, h109, h110, h111, hx, hdx, hn2,go_sem, simprocAttr]; rfl)); all_goals (intro hc; (try simp only [go_sem, simprocAttr] at hc); try (exfalso; omega))) | ((with_reducible first | refine grdS_split ?_ ?_ | refine lkG_split ?_ ?_) <;> intro hg <;> (try simp (disch := omega) only [hg, h1, h4, h5, h11, h12, h13, h15, h16, h17, h109, h110, h111, hx, hdx, hn2,go_sem, simprocAttr]) <;> (try simp only [go_sem, simprocAttr] at hg) <;> (try (exfalso; omega))) | ((with_reducible refine fe ?_); refine ⟨_, (by simp only [Try.f12, h1, h4, h5, h11, h12, h13, h15, h16, h17, h109, h110, h111, hx, hdx, hn2,go_sem, simprocAttr]; rfl), ?_⟩; first | rfl | (try simp only [h1, h4, h5, h11, h12, h13, h15, h16, h17, h109, h110, h111, hx, hdx, hn2,go_sem, simprocAttr, seval])) | with_reducible intro (ep : Nat → Nat) | with_reducible apply_assumption -exfalso -symm only [*])
              all_goals ((try rw [hr]); ((and_intros <;> first | rfl | (simp only [h1, h4, h5, h11, h12, h13, h15, h16, h17, cHead, go_sem, simprocAttr]; done) | (simp only [h1, h4, h5, h11, h12, h13, h15, h16, h17, cHead, go_sem, simprocAttr]; rfl))))
          · rw [if_neg hdx] at hr
            repeat' (first | (with_reducible refine sk ?_; intro K hK) | ((with_reducible first | refine rg (id := 31) (md := { base := 0, own := [20, 214] }) (h := ?_) | refine rgS (id := 31) [20] (md := { base := 0, own := [20, 214] }) (h := ?_) | refine rg (md := { base := 0, own := [20, 24, 214] }) (h := ?_) | refine rgS [20] (md := { base := 0, own := [20, 24, 214] }) (h := ?_) | refine nx ?_); try simp (disch := omega) only [h1, h4, h5, h11, h12, h13, h15, h16, h17, h109, h110, h111, hx, hdx,go_sem, simprocAttr]) | (with_reducible refine bk ?_) | ((with_reducible refine' cE ?hv ?_ ?_); (case hv => first | rfl | (simp only [h1, h4, h5, h11, h12, h13, h15, h16, h17, h109, h110, h111, hx, hdx,go_sem, simprocAttr]; rfl)); all_goals (intro hc; (try simp only [go_sem, simprocAttr] at hc); try (exfalso; omega))) | ((with_reducible first | refine grdS_split ?_ ?_ | refine lkG_split ?_ ?_) <;> intro hg <;> (try simp (disch := omega) only [hg, h1, h4, h5, h11, h12, h13, h15, h16, h17, h109, h110, h111, hx, hdx,go_sem, simprocAttr]) <;> (try simp only [go_sem, simprocAttr] at hg) <;> (try (exfalso; omega))) | ((with_reducible refine fe ?_); refine ⟨_, (by simp only [Try.f12, h1, h4, h5, h11, h12, h13, h15, h16, h17, h109, h110, h111, hx, hdx,go_sem, simprocAttr]; rfl), ?_⟩; first | rfl | (try simp only [h1, h4, h5, h11, h12, h13, h15, h16, h17, h109, h110, h111, hx, hdx,go_sem, simprocAttr, seval])) | with_reducible intro (ep : Nat → Nat) | with_reducible apply_assumption -exfalso -symm only [*])
            all_goals exact hr
        · clear h1 h2 h3 h4 h5 h11 h12 h13
          rintro f H h111 h110 ⟨h1, h4, h5, h11, h12, h13, h15, h16, h17, h109, hr⟩
          rw [drop_none (by omega)] at hr
          simp only [burstF] at hr
          repeat' (first | (with_reducible refine sk ?_; intro K hK) | ((with_reducible first | refine rg (id := 31) (md := { base := 0, own := [20, 214] }) (h := ?_) | refine rgS (id := 31) [20] (md := { base := 0, own := [20, 214] }) (h := ?_) | refine rg (md := { base := 0, own := [20, 24, 214] }) (h := ?_) | refine rgS [20] (md := { base := 0, own := [20, 24, 214] }) (h := ?_) | refine nx ?_); try simp (disch := omega) only [h1, h4, h5, h11, h12, h13, h15, h16, h17,go_sem, simprocAttr]) | (with_reducible refine bk ?_) | ((with_reducible refine' cE ?hv ?_ ?_); (case hv => first | rfl | (simp only [h1, h4, h5, h11, h12, h13, h15, h16, h17,go_sem, simprocAttr]; rfl)); all_goals (intro hc; (try simp only [go_sem, simprocAttr] at hc); try (exfalso; omega))) | ((with_reducible first | refine grdS_split ?_ ?_ | refine lkG_split ?_ ?_) <;> intro hg <;> (try simp (disch := omega) only [hg, h1, h4, h5, h11, h12, h13, h15, h16, h17,go_sem, simprocAttr]) <;> (try simp only [go_sem, simprocAttr] at hg) <;> (try (exfalso; omega))) | ((with_reducible refine fe ?_); refine ⟨_, (by simp only [Try.f12, h1, h4, h5, h11, h12, h13, h15, h16, h17,go_sem, simprocAttr]; rfl), ?_⟩; first | rfl | (try simp only [h1, h4, h5, h11, h12, h13, h15, h16, h17,go_sem, simprocAttr, seval])) | with_reducible intro (ep : Nat → Nat) | with_reducible apply_assumption -exfalso -symm only [*])
          all_goals ((try rw [hr]); ((and_intros <;> first | rfl | (simp only [h1, h4, h5, h11, h12, h13, h15, h16, h17, cHead, go_sem, simprocAttr]; done) | (simp only [h1, h4, h5, h11, h12, h13, h15, h16, h17, cHead, go_sem, simprocAttr]; rfl))))
      clear hK
      by_cases hz2 : 0 < B2
      · have b5 : ¬ B1 = 0 := by omega
        have b6 : ¬ B2 < B1 := by omega
        repeat' (first | (with_reducible refine sk ?_; intro K hK) | ((with_reducible first | refine rg (id := 31) (md := { base := 0, own := [20, 214] }) (h := ?_) | refine rgS (id := 31) [20] (md := { base := 0, own := [20, 214] }) (h := ?_) | refine rg (md := { base := 0, own := [20, 24, 214] }) (h := ?_) | refine rgS [20] (md := { base := 0, own := [20, 24, 214] }) (h := ?_) | refine nx ?_); try simp (disch := omega) only [b1, b2, b3, b4, b5, b6, hz2, cHead,go_sem, simprocAttr]) | (with_reducible refine bk ?_) | ((with_reducible refine' cE ?hv ?_ ?_); (case hv => first | rfl | (simp only [b1, b2, b3, b4, b5, b6, hz2, cHead,go_sem, simprocAttr]; rfl)); all_goals (intro hc; (try simp only [go_sem, simprocAttr] at hc); try (exfalso; omega))) | ((with_reducible first | refine grdS_split ?_ ?_ | refine lkG_split ?_ ?_) <;> intro hg <;> (try simp (disch := omega) only [hg, b1, b2, b3, b4, b5, b6, hz2, cHead,go_sem, simprocAttr]) <;> (try simp only [go_sem, simprocAttr] at hg) <;> (try (exfalso; omega))) | ((with_reducible refine fe ?_); refine ⟨_, (by simp only [Try.f12, b1, b2, b3, b4, b5, b6, hz2, cHead,go_sem, simprocAttr]; rfl), ?_⟩; first | rfl | (try simp only [b1, b2, b3, b4, b5, b6, hz2, cHead,go_sem, simprocAttr, seval])) | with_reducible intro (ep : Nat → Nat) | with_reducible apply_assumption -exfalso -symm only [*])
        all_goals (and_intros <;> first | rfl | (simp only [cHead, go_sem, simprocAttr]; done) | (simp only [cHead, go_sem, simprocAttr]; rfl))
      · repeat' (first | (with_reducible refine sk ?_; intro K hK) | ((with_reducible first | refine rg (id := 31) (md := { base := 0, own := [20, 214] }) (h := ?_) | refine rgS (id := 31) [20] (md := { base := 0, own := [20, 214] }) (h := ?_) | refine rg (md := { base := 0, own := [20, 24, 214] }) (h := ?_) | refine rgS [20] (md := { base := 0, own := [20, 24, 214] }) (h := ?_) | refine nx ?_); try simp (disch := omega) only [b1, b2, b3, b4, hz2, cHead,go_sem, simprocAttr]) | (with_reducible refine bk ?_) | ((with_reducible refine' cE ?hv ?_ ?_); (case hv => first | rfl | (simp only [b1, b2, b3, b4, hz2, cHead,go_sem, simprocAttr]; rfl)); all_goals (intro hc; (try simp only [go_sem, simprocAttr] at hc); try (exfalso; omega))) | ((with_reducible first | refine grdS_split ?_ ?_ | refine lkG_split ?_ ?_) <;> intro hg <;> (try simp (disch := omega) only [hg, b1, b2, b3, b4, hz2, cHead,go_sem, simprocAttr]) <;> (try simp only [go_sem, simprocAttr] at hg) <;> (try (exfalso; omega))) | ((with_reducible refine fe ?_); refine ⟨_, (by simp only [Try.f12, b1, b2, b3, b4, hz2, cHead,go_sem, simprocAttr]; rfl), ?_⟩; first | rfl | (try simp only [b1, b2, b3, b4, hz2, cHead,go_sem, simprocAttr, seval])) | with_reducible intro (ep : Nat → Nat) | with_reducible apply_assumption -exfalso -symm only [*])
        all_goals (and_intros <;> first | rfl | (simp only [cHead, go_sem, simprocAttr]; done) | (simp only [cHead, go_sem, simprocAttr]; rfl))
    · by_cases hn : 1 ≤ h.node ∧ h.node ≤ 12
      · have hn1 : ¬ h.node < 1 := by omega
        have hn2 : ¬ 12 < h.node := by omega
        have hl60 : ¬ (60 : Int) < (l.length : Int) := by omega
        cases hbo : bulbOK h with
        | false =>
          rw [hbo] at hrb
          refine PureC_of (fn := Try.f12) tabOK (by kernel_rfl) rfl (by kernel_rfl) (by simp [Try.f12]) (by simp [noids, noid, noidss, go_sem, encHead, cHead]) (by first | rfl | simp [noids, noid, noidss, go_sem, encHead, cHead]) ?_
          intro X hX0 hXs
          repeat' (first | (with_reducible refine sk ?_; intro K hK) | ((first | (with_reducible first | refine rg (id := 31) (md := { base := 0, own := [20, 214] }) (h := ?_) | refine rgS (id := 31) [20] (md := { base := 0, own := [20, 214] }) (h := ?_) | refine rg (md := { base := 0, own := [20, 24, 214] }) (h := ?_) | refine rgS [20] (md := { base := 0, own := [20, 24, 214] }) (h := ?_) | refine nx ?_) | refine pK (alive_run) ?_ | refine pK (hrb) ?_ | refine pK (hrh) ?_); try simp (disch := omega) only [encHead, cHead, hn1, hn2, hl60,go_sem, simprocAttr]) | (with_reducible refine bk ?_) | ((with_reducible refine' cE ?hv ?_ ?_); (case hv => first | rfl | (simp only [encHead, cHead, hn1, hn2, hl60,go_sem, simprocAttr]; rfl)); all_goals (intro hc; (try simp only [go_sem, simprocAttr] at hc); try (exfalso; omega))) | ((with_reducible first | refine grdS_split ?_ ?_ | refine lkG_split ?_ ?_) <;> intro hg <;> (try simp (disch := omega) only [hg, encHead, cHead, hn1, hn2, hl60,go_sem, simprocAttr]) <;> (try simp only [go_sem, simprocAttr] at hg) <;> (try (exfalso; omega))) | ((with_reducible refine fe ?_); refine ⟨_, (by simp only [Try.f12, encHead, cHead, hn1, hn2, hl60,go_sem, simprocAttr]; rfl), ?_⟩; first | rfl | (try simp only [encHead, cHead, hn1, hn2, hl60,go_sem, simprocAttr, seval])) | with_reducible intro (ep : Nat → Nat) | with_reducible apply_assumption -exfalso -symm only [*])
        | true =>
          have hh : heatOK l = false := by
            cases hh : heatOK l with
            | false => rfl
            | true => exact absurd ⟨by simp [madeOK, hn, hbo], hh⟩ hok
          rw [hbo] at hrb
          rw [hh] at hrh
          refine PureC_of (fn := Try.f12) tabOK (by kernel_rfl) rfl (by kernel_rfl) (by simp [Try.f12]) (by simp [noids, noid, noidss, go_sem, encHead, cHead]) (by first | rfl | simp [noids, noid, noidss, go_sem, encHead, cHead]) ?_
          intro X hX0 hXs
          repeat' (first | (with_reducible refine sk ?_; intro K hK) | ((first | (with_reducible first | refine rg (id := 31) (md := { base := 0, own := [20, 214] }) (h := ?_) | refine rgS (id := 31) [20] (md := { base := 0, own := [20, 214] }) (h := ?_) | refine rg (md := { base := 0, own := [20, 24, 214] }) (h := ?_) | refine rgS [20] (md := { base := 0, own := [20, 24, 214] }) (h := ?_) | refine nx ?_) | refine pK (alive_run) ?_ | refine pK (hrb) ?_ | refine pK (hrh) ?_); try simp (disch := omega) only [encHead, cHead, hn1, hn2, hl60,go_sem, simprocAttr]) | (with_reducible refine bk ?_) | ((with_reducible refine' cE ?hv ?_ ?_); (case hv => first | rfl | (simp only [encHead, cHead, hn1, hn2, hl60,go_sem, simprocAttr]; rfl)); all_goals (intro hc; (try simp only [go_sem, simprocAttr] at hc); try (exfalso; omega))) | ((with_reducible first | refine grdS_split ?_ ?_ | refine lkG_split ?_ ?_) <;> intro hg <;> (try simp (disch := omega) only [hg, encHead, cHead, hn1, hn2, hl60,go_sem, simprocAttr]) <;> (try simp only [go_sem, simprocAttr] at hg) <;> (try (exfalso; omega))) | ((with_reducible refine fe ?_); refine ⟨_, (by simp only [Try.f12, encHead, cHead, hn1, hn2, hl60,go_sem, simprocAttr]; rfl), ?_⟩; first | rfl | (try simp only [encHead, cHead, hn1, hn2, hl60,go_sem, simprocAttr, seval])) | with_reducible intro (ep : Nat → Nat) | with_reducible apply_assumption -exfalso -symm only [*])
      · by_cases hn1 : h.node < 1
        · refine PureC_of (fn := Try.f12) tabOK (by kernel_rfl) rfl (by kernel_rfl) (by simp [Try.f12]) (by simp [noids, noid, noidss, go_sem, encHead, cHead]) (by first | rfl | simp [noids, noid, noidss, go_sem, encHead, cHead]) ?_
          intro X hX0 hXs
          repeat' (first | (with_reducible refine sk ?_; intro K hK) | ((first | (with_reducible first | refine rg (id := 31) (md := { base := 0, own := [20, 214] }) (h := ?_) | refine rgS (id := 31) [20] (md := { base := 0, own := [20, 214] }) (h := ?_) | refine rg (md := { base := 0, own := [20, 24, 214] }) (h := ?_) | refine rgS [20] (md := { base := 0, own := [20, 24, 214] }) (h := ?_) | refine nx ?_) | refine pK (alive_run) ?_); try simp (disch := omega) only [encHead, cHead, hn1,go_sem, simprocAttr]) | (with_reducible refine bk ?_) | ((with_reducible refine' cE ?hv ?_ ?_); (case hv => first | rfl | (simp only [encHead, cHead, hn1,go_sem, simprocAttr]; rfl)); all_goals (intro hc; (try simp only [go_sem, simprocAttr] at hc); try (exfalso; omega))) | ((with_reducible first | refine grdS_split ?_ ?_ | refine lkG_split ?_ ?_) <;> intro hg <;> (try simp (disch := omega) only [hg, encHead, cHead, hn1,go_sem, simprocAttr]) <;> (try simp only [go_sem, simprocAttr] at hg) <;> (try (exfalso; omega))) | ((with_reducible refine fe ?_); refine ⟨_, (by simp only [Try.f12, encHead, cHead, hn1,go_sem, simprocAttr]; rfl), ?_⟩; first | rfl | (try simp only [encHead, cHead, hn1,go_sem, simprocAttr, seval])) | with_reducible intro (ep : Nat → Nat) | with_reducible apply_assumption -exfalso -symm only [*])
        · have hn2 : 12 < h.node := by omega
          refine PureC_of (fn := Try.f12) tabOK (by kernel_rfl) rfl (by kernel_rfl) (by simp [Try.f12]) (by simp [noids, noid, noidss, go_sem, encHead, cHead]) (by first | rfl | simp [noids, noid, noidss, go_sem, encHead, cHead]) ?_
          intro X hX0 hXs
          repeat' (first | (with_reducible refine sk ?_; intro K hK) | ((first | (with_reducible first | refine rg (id := 31) (md := { base := 0, own := [20, 214] }) (h := ?_) | refine rgS (id := 31) [20] (md := { base := 0, own := [20, 214] }) (h := ?_) | refine rg (md := { base := 0, own := [20, 24, 214] }) (h := ?_) | refine rgS [20] (md := { base := 0, own := [20, 24, 214] }) (h := ?_) | refine nx ?_) | refine pK (alive_run) ?_); try simp (disch := omega) only [encHead, cHead, hn1, hn2,go_sem, simprocAttr]) | (with_reducible refine bk ?_) | ((with_reducible refine' cE ?hv ?_ ?_); (case hv => first | rfl | (simp only [encHead, cHead, hn1, hn2,go_sem, simprocAttr]; rfl)); all_goals (intro hc; (try simp only [go_sem, simprocAttr] at hc); try (exfalso; omega))) | ((with_reducible first | refine grdS_split ?_ ?_ | refine lkG_split ?_ ?_) <;> intro hg <;> (try simp (disch := omega) only [hg, encHead, cHead, hn1, hn2,go_sem, simprocAttr]) <;> (try simp only [go_sem, simprocAttr] at hg) <;> (try (exfalso; omega))) | ((with_reducible refine fe ?_); refine ⟨_, (by simp only [Try.f12, encHead, cHead, hn1, hn2,go_sem, simprocAttr]; rfl), ?_⟩; first | rfl | (try simp only [encHead, cHead, hn1, hn2,go_sem, simprocAttr, seval])) | with_reducible intro (ep : Nat → Nat) | with_reducible apply_assumption -exfalso -symm only [*])
  · have hl60 : (60 : Int) < (l.length : Int) := by omega
    by_cases hn1 : h.node < 1
    · refine PureC_of (fn := Try.f12) tabOK (by kernel_rfl) rfl (by kernel_rfl) (by simp [Try.f12]) (by simp [noids, noid, noidss, go_sem, encHead, cHead]) (by first | rfl | simp [noids, noid, noidss, go_sem, encHead, cHead]) ?_
      intro X hX0 hXs
      repeat' (first | (with_reducible refine sk ?_; intro K hK) | ((first | (with_reducible first | refine rg (id := 31) (md := { base := 0, own := [20, 214] }) (h := ?_) | refine rgS (id := 31) [20] (md := { base := 0, own := [20, 214] }) (h := ?_) | refine rg (md := { base := 0, own := [20, 24, 214] }) (h := ?_) | refine rgS [20] (md := { base := 0, own := [20, 24, 214] }) (h := ?_) | refine nx ?_) | refine pK (alive_run) ?_); try simp (disch := omega) only [encHead, cHead, hn1,go_sem, simprocAttr]) | (with_reducible refine bk ?_) | ((with_reducible refine' cE ?hv ?_ ?_); (case hv => first | rfl | (simp only [encHead, cHead, hn1,go_sem, simprocAttr]; rfl)); all_goals (intro hc; (try simp only [go_sem, simprocAttr] at hc); try (exfalso; omega))) | ((with_reducible first | refine grdS_split ?_ ?_ | refine lkG_split ?_ ?_) <;> intro hg <;> (try simp (disch := omega) only [hg, encHead, cHead, hn1,go_sem, simprocAttr]) <;> (try simp only [go_sem, simprocAttr] at hg) <;> (try (exfalso; omega))) | ((with_reducible refine fe ?_); refine ⟨_, (by simp only [Try.f12, encHead, cHead, hn1,go_sem, simprocAttr]; rfl), ?_⟩; first | rfl | (try simp only [encHead, cHead, hn1,go_sem, simprocAttr, seval])) | with_reducible intro (ep : Nat → Nat) | with_reducible apply_assumption -exfalso -symm only [*])
    · by_cases hn2 : 12 < h.node
      · refine PureC_of (fn := Try.f12) tabOK (by kernel_rfl) rfl (by kernel_rfl) (by simp [Try.f12]) (by simp [noids, noid, noidss, go_sem, encHead, cHead]) (by first | rfl | simp [noids, noid, noidss, go_sem, encHead, cHead]) ?_
        intro X hX0 hXs
        repeat' (first | (with_reducible refine sk ?_; intro K hK) | ((first | (with_reducible first | refine rg (id := 31) (md := { base := 0, own := [20, 214] }) (h := ?_) | refine rgS (id := 31) [20] (md := { base := 0, own := [20, 214] }) (h := ?_) | refine rg (md := { base := 0, own := [20, 24, 214] }) (h := ?_) | refine rgS [20] (md := { base := 0, own := [20, 24, 214] }) (h := ?_) | refine nx ?_) | refine pK (alive_run) ?_); try simp (disch := omega) only [encHead, cHead, hn1, hn2,go_sem, simprocAttr]) | (with_reducible refine bk ?_) | ((with_reducible refine' cE ?hv ?_ ?_); (case hv => first | rfl | (simp only [encHead, cHead, hn1, hn2,go_sem, simprocAttr]; rfl)); all_goals (intro hc; (try simp only [go_sem, simprocAttr] at hc); try (exfalso; omega))) | ((with_reducible first | refine grdS_split ?_ ?_ | refine lkG_split ?_ ?_) <;> intro hg <;> (try simp (disch := omega) only [hg, encHead, cHead, hn1, hn2,go_sem, simprocAttr]) <;> (try simp only [go_sem, simprocAttr] at hg) <;> (try (exfalso; omega))) | ((with_reducible refine fe ?_); refine ⟨_, (by simp only [Try.f12, encHead, cHead, hn1, hn2,go_sem, simprocAttr]; rfl), ?_⟩; first | rfl | (try simp only [encHead, cHead, hn1, hn2,go_sem, simprocAttr, seval])) | with_reducible intro (ep : Nat → Nat) | with_reducible apply_assumption -exfalso -symm only [*])
      · cases hbo : bulbOK h with
        | false =>
          rw [hbo] at hrb
          refine PureC_of (fn := Try.f12) tabOK (by kernel_rfl) rfl (by kernel_rfl) (by simp [Try.f12]) (by simp [noids, noid, noidss, go_sem, encHead, cHead]) (by first | rfl | simp [noids, noid, noidss, go_sem, encHead, cHead]) ?_
          intro X hX0 hXs
          repeat' (first | (with_reducible refine sk ?_; intro K hK) | ((first | (with_reducible first | refine rg (id := 31) (md := { base := 0, own := [20, 214] }) (h := ?_) | refine rgS (id := 31) [20] (md := { base := 0, own := [20, 214] }) (h := ?_) | refine rg (md := { base := 0, own := [20, 24, 214] }) (h := ?_) | refine rgS [20] (md := { base := 0, own := [20, 24, 214] }) (h := ?_) | refine nx ?_) | refine pK (alive_run) ?_ | refine pK (hrb) ?_); try simp (disch := omega) only [encHead, cHead, hn1, hn2, hl60,go_sem, simprocAttr]) | (with_reducible refine bk ?_) | ((with_reducible refine' cE ?hv ?_ ?_); (case hv => first | rfl | (simp only [encHead, cHead, hn1, hn2, hl60,go_sem, simprocAttr]; rfl)); all_goals (intro hc; (try simp only [go_sem, simprocAttr] at hc); try (exfalso; omega))) | ((with_reducible first | refine grdS_split ?_ ?_ | refine lkG_split ?_ ?_) <;> intro hg <;> (try simp (disch := omega) only [hg, encHead, cHead, hn1, hn2, hl60,go_sem, simprocAttr]) <;> (try simp only [go_sem, simprocAttr] at hg) <;> (try (exfalso; omega))) | ((with_reducible refine fe ?_); refine ⟨_, (by simp only [Try.f12, encHead, cHead, hn1, hn2, hl60,go_sem, simprocAttr]; rfl), ?_⟩; first | rfl | (try simp only [encHead, cHead, hn1, hn2, hl60,go_sem, simprocAttr, seval])) | with_reducible intro (ep : Nat → Nat) | with_reducible apply_assumption -exfalso -symm only [*])
        | true =>
          rw [hbo] at hrb
          refine PureC_of (fn := Try.f12) tabOK (by kernel_rfl) rfl (by kernel_rfl) (by simp [Try.f12]) (by simp [noids, noid, noidss, go_sem, encHead, cHead]) (by first | rfl | simp [noids, noid, noidss, go_sem, encHead, cHead]) ?_
          intro X hX0 hXs
          repeat' (first | (with_reducible refine sk ?_; intro K hK) | ((first | (with_reducible first | refine rg (id := 31) (md := { base := 0, own := [20, 214] }) (h := ?_) | refine rgS (id := 31) [20] (md := { base := 0, own := [20, 214] }) (h := ?_) | refine rg (md := { base := 0, own := [20, 24, 214] }) (h := ?_) | refine rgS [20] (md := { base := 0, own := [20, 24, 214] }) (h := ?_) | refine nx ?_) | refine pK (alive_run) ?_ | refine pK (hrb) ?_); try simp (disch := omega) only [encHead, cHead, hn1, hn2, hl60,go_sem, simprocAttr]) | (with_reducible refine bk ?_) | ((with_reducible refine' cE ?hv ?_ ?_); (case hv => first | rfl | (simp only [encHead, cHead, hn1, hn2, hl60,go_sem, simprocAttr]; rfl)); all_goals (intro hc; (try simp only [go_sem, simprocAttr] at hc); try (exfalso; omega))) | ((with_reducible first | refine grdS_split ?_ ?_ | refine lkG_split ?_ ?_) <;> intro hg <;> (try simp (disch := omega) only [hg, encHead, cHead, hn1, hn2, hl60,go_sem, simprocAttr]) <;> (try simp only [go_sem, simprocAttr] at hg) <;> (try (exfalso; omega))) | ((with_reducible refine fe ?_); refine ⟨_, (by simp only [Try.f12, encHead, cHead, hn1, hn2, hl60,go_sem, simprocAttr]; rfl), ?_⟩; first | rfl | (try simp only [encHead, cHead, hn1, hn2, hl60,go_sem, simprocAttr, seval])) | with_reducible intro (ep : Nat → Nat) | with_reducible apply_assumption -exfalso -symm only [*])
theorem bulb_all (h : HeadT) (l : List Int) (_ : l.length ≤ maxLen) (dg : Int) (d0 : 0 ≤ dg) (d1 : dg ≤ 65535) (sl : Int) (s0 : 0 ≤ sl) (s1 : sl ≤ 65535) (g : List Int) (hg : By16 g) (hgl : g.length ≤ maxLen) :
    PureC Try.prog 12 [encHead h, .lst 1 (ints l), .int .u16 dg, .int .u16 sl, .lst 1 (g.map c16)] (.bool true) := bulb_law h l dg sl g ⟨d0, d1⟩ ⟨s0, s1⟩ hg
end Cp
namespace Cp
open Go
theorem fit_map {α : Type} {c : α → List Val} : ∀ {xss : List (List Val)}, (∀ es ∈ xss, ∃ x, es = c x) → ∃ l : List α, xss = l.map c
  | [], _ => ⟨[], rfl⟩
  | es :: xss, h => by
    obtain ⟨x, rfl⟩ := h es (by simp)
    obtain ⟨l, rfl⟩ := fit_map fun es he => h es (List.mem_cons_of_mem _ he)
    exact ⟨x :: l, rfl⟩
theorem fit_struct {T : Tab} {n : Nat} {t sz : Nat} {vs : List Val} {b : Nat} {z : Val} {p : Bool} {fs : List (Nat × Nat)} (ht : T t = some { kind := .struct fs, sz := sz, bytes := b, zero := z, plain := p }) (h : Fit T (n + 1) t vs) :
    vs.length = sz ∧ ∀ q ∈ fs, ∃ fi, T q.2 = some fi ∧ Fit T n q.2 ((vs.drop q.1).take fi.sz) := by
  simp only [Fit, ht] at h
  exact h
theorem fit_int {T : Tab} {n : Nat} {t : Nat} {vs : List Val} {s b : Nat} {z : Val} {p : Bool} {k : IntKind} (ht : T t = some { kind := .int k, sz := s, bytes := b, zero := z, plain := p }) (h : Fit T (n + 1) t vs) : ∃ m, vs = [.int k m] ∧ (Lit.int k m).wf = true := by
  simp only [Fit, ht] at h
  exact h
theorem fit3 {n : Nat} {vs : List Val} (h : Fit tab (n + 1) 3 vs) : ∃ m, vs = [.int .i64 m] := by
  obtain ⟨m, h, _⟩ := fit_int tab_3 h; exact ⟨m, h⟩
theorem fit_two {n : Nat} {vs : List Val} {t b : Nat} {z : Val} {p : Bool} (ht : tab t = some { kind := .struct [(0, 3), (1, 3)], sz := 2, bytes := b, zero := z, plain := p }) (h : Fit tab (n + 2) t vs) : ∃ x y : Int, vs = [.int .i64 x, .int .i64 y] := by
  obtain ⟨hl, hq⟩ := fit_struct ht h
  match vs, hl with
  | [a, b], _ =>
    obtain ⟨fi, e, h0⟩ := hq (0, 3) (by simp)
    rw [tab_3] at e; cases e
    obtain ⟨fi, e, h1⟩ := hq (1, 3) (by simp)
    rw [tab_3] at e; cases e
    obtain ⟨x, hx⟩ := fit3 h0
    obtain ⟨y, hy⟩ := fit3 h1
    simp at hx hy
    exact ⟨x, y, by rw [hx, hy]⟩
theorem fit_span {n : Nat} {vs : List Val} (h : Fit tab (n + 2) 26 vs) : ∃ s : Span, vs = [.int .i64 s.lo, .int .i64 s.hi] := by
  obtain ⟨x, y, h⟩ := fit_two tab_26 h; exact ⟨⟨x, y⟩, h⟩
theorem fit_map2 {α : Type} {c : α → List Val} {p : α → Prop} : ∀ {xss : List (List Val)}, (∀ es ∈ xss, ∃ x, es = c x ∧ p x) → ∃ l : List α, xss = l.map c ∧ ∀ x ∈ l, p x
  | [], _ => ⟨[], rfl, fun x h => by simp at h⟩
  | es :: xss, h => by
    obtain ⟨x, rfl, hp⟩ := h es (by simp)
    obtain ⟨l, rfl, hl⟩ := fit_map2 fun es he => h es (List.mem_cons_of_mem _ he)
    exact ⟨x :: l, rfl, fun y hy => by rcases List.mem_cons.1 hy with rfl | hy; exact hp; exact hl y hy⟩
theorem fit_head {n : Nat} {vs : List Val} (h : Fit tab (n + 3) 61 vs) : ∃ x : HeadT, vs = cHead x := by
  obtain ⟨hl, hq⟩ := fit_struct tab_61 h
  match vs, hl with
  | [a0, a1, a2, a3, a4, a5, a6, a7], _ =>
    obtain ⟨fi, e0, h0⟩ := hq (0, 3) (by simp)
    rw [tab_3] at e0; cases e0
    obtain ⟨fi, e1, h1⟩ := hq (1, 3) (by simp)
    rw [tab_3] at e1; cases e1
    obtain ⟨fi, e2, h2⟩ := hq (2, 3) (by simp)
    rw [tab_3] at e2; cases e2
    obtain ⟨fi, e3, h3⟩ := hq (3, 3) (by simp)
    rw [tab_3] at e3; cases e3
    obtain ⟨fi, e4, h4⟩ := hq (4, 26) (by simp)
    rw [tab_26] at e4; cases e4
    obtain ⟨fi, e5, h5⟩ := hq (6, 26) (by simp)
    rw [tab_26] at e5; cases e5
    obtain ⟨x0, h0⟩ := fit3 h0
    obtain ⟨x1, h1⟩ := fit3 h1
    obtain ⟨x2, h2⟩ := fit3 h2
    obtain ⟨x3, h3⟩ := fit3 h3
    obtain ⟨x4, h4⟩ := fit_span h4
    obtain ⟨x5, h5⟩ := fit_span h5
    simp at h0 h1 h2 h3 h4 h5
    obtain ⟨h4, h4'⟩ := h4
    obtain ⟨h5, h5'⟩ := h5
    exact ⟨⟨x0, x1, x2, x3, x4, x5⟩, by rw [h0, h1, h2, h3, h4, h4', h5, h5']; rfl⟩
theorem arg_u16 {a : Val} (h : FitV tab 8 98 a) : ∃ m, a = .int .u16 m ∧ 0 ≤ m ∧ m ≤ 65535 := by
  obtain ⟨ti, cs, e, h, _, rfl⟩ := h
  obtain ⟨m, rfl, hw⟩ := fit_int tab_98 h
  rw [tab_98] at e; cases e
  simp [Lit.wf, IntKind.min, IntKind.max, IntKind.signed, IntKind.bits] at hw
  exact ⟨m, rfl, by omega, by omega⟩
theorem arg_ints {a : Val} (h : FitV tab 8 29 a) : ∃ l : List Int, a = .lst 1 (ints l) ∧ l.length ≤ maxLen := by
  obtain ⟨ti, cs, e, h, _, rfl⟩ := h
  have hk : ∀ n, Fit tab (n + 1) 29 cs → ∃ sz xss, cs = [.lst sz xss] ∧ (tab 3).map (·.sz) = some sz ∧ xss.length ≤ maxLen ∧ ∀ es ∈ xss, es.length = sz ∧ Fit tab n 3 es := fun n h => by
    simp only [Fit, tab_29] at h; exact h
  obtain ⟨sz, xss, rfl, hs, hl, hx⟩ := hk 7 h
  rw [tab_3] at hs; cases hs
  obtain ⟨l, rfl⟩ := fit_map (c := fun m : Int => [Val.int .i64 m]) fun es hes => fit3 (hx es hes).2
  rw [tab_29] at e; cases e; exact ⟨l, rfl, by simpa using hl⟩
theorem arg_by16 {a : Val} (h : FitV tab 8 99 a) : ∃ l : List Int, a = .lst 1 (l.map c16) ∧ By16 l ∧ l.length ≤ maxLen := by
  obtain ⟨ti, cs, e, h, _, rfl⟩ := h
  have hk : ∀ n, Fit tab (n + 1) 99 cs → ∃ sz xss, cs = [.lst sz xss] ∧ (tab 98).map (·.sz) = some sz ∧ xss.length ≤ maxLen ∧ ∀ es ∈ xss, es.length = sz ∧ Fit tab n 98 es := fun n h => by
    simp only [Fit, tab_99] at h; exact h
  obtain ⟨sz, xss, rfl, hs, hln, hx⟩ := hk 7 h
  rw [tab_98] at hs; cases hs
  obtain ⟨l, rfl, hl⟩ := fit_map2 (c := c16) (p := fun m => 0 ≤ m ∧ m ≤ 65535) fun es hes => by
    obtain ⟨m, rfl, hw⟩ := fit_int tab_98 (hx es hes).2
    simp [Lit.wf, IntKind.min, IntKind.max, IntKind.signed, IntKind.bits] at hw
    exact ⟨m, rfl, by omega, by omega⟩
  rw [tab_99] at e; cases e; exact ⟨l, rfl, hl, by simpa using hln⟩
theorem arg_head {a : Val} (h : FitV tab 8 61 a) : ∃ x : HeadT, a = encHead x := by
  obtain ⟨ti, cs, e, h, _, rfl⟩ := h
  obtain ⟨l, rfl⟩ := fit_head h
  rw [tab_61] at e; cases e; exact ⟨l, rfl⟩
end Cp
