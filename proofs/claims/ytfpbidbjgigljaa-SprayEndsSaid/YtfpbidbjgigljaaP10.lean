/- Rules, facts and contracts that the statement's proof leans on. Conditions: none. -/
import Derived.Test.YtfpbidbjgigljaaP9
set_option linter.unusedVariables false
set_option linter.unusedSimpArgs false
set_option linter.unusedSectionVars false
namespace Cp
open Go Go.Proofs
set_option maxRecDepth 10000
set_option maxHeartbeats 1000000
def spansV (L : List Span) : Val := if L = [] then .nils else .lst 2 (L.map cSpan)
def pressV (g : List Span → Val) (n : NetT) (l out : List Int) : Val := if netOK n = true then (if openOK n.heads l = true ∧ outOK n out = true then .tup [g ((openH n.heads l).map (spanS n (openH n.heads l) out)), .int .i64 0] else .tup [.nils, .int .i64 2]) else .tup [.nils, .int .i64 50]
def pressT (n : NetT) (l out : List Int) : Val := pressV (fun L => .lst 2 (L.map cSpan)) n l out
theorem outOK_eq {n : NetT} {out : List Int} : outOK n out = (okL (isPm n.pumps) none out && decide ((out.length : Int) ≤ n.out)) := rfl
theorem Press_ok0 (n : NetT) (hs : NetS n) (l : List Int) (hl : l.length ≤ 100000) (out : List Int) (hol : out.length ≤ 100000) : PureC Try.prog 19 [encNet n, .lst 1 (ints l), .lst 1 (ints out)] (pressV spansV n l out) := by
 have hnoid : noid (pressV spansV n l out) = true := by unfold pressV spansV; split <;> (try split) <;> (try split) <;> (simp only [noid, noids, noidss, go_sem, simprocAttr, cSpan_noid]; rfl)
 have hop := fun H0 => opened_ok n hs l hl H0
 unfold openR at hop
 have hpl := hs.pipes
 have hpq := hs.pumps
 have hli := listedP_ok n.pumps (by omega) out hol
 unfold listedPT at hli
 simp only [encNet, cNet] at hop
 refine PureC_of (fn := Try.f19) tabOK (by kernel_rfl) rfl (by kernel_rfl) (by simp [Try.f19]) (by simp [noids, noid, noidss, go_sem, encNet, cNet, hnoid]) (by first | rfl | simp [noids, noid, noidss, go_sem, encNet, cNet, hnoid]) ?_
 intro X hX0 hXs
 unfold pressV
 cases hN : netOK n with
 | false =>
  simp only [hN, Bool.false_eq_true, if_false] at hop
  repeat' (first | (with_reducible refine sk ?_; intro K hK) | ((first | (with_reducible first | refine rg (md := { base := 0, own := [8, 12], imp := [16, 41] }) (h := ?_) | refine rgS [8, 12] (md := { base := 0, own := [8, 12], imp := [16, 41] }) (h := ?_) | refine nx ?_) | refine pK (hop _) ?_); try simp (disch := omega) only [encNet, cNet,go_sem, simprocAttr]) | (with_reducible refine bk ?_) | ((with_reducible refine' cE ?hv ?_ ?_); (case hv => first | rfl | (simp only [encNet, cNet,go_sem, simprocAttr]; rfl)); all_goals (intro hc; (try simp only [go_sem, simprocAttr] at hc); try (exfalso; omega))) | ((with_reducible first | refine grdS_split ?_ ?_ | refine lkG_split ?_ ?_) <;> intro hg <;> (try simp (disch := omega) only [hg, encNet, cNet,go_sem, simprocAttr]) <;> (try simp only [go_sem, simprocAttr] at hg) <;> (try (exfalso; omega))) | (first | refine iK (hop _) ?_) | ((with_reducible refine fe ?_); refine ⟨_, (by simp only [Try.f19, encNet, cNet,go_sem, simprocAttr]; rfl), ?_⟩; first | rfl | (try simp only [encNet, cNet,go_sem, simprocAttr, seval])) | with_reducible intro (ep : Nat → Nat) | with_reducible apply_assumption -exfalso -symm only [*])
  rintro v H3 ⟨hlow, rfl⟩
  have g8 : H3 8 = none := hlow 8 (by decide)
  have g12 : H3 12 = none := hlow 12 (by decide)
  simp only [go_sem, simprocAttr, g8]
  repeat' (first | (with_reducible refine sk ?_; intro K hK) | ((with_reducible first | refine rg (md := { base := 0, own := [8, 12], imp := [16, 41] }) (h := ?_) | refine rgS [8, 12] (md := { base := 0, own := [8, 12], imp := [16, 41] }) (h := ?_) | refine nx ?_); try simp (disch := omega) only [g8, g12,go_sem, simprocAttr]) | (with_reducible refine bk ?_) | ((with_reducible refine' cE ?hv ?_ ?_); (case hv => first | rfl | (simp only [g8, g12,go_sem, simprocAttr]; rfl)); all_goals (intro hc; (try simp only [go_sem, simprocAttr] at hc); try (exfalso; omega))) | ((with_reducible first | refine grdS_split ?_ ?_ | refine lkG_split ?_ ?_) <;> intro hg <;> (try simp (disch := omega) only [hg, g8, g12,go_sem, simprocAttr]) <;> (try simp only [go_sem, simprocAttr] at hg) <;> (try (exfalso; omega))) | ((with_reducible refine fe ?_); refine ⟨_, (by simp only [Try.f19, g8, g12,go_sem, simprocAttr]; rfl), ?_⟩; first | rfl | (try simp only [g8, g12,go_sem, simprocAttr, seval])) | with_reducible intro (ep : Nat → Nat) | with_reducible apply_assumption -exfalso -symm only [*])
 | true =>
  have hF := net_facts hN
  cases hO : openOK n.heads l with
  | false =>
   simp only [hN, hO, Bool.false_eq_true, if_false, if_true, false_and] at hop ⊢
   repeat' (first | (with_reducible refine sk ?_; intro K hK) | ((first | (with_reducible first | refine rg (md := { base := 0, own := [8, 12], imp := [16, 41] }) (h := ?_) | refine rgS [8, 12] (md := { base := 0, own := [8, 12], imp := [16, 41] }) (h := ?_) | refine nx ?_) | refine pK (hop _) ?_); try simp (disch := omega) only [encNet, cNet,go_sem, simprocAttr]) | (with_reducible refine bk ?_) | ((with_reducible refine' cE ?hv ?_ ?_); (case hv => first | rfl | (simp only [encNet, cNet,go_sem, simprocAttr]; rfl)); all_goals (intro hc; (try simp only [go_sem, simprocAttr] at hc); try (exfalso; omega))) | ((with_reducible first | refine grdS_split ?_ ?_ | refine lkG_split ?_ ?_) <;> intro hg <;> (try simp (disch := omega) only [hg, encNet, cNet,go_sem, simprocAttr]) <;> (try simp only [go_sem, simprocAttr] at hg) <;> (try (exfalso; omega))) | (first | refine iK (hop _) ?_) | ((with_reducible refine fe ?_); refine ⟨_, (by simp only [Try.f19, encNet, cNet,go_sem, simprocAttr]; rfl), ?_⟩; first | rfl | (try simp only [encNet, cNet,go_sem, simprocAttr, seval])) | with_reducible intro (ep : Nat → Nat) | with_reducible apply_assumption -exfalso -symm only [*])
   rintro v H3 ⟨hlow, rfl⟩
   have g8 : H3 8 = none := hlow 8 (by decide)
   have g12 : H3 12 = none := hlow 12 (by decide)
   simp only [go_sem, simprocAttr, g8]
   repeat' (first | (with_reducible refine sk ?_; intro K hK) | ((with_reducible first | refine rg (md := { base := 0, own := [8, 12], imp := [16, 41] }) (h := ?_) | refine rgS [8, 12] (md := { base := 0, own := [8, 12], imp := [16, 41] }) (h := ?_) | refine nx ?_); try simp (disch := omega) only [g8, g12,go_sem, simprocAttr]) | (with_reducible refine bk ?_) | ((with_reducible refine' cE ?hv ?_ ?_); (case hv => first | rfl | (simp only [g8, g12,go_sem, simprocAttr]; rfl)); all_goals (intro hc; (try simp only [go_sem, simprocAttr] at hc); try (exfalso; omega))) | ((with_reducible first | refine grdS_split ?_ ?_ | refine lkG_split ?_ ?_) <;> intro hg <;> (try simp (disch := omega) only [hg, g8, g12,go_sem, simprocAttr]) <;> (try simp only [go_sem, simprocAttr] at hg) <;> (try (exfalso; omega))) | ((with_reducible refine fe ?_); refine ⟨_, (by simp only [Try.f19, g8, g12,go_sem, simprocAttr]; rfl), ?_⟩; first | rfl | (try simp only [g8, g12,go_sem, simprocAttr, seval])) | with_reducible intro (ep : Nat → Nat) | with_reducible apply_assumption -exfalso -symm only [*])
  | true =>
   cases hno : outOK n out with
   | false =>
    simp only [hN, hO, if_true, true_and, Bool.false_eq_true, if_false] at hop ⊢
    repeat' (first | (with_reducible refine sk ?_; intro K hK) | ((first | (with_reducible first | refine rg (md := { base := 0, own := [8, 12], imp := [16, 41] }) (h := ?_) | refine rgS [8, 12] (md := { base := 0, own := [8, 12], imp := [16, 41] }) (h := ?_) | refine nx ?_) | refine pK (hop _) ?_); try simp (disch := omega) only [encNet, cNet,go_sem, simprocAttr]) | (with_reducible refine bk ?_) | ((with_reducible refine' cE ?hv ?_ ?_); (case hv => first | rfl | (simp only [encNet, cNet,go_sem, simprocAttr]; rfl)); all_goals (intro hc; (try simp only [go_sem, simprocAttr] at hc); try (exfalso; omega))) | ((with_reducible first | refine grdS_split ?_ ?_ | refine lkG_split ?_ ?_) <;> intro hg <;> (try simp (disch := omega) only [hg, encNet, cNet,go_sem, simprocAttr]) <;> (try simp only [go_sem, simprocAttr] at hg) <;> (try (exfalso; omega))) | (first | refine iK (hop _) ?_) | ((with_reducible refine fe ?_); refine ⟨_, (by simp only [Try.f19, encNet, cNet,go_sem, simprocAttr]; rfl), ?_⟩; first | rfl | (try simp only [encNet, cNet,go_sem, simprocAttr, seval])) | with_reducible intro (ep : Nat → Nat) | with_reducible apply_assumption -exfalso -symm only [*])
    rintro v H3 ⟨hlow, e36, e33, e34, ver, rfl, h36, h33, h34⟩
    have g8 : H3 8 = none := hlow 8 (by decide)
    have g12 : H3 12 = none := hlow 12 (by decide)
    clear hlow
    simp only [go_sem, simprocAttr, g8]
    cases hP : okL (isPm n.pumps) none out with
    | false =>
     rw [hP] at hli
     repeat' (first | (with_reducible refine sk ?_; intro K hK) | ((first | (with_reducible first | refine rg (md := { base := 0, own := [8, 12], imp := [16, 41] }) (h := ?_) | refine rgS [8, 12] (md := { base := 0, own := [8, 12], imp := [16, 41] }) (h := ?_) | refine nx ?_) | refine pK (hli) ?_); try simp (disch := omega) only [g8, g12, h36, cNet,go_sem, simprocAttr]) | (with_reducible refine bk ?_) | ((with_reducible refine' cE ?hv ?_ ?_); (case hv => first | rfl | (simp only [g8, g12, h36, cNet,go_sem, simprocAttr]; rfl)); all_goals (intro hc; (try simp only [go_sem, simprocAttr] at hc); try (exfalso; omega))) | ((with_reducible first | refine grdS_split ?_ ?_ | refine lkG_split ?_ ?_) <;> intro hg <;> (try simp (disch := omega) only [hg, g8, g12, h36, cNet,go_sem, simprocAttr]) <;> (try simp only [go_sem, simprocAttr] at hg) <;> (try (exfalso; omega))) | (first | refine iK (hli) ?_) | ((with_reducible refine fe ?_); refine ⟨_, (by simp only [Try.f19, g8, g12, h36, cNet,go_sem, simprocAttr]; rfl), ?_⟩; first | rfl | (try simp only [g8, g12, h36, cNet,go_sem, simprocAttr, seval])) | with_reducible intro (ep : Nat → Nat) | with_reducible apply_assumption -exfalso -symm only [*])
    | true =>
     rw [hP] at hli
     have hlo2 : n.out < (out.length : Int) := by
      rw [outOK_eq, hP] at hno
      simpa using hno
     repeat' (first | (with_reducible refine sk ?_; intro K hK) | ((first | (with_reducible first | refine rg (md := { base := 0, own := [8, 12], imp := [16, 41] }) (h := ?_) | refine rgS [8, 12] (md := { base := 0, own := [8, 12], imp := [16, 41] }) (h := ?_) | refine nx ?_) | refine pK (hli) ?_); try simp (disch := omega) only [g8, g12, h36, hlo2, cNet,go_sem, simprocAttr]) | (with_reducible refine bk ?_) | ((with_reducible refine' cE ?hv ?_ ?_); (case hv => first | rfl | (simp only [g8, g12, h36, hlo2, cNet,go_sem, simprocAttr]; rfl)); all_goals (intro hc; (try simp only [go_sem, simprocAttr] at hc); try (exfalso; omega))) | ((with_reducible first | refine grdS_split ?_ ?_ | refine lkG_split ?_ ?_) <;> intro hg <;> (try simp (disch := omega) only [hg, g8, g12, h36, hlo2, cNet,go_sem, simprocAttr]) <;> (try simp only [go_sem, simprocAttr] at hg) <;> (try (exfalso; omega))) | (first | refine iK (hli) ?_) | ((with_reducible refine fe ?_); refine ⟨_, (by simp only [Try.f19, g8, g12, h36, hlo2, cNet,go_sem, simprocAttr]; rfl), ?_⟩; first | rfl | (try simp only [g8, g12, h36, hlo2, cNet,go_sem, simprocAttr, seval])) | with_reducible intro (ep : Nat → Nat) | with_reducible apply_assumption -exfalso -symm only [*])
   | true =>
    simp only [hN, hO, if_true, and_self] at hop ⊢
    obtain ⟨o1, o2, o3⟩ := out_facts hno
    have hno' := hno
    rw [outOK_eq, Bool.and_eq_true] at hno'
    rw [hno'.1] at hli
    have hlo2 : ¬ n.out < (out.length : Int) := by omega
    have h5 := openH_500 hF l
    have hLn := fun h hm => openH_node hF (l := l) (h := h) hm
    have hLl := open_le hF.ids hO
    have hLl2 := @openH_len n.heads l
    have hhl := hF.heads
    obtain ⟨L, hL⟩ : ∃ L, openH n.heads l = L := ⟨_, rfl⟩
    rw [hL] at h5 hLn hLl2 ⊢
    simp only [hL] at hop
    obtain ⟨S, hS⟩ : ∃ S, L.map (spanS n L out) = S := ⟨_, rfl⟩
    rw [hS]
    repeat' (first | (with_reducible refine sk ?_; intro K hK) | ((first | (with_reducible first | refine rg (md := { base := 0, own := [8, 12], imp := [16, 41] }) (h := ?_) | refine rgS [8, 12] (md := { base := 0, own := [8, 12], imp := [16, 41] }) (h := ?_) | refine nx ?_) | refine pK (hop _) ?_); try simp (disch := omega) only [encNet, cNet,go_sem, simprocAttr]) | (with_reducible refine bk ?_) | ((with_reducible refine' cE ?hv ?_ ?_); (case hv => first | rfl | (simp only [encNet, cNet,go_sem, simprocAttr]; rfl)); all_goals (intro hc; (try simp only [go_sem, simprocAttr] at hc); try (exfalso; omega))) | ((with_reducible first | refine grdS_split ?_ ?_ | refine lkG_split ?_ ?_) <;> intro hg <;> (try simp (disch := omega) only [hg, encNet, cNet,go_sem, simprocAttr]) <;> (try simp only [go_sem, simprocAttr] at hg) <;> (try (exfalso; omega))) | (first | refine iK (hop _) ?_) | ((with_reducible refine fe ?_); refine ⟨_, (by simp only [Try.f19, encNet, cNet,go_sem, simprocAttr]; rfl), ?_⟩; first | rfl | (try simp only [encNet, cNet,go_sem, simprocAttr, seval])) | with_reducible intro (ep : Nat → Nat) | with_reducible apply_assumption -exfalso -symm only [*])
    rintro v H3 ⟨hlow, e36, e33, e34, ver, rfl, h36, h33, h34⟩
    have g8 : H3 8 = none := hlow 8 (by decide)
    have g12 : H3 12 = none := hlow 12 (by decide)
    clear hlow
    simp only [go_sem, simprocAttr, g8]
    repeat' (first | (with_reducible refine sk ?_; intro K hK) | ((first | (with_reducible first | refine rg (md := { base := 0, own := [8, 12], imp := [16, 41] }) (h := ?_) | refine rgS [8, 12] (md := { base := 0, own := [8, 12], imp := [16, 41] }) (h := ?_) | refine nx ?_) | refine pK (hli) ?_); try simp (disch := omega) only [g8, g12, h36, h33, h34, hlo2, cNet,go_sem, simprocAttr]) | (with_reducible refine bk ?_) | ((with_reducible refine' cE ?hv ?_ ?_); (case hv => first | rfl | (simp only [g8, g12, h36, h33, h34, hlo2, cNet,go_sem, simprocAttr]; rfl)); all_goals (intro hc; (try simp only [go_sem, simprocAttr] at hc); try (exfalso; omega))) | ((with_reducible first | refine grdS_split ?_ ?_ | refine lkG_split ?_ ?_) <;> intro hg <;> (try simp (disch := omega) only [hg, g8, g12, h36, h33, h34, hlo2, cNet,go_sem, simprocAttr]) <;> (try simp only [go_sem, simprocAttr] at hg) <;> (try (exfalso; omega))) | (first | refine iK (hli) ?_) | ((with_reducible refine fe ?_); refine ⟨_, (by simp only [Try.f19, g8, g12, h36, h33, h34, hlo2, cNet,go_sem, simprocAttr]; rfl), ?_⟩; first | rfl | (try simp only [g8, g12, h36, h33, h34, hlo2, cNet,go_sem, simprocAttr, seval])) | with_reducible intro (ep : Nat → Nat) | with_reducible apply_assumption -exfalso -symm only [*])
    refine iK (without_ok n L _ _ _ _ out hol o2 _ _ (by simp) _ (by (first | rfl | (simp only [h36, go_sem, simprocAttr]; done) | (simp only [h36, go_sem, simprocAttr]; rfl))) (by (first | rfl | (simp only [h34, go_sem, simprocAttr]; done) | (simp only [h34, go_sem, simprocAttr]; rfl))) (AllS 12 1528 _ S) (fun ver' H hlow hm => hS ▸ press2_ok n hF L h5 (by omega) hLn out hno _ _ _ _ _ ver' H (by rw [hlow _ (by decide)]; (first | rfl | (simp only [go_sem, simprocAttr]; done) | (simp only [go_sem, simprocAttr]; rfl))) (by rw [hlow _ (by decide)]; (first | rfl | (simp only [go_sem, simprocAttr]; done) | (simp only [go_sem, simprocAttr]; rfl))) (by rw [hlow _ (by decide)]; (first | rfl | (simp only [h36, go_sem, simprocAttr]; done) | (simp only [h36, go_sem, simprocAttr]; rfl))) (by rw [hlow _ (by decide)]; (first | rfl | (simp only [h33, go_sem, simprocAttr]; done) | (simp only [h33, go_sem, simprocAttr]; rfl))) hm)) ?_
    rintro v H4 ⟨rfl, H5, ver2, hA, hsame, hm⟩
    rcases hA with ⟨hSn, h12⟩ | ⟨hSn, ea, h12, h28⟩
    ·have q12 := (hsame 12 (by decide)).trans h12
     have hV : spansV S = .nils := by unfold spansV; rw [if_pos hSn]
     rw [hV] at hK
     simp only [go_sem, simprocAttr]
     repeat' (first | (with_reducible refine sk ?_; intro K hK) | ((with_reducible first | refine rg (md := { base := 0, own := [8, 12], imp := [16, 41] }) (h := ?_) | refine rgS [8, 12] (md := { base := 0, own := [8, 12], imp := [16, 41] }) (h := ?_) | refine nx ?_); try simp (disch := omega) only [q12,go_sem, simprocAttr]) | (with_reducible refine bk ?_) | ((with_reducible refine' cE ?hv ?_ ?_); (case hv => first | rfl | (simp only [q12,go_sem, simprocAttr]; rfl)); all_goals (intro hc; (try simp only [go_sem, simprocAttr] at hc); try (exfalso; omega))) | ((with_reducible first | refine grdS_split ?_ ?_ | refine lkG_split ?_ ?_) <;> intro hg <;> (try simp (disch := omega) only [hg, q12,go_sem, simprocAttr]) <;> (try simp only [go_sem, simprocAttr] at hg) <;> (try (exfalso; omega))) | ((with_reducible refine fe ?_); refine ⟨_, (by simp only [Try.f19, q12,go_sem, simprocAttr]; rfl), ?_⟩; first | rfl | (try simp only [q12,go_sem, simprocAttr, seval])) | with_reducible intro (ep : Nat → Nat) | with_reducible apply_assumption -exfalso -symm only [*])
    ·have q12 := (hsame 12 (by decide)).trans h12
     have q28 := (hsame 1528 (by decide)).trans h28
     have hV : spansV S = .lst 2 (S.map cSpan) := by unfold spansV; rw [if_neg hSn]
     rw [hV] at hK
     simp only [go_sem, simprocAttr]
     repeat' (first | (with_reducible refine sk ?_; intro K hK) | ((with_reducible first | refine rg (md := { base := 0, own := [8, 12], imp := [16, 41] }) (h := ?_) | refine rgS [8, 12] (md := { base := 0, own := [8, 12], imp := [16, 41] }) (h := ?_) | refine nx ?_); try simp (disch := omega) only [q12,go_sem, simprocAttr]) | (with_reducible refine bk ?_) | ((with_reducible refine' cE ?hv ?_ ?_); (case hv => first | rfl | (simp only [q12,go_sem, simprocAttr]; rfl)); all_goals (intro hc; (try simp only [go_sem, simprocAttr] at hc); try (exfalso; omega))) | ((with_reducible first | refine grdS_split ?_ ?_ | refine lkG_split ?_ ?_) <;> intro hg <;> (try simp (disch := omega) only [hg, q12,go_sem, simprocAttr]) <;> (try simp only [go_sem, simprocAttr] at hg) <;> (try (exfalso; omega))) | with_reducible intro (ep : Nat → Nat) | with_reducible apply_assumption -exfalso -symm only [*])
     refine FnP_frz 1528 (Or.inl rfl) (by (first | rfl | (simp only [q28, go_sem, simprocAttr]; done) | (simp only [q28, go_sem, simprocAttr]; rfl))) ⟨_, (by simp only [Try.f19, go_sem, simprocAttr]; rfl), ?_⟩
     simp only [go_sem, simprocAttr, q28, List.length_map]
theorem Press_ok (n : NetT) (hs : NetS n) (l : List Int) (hl : l.length ≤ 100000) (out : List Int) (hol : out.length ≤ 100000) : PureC Try.prog 19 [encNet n, .lst 1 (ints l), .lst 1 (ints out)] (pressT n l out) := by
 have h := Press_ok0 n hs l hl out hol
 unfold pressT
 unfold pressV at h ⊢
 split
 ·rename_i hN
  rw [if_pos hN] at h
  split
  ·rename_i hO
   rw [if_pos hO] at h
   unfold spansV at h
   split at h
   ·rename_i he
    rw [he]
    exact h.weak rfl fun G w x hx => hx.tup_nils
   ·exact h
  ·rename_i hO
   rw [if_neg hO] at h
   exact h
 ·rename_i hN
  rw [if_neg hN] at h
  exact h
end Cp
namespace Cp
open Go Go.Proofs
set_option maxRecDepth 10000
set_option maxHeartbeats 4000000
theorem thawI {k ea m : Nat} {L : List Int} {H2 : Hp} (hl : L.length = m) (h : H2 k = some (ea, .fro 1 (ints L))) : fzd H2 6 (.gr k ea m) = .lst 1 (ints L) := by
 have e2 : (ints L).map (fun es => es.map (fzd H2 5)) = ints L := by unfold ints; rw [List.map_map]; exact List.map_congr_left fun s _ => rfl
 simp only [fzd, h, ints_len, hl, and_self, if_true]
 exact congrArg _ e2
theorem worst_ok (n : NetT) (hF : NetF n) : PureC Try.prog 42 [encNet n] (.agg (truV (n.pumps.map fun p => p.full.lo) (n.pipes.map fun p => p.foul.hi) n.tank.lo)) := by
 have hpq := hF.pumps
 have hpl := hF.pipes
 refine PureC_of (fn := Try.f42) tabOK (by kernel_rfl) rfl (by kernel_rfl) (by simp [Try.f42]) (by simp [noids, noid, noidss, go_sem, encNet, cNet, truV]) (by first | rfl | simp [noids, noid, noidss, go_sem, encNet, cNet, truV]) ?_
 intro X hX0 hXs
 repeat' (first | (with_reducible refine sk ?_; intro K hK) | ((with_reducible first | refine rg (md := { base := 0, own := [2, 3, 5, 7, 25, 41] }) (h := ?_) | refine rgS [2, 3, 5, 7] (md := { base := 0, own := [2, 3, 5, 7, 25, 41] }) (h := ?_) | refine nx ?_); try simp (disch := omega) only [encNet, cNet,go_sem, simprocAttr]) | (with_reducible refine bk ?_) | ((with_reducible refine' cE ?hv ?_ ?_); (case hv => first | rfl | (simp only [encNet, cNet,go_sem, simprocAttr]; rfl)); all_goals (intro hc; (try simp only [go_sem, simprocAttr] at hc); try (exfalso; omega))) | with_reducible intro (ep : Nat → Nat) | with_reducible apply_assumption -exfalso -symm only [*])
 refine AW_range tabOK n.pumps.length (fun k f H => (f 1 = .pim (cNet n) ∧ f 13 = .lst 3 (n.pumps.map cPump)) ∧ ∃ e3 e2, f 3 = .ptr 3 e3 3 0 0 ∧ f 2 = .ptr 2 e2 3 0 0 ∧ H 2 = some (e2, .arr 3 [[.nils, .nils, .int .i64 0]]) ∧ ((k = 0 ∧ H 3 = some (e3, .arr 3 [[.nils, .nils, .int .i64 n.tank.lo]])) ∨ (¬ k = 0 ∧ ∃ ea, H 3 = some (e3, .arr 3 [[.gr 25 ea k, .nils, .int .i64 n.tank.lo]]) ∧ H 25 = some (ea, .arr 1 (ints ((n.pumps.take k).map fun p => p.full.lo)))))) (by omega) (by rw [hXs]; decide) (by decide) (by (first | rfl | (simp only [go_sem, simprocAttr]; done) | (simp only [go_sem, simprocAttr]; rfl))) (by (first | rfl | (simp only [go_sem, simprocAttr]; done) | (simp only [go_sem, simprocAttr]; rfl)))
  ⟨by (and_intros <;> first | rfl | (simp only [cNet, go_sem, simprocAttr]; done) | (simp only [cNet, go_sem, simprocAttr]; rfl)), _, _, by (first | rfl | (simp only [go_sem, simprocAttr]; done) | (simp only [go_sem, simprocAttr]; rfl)), by (first | rfl | (simp only [go_sem, simprocAttr]; done) | (simp only [go_sem, simprocAttr]; rfl)), by (first | rfl | (simp only [go_sem, simprocAttr]; done) | (simp only [go_sem, simprocAttr]; rfl)), .inl ⟨rfl, by (first | rfl | (simp only [go_sem, simprocAttr]; done) | (simp only [go_sem, simprocAttr]; rfl))⟩⟩ ?_ ?_
 ·rintro k f H hk h15 h14 ⟨⟨h1, h13⟩, e3, e2, h3, h2, hH2, hh⟩
  obtain ⟨x, hx⟩ : ∃ x, n.pumps[k]? = some x := ⟨_, List.getElem?_eq_getElem hk⟩
  have hts := map_snoc (g := fun p : PumpT => p.full.lo) hx
  refine AW_keep [2, 3, 25] ?_
  rcases hh with ⟨hk0, hH3⟩ | ⟨hk0, ea, hH3, hH25⟩
  ·subst hk0
   refine AW_lose 25 fun H1 g25 hs1 => ?_
   have q3 : H1 3 = some (e3, .arr 3 [[.nils, .nils, .int .i64 n.tank.lo]]) := by rw [hs1 _ (by decide)]; exact hH3
   have q2 : H1 2 = some (e2, .arr 3 [[.nils, .nils, .int .i64 0]]) := by rw [hs1 _ (by decide)]; exact hH2
   have q5 : H1 5 = none := by rw [hs1 _ (by decide)]; rfl
   clear hs1
   repeat' (first | (with_reducible refine sk ?_; intro K hK) | ((with_reducible first | refine rg (md := { base := 0, own := [2, 3, 5, 7, 25, 41] }) (h := ?_) | refine rgS [2, 3, 5, 7] (md := { base := 0, own := [2, 3, 5, 7, 25, 41] }) (h := ?_) | refine nx ?_); try simp (disch := omega) only [h1, h2, h3, h13, h14, h15, q2, q3, q5, g25, hx, cPump,go_sem, simprocAttr]) | (with_reducible refine bk ?_) | ((with_reducible refine' cE ?hv ?_ ?_); (case hv => first | rfl | (simp only [h1, h2, h3, h13, h14, h15, q2, q3, q5, g25, hx, cPump,go_sem, simprocAttr]; rfl)); all_goals (intro hc; (try simp only [go_sem, simprocAttr] at hc); try (exfalso; omega))) | with_reducible intro (ep : Nat → Nat) | with_reducible apply_assumption -exfalso -symm only [*])
   exact ⟨_, _, rfl, rfl, rfl, .inr ⟨_, rfl, by rw [Nat.zero_add] at hts; rw [hts]; simp [ints]⟩⟩
  ·have hkb : k ≤ 1073741823 := by omega
   have htl : ((n.pumps.take k).map fun p => p.full.lo).length = k := by simp; omega
   repeat' (first | (with_reducible refine sk ?_; intro K hK) | ((with_reducible first | refine rg (md := { base := 0, own := [2, 3, 5, 7, 25, 41] }) (h := ?_) | refine rgS [2, 3, 5, 7] (md := { base := 0, own := [2, 3, 5, 7, 25, 41] }) (h := ?_) | refine nx ?_); try simp (disch := omega) only [h1, h2, h3, h13, h14, h15, hH2, hH3, hH25, hx, hkb, htl, cPump,go_sem, simprocAttr]) | (with_reducible refine bk ?_) | ((with_reducible refine' cE ?hv ?_ ?_); (case hv => first | rfl | (simp only [h1, h2, h3, h13, h14, h15, hH2, hH3, hH25, hx, hkb, htl, cPump,go_sem, simprocAttr]; rfl)); all_goals (intro hc; (try simp only [go_sem, simprocAttr] at hc); try (exfalso; omega))) | with_reducible intro (ep : Nat → Nat) | with_reducible apply_assumption -exfalso -symm only [*])
   exact ⟨_, _, rfl, rfl, rfl, .inr ⟨_, rfl, by rw [hts]; simp [ints]⟩⟩
 ·rintro f H h15 h14 ⟨⟨h1, h13⟩, e3, e2, h3, h2, hH2, hh⟩
  rcases hh with ⟨hk0, _⟩ | ⟨_, ea, hH3, hH25⟩
  ·omega
  rw [List.take_of_length_le (Nat.le_refl _)] at hH25
  have hl1 : (n.pumps.map fun p => p.full.lo).length = n.pumps.length := List.length_map ..
  have hl2 : (n.pipes.map fun p => p.foul.hi).length = n.pipes.length := List.length_map ..
  obtain ⟨PL, hPL⟩ : ∃ PL, (n.pumps.map fun p => p.full.lo) = PL := ⟨_, rfl⟩
  obtain ⟨FL, hFL⟩ : ∃ FL, (n.pipes.map fun p => p.foul.hi) = FL := ⟨_, rfl⟩
  rw [hPL] at hH25 hl1
  rw [hFL] at hl2
  rw [hPL, hFL]
  repeat' (first | ((fail_if_success (with_reducible refine AW_at (id := 7) ?_)); with_reducible refine sk ?_; intro K hK) | ((with_reducible first | refine rg (md := { base := 0, own := [2, 3, 5, 7, 25, 41] }) (h := ?_) | refine rgS [2, 3, 5, 7] (md := { base := 0, own := [2, 3, 5, 7, 25, 41] }) (h := ?_) | refine nx ?_); try simp (disch := omega) only [h1,go_sem, simprocAttr]) | (with_reducible refine bk ?_) | ((with_reducible refine' cE ?hv ?_ ?_); (case hv => first | rfl | (simp only [h1,go_sem, simprocAttr]; rfl)); all_goals (intro hc; (try simp only [go_sem, simprocAttr] at hc); try (exfalso; omega))) | with_reducible intro (ep : Nat → Nat) | with_reducible apply_assumption -exfalso -symm only [*])
  have hcutE : ∀ f H, (∃ e3 e2 ea, f 3 = .ptr 3 e3 3 0 0 ∧ f 2 = .ptr 2 e2 3 0 0 ∧ H 2 = some (e2, .arr 3 [[.nils, .nils, .int .i64 0]]) ∧ H 3 = some (e3, .arr 3 [[.lst 1 (ints PL), .gr 41 ea n.pipes.length, .int .i64 n.tank.lo]]) ∧ H 41 = some (ea, .arr 1 (ints FL))) → K f H := by
   clear h1 h2 h3 h13 h14 h15 hH2 hH3 hH25
   rintro f H ⟨e3, e2, ea, h3, h2, hH2, hH3, hH41⟩
   refine hK f H ?_
   clear hK
   refine AW_thaw (k := 41) (j := 3) (n := 6) (by decide) hH41 hH3 fun H2 q3 hs2 => ?_
   rw [show fzd (upd H 41 (some (ea, .fro 1 (ints FL)))) 6 = fzd (upd H 41 (some (ea, .fro 1 (ints FL)))) 6 from rfl] at q3
   simp only [List.map_cons, List.map_nil, thawI hl2 (upd_same _ _ _), fzd_lst, fzd_ints, fzd_int] at q3
   have q2 : H2 2 = some (e2, .arr 3 [[.nils, .nils, .int .i64 0]]) := by rw [hs2 _ (by decide) (by decide)]; exact hH2
   repeat' (first | (with_reducible refine sk ?_; intro K hK) | ((with_reducible first | refine rg (md := { base := 0, own := [2, 3, 5, 7, 25, 41] }) (h := ?_) | refine rgS [2, 3, 5, 7] (md := { base := 0, own := [2, 3, 5, 7, 25, 41] }) (h := ?_) | refine nx ?_); try simp (disch := omega) only [h2, h3, q2, q3,go_sem, simprocAttr]) | (with_reducible refine bk ?_) | ((with_reducible refine' cE ?hv ?_ ?_); (case hv => first | rfl | (simp only [h2, h3, q2, q3,go_sem, simprocAttr]; rfl)); all_goals (intro hc; (try simp only [go_sem, simprocAttr] at hc); try (exfalso; omega))) | ((with_reducible refine fe ?_); refine ⟨_, (by simp only [Try.f42, h2, h3, q2, q3,go_sem, simprocAttr]; rfl), ?_⟩; first | rfl | (try simp only [h2, h3, q2, q3,go_sem, simprocAttr, seval])) | with_reducible intro (ep : Nat → Nat) | with_reducible apply_assumption -exfalso -symm only [*])
   unfold truV; rw [hPL, hFL]
  clear hK
  refine AW_thaw (k := 25) (j := 3) (n := 6) (by decide) hH25 hH3 fun H2 q3 hs2 => ?_
  simp only [List.map_cons, List.map_nil, thawI hl1 (upd_same _ _ _), fzd_nils, fzd_int] at q3
  have q2 : H2 2 = some (e2, .arr 3 [[.nils, .nils, .int .i64 0]]) := by rw [hs2 _ (by decide) (by decide)]; exact hH2
  clear hs2 hH3 hH25 hH2
  repeat' (first | (with_reducible refine sk ?_; intro K hK) | ((with_reducible first | refine rg (md := { base := 0, own := [2, 3, 5, 7, 25, 41] }) (h := ?_) | refine rgS [2, 3, 5, 7] (md := { base := 0, own := [2, 3, 5, 7, 25, 41] }) (h := ?_) | refine nx ?_); try simp (disch := omega) only [h1, h2, h3, cNet,go_sem, simprocAttr]) | (with_reducible refine bk ?_) | ((with_reducible refine' cE ?hv ?_ ?_); (case hv => first | rfl | (simp only [h1, h2, h3, cNet,go_sem, simprocAttr]; rfl)); all_goals (intro hc; (try simp only [go_sem, simprocAttr] at hc); try (exfalso; omega))) | with_reducible intro (ep : Nat → Nat) | with_reducible apply_assumption -exfalso -symm only [*])
  refine AW_range tabOK n.pipes.length (fun k f H => f 29 = .lst 4 (n.pipes.map cPipe) ∧ ∃ e3 e2, f 3 = .ptr 3 e3 3 0 0 ∧ f 2 = .ptr 2 e2 3 0 0 ∧ H 2 = some (e2, .arr 3 [[.nils, .nils, .int .i64 0]]) ∧ ((k = 0 ∧ H 3 = some (e3, .arr 3 [[.lst 1 (ints PL), .nils, .int .i64 n.tank.lo]])) ∨ (¬ k = 0 ∧ ∃ ea, H 3 = some (e3, .arr 3 [[.lst 1 (ints PL), .gr 41 ea k, .int .i64 n.tank.lo]]) ∧ H 41 = some (ea, .arr 1 (ints ((n.pipes.take k).map fun p => p.foul.hi)))))) (by omega) (by rw [hXs]; decide) (by decide) (by (first | rfl | (simp only [go_sem, simprocAttr]; done) | (simp only [go_sem, simprocAttr]; rfl))) (by (first | rfl | (simp only [go_sem, simprocAttr]; done) | (simp only [go_sem, simprocAttr]; rfl)))
   ⟨by (first | rfl | (simp only [go_sem, simprocAttr]; done) | (simp only [go_sem, simprocAttr]; rfl)), _, _, by (first | rfl | (simp only [h3, go_sem, simprocAttr]; done) | (simp only [h3, go_sem, simprocAttr]; rfl)), by (first | rfl | (simp only [h2, go_sem, simprocAttr]; done) | (simp only [h2, go_sem, simprocAttr]; rfl)), by (first | rfl | (simp only [q2, go_sem, simprocAttr]; done) | (simp only [q2, go_sem, simprocAttr]; rfl)), .inl ⟨rfl, by (first | rfl | (simp only [q3, go_sem, simprocAttr]; done) | (simp only [q3, go_sem, simprocAttr]; rfl))⟩⟩ ?_ ?_
  ·clear h1 h2 h3 h13 h14 h15 q2 q3 hcutE
   rintro k f H hk h31 h30 ⟨h29, e3, e2, h3, h2, hH2, hh⟩
   obtain ⟨x, hx⟩ : ∃ x, n.pipes[k]? = some x := ⟨_, List.getElem?_eq_getElem hk⟩
   have hts := map_snoc (g := fun p : PipeT => p.foul.hi) hx
   refine AW_keep [2, 3, 41] ?_
   rcases hh with ⟨hk0, hH3⟩ | ⟨hk0, ea, hH3, hH41⟩
   ·subst hk0
    refine AW_lose 41 fun H1 g41 hs1 => ?_
    have q3 : H1 3 = some (e3, .arr 3 [[.lst 1 (ints PL), .nils, .int .i64 n.tank.lo]]) := by rw [hs1 _ (by decide)]; exact hH3
    have q2 : H1 2 = some (e2, .arr 3 [[.nils, .nils, .int .i64 0]]) := by rw [hs1 _ (by decide)]; exact hH2
    have q7 : H1 7 = none := by rw [hs1 _ (by decide)]; rfl
    clear hs1
    repeat' (first | (with_reducible refine sk ?_; intro K hK) | ((with_reducible first | refine rg (md := { base := 0, own := [2, 3, 5, 7, 25, 41] }) (h := ?_) | refine rgS [2, 3, 5, 7] (md := { base := 0, own := [2, 3, 5, 7, 25, 41] }) (h := ?_) | refine nx ?_); try simp (disch := omega) only [h2, h3, h29, h30, h31, q2, q3, q7, g41, hx, cPipe,go_sem, simprocAttr]) | (with_reducible refine bk ?_) | ((with_reducible refine' cE ?hv ?_ ?_); (case hv => first | rfl | (simp only [h2, h3, h29, h30, h31, q2, q3, q7, g41, hx, cPipe,go_sem, simprocAttr]; rfl)); all_goals (intro hc; (try simp only [go_sem, simprocAttr] at hc); try (exfalso; omega))) | with_reducible intro (ep : Nat → Nat) | with_reducible apply_assumption -exfalso -symm only [*])
    exact ⟨_, _, rfl, rfl, rfl, .inr ⟨_, rfl, by rw [Nat.zero_add] at hts; rw [hts]; simp [ints]⟩⟩
   ·have hkb : k ≤ 1073741823 := by omega
    have htl : ((n.pipes.take k).map fun p => p.foul.hi).length = k := by simp; omega
    repeat' (first | (with_reducible refine sk ?_; intro K hK) | ((with_reducible first | refine rg (md := { base := 0, own := [2, 3, 5, 7, 25, 41] }) (h := ?_) | refine rgS [2, 3, 5, 7] (md := { base := 0, own := [2, 3, 5, 7, 25, 41] }) (h := ?_) | refine nx ?_); try simp (disch := omega) only [h2, h3, h29, h30, h31, hH2, hH3, hH41, hx, hkb, htl, cPipe,go_sem, simprocAttr]) | (with_reducible refine bk ?_) | ((with_reducible refine' cE ?hv ?_ ?_); (case hv => first | rfl | (simp only [h2, h3, h29, h30, h31, hH2, hH3, hH41, hx, hkb, htl, cPipe,go_sem, simprocAttr]; rfl)); all_goals (intro hc; (try simp only [go_sem, simprocAttr] at hc); try (exfalso; omega))) | with_reducible intro (ep : Nat → Nat) | with_reducible apply_assumption -exfalso -symm only [*])
    exact ⟨_, _, rfl, rfl, rfl, .inr ⟨_, rfl, by rw [hts]; simp [ints]⟩⟩
  ·clear h1 h2 h3 h13 h14 h15 q2 q3
   rintro f H h31 h30 ⟨h29, e3, e2, h3, h2, hH2, hh⟩
   rcases hh with ⟨hk0, _⟩ | ⟨_, ea, hH3, hH41⟩
   ·omega
   rw [List.take_of_length_le (Nat.le_refl _), hFL] at hH41
   repeat' (first | (with_reducible refine sk ?_; intro K hK) | ((with_reducible first | refine rg (md := { base := 0, own := [2, 3, 5, 7, 25, 41] }) (h := ?_) | refine rgS [2, 3, 5, 7] (md := { base := 0, own := [2, 3, 5, 7, 25, 41] }) (h := ?_) | refine nx ?_); try simp (disch := omega) only [h2, h3,go_sem, simprocAttr]) | (with_reducible refine bk ?_) | ((with_reducible refine' cE ?hv ?_ ?_); (case hv => first | rfl | (simp only [h2, h3,go_sem, simprocAttr]; rfl)); all_goals (intro hc; (try simp only [go_sem, simprocAttr] at hc); try (exfalso; omega))) | with_reducible intro (ep : Nat → Nat) | with_reducible apply_assumption -exfalso -symm only [*])
   exact ⟨e3, e2, ea, by (first | rfl | (simp only [h3, go_sem, simprocAttr]; done) | (simp only [h3, go_sem, simprocAttr]; rfl)), by (first | rfl | (simp only [h2, go_sem, simprocAttr]; done) | (simp only [h2, go_sem, simprocAttr]; rfl)), hH2, hH3, hH41⟩
theorem best_ok (n : NetT) (hF : NetF n) : PureC Try.prog 43 [encNet n] (.agg (truV (n.pumps.map fun p => p.full.hi) (n.pipes.map fun p => p.foul.lo) n.tank.hi)) := by
 have hpq := hF.pumps
 have hpl := hF.pipes
 refine PureC_of (fn := Try.f43) tabOK (by kernel_rfl) rfl (by kernel_rfl) (by simp [Try.f43]) (by simp [noids, noid, noidss, go_sem, encNet, cNet, truV]) (by first | rfl | simp [noids, noid, noidss, go_sem, encNet, cNet, truV]) ?_
 intro X hX0 hXs
 repeat' (first | (with_reducible refine sk ?_; intro K hK) | ((with_reducible first | refine rg (md := { base := 0, own := [2, 3, 5, 7, 25, 41] }) (h := ?_) | refine rgS [2, 3, 5, 7] (md := { base := 0, own := [2, 3, 5, 7, 25, 41] }) (h := ?_) | refine nx ?_); try simp (disch := omega) only [encNet, cNet,go_sem, simprocAttr]) | (with_reducible refine bk ?_) | ((with_reducible refine' cE ?hv ?_ ?_); (case hv => first | rfl | (simp only [encNet, cNet,go_sem, simprocAttr]; rfl)); all_goals (intro hc; (try simp only [go_sem, simprocAttr] at hc); try (exfalso; omega))) | with_reducible intro (ep : Nat → Nat) | with_reducible apply_assumption -exfalso -symm only [*])
 refine AW_range tabOK n.pumps.length (fun k f H => (f 1 = .pim (cNet n) ∧ f 13 = .lst 3 (n.pumps.map cPump)) ∧ ∃ e3 e2, f 3 = .ptr 3 e3 3 0 0 ∧ f 2 = .ptr 2 e2 3 0 0 ∧ H 2 = some (e2, .arr 3 [[.nils, .nils, .int .i64 0]]) ∧ ((k = 0 ∧ H 3 = some (e3, .arr 3 [[.nils, .nils, .int .i64 n.tank.hi]])) ∨ (¬ k = 0 ∧ ∃ ea, H 3 = some (e3, .arr 3 [[.gr 25 ea k, .nils, .int .i64 n.tank.hi]]) ∧ H 25 = some (ea, .arr 1 (ints ((n.pumps.take k).map fun p => p.full.hi)))))) (by omega) (by rw [hXs]; decide) (by decide) (by (first | rfl | (simp only [go_sem, simprocAttr]; done) | (simp only [go_sem, simprocAttr]; rfl))) (by (first | rfl | (simp only [go_sem, simprocAttr]; done) | (simp only [go_sem, simprocAttr]; rfl)))
  ⟨by (and_intros <;> first | rfl | (simp only [cNet, go_sem, simprocAttr]; done) | (simp only [cNet, go_sem, simprocAttr]; rfl)), _, _, by (first | rfl | (simp only [go_sem, simprocAttr]; done) | (simp only [go_sem, simprocAttr]; rfl)), by (first | rfl | (simp only [go_sem, simprocAttr]; done) | (simp only [go_sem, simprocAttr]; rfl)), by (first | rfl | (simp only [go_sem, simprocAttr]; done) | (simp only [go_sem, simprocAttr]; rfl)), .inl ⟨rfl, by (first | rfl | (simp only [go_sem, simprocAttr]; done) | (simp only [go_sem, simprocAttr]; rfl))⟩⟩ ?_ ?_
 ·rintro k f H hk h15 h14 ⟨⟨h1, h13⟩, e3, e2, h3, h2, hH2, hh⟩
  obtain ⟨x, hx⟩ : ∃ x, n.pumps[k]? = some x := ⟨_, List.getElem?_eq_getElem hk⟩
  have hts := map_snoc (g := fun p : PumpT => p.full.hi) hx
  refine AW_keep [2, 3, 25] ?_
  rcases hh with ⟨hk0, hH3⟩ | ⟨hk0, ea, hH3, hH25⟩
  ·subst hk0
   refine AW_lose 25 fun H1 g25 hs1 => ?_
   have q3 : H1 3 = some (e3, .arr 3 [[.nils, .nils, .int .i64 n.tank.hi]]) := by rw [hs1 _ (by decide)]; exact hH3
   have q2 : H1 2 = some (e2, .arr 3 [[.nils, .nils, .int .i64 0]]) := by rw [hs1 _ (by decide)]; exact hH2
   have q5 : H1 5 = none := by rw [hs1 _ (by decide)]; rfl
   clear hs1
   repeat' (first | (with_reducible refine sk ?_; intro K hK) | ((with_reducible first | refine rg (md := { base := 0, own := [2, 3, 5, 7, 25, 41] }) (h := ?_) | refine rgS [2, 3, 5, 7] (md := { base := 0, own := [2, 3, 5, 7, 25, 41] }) (h := ?_) | refine nx ?_); try simp (disch := omega) only [h1, h2, h3, h13, h14, h15, q2, q3, q5, g25, hx, cPump,go_sem, simprocAttr]) | (with_reducible refine bk ?_) | ((with_reducible refine' cE ?hv ?_ ?_); (case hv => first | rfl | (simp only [h1, h2, h3, h13, h14, h15, q2, q3, q5, g25, hx, cPump,go_sem, simprocAttr]; rfl)); all_goals (intro hc; (try simp only [go_sem, simprocAttr] at hc); try (exfalso; omega))) | with_reducible intro (ep : Nat → Nat) | with_reducible apply_assumption -exfalso -symm only [*])
   exact ⟨_, _, rfl, rfl, rfl, .inr ⟨_, rfl, by rw [Nat.zero_add] at hts; rw [hts]; simp [ints]⟩⟩
  ·have hkb : k ≤ 1073741823 := by omega
   have htl : ((n.pumps.take k).map fun p => p.full.hi).length = k := by simp; omega
   repeat' (first | (with_reducible refine sk ?_; intro K hK) | ((with_reducible first | refine rg (md := { base := 0, own := [2, 3, 5, 7, 25, 41] }) (h := ?_) | refine rgS [2, 3, 5, 7] (md := { base := 0, own := [2, 3, 5, 7, 25, 41] }) (h := ?_) | refine nx ?_); try simp (disch := omega) only [h1, h2, h3, h13, h14, h15, hH2, hH3, hH25, hx, hkb, htl, cPump,go_sem, simprocAttr]) | (with_reducible refine bk ?_) | ((with_reducible refine' cE ?hv ?_ ?_); (case hv => first | rfl | (simp only [h1, h2, h3, h13, h14, h15, hH2, hH3, hH25, hx, hkb, htl, cPump,go_sem, simprocAttr]; rfl)); all_goals (intro hc; (try simp only [go_sem, simprocAttr] at hc); try (exfalso; omega))) | with_reducible intro (ep : Nat → Nat) | with_reducible apply_assumption -exfalso -symm only [*])
   exact ⟨_, _, rfl, rfl, rfl, .inr ⟨_, rfl, by rw [hts]; simp [ints]⟩⟩
 ·rintro f H h15 h14 ⟨⟨h1, h13⟩, e3, e2, h3, h2, hH2, hh⟩
  rcases hh with ⟨hk0, _⟩ | ⟨_, ea, hH3, hH25⟩
  ·omega
  rw [List.take_of_length_le (Nat.le_refl _)] at hH25
  have hl1 : (n.pumps.map fun p => p.full.hi).length = n.pumps.length := List.length_map ..
  have hl2 : (n.pipes.map fun p => p.foul.lo).length = n.pipes.length := List.length_map ..
  obtain ⟨PL, hPL⟩ : ∃ PL, (n.pumps.map fun p => p.full.hi) = PL := ⟨_, rfl⟩
  obtain ⟨FL, hFL⟩ : ∃ FL, (n.pipes.map fun p => p.foul.lo) = FL := ⟨_, rfl⟩
  rw [hPL] at hH25 hl1
  rw [hFL] at hl2
  rw [hPL, hFL]
  repeat' (first | ((fail_if_success (with_reducible refine AW_at (id := 7) ?_)); with_reducible refine sk ?_; intro K hK) | ((with_reducible first | refine rg (md := { base := 0, own := [2, 3, 5, 7, 25, 41] }) (h := ?_) | refine rgS [2, 3, 5, 7] (md := { base := 0, own := [2, 3, 5, 7, 25, 41] }) (h := ?_) | refine nx ?_); try simp (disch := omega) only [h1,go_sem, simprocAttr]) | (with_reducible refine bk ?_) | ((with_reducible refine' cE ?hv ?_ ?_); (case hv => first | rfl | (simp only [h1,go_sem, simprocAttr]; rfl)); all_goals (intro hc; (try simp only [go_sem, simprocAttr] at hc); try (exfalso; omega))) | with_reducible intro (ep : Nat → Nat) | with_reducible apply_assumption -exfalso -symm only [*])
  have hcutE : ∀ f H, (∃ e3 e2 ea, f 3 = .ptr 3 e3 3 0 0 ∧ f 2 = .ptr 2 e2 3 0 0 ∧ H 2 = some (e2, .arr 3 [[.nils, .nils, .int .i64 0]]) ∧ H 3 = some (e3, .arr 3 [[.lst 1 (ints PL), .gr 41 ea n.pipes.length, .int .i64 n.tank.hi]]) ∧ H 41 = some (ea, .arr 1 (ints FL))) → K f H := by
   clear h1 h2 h3 h13 h14 h15 hH2 hH3 hH25
   rintro f H ⟨e3, e2, ea, h3, h2, hH2, hH3, hH41⟩
   refine hK f H ?_
   clear hK
   refine AW_thaw (k := 41) (j := 3) (n := 6) (by decide) hH41 hH3 fun H2 q3 hs2 => ?_
   rw [show fzd (upd H 41 (some (ea, .fro 1 (ints FL)))) 6 = fzd (upd H 41 (some (ea, .fro 1 (ints FL)))) 6 from rfl] at q3
   simp only [List.map_cons, List.map_nil, thawI hl2 (upd_same _ _ _), fzd_lst, fzd_ints, fzd_int] at q3
   have q2 : H2 2 = some (e2, .arr 3 [[.nils, .nils, .int .i64 0]]) := by rw [hs2 _ (by decide) (by decide)]; exact hH2
   repeat' (first | (with_reducible refine sk ?_; intro K hK) | ((with_reducible first | refine rg (md := { base := 0, own := [2, 3, 5, 7, 25, 41] }) (h := ?_) | refine rgS [2, 3, 5, 7] (md := { base := 0, own := [2, 3, 5, 7, 25, 41] }) (h := ?_) | refine nx ?_); try simp (disch := omega) only [h2, h3, q2, q3,go_sem, simprocAttr]) | (with_reducible refine bk ?_) | ((with_reducible refine' cE ?hv ?_ ?_); (case hv => first | rfl | (simp only [h2, h3, q2, q3,go_sem, simprocAttr]; rfl)); all_goals (intro hc; (try simp only [go_sem, simprocAttr] at hc); try (exfalso; omega))) | ((with_reducible refine fe ?_); refine ⟨_, (by simp only [Try.f43, h2, h3, q2, q3,go_sem, simprocAttr]; rfl), ?_⟩; first | rfl | (try simp only [h2, h3, q2, q3,go_sem, simprocAttr, seval])) | with_reducible intro (ep : Nat → Nat) | with_reducible apply_assumption -exfalso -symm only [*])
   unfold truV; rw [hPL, hFL]
  clear hK
  refine AW_thaw (k := 25) (j := 3) (n := 6) (by decide) hH25 hH3 fun H2 q3 hs2 => ?_
  simp only [List.map_cons, List.map_nil, thawI hl1 (upd_same _ _ _), fzd_nils, fzd_int] at q3
  have q2 : H2 2 = some (e2, .arr 3 [[.nils, .nils, .int .i64 0]]) := by rw [hs2 _ (by decide) (by decide)]; exact hH2
  clear hs2 hH3 hH25 hH2
  repeat' (first | (with_reducible refine sk ?_; intro K hK) | ((with_reducible first | refine rg (md := { base := 0, own := [2, 3, 5, 7, 25, 41] }) (h := ?_) | refine rgS [2, 3, 5, 7] (md := { base := 0, own := [2, 3, 5, 7, 25, 41] }) (h := ?_) | refine nx ?_); try simp (disch := omega) only [h1, h2, h3, cNet,go_sem, simprocAttr]) | (with_reducible refine bk ?_) | ((with_reducible refine' cE ?hv ?_ ?_); (case hv => first | rfl | (simp only [h1, h2, h3, cNet,go_sem, simprocAttr]; rfl)); all_goals (intro hc; (try simp only [go_sem, simprocAttr] at hc); try (exfalso; omega))) | with_reducible intro (ep : Nat → Nat) | with_reducible apply_assumption -exfalso -symm only [*])
  refine AW_range tabOK n.pipes.length (fun k f H => f 29 = .lst 4 (n.pipes.map cPipe) ∧ ∃ e3 e2, f 3 = .ptr 3 e3 3 0 0 ∧ f 2 = .ptr 2 e2 3 0 0 ∧ H 2 = some (e2, .arr 3 [[.nils, .nils, .int .i64 0]]) ∧ ((k = 0 ∧ H 3 = some (e3, .arr 3 [[.lst 1 (ints PL), .nils, .int .i64 n.tank.hi]])) ∨ (¬ k = 0 ∧ ∃ ea, H 3 = some (e3, .arr 3 [[.lst 1 (ints PL), .gr 41 ea k, .int .i64 n.tank.hi]]) ∧ H 41 = some (ea, .arr 1 (ints ((n.pipes.take k).map fun p => p.foul.lo)))))) (by omega) (by rw [hXs]; decide) (by decide) (by (first | rfl | (simp only [go_sem, simprocAttr]; done) | (simp only [go_sem, simprocAttr]; rfl))) (by (first | rfl | (simp only [go_sem, simprocAttr]; done) | (simp only [go_sem, simprocAttr]; rfl)))
   ⟨by (first | rfl | (simp only [go_sem, simprocAttr]; done) | (simp only [go_sem, simprocAttr]; rfl)), _, _, by (first | rfl | (simp only [h3, go_sem, simprocAttr]; done) | (simp only [h3, go_sem, simprocAttr]; rfl)), by (first | rfl | (simp only [h2, go_sem, simprocAttr]; done) | (simp only [h2, go_sem, simprocAttr]; rfl)), by (first | rfl | (simp only [q2, go_sem, simprocAttr]; done) | (simp only [q2, go_sem, simprocAttr]; rfl)), .inl ⟨rfl, by (first | rfl | (simp only [q3, go_sem, simprocAttr]; done) | (simp only [q3, go_sem, simprocAttr]; rfl))⟩⟩ ?_ ?_
  ·clear h1 h2 h3 h13 h14 h15 q2 q3 hcutE
   rintro k f H hk h31 h30 ⟨h29, e3, e2, h3, h2, hH2, hh⟩
   obtain ⟨x, hx⟩ : ∃ x, n.pipes[k]? = some x := ⟨_, List.getElem?_eq_getElem hk⟩
   have hts := map_snoc (g := fun p : PipeT => p.foul.lo) hx
   refine AW_keep [2, 3, 41] ?_
   rcases hh with ⟨hk0, hH3⟩ | ⟨hk0, ea, hH3, hH41⟩
   ·subst hk0
    refine AW_lose 41 fun H1 g41 hs1 => ?_
    have q3 : H1 3 = some (e3, .arr 3 [[.lst 1 (ints PL), .nils, .int .i64 n.tank.hi]]) := by rw [hs1 _ (by decide)]; exact hH3
    have q2 : H1 2 = some (e2, .arr 3 [[.nils, .nils, .int .i64 0]]) := by rw [hs1 _ (by decide)]; exact hH2
    have q7 : H1 7 = none := by rw [hs1 _ (by decide)]; rfl
    clear hs1
    repeat' (first | (with_reducible refine sk ?_; intro K hK) | ((with_reducible first | refine rg (md := { base := 0, own := [2, 3, 5, 7, 25, 41] }) (h := ?_) | refine rgS [2, 3, 5, 7] (md := { base := 0, own := [2, 3, 5, 7, 25, 41] }) (h := ?_) | refine nx ?_); try simp (disch := omega) only [h2, h3, h29, h30, h31, q2, q3, q7, g41, hx, cPipe,go_sem, simprocAttr]) | (with_reducible refine bk ?_) | ((with_reducible refine' cE ?hv ?_ ?_); (case hv => first | rfl | (simp only [h2, h3, h29, h30, h31, q2, q3, q7, g41, hx, cPipe,go_sem, simprocAttr]; rfl)); all_goals (intro hc; (try simp only [go_sem, simprocAttr] at hc); try (exfalso; omega))) | with_reducible intro (ep : Nat → Nat) | with_reducible apply_assumption -exfalso -symm only [*])
    exact ⟨_, _, rfl, rfl, rfl, .inr ⟨_, rfl, by rw [Nat.zero_add] at hts; rw [hts]; simp [ints]⟩⟩
   ·have hkb : k ≤ 1073741823 := by omega
    have htl : ((n.pipes.take k).map fun p => p.foul.lo).length = k := by simp; omega
    repeat' (first | (with_reducible refine sk ?_; intro K hK) | ((with_reducible first | refine rg (md := { base := 0, own := [2, 3, 5, 7, 25, 41] }) (h := ?_) | refine rgS [2, 3, 5, 7] (md := { base := 0, own := [2, 3, 5, 7, 25, 41] }) (h := ?_) | refine nx ?_); try simp (disch := omega) only [h2, h3, h29, h30, h31, hH2, hH3, hH41, hx, hkb, htl, cPipe,go_sem, simprocAttr]) | (with_reducible refine bk ?_) | ((with_reducible refine' cE ?hv ?_ ?_); (case hv => first | rfl | (simp only [h2, h3, h29, h30, h31, hH2, hH3, hH41, hx, hkb, htl, cPipe,go_sem, simprocAttr]; rfl)); all_goals (intro hc; (try simp only [go_sem, simprocAttr] at hc); try (exfalso; omega))) | with_reducible intro (ep : Nat → Nat) | with_reducible apply_assumption -exfalso -symm only [*])
    exact ⟨_, _, rfl, rfl, rfl, .inr ⟨_, rfl, by rw [hts]; simp [ints]⟩⟩
  ·clear h1 h2 h3 h13 h14 h15 q2 q3
   rintro f H h31 h30 ⟨h29, e3, e2, h3, h2, hH2, hh⟩
   rcases hh with ⟨hk0, _⟩ | ⟨_, ea, hH3, hH41⟩
   ·omega
   rw [List.take_of_length_le (Nat.le_refl _), hFL] at hH41
   repeat' (first | (with_reducible refine sk ?_; intro K hK) | ((with_reducible first | refine rg (md := { base := 0, own := [2, 3, 5, 7, 25, 41] }) (h := ?_) | refine rgS [2, 3, 5, 7] (md := { base := 0, own := [2, 3, 5, 7, 25, 41] }) (h := ?_) | refine nx ?_); try simp (disch := omega) only [h2, h3,go_sem, simprocAttr]) | (with_reducible refine bk ?_) | ((with_reducible refine' cE ?hv ?_ ?_); (case hv => first | rfl | (simp only [h2, h3,go_sem, simprocAttr]; rfl)); all_goals (intro hc; (try simp only [go_sem, simprocAttr] at hc); try (exfalso; omega))) | with_reducible intro (ep : Nat → Nat) | with_reducible apply_assumption -exfalso -symm only [*])
   exact ⟨e3, e2, ea, by (first | rfl | (simp only [h3, go_sem, simprocAttr]; done) | (simp only [h3, go_sem, simprocAttr]; rfl)), by (first | rfl | (simp only [h2, go_sem, simprocAttr]; done) | (simp only [h2, go_sem, simprocAttr]; rfl)), hH2, hH3, hH41⟩
end Cp
namespace Cp
open Go Go.Proofs
set_option maxRecDepth 10000
set_option maxHeartbeats 4000000
theorem tru_end {n : NetT} (hF : NetF n) (best : Bool) : TruF n (n.pumps.map (fullE best)) (n.pipes.map (foulE best)) where
 lenF := List.length_map ..
 lenG := List.length_map ..
 fb := fun x hx => by
  obtain ⟨p, hp, rfl⟩ := List.mem_map.1 hx
  exact fullE_bnd (hF.pump p hp).1 best
 gb := fun x hx => by
  obtain ⟨p, hp, rfl⟩ := List.mem_map.1 hx
  obtain ⟨i, hi⟩ := List.mem_iff_getElem?.1 hp
  exact foulE_bnd (hF.pipe i p hi).2.2 best
theorem presses_end (n : NetT) (hF : NetF n) (l : List Int) (hl : l.length ≤ 100000) (ho : openOK n.heads l = true) (out : List Int) (hno : outOK n out = true) (best : Bool) (tank : Int) :
  PureC Try.prog 40 [encNet n, .lst 1 (ints l), .lst 1 (ints out), .agg (truV (n.pumps.map (fullE best)) (n.pipes.map (foulE best)) tank)] (.lst 1 (ints ((openH n.heads l).map (pressS n (openH n.heads l) out best)))) := by
 have h := presses_ok n hF l hl out hno _ _ (tru_end hF best) tank
 obtain ⟨o1, o2⟩ := okL_none ho
 have hof : openH n.heads l = opF n.heads l := open_filter hF.ids o2 o1
 rw [← hof] at h
 have e : (openH n.heads l).map (pressG n (openH n.heads l) out (n.pumps.map (fullE best)) (n.pipes.map (foulE best))) = (openH n.heads l).map (pressS n (openH n.heads l) out best) :=
  List.map_congr_left fun x hx => pressG_end hF (openH_500 hF l) hno best (openH_node hF hx)
 rwa [e] at h
theorem ends_law (n : NetT) (b : Int) (b0 : 0 ≤ b) (b1 : b ≤ 255) (c : Int) (c0 : 0 ≤ c) (c1 : c ≤ 255) : PureC Try.prog 7 [encNet n, .int .u8 b, .int .u8 c] (.bool true) := by
 have hrd := ready_ok n
 simp only [encNet, cNet] at hrd
 by_cases hr : (!greatN n && netOK n) = true
 ·have hr2 : greatN n = false ∧ netOK n = true := by simpa using hr
  have hs := great_small hr2.1
  have hF := net_facts hr2.2
  have hpq := hF.pumps
  have hhl := hF.heads
  rw [hr] at hrd
  have hso := some_ok n (by omega) b ⟨b0, b1⟩
  have hid := idle_ok n (by omega) c ⟨c0, c1⟩
  have hopen := some_ok' hF b
  have hno := idle_ok' hF c
  obtain ⟨ho1, ho2⟩ := okL_none hopen
  obtain ⟨q1, q2, q3⟩ := out_facts hno
  have hol : (someL n.heads b).length ≤ n.heads.length := someF_len
  have hoo := hF.out
  have hpr := Press_ok n hs (someL n.heads b) (by omega) (idleL n c) (by omega)
  unfold pressT pressV at hpr
  rw [if_pos hr2.2, if_pos ⟨hopen, hno⟩] at hpr
  have hw := worst_ok n hF
  have hb := best_ok n hF
  have hp0 := presses_end n hF (someL n.heads b) (by omega) hopen (idleL n c) hno false n.tank.lo
  have hp1 := presses_end n hF (someL n.heads b) (by omega) hopen (idleL n c) hno true n.tank.hi
  have hlen := openH_len' ho1
  simp only [show fullE false = fun p : PumpT => p.full.lo from rfl, show foulE false = fun p : PipeT => p.foul.hi from rfl] at hp0
  simp only [show fullE true = fun p : PumpT => p.full.hi from rfl, show foulE true = fun p : PipeT => p.foul.lo from rfl] at hp1
  obtain ⟨O, hO⟩ : ∃ O, someL n.heads b = O := ⟨_, rfl⟩
  obtain ⟨I, hI⟩ : ∃ I, idleL n c = I := ⟨_, rfl⟩
  rw [hO] at hso hpr hp0 hp1 hlen hol
  rw [hI] at hid hpr hp0 hp1
  obtain ⟨L, hL⟩ : ∃ L, openH n.heads O = L := ⟨_, rfl⟩
  rw [hL] at hpr hp0 hp1 hlen
  obtain ⟨PL, hPL⟩ : ∃ x, (n.pumps.map fun p => p.full.lo) = x := ⟨_, rfl⟩
  obtain ⟨FL, hFL⟩ : ∃ x, (n.pipes.map fun p => p.foul.hi) = x := ⟨_, rfl⟩
  obtain ⟨PH, hPH⟩ : ∃ x, (n.pumps.map fun p => p.full.hi) = x := ⟨_, rfl⟩
  obtain ⟨FH, hFH⟩ : ∃ x, (n.pipes.map fun p => p.foul.lo) = x := ⟨_, rfl⟩
  rw [hPL, hFL] at hw hp0
  rw [hPH, hFH] at hb hp1
  have hge : ∀ (k : Nat) (x : HeadT), L[k]? = some x → (L.map (spanS n L I))[k]? = some ⟨pressS n L I false x, pressS n L I true x⟩ ∧ (L.map (pressS n L I false))[k]? = some (pressS n L I false x) ∧ (L.map (pressS n L I true))[k]? = some (pressS n L I true x) := fun k x hx => by
   simp [hx, spanS]
  have hl0 : (L.map (spanS n L I)).length = L.length := List.length_map ..
  have hl1 : (L.map (pressS n L I false)).length = L.length := List.length_map ..
  have hl2 : (L.map (pressS n L I true)).length = L.length := List.length_map ..
  obtain ⟨S, hS⟩ : ∃ S, L.map (spanS n L I) = S := ⟨_, rfl⟩
  obtain ⟨A, hA⟩ : ∃ A, L.map (pressS n L I false) = A := ⟨_, rfl⟩
  obtain ⟨B, hB⟩ : ∃ B, L.map (pressS n L I true) = B := ⟨_, rfl⟩
  rw [hS] at hpr hl0
  rw [hA] at hp0 hl1
  rw [hB] at hp1 hl2
  simp only [hS, hA, hB] at hge
  simp only [encNet, cNet] at hso hid hpr hw hb hp0 hp1
  have hSO : (S.length : Int) = O.length := by omega
  refine PureC_of (fn := Try.f7) tabOK (by kernel_rfl) rfl (by kernel_rfl) (by simp [Try.f7]) (by simp [noids, noid, noidss, go_sem, encNet, cNet]) (by first | rfl | simp [noids, noid, noidss, go_sem, encNet, cNet]) ?_
  intro X hX0 hXs
  repeat' (first | ((fail_if_success (with_reducible refine AW_at (id := 11) ?_)); with_reducible refine sk ?_; intro K hK) | ((first | (with_reducible first | refine rg (h := ?_) | refine nx ?_) | refine pK (alive_run) ?_ | refine pK (hrd) ?_ | refine pK (hso) ?_ | refine pK (hid) ?_ | refine pK (hpr) ?_ | refine pK (hw) ?_ | refine pK (hb) ?_ | refine pK (hp0) ?_ | refine pK (hp1) ?_); try simp (disch := omega) only [encNet, cNet, hSO, List.length_map,go_sem, simprocAttr]) | (with_reducible refine bk ?_) | ((with_reducible refine' cE ?hv ?_ ?_); (case hv => first | rfl | (simp only [encNet, cNet, hSO, List.length_map,go_sem, simprocAttr]; rfl)); all_goals (intro hc; (try simp only [go_sem, simprocAttr] at hc); try (exfalso; omega))) | ((with_reducible first | refine grdS_split ?_ ?_ | refine lkG_split ?_ ?_) <;> intro hg <;> (try simp (disch := omega) only [hg, encNet, cNet, hSO, List.length_map,go_sem, simprocAttr]) <;> (try simp only [go_sem, simprocAttr] at hg) <;> (try (exfalso; omega))) | ((with_reducible refine fe ?_); refine ⟨_, (by simp only [Try.f7, encNet, cNet, hSO, List.length_map,go_sem, simprocAttr]; rfl), ?_⟩; first | rfl | (try simp only [encNet, cNet, hSO, List.length_map,go_sem, simprocAttr, seval])) | with_reducible intro (ep : Nat → Nat) | with_reducible apply_assumption -exfalso -symm only [*])
  have hcut : ∀ f H, f 7 = .bool true → K f H := by
   intro f H h7
   refine hK f H ?_
   clear hK
   repeat' (first | (with_reducible refine sk ?_; intro K hK) | ((with_reducible first | refine rg (h := ?_) | refine nx ?_); try simp (disch := omega) only [h7,go_sem, simprocAttr]) | (with_reducible refine bk ?_) | ((with_reducible refine' cE ?hv ?_ ?_); (case hv => first | rfl | (simp only [h7,go_sem, simprocAttr]; rfl)); all_goals (intro hc; (try simp only [go_sem, simprocAttr] at hc); try (exfalso; omega))) | ((with_reducible first | refine grdS_split ?_ ?_ | refine lkG_split ?_ ?_) <;> intro hg <;> (try simp (disch := omega) only [hg, h7,go_sem, simprocAttr]) <;> (try simp only [go_sem, simprocAttr] at hg) <;> (try (exfalso; omega))) | ((with_reducible refine fe ?_); refine ⟨_, (by simp only [Try.f7, h7,go_sem, simprocAttr]; rfl), ?_⟩; first | rfl | (try simp only [h7,go_sem, simprocAttr, seval])) | with_reducible intro (ep : Nat → Nat) | with_reducible apply_assumption -exfalso -symm only [*])
  clear hK
  repeat' (first | (with_reducible refine sk ?_; intro K hK) | ((with_reducible first | refine rg (h := ?_) | refine nx ?_); try simp (disch := omega) only [go_sem, simprocAttr]) | (with_reducible refine bk ?_) | ((with_reducible refine' cE ?hv ?_ ?_); (case hv => first | rfl | (simp only [go_sem, simprocAttr]; rfl)); all_goals (intro hc; (try simp only [go_sem, simprocAttr] at hc); try (exfalso; omega))) | ((with_reducible first | refine grdS_split ?_ ?_ | refine lkG_split ?_ ?_) <;> intro hg <;> (try simp (disch := omega) only [hg, go_sem, simprocAttr]) <;> (try simp only [go_sem, simprocAttr] at hg) <;> (try (exfalso; omega))) | with_reducible intro (ep : Nat → Nat) | with_reducible apply_assumption -exfalso -symm only [*])
  refine AW_range tabOK S.length (fun k f H => f 7 = .bool true ∧ f 10 = .lst 2 (S.map cSpan) ∧ f 12 = .lst 1 (ints A) ∧ f 13 = .lst 1 (ints B)) (by omega) (by rw [hXs]; decide) (by decide) (by (first | rfl | (simp only [go_sem, simprocAttr]; done) | (simp only [go_sem, simprocAttr]; rfl))) (by (first | rfl | (simp only [List.length_map, go_sem, simprocAttr]; done) | (simp only [List.length_map, go_sem, simprocAttr]; rfl)))
   ⟨by (first | rfl | (simp only [go_sem, simprocAttr]; done) | (simp only [go_sem, simprocAttr]; rfl)), by (first | rfl | (simp only [go_sem, simprocAttr]; done) | (simp only [go_sem, simprocAttr]; rfl)), by (first | rfl | (simp only [go_sem, simprocAttr]; done) | (simp only [go_sem, simprocAttr]; rfl)), by (first | rfl | (simp only [go_sem, simprocAttr]; done) | (simp only [go_sem, simprocAttr]; rfl))⟩ ?_ ?_
  ·clear hcut
   rintro k f H hk h58 h57 ⟨h7, h10, h12, h13⟩
   obtain ⟨x, hx⟩ : ∃ x, L[k]? = some x := ⟨_, List.getElem?_eq_getElem (by omega)⟩
   obtain ⟨x1, x2, x3⟩ := hge k x hx
   repeat' (first | (with_reducible refine sk ?_; intro K hK) | ((first | (with_reducible first | refine rg (h := ?_) | refine nx ?_) | refine pK (lspan_ok _ _) ?_); try simp (disch := omega) only [h7, h10, h12, h13, h57, h58, x1, x2, x3, cSpan, encSpan, Bool.true_and,go_sem, simprocAttr]) | (with_reducible refine bk ?_) | ((with_reducible refine' cE ?hv ?_ ?_); (case hv => first | rfl | (simp only [h7, h10, h12, h13, h57, h58, x1, x2, x3, cSpan, encSpan, Bool.true_and,go_sem, simprocAttr]; rfl)); all_goals (intro hc; (try simp only [go_sem, simprocAttr] at hc); try (exfalso; omega))) | ((with_reducible first | refine grdS_split ?_ ?_ | refine lkG_split ?_ ?_) <;> intro hg <;> (try simp (disch := omega) only [hg, h7, h10, h12, h13, h57, h58, x1, x2, x3, cSpan, encSpan, Bool.true_and,go_sem, simprocAttr]) <;> (try simp only [go_sem, simprocAttr] at hg) <;> (try (exfalso; omega))) | with_reducible intro (ep : Nat → Nat) | with_reducible apply_assumption -exfalso -symm only [*])
  ·rintro f H h58 h57 ⟨h7, h10, h12, h13⟩
   repeat' (first | (with_reducible refine sk ?_; intro K hK) | ((with_reducible first | refine rg (h := ?_) | refine nx ?_); try simp (disch := omega) only [h7,go_sem, simprocAttr]) | (with_reducible refine bk ?_) | ((with_reducible refine' cE ?hv ?_ ?_); (case hv => first | rfl | (simp only [h7,go_sem, simprocAttr]; rfl)); all_goals (intro hc; (try simp only [go_sem, simprocAttr] at hc); try (exfalso; omega))) | ((with_reducible first | refine grdS_split ?_ ?_ | refine lkG_split ?_ ?_) <;> intro hg <;> (try simp (disch := omega) only [hg, h7,go_sem, simprocAttr]) <;> (try simp only [go_sem, simprocAttr] at hg) <;> (try (exfalso; omega))) | with_reducible intro (ep : Nat → Nat) | with_reducible apply_assumption -exfalso -symm only [*])
 ·simp only [Bool.not_eq_true] at hr
  rw [hr] at hrd
  refine PureC_of (fn := Try.f7) tabOK (by kernel_rfl) rfl (by kernel_rfl) (by simp [Try.f7]) (by simp [noids, noid, noidss, go_sem, encNet, cNet]) (by first | rfl | simp [noids, noid, noidss, go_sem, encNet, cNet]) ?_
  intro X hX0 hXs
  repeat' (first | (with_reducible refine sk ?_; intro K hK) | ((first | (with_reducible first | refine rg (h := ?_) | refine nx ?_) | refine pK (alive_run) ?_ | refine pK (hrd) ?_); try simp (disch := omega) only [encNet, cNet,go_sem, simprocAttr]) | (with_reducible refine bk ?_) | ((with_reducible refine' cE ?hv ?_ ?_); (case hv => first | rfl | (simp only [encNet, cNet,go_sem, simprocAttr]; rfl)); all_goals (intro hc; (try simp only [go_sem, simprocAttr] at hc); try (exfalso; omega))) | ((with_reducible first | refine grdS_split ?_ ?_ | refine lkG_split ?_ ?_) <;> intro hg <;> (try simp (disch := omega) only [hg, encNet, cNet,go_sem, simprocAttr]) <;> (try simp only [go_sem, simprocAttr] at hg) <;> (try (exfalso; omega))) | ((with_reducible refine fe ?_); refine ⟨_, (by simp only [Try.f7, encNet, cNet,go_sem, simprocAttr]; rfl), ?_⟩; first | rfl | (try simp only [encNet, cNet,go_sem, simprocAttr, seval])) | with_reducible intro (ep : Nat → Nat) | with_reducible apply_assumption -exfalso -symm only [*])
end Cp
namespace Cp
open Go
theorem fit_map {α : Type} {c : α → List Val} : ∀ {xss : List (List Val)}, (∀ es ∈ xss, ∃ x, es = c x) → ∃ l : List α, xss = l.map c
 | [], _ => ⟨[], rfl⟩
 | es :: xss, h => by
  obtain ⟨x, rfl⟩ := h es (by simp)
  obtain ⟨l, rfl⟩ := fit_map fun es he => h es (List.mem_cons_of_mem _ he)
  exact ⟨x :: l, rfl⟩
theorem fit_slice {T : Tab} {n : Nat} {t e sz : Nat} {vs : List Val} {b b2 s1 : Nat} {z z2 : Val} {p p2 : Bool} {k2 : TK} {α : Type} {c : α → List Val} (ht : T t = some { kind := .slice e, sz := s1, bytes := b, zero := z, plain := p })
  (he : T e = some { kind := k2, sz := sz, bytes := b2, zero := z2, plain := p2 }) (h : Fit T (n + 1) t vs) (hc : ∀ es, Fit T n e es → ∃ x, es = c x) : ∃ l : List α, vs = [.lst sz (l.map c)] := by
 simp only [Fit, ht] at h
 obtain ⟨sz', xss, rfl, hs, _, hx⟩ := h
 rw [he] at hs
 cases hs
 obtain ⟨l, rfl⟩ := fit_map (c := c) fun es hes => hc es (hx es hes).2
 exact ⟨l, rfl⟩
theorem fit_struct {T : Tab} {n : Nat} {t sz : Nat} {vs : List Val} {b : Nat} {z : Val} {p : Bool} {fs : List (Nat × Nat)} (ht : T t = some { kind := .struct fs, sz := sz, bytes := b, zero := z, plain := p }) (h : Fit T (n + 1) t vs) :
  vs.length = sz ∧ ∀ q ∈ fs, ∃ fi, T q.2 = some fi ∧ Fit T n q.2 ((vs.drop q.1).take fi.sz) := by
 simp only [Fit, ht] at h
 exact h
theorem fit_int {T : Tab} {n : Nat} {t : Nat} {vs : List Val} {s b : Nat} {z : Val} {p : Bool} {k : IntKind} (ht : T t = some { kind := .int k, sz := s, bytes := b, zero := z, plain := p }) (h : Fit T (n + 1) t vs) : ∃ m, vs = [.int k m] ∧ (Lit.int k m).wf = true := by
 simp only [Fit, ht] at h
 exact h
theorem fit3 {n : Nat} {vs : List Val} (h : Fit tab (n + 1) 3 vs) : ∃ m, vs = [.int .i64 m] := by
 obtain ⟨m, h, _⟩ := fit_int tab_3 h; exact ⟨m, h⟩
theorem fit_two {n : Nat} {vs : List Val} {t b : Nat} {z : Val} {p : Bool} (ht : tab t = some { kind := .struct [(0, 3), (1, 3)], sz := 2, bytes := b, zero := z, plain := p }) (h : Fit tab (n + 2) t vs) : ∃ x y : Int, vs = [.int .i64 x, .int .i64 y] := by
 obtain ⟨hl, hq⟩ := fit_struct ht h
 match vs, hl with
 | [a, b], _ =>
  obtain ⟨fi, e, h0⟩ := hq (0, 3) (by simp)
  rw [tab_3] at e; cases e
  obtain ⟨fi, e, h1⟩ := hq (1, 3) (by simp)
  rw [tab_3] at e; cases e
  obtain ⟨x, hx⟩ := fit3 h0
  obtain ⟨y, hy⟩ := fit3 h1
  simp at hx hy
  exact ⟨x, y, by rw [hx, hy]⟩
theorem fit_span {n : Nat} {vs : List Val} (h : Fit tab (n + 2) 26 vs) : ∃ s : Span, vs = [.int .i64 s.lo, .int .i64 s.hi] := by
 obtain ⟨x, y, h⟩ := fit_two tab_26 h; exact ⟨⟨x, y⟩, h⟩
theorem fit_pipe {n : Nat} {vs : List Val} (h : Fit tab (n + 3) 89 vs) : ∃ x : PipeT, vs = cPipe x := by
 obtain ⟨hl, hq⟩ := fit_struct tab_89 h
 match vs, hl with
 | [a0, a1, a2, a3], _ =>
  obtain ⟨fi, e0, h0⟩ := hq (0, 3) (by simp)
  rw [tab_3] at e0; cases e0
  obtain ⟨fi, e1, h1⟩ := hq (1, 3) (by simp)
  rw [tab_3] at e1; cases e1
  obtain ⟨fi, e2, h2⟩ := hq (2, 26) (by simp)
  rw [tab_26] at e2; cases e2
  obtain ⟨x0, h0⟩ := fit3 h0
  obtain ⟨x1, h1⟩ := fit3 h1
  obtain ⟨x2, h2⟩ := fit_span h2
  simp at h0 h1 h2
  obtain ⟨h2, h2'⟩ := h2
  exact ⟨⟨x0, x1, x2⟩, by rw [h0, h1, h2, h2']; rfl⟩
theorem fit_head {n : Nat} {vs : List Val} (h : Fit tab (n + 3) 61 vs) : ∃ x : HeadT, vs = cHead x := by
 obtain ⟨hl, hq⟩ := fit_struct tab_61 h
 match vs, hl with
 | [a0, a1, a2, a3, a4, a5, a6, a7], _ =>
  obtain ⟨fi, e0, h0⟩ := hq (0, 3) (by simp)
  rw [tab_3] at e0; cases e0
  obtain ⟨fi, e1, h1⟩ := hq (1, 3) (by simp)
  rw [tab_3] at e1; cases e1
  obtain ⟨fi, e2, h2⟩ := hq (2, 3) (by simp)
  rw [tab_3] at e2; cases e2
  obtain ⟨fi, e3, h3⟩ := hq (3, 3) (by simp)
  rw [tab_3] at e3; cases e3
  obtain ⟨fi, e4, h4⟩ := hq (4, 26) (by simp)
  rw [tab_26] at e4; cases e4
  obtain ⟨fi, e5, h5⟩ := hq (6, 26) (by simp)
  rw [tab_26] at e5; cases e5
  obtain ⟨x0, h0⟩ := fit3 h0
  obtain ⟨x1, h1⟩ := fit3 h1
  obtain ⟨x2, h2⟩ := fit3 h2
  obtain ⟨x3, h3⟩ := fit3 h3
  obtain ⟨x4, h4⟩ := fit_span h4
  obtain ⟨x5, h5⟩ := fit_span h5
  simp at h0 h1 h2 h3 h4 h5
  obtain ⟨h4, h4'⟩ := h4
  obtain ⟨h5, h5'⟩ := h5
  exact ⟨⟨x0, x1, x2, x3, x4, x5⟩, by rw [h0, h1, h2, h3, h4, h4', h5, h5']; rfl⟩
theorem fit_pump {n : Nat} {vs : List Val} (h : Fit tab (n + 3) 94 vs) : ∃ x : PumpT, vs = cPump x := by
 obtain ⟨hl, hq⟩ := fit_struct tab_94 h
 match vs, hl with
 | [a0, a1, a2], _ =>
  obtain ⟨fi, e0, h0⟩ := hq (0, 26) (by simp)
  rw [tab_26] at e0; cases e0
  obtain ⟨fi, e1, h1⟩ := hq (2, 3) (by simp)
  rw [tab_3] at e1; cases e1
  obtain ⟨x0, h0⟩ := fit_span h0
  obtain ⟨x1, h1⟩ := fit3 h1
  simp at h0 h1
  obtain ⟨h0, h0'⟩ := h0
  exact ⟨⟨x0, x1⟩, by rw [h0, h0', h1]; rfl⟩
theorem fit_net {n : Nat} {vs : List Val} (h : Fit tab (n + 5) 28 vs) : ∃ x : NetT, vs = cNet x := by
 obtain ⟨hl, hq⟩ := fit_struct tab_28 h
 match vs, hl with
 | [a0, a1, a2, a3, a4, a5, a6], _ =>
  obtain ⟨fi, e0, h0⟩ := hq (0, 22) (by simp)
  rw [tab_22] at e0; cases e0
  obtain ⟨fi, e1, h1⟩ := hq (1, 23) (by simp)
  rw [tab_23] at e1; cases e1
  obtain ⟨fi, e2, h2⟩ := hq (2, 24) (by simp)
  rw [tab_24] at e2; cases e2
  obtain ⟨fi, e3, h3⟩ := hq (3, 3) (by simp)
  rw [tab_3] at e3; cases e3
  obtain ⟨fi, e4, h4⟩ := hq (4, 26) (by simp)
  rw [tab_26] at e4; cases e4
  obtain ⟨fi, e5, h5⟩ := hq (6, 3) (by simp)
  rw [tab_3] at e5; cases e5
  obtain ⟨x0, h0⟩ := fit_slice tab_22 tab_89 h0 fun es he => fit_pipe he
  obtain ⟨x1, h1⟩ := fit_slice tab_23 tab_61 h1 fun es he => fit_head he
  obtain ⟨x2, h2⟩ := fit_slice tab_24 tab_94 h2 fun es he => fit_pump he
  obtain ⟨x3, h3⟩ := fit3 h3
  obtain ⟨x4, h4⟩ := fit_span h4
  obtain ⟨x5, h5⟩ := fit3 h5
  simp at h0 h1 h2 h3 h4 h5
  obtain ⟨h4, h4'⟩ := h4
  exact ⟨⟨x0, x1, x2, x3, x4, x5⟩, by rw [h0, h1, h2, h3, h4, h4', h5]; rfl⟩
theorem arg_byte {a : Val} (h : FitV tab 8 5 a) : ∃ m, a = .int .u8 m ∧ 0 ≤ m ∧ m ≤ 255 := by
 obtain ⟨ti, cs, e, h, _, rfl⟩ := h
 obtain ⟨m, rfl, hw⟩ := fit_int tab_5 h
 rw [tab_5] at e; cases e
 simp [Lit.wf, IntKind.min, IntKind.max, IntKind.signed, IntKind.bits] at hw
 exact ⟨m, rfl, by omega, by omega⟩
theorem arg_net {a : Val} (h : FitV tab 8 28 a) : ∃ x : NetT, a = encNet x := by
 obtain ⟨ti, cs, e, h, _, rfl⟩ := h
 obtain ⟨l, rfl⟩ := fit_net h
 rw [tab_28] at e; cases e; exact ⟨l, rfl⟩
end Cp
