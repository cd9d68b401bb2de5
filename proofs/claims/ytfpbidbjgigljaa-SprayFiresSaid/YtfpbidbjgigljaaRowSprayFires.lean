/- The statement, proved. Conditions: none. -/
import Derived.Test.YtfpbidbjgigljaaRows
import Derived.WalkKit
import Derived.ProofKit
import Derived.OpenShut
import Derived.ShutString
import Derived.ChangeOld
import Derived.Below
import Derived.Carry
import Derived.SizedLaws
import Derived.Test.YtfpbidbjgigljaaP11
set_option linter.unusedVariables false
set_option linter.unusedSimpArgs false
set_option linter.unusedSectionVars false
namespace Go.Proofs.Ytfpbidbjgigljaa.sprayFires
open Go.ChangeShapes Go.WideShapes Go.ChangeAt Go.RowKit
open Go.ChangeMaps (open_string shut_string)
theorem own : ownKnob Try.prog.godebug = none := by kernel_rfl
theorem laidOut : laidOutB Try.prog = true := by kernel_rfl
set_option maxRecDepth 100000 in
theorem lifted (os : Os) (started : os.Started) (H : Type) (enc : TypeId × Value → H) :
  ReturnsInHanded {} Try.checked os 5 .any (Rows.sprayFiresSpec.pre6 enc Try.prog Try.f5 Rows.sprayFiresRow.domain false) (Rows.sprayFiresSpec.post enc Try.prog Try.f5 false true false false) := by
 refine returnsInHanded_of_change_sized (C := Try.checked) own started (by kernel_rfl) Try.func5
  (ChangeSpec.witness6 (enc := enc) (C := Try.checked) false ⟨#[], #[.agg #[.slice none 0 0, .slice none 0 0, .slice none 0 0, .int .i64 0, .int .i64 0, .int .i64 0, .int .i64 0], .agg #[.int .i64 0, .int .i64 0, .int .i64 0, .int .i64 0, .int .i64 0, .int .i64 0, .int .i64 0, .int .i64 0], .slice none 0 0], []⟩ 8 (by kernel_rfl) (by kernel_rfl) (by kernel_rfl) (by kernel_rfl)) ?_
 intro W base args ds gs before hval0 hW hcnd hsz0 _
 have hval : ∀ (j : Nat) t v, Try.f5.params[j]? = some t → args[j]? = some v → Value.okWide Try.prog W .any base t v := hval0
 have hW' := hW
 obtain ⟨p, q, hA0, hV, rfl, hfz, hnd⟩ := hW
 have hA : DataW.TrodAll enc Try.prog W 0 (fun _ => true) true Try.f5.params.toList args.toList ds p := hA0
 rw [Try.params5] at hA hval
 obtain ⟨v0, vs0, d0, ds0, p0, q0, hargs, rfl, rfl, h0, r0⟩ := trodAll_cons hA
 obtain ⟨v1, vs1, d1, ds1, p1, q1, rfl, rfl, rfl, h1, r1⟩ := trodAll_cons r0
 obtain ⟨v2, vs2, d2, ds2, p2, q2, rfl, rfl, rfl, h2, r2⟩ := trodAll_cons r1
 obtain ⟨rfl, rfl, rfl⟩ := trodAll_nil r2
 obtain rfl : args = #[v0, v1, v2] := by cases args; simp_all
 obtain ⟨rfl, rfl⟩ := trodVars_none hV
 have lt0 : ∀ x ∈ p0, x.block < W.heap.size := by obtain ⟨m, hm⟩ := h0; exact DataW.trod_lt m _ _ _ hm
 obtain ⟨a0, y0, z0⟩ := Cp.arg_fit (T := Cp.tab) (G := Cp.G00 W) (n := 8) Cp.tabOK (fun b hb => hb) Cp.tab_28 (by kernel_rfl) (by decide) (hval 0 28 v0 rfl rfl) h0
 have lt1 : ∀ x ∈ p1, x.block < W.heap.size := by obtain ⟨m, hm⟩ := h1; exact DataW.trod_lt m _ _ _ hm
 obtain ⟨a1, y1, z1⟩ := Cp.arg_fit (T := Cp.tab) (G := Cp.G00 W) (n := 8) Cp.tabOK (fun b hb => hb) Cp.tab_61 (by kernel_rfl) (by decide) (hval 1 61 v1 rfl rfl) h1
 have lt2 : ∀ x ∈ p2, x.block < W.heap.size := by obtain ⟨m, hm⟩ := h2; exact DataW.trod_lt m _ _ _ hm
 obtain ⟨a2, y2, z2⟩ := Cp.arg_fit (T := Cp.tab) (G := Cp.G00 W) (n := 8) Cp.tabOK (fun b hb => hb) Cp.tab_62 (by kernel_rfl) (by decide) (hval 2 62 v2 rfl rfl) h2
 clear hA0 hval0 hsz0
 have hv : Cp.VRs (Cp.G00 W) W [a0, a1, a2] #[v0, v1, v2] := ⟨rfl, fun i v hi => by
  match i, hi with
  | 0, hi => cases hi; exact y0
  | 1, hi => cases hi; exact y1
  | 2, hi => cases hi; exact y2
  | i + 3, hi => simp at hi⟩
 obtain ⟨x0, rfl⟩ := Cp.arg_net z0
 obtain ⟨x1, rfl⟩ := Cp.arg_head z1
 obtain ⟨x2, rfl⟩ := Cp.arg_lists z2
 refine (Cp.law_calls (w := W) (Cp.fires_law x0 x1 x2) hv).mono fun e W' ⟨he, bel⟩ => ?_
 subst he
 exact ⟨_, rfl, _, _, _, [], _, [], hW', trodAll_mk1 (shut_bool Try.underlying4 _), (trodAll_cons_mk (Below.trod laidOut (by kernel_rfl) (of_decide_eq_true (by kernel_rfl)) h0 bel lt0) (trodAll_cons_mk (Below.trod laidOut (by kernel_rfl) (of_decide_eq_true (by kernel_rfl)) h1 bel lt1) (trodAll_cons_mk (Below.trod laidOut (by kernel_rfl) (of_decide_eq_true (by kernel_rfl)) h2 bel lt2) trodAll_mk0))), rfl, bel.frame _, fun h => by cases h⟩
theorem over : Rows.sprayFiresRow.holds Try.pinned (OpenSpec.ofChange Rows.sprayFiresSpec) :=
 OpenClaim.holds_of_wide 5 Try.f5 rfl rfl rfl rfl rfl rfl rfl ⟨rfl, rfl, rfl, rfl, rfl⟩ rfl rfl rfl rfl rfl (by kernel_rfl) Try.func5 (by kernel_rfl)
  (of_decide_eq_true (by kernel_rfl)) (by unfold Func.isWrapper; first | (rw [if_pos (by decide +kernel)]; kernel_rfl) | (rw [if_neg (by decide +kernel)]; exact ⟨rfl, rfl⟩))
  (fun os started H enc _ => lifted os started H enc)
end Go.Proofs.Ytfpbidbjgigljaa.sprayFires
namespace Go.Proofs.Ytfpbidbjgigljaa
theorem sprayFires_holds : Rows.SprayFiresSaid := sprayFires.over
#print axioms sprayFires_holds
end Go.Proofs.Ytfpbidbjgigljaa
