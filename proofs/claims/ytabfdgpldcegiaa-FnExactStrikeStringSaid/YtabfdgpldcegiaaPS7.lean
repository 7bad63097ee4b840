/- FnExactStrikeString: the reference model and the program agree on whatever comes in; no condition. -/
import Derived.Test.YtabfdgpldcegiaaMS7
set_option linter.unusedVariables false
namespace Go.Proofs.Ytabfdgpldcegiaa.fnExactStrikeStringDone
open Go.ChangeShapes Go.WideShapes Go.ChangeAt Go.RowKit

theorem own : ownKnob Try.prog.godebug = none := by kernel_rfl
theorem laidOut : laidOutB Try.prog = true := by kernel_rfl
theorem opens24 : Opens Try.prog 24 [isSl [isF .f32]] := opens_slice (es := [isF .f32]) Try.underlying24 (by kernel_rfl) (by decide) (opens_float Try.underlying27)
theorem opens27 : Opens Try.prog 27 [isF .f32] := opens_float Try.underlying27
theorem opens51 : Opens Try.prog 51 [isSl [isF .f32], isI .i64, isI .i64, isF .f32, isF .f32, isF .f32, isF .f32, isF .f32, isI .i64, isF .f32, isF .f32, isF .f32, isF .f32, isF .f32, isF .f32] := opens_struct Try.underlying51 (by kernel_rfl) (.cons (es := [isSl [isF .f32], isI .i64]) (rest := [isI .i64, isF .f32, isF .f32, isF .f32, isF .f32, isF .f32, isI .i64, isF .f32, isF .f32, isF .f32, isF .f32, isF .f32, isF .f32]) rfl (by kernel_rfl) (opens_struct Try.underlying48 (by kernel_rfl) (.cons (es := [isSl [isF .f32]]) (rest := [isI .i64]) rfl (by kernel_rfl) (opens_slice (es := [isF .f32]) Try.underlying24 (by kernel_rfl) (by decide) (opens_float Try.underlying27)) (.cons (es := [isI .i64]) (rest := []) rfl (by kernel_rfl) (opens_int Try.underlying2) (.nil _)))) (.cons (es := [isI .i64, isF .f32, isF .f32, isF .f32, isF .f32, isF .f32]) (rest := [isI .i64, isF .f32, isF .f32, isF .f32, isF .f32, isF .f32, isF .f32]) rfl (by kernel_rfl) (opens_struct Try.underlying49 (by kernel_rfl) (.cons (es := [isI .i64]) (rest := [isF .f32, isF .f32, isF .f32, isF .f32, isF .f32]) rfl (by kernel_rfl) (opens_int Try.underlying2) (.cons (es := [isF .f32, isF .f32, isF .f32]) (rest := [isF .f32, isF .f32]) rfl (by kernel_rfl) (opens_array (n := 3) (es := [isF .f32]) Try.underlying28 (by kernel_rfl) (by kernel_rfl) (opens_float Try.underlying27)) (.cons (es := [isF .f32, isF .f32]) (rest := []) rfl (by kernel_rfl) (opens_array (n := 2) (es := [isF .f32]) Try.underlying29 (by kernel_rfl) (by kernel_rfl) (opens_float Try.underlying27)) (.nil _))))) (.cons (es := [isI .i64, isF .f32, isF .f32, isF .f32, isF .f32, isF .f32]) (rest := [isF .f32]) rfl (by kernel_rfl) (opens_struct Try.underlying49 (by kernel_rfl) (.cons (es := [isI .i64]) (rest := [isF .f32, isF .f32, isF .f32, isF .f32, isF .f32]) rfl (by kernel_rfl) (opens_int Try.underlying2) (.cons (es := [isF .f32, isF .f32, isF .f32]) (rest := [isF .f32, isF .f32]) rfl (by kernel_rfl) (opens_array (n := 3) (es := [isF .f32]) Try.underlying28 (by kernel_rfl) (by kernel_rfl) (opens_float Try.underlying27)) (.cons (es := [isF .f32, isF .f32]) (rest := []) rfl (by kernel_rfl) (opens_array (n := 2) (es := [isF .f32]) Try.underlying29 (by kernel_rfl) (by kernel_rfl) (opens_float Try.underlying27)) (.nil _))))) (.cons (es := [isF .f32]) (rest := []) rfl (by kernel_rfl) (opens_float Try.underlying27) (.nil _)))))

set_option maxRecDepth 100000 in
theorem lifted (os : Os) (started : os.Started) (H : Type) (enc : TypeId × Value → H) :
    ReturnsInHanded {} Try.checked os 8 .any (Rows.fnExactStrikeStringSpec.pre6 enc Try.prog Try.f8 Rows.fnExactStrikeStringRow.domain false) (Rows.fnExactStrikeStringSpec.post enc Try.prog Try.f8 false true false false) := by
  refine returnsInHanded_of_change (C := Try.checked) own started (by kernel_rfl) Try.func8
    (ChangeSpec.witness6 (enc := enc) (C := Try.checked) false ⟨#[], #[.agg #[.slice none 0 0, vI 0, vI 0, vF 0, vF 0, vF 0, vF 0, vF 0, vI 0, vF 0, vF 0, vF 0, vF 0, vF 0, vF 0], vF 0, .slice none 0 0], []⟩ 30 (by kernel_rfl) (by kernel_rfl) (by kernel_rfl) (by kernel_rfl)) ?_
  intro W base args ds gs before hval0 hW hcnd _
  have hval : ∀ (j : Nat) t v, Try.f8.params[j]? = some t → args[j]? = some v → Value.okWide Try.prog W .any base t v := hval0
  have hW' := hW
  obtain ⟨p, q, hA0, hV, rfl, hfz, hnd⟩ := hW
  have hA : DataW.TrodAll enc Try.prog W 0 (fun _ => true) true Try.f8.params.toList args.toList ds p := hA0
  rw [Try.params8] at hA hval
  obtain ⟨v0, vs0, d0, ds0, p0, q0, hargs, rfl, rfl, h0, r0⟩ := trodAll_cons hA
  obtain ⟨v1, vs1, d1, ds1, p1, q1, rfl, rfl, rfl, h1, r1⟩ := trodAll_cons r0
  obtain ⟨v2, vs2, d2, ds2, p2, q2, rfl, rfl, rfl, h2, r2⟩ := trodAll_cons r1
  obtain ⟨rfl, rfl, rfl⟩ := trodAll_nil r2
  obtain rfl : args = #[v0, v1, v2] := by cases args; simp_all
  obtain ⟨rfl, rfl⟩ := trodVars_none hV
  have k0 := h0
  have lt0 : ∀ x ∈ p0, x.block < W.heap.size := by obtain ⟨m, hm⟩ := k0; exact DataW.trod_lt m _ _ _ hm
  have c0 := came opens51 k0
  obtain ⟨cs0, rfl, _⟩ := okWide_struct Try.underlying51 (hval0 0 51 v0 rfl rfl)
  have k1 := h1
  have lt1 : ∀ x ∈ p1, x.block < W.heap.size := by obtain ⟨m, hm⟩ := k1; exact DataW.trod_lt m _ _ _ hm
  have c1 := came opens27 k1
  rw [okWide_one Try.underlying27 rfl (hval0 1 27 v1 rfl rfl)] at c1
  have k2 := h2
  have lt2 : ∀ x ∈ p2, x.block < W.heap.size := by obtain ⟨m, hm⟩ := k2; exact DataW.trod_lt m _ _ _ hm
  have c2 := came opens24 k2
  rw [okWide_one Try.underlying24 rfl (hval0 2 24 v2 rfl rfl)] at c2
  clear hA0 hval0
  refine Calls.mono (lawM_law_strike W cs0 v1 v2 c0 c1 c2) fun e W' ⟨v, he, hv, bel0⟩ => ?_
  have bel := bel0.below
  subst he hv
  exact ⟨_, rfl, _, _, _, [], _, [], hW', trodAll_mk1 (shut_bool Try.underlying4 _), (trodAll_cons_mk (Below.trod laidOut (by kernel_rfl) (of_decide_eq_true (by kernel_rfl)) k0 bel lt0) (trodAll_cons_mk (Below.trod laidOut (by kernel_rfl) (of_decide_eq_true (by kernel_rfl)) k1 bel lt1) (trodAll_cons_mk (Below.trod laidOut (by kernel_rfl) (of_decide_eq_true (by kernel_rfl)) k2 bel lt2) trodAll_mk0))), rfl, bel.frame _, fun h => by cases h⟩

theorem over : Rows.fnExactStrikeStringRow.holds Try.pinned (OpenSpec.ofChange Rows.fnExactStrikeStringSpec) :=
  OpenClaim.holds_of_wide 8 Try.f8 rfl rfl rfl rfl rfl rfl rfl ⟨rfl, rfl, rfl, rfl, rfl⟩ rfl rfl rfl rfl rfl (by kernel_rfl) Try.func8 (by kernel_rfl)
    (of_decide_eq_true (by kernel_rfl)) (by unfold Func.isWrapper; first | (rw [if_pos (by decide +kernel)]; kernel_rfl) | (rw [if_neg (by decide +kernel)]; exact ⟨rfl, rfl⟩))
    (fun os started H enc _ => lifted os started H enc)

theorem proved : Rows.FnExactStrikeStringSaid := over
#print axioms proved
end Go.Proofs.Ytabfdgpldcegiaa.fnExactStrikeStringDone
