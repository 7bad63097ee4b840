/- FnExactEventsBetween: the reference model and the program agree on whatever comes in; the listed tables of the library hold what they are laid with. -/
import Derived.Test.YtdopidalhkcefaaDoorMW8a
import Derived.Test.YtdopidalhkcefaaDoorTie
import Derived.Test.YtdopidalhkcefaaDoorCards
import Derived.ProofKit
import Derived.OpenShut
import Derived.LaidMore
import Derived.Lay
import Derived.SevenTiedAt
import Derived.Stop.Joined
set_option linter.unusedVariables false
namespace Go.Proofs.YtdopidalhkcefaaDoor.fnExactEventsBetweenDone
open Go.ChangeShapes Go.WideShapes Go.ChangeAt Go.RowKit

theorem own : ownKnob Tryd.prog.godebug = none := by kernel_rfl
theorem laidOut : laidOutB Tryd.prog = true := by kernel_rfl
theorem opens2 : Opens Tryd.prog 2 [isI .i64] := opens_int Tryd.underlying2
theorem opens36 : Opens Tryd.prog 36 [isF .f32, isF .f32, isF .f32, isSl [isF .f32], isSl [isS, isI .i64, isF .f32, isF .f32, isF .f32], isSl [isI .i64, isI .i64, isI .i64, isI .i64, isI .i64, isF .f32]] := opens_struct Tryd.underlying36 (by kernel_rfl) (.cons (es := [isF .f32]) (rest := [isF .f32, isF .f32, isSl [isF .f32], isSl [isS, isI .i64, isF .f32, isF .f32, isF .f32], isSl [isI .i64, isI .i64, isI .i64, isI .i64, isI .i64, isF .f32]]) rfl (by kernel_rfl) (opens_float Tryd.underlying22) (.cons (es := [isF .f32, isF .f32, isSl [isF .f32]]) (rest := [isSl [isS, isI .i64, isF .f32, isF .f32, isF .f32], isSl [isI .i64, isI .i64, isI .i64, isI .i64, isI .i64, isF .f32]]) rfl (by kernel_rfl) (opens_struct Tryd.underlying32 (by kernel_rfl) (.cons (es := [isF .f32]) (rest := [isF .f32, isSl [isF .f32]]) rfl (by kernel_rfl) (opens_float Tryd.underlying22) (.cons (es := [isF .f32]) (rest := [isSl [isF .f32]]) rfl (by kernel_rfl) (opens_float Tryd.underlying22) (.cons (es := [isSl [isF .f32]]) (rest := []) rfl (by kernel_rfl) (opens_slice (es := [isF .f32]) Tryd.underlying30 (by kernel_rfl) (by decide) (opens_float Tryd.underlying22)) (.nil _))))) (.cons (es := [isSl [isS, isI .i64, isF .f32, isF .f32, isF .f32]]) (rest := [isSl [isI .i64, isI .i64, isI .i64, isI .i64, isI .i64, isF .f32]]) rfl (by kernel_rfl) (opens_slice (es := [isS, isI .i64, isF .f32, isF .f32, isF .f32]) Tryd.underlying33 (by kernel_rfl) (by decide) (opens_struct Tryd.underlying24 (by kernel_rfl) (.cons (es := [isS]) (rest := [isI .i64, isF .f32, isF .f32, isF .f32]) rfl (by kernel_rfl) (opens_string Tryd.underlying9) (.cons (es := [isI .i64]) (rest := [isF .f32, isF .f32, isF .f32]) rfl (by kernel_rfl) (opens_int Tryd.underlying2) (.cons (es := [isF .f32]) (rest := [isF .f32, isF .f32]) rfl (by kernel_rfl) (opens_float Tryd.underlying22) (.cons (es := [isF .f32]) (rest := [isF .f32]) rfl (by kernel_rfl) (opens_float Tryd.underlying22) (.cons (es := [isF .f32]) (rest := []) rfl (by kernel_rfl) (opens_float Tryd.underlying22) (.nil _)))))))) (.cons (es := [isSl [isI .i64, isI .i64, isI .i64, isI .i64, isI .i64, isF .f32]]) (rest := []) rfl (by kernel_rfl) (opens_slice (es := [isI .i64, isI .i64, isI .i64, isI .i64, isI .i64, isF .f32]) Tryd.underlying34 (by kernel_rfl) (by decide) (opens_struct Tryd.underlying96 (by kernel_rfl) (.cons (es := [isI .i64]) (rest := [isI .i64, isI .i64, isI .i64, isI .i64, isF .f32]) rfl (by kernel_rfl) (opens_int Tryd.underlying2) (.cons (es := [isI .i64]) (rest := [isI .i64, isI .i64, isI .i64, isF .f32]) rfl (by kernel_rfl) (opens_int Tryd.underlying2) (.cons (es := [isI .i64]) (rest := [isI .i64, isI .i64, isF .f32]) rfl (by kernel_rfl) (opens_int Tryd.underlying2) (.cons (es := [isI .i64]) (rest := [isI .i64, isF .f32]) rfl (by kernel_rfl) (opens_int Tryd.underlying2) (.cons (es := [isI .i64]) (rest := [isF .f32]) rfl (by kernel_rfl) (opens_int Tryd.underlying2) (.cons (es := [isF .f32]) (rest := []) rfl (by kernel_rfl) (opens_float Tryd.underlying22) (.nil _))))))))) (.nil _)))))

set_option maxRecDepth 100000 in
theorem lifted (os : Os) (started : os.Started) (H : Type) (enc : TypeId × Value → H) :
    ReturnsInHanded {} Tryd.checked os 8 .any (fun w args => (Rows.fnExactEventsBetweenSpec.pre enc Tryd.prog Tryd.f8 Rows.fnExactEventsBetweenRow.domain false w args ∧ laidMetH Tryd.prog Rows.fnExactEventsBetweenRow.laid w) ∧ sizedMet enc Tryd.prog Tryd.f8 (OpenSpec.ofChange Rows.fnExactEventsBetweenSpec) false w args) (Rows.fnExactEventsBetweenSpec.post enc Tryd.prog Tryd.f8 false true false false) := by
  refine returnsInHanded_of_change_and (C := Tryd.checked) (X := fun w _ => laidMetH Tryd.prog Rows.fnExactEventsBetweenRow.laid w) (fun _ _ _ hh h => h.of_heap hh) own started (by kernel_rfl) Tryd.func8
    (ChangeSpec.witness_shaped (enc := enc) (C := Tryd.checked) (os := os) (X := fun w _ => laidMetH Tryd.prog Rows.fnExactEventsBetweenRow.laid w) false (World.laidAll Tryd.prog os Rows.fnExactEventsBetweenRow.laid) #[.agg #[vF 0, vF 0, vF 0, .slice none 0 0, .slice none 0 0, .slice none 0 0], vI 0, vI 0] 30 (World.laidAll_os _ _ _)
      (World.shaped_of_ZipB (by kernel_rfl) (by kernel_rfl)) (by kernel_rfl) (by kernel_rfl) (by kernel_rfl)
      (by rw [MakeChecks.laidMetH_plain _ _ _ (by kernel_rfl)]; exact laidMet_laidAll _ (by kernel_rfl) (by kernel_rfl))) ?_
  intro W base args ds gs before hval0 hW hcnd _ hL9 _
  have hval : ∀ (j : Nat) t v, Tryd.f8.params[j]? = some t → args[j]? = some v → Value.okWide Tryd.prog W .any base t v := hval0
  have hW' := hW
  obtain ⟨p, q, hA0, hV, rfl, hfz, hnd⟩ := hW
  have hA : DataW.TrodAll enc Tryd.prog W 0 (fun _ => true) true Tryd.f8.params.toList args.toList ds p := hA0
  rw [Tryd.params8] at hA hval
  obtain ⟨v0, vs0, d0, ds0, p0, q0, hargs, rfl, rfl, h0, r0⟩ := trodAll_cons hA
  obtain ⟨v1, vs1, d1, ds1, p1, q1, rfl, rfl, rfl, h1, r1⟩ := trodAll_cons r0
  obtain ⟨v2, vs2, d2, ds2, p2, q2, rfl, rfl, rfl, h2, r2⟩ := trodAll_cons r1
  obtain ⟨rfl, rfl, rfl⟩ := trodAll_nil r2
  obtain rfl : args = #[v0, v1, v2] := by cases args; simp_all
  obtain ⟨rfl, rfl⟩ := trodVars_none hV
  have k0 := h0
  have lt0 : ∀ x ∈ p0, x.block < W.heap.size := by obtain ⟨m, hm⟩ := k0; exact DataW.trod_lt m _ _ _ hm
  have c0 := came opens36 k0
  obtain ⟨cs0, rfl, _⟩ := okWide_struct Tryd.underlying36 (hval0 0 36 v0 rfl rfl)
  have k1 := h1
  have lt1 : ∀ x ∈ p1, x.block < W.heap.size := by obtain ⟨m, hm⟩ := k1; exact DataW.trod_lt m _ _ _ hm
  have c1 := came opens2 k1
  rw [okWide_one Tryd.underlying2 rfl (hval0 1 2 v1 rfl rfl)] at c1
  have k2 := h2
  have lt2 : ∀ x ∈ p2, x.block < W.heap.size := by obtain ⟨m, hm⟩ := k2; exact DataW.trod_lt m _ _ _ hm
  have c2 := came opens2 k2
  rw [okWide_one Tryd.underlying2 rfl (hval0 2 2 v2 rfl rfl)] at c2
  clear hA0 hval0
  refine Calls.mono (lawM_law_betw W cs0 v1 v2 c0 c1 c2) fun e W' ⟨v, he, hv, bel0⟩ => ?_
  have bel := bel0.below
  subst he hv
  exact ⟨_, rfl, _, _, _, [], _, [], hW', trodAll_mk1 (shut_bool Tryd.underlying4 _), (trodAll_cons_mk (Below.trod laidOut (by kernel_rfl) (of_decide_eq_true (by kernel_rfl)) k0 bel lt0) (trodAll_cons_mk (Below.trod laidOut (by kernel_rfl) (of_decide_eq_true (by kernel_rfl)) k1 bel lt1) (trodAll_cons_mk (Below.trod laidOut (by kernel_rfl) (of_decide_eq_true (by kernel_rfl)) k2 bel lt2) trodAll_mk0))), rfl, bel.frame _, fun h => by cases h⟩

theorem over : Rows.fnExactEventsBetweenRow.holds Tryd.pinned (OpenSpec.ofChange Rows.fnExactEventsBetweenSpec) :=
  OpenClaim.holds_of_wide 8 Tryd.f8 rfl rfl rfl rfl rfl rfl rfl ⟨rfl, rfl, rfl, rfl, rfl⟩ rfl rfl rfl rfl rfl (by kernel_rfl) Tryd.func8 (by kernel_rfl)
    (of_decide_eq_true (by kernel_rfl)) (by unfold Func.isWrapper; first | (rw [if_pos (by decide +kernel)]; kernel_rfl) | (rw [if_neg (by decide +kernel)]; exact ⟨rfl, rfl⟩))
    (fun os started H enc _ => lifted os started H enc)

theorem row : Rows.FnExactEventsBetweenSaid := over
theorem proved : Rows.FnExactEventsBetweenCardSaid :=
  Claim7.holds_tied_plain_at .later [] [.data, .pinned] true (true, "43174e73a4928ac1d3074685850013c0e3c2bae2a408e3b7eb05f031f147b162") false row (fun _ h => by cases h) (by kernel_rfl) (fun _ h => by cases h) fnExactEventsBetween_row_tie rfl ⟨rfl, rfl⟩ (by kernel_rfl) rfl
    (fun f fn hf hfn => by
      obtain rfl : f = 8 := Option.some.inj ((show Tryd.prog.funcNamed "loop.example/g01173/laws.FnExactEventsBetween" = some 8 by kernel_rfl).symm.trans hf) |>.symm
      obtain rfl : fn = Tryd.f8 := (Option.some.inj (Tryd.func8.symm.trans hfn)).symm
      exact ⟨by kernel_rfl, fun j t ht => by
        rw [Tryd.params8] at ht
        have hm : t ∈ [36, 2] := by simpa using Array.mem_of_getElem? ht
        have hall : ([36, 2].all fun u => !Tryd.prog.wantsStandIn u) = true := by kernel_rfl
        exact (show Tryd.prog.wantsStandIn t = false by simpa using List.all_eq_true.1 hall t hm)⟩)
    (by kernel_rfl)
#print axioms proved
end Go.Proofs.YtdopidalhkcefaaDoor.fnExactEventsBetweenDone
