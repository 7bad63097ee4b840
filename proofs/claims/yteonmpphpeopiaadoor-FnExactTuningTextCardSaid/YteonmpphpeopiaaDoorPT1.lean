/- FnExactTuningText: the reference model and the program agree on whatever comes in; the listed tables of the library hold what they are laid with. -/
import Derived.Test.YteonmpphpeopiaaDoorMT1
import Derived.Test.YteonmpphpeopiaaDoorR10
import Derived.Test.YteonmpphpeopiaaDoorTie
import Derived.Test.YteonmpphpeopiaaDoorCards
import Derived.ProofKit
import Derived.OpenShut
import Derived.LaidMore
import Derived.Lay
import Derived.SevenTiedAt
import Derived.Stop.Joined
set_option linter.unusedVariables false
namespace Go.Proofs.YteonmpphpeopiaaDoor.fnExactTuningTextDone
open Go.ChangeShapes Go.WideShapes Go.ChangeAt Go.RowKit

theorem own : ownKnob Tryd.prog.godebug = none := by kernel_rfl
theorem laidOut : laidOutB Tryd.prog = true := by kernel_rfl
theorem opens25 : Opens Tryd.prog 25 [isF .f32, isF .f32, isSl [isF .f32]] := opens_struct Tryd.underlying25 (by kernel_rfl) (.cons (es := [isF .f32]) (rest := [isF .f32, isSl [isF .f32]]) rfl (by kernel_rfl) (opens_float Tryd.underlying22) (.cons (es := [isF .f32]) (rest := [isSl [isF .f32]]) rfl (by kernel_rfl) (opens_float Tryd.underlying22) (.cons (es := [isSl [isF .f32]]) (rest := []) rfl (by kernel_rfl) (opens_slice (es := [isF .f32]) Tryd.underlying23 (by kernel_rfl) (by decide) (opens_float Tryd.underlying22)) (.nil _))))

set_option maxRecDepth 100000 in
theorem lifted (os : Os) (started : os.Started) (H : Type) (enc : TypeId × Value → H) :
    ReturnsInHanded {} Tryd.checked os 3 .any (fun w args => (Rows.fnExactTuningTextSpec.pre enc Tryd.prog Tryd.f3 Rows.fnExactTuningTextRow.domain false w args ∧ laidMetH Tryd.prog Rows.fnExactTuningTextRow.laid w) ∧ sizedMet enc Tryd.prog Tryd.f3 (OpenSpec.ofChange Rows.fnExactTuningTextSpec) false w args) (Rows.fnExactTuningTextSpec.post enc Tryd.prog Tryd.f3 false true false false) := by
  refine returnsInHanded_of_change_and (C := Tryd.checked) (X := fun w _ => laidMetH Tryd.prog Rows.fnExactTuningTextRow.laid w) (fun _ _ _ hh h => h.of_heap hh) own started (by kernel_rfl) Tryd.func3
    (ChangeSpec.witness_shaped (enc := enc) (C := Tryd.checked) (os := os) (X := fun w _ => laidMetH Tryd.prog Rows.fnExactTuningTextRow.laid w) false (World.laidAll Tryd.prog os Rows.fnExactTuningTextRow.laid) #[.agg #[vF 0, vF 0, .slice none 0 0]] 30 (World.laidAll_os _ _ _)
      (World.shaped_of_ZipB (by kernel_rfl) (by kernel_rfl)) (by kernel_rfl) (by kernel_rfl) (by kernel_rfl)
      (by rw [MakeChecks.laidMetH_plain _ _ _ (by kernel_rfl)]; exact laidMet_laidAll _ (by kernel_rfl) (by kernel_rfl))) ?_
  intro W base args ds gs before hval0 hW hcnd _ hL9 _
  have hval : ∀ (j : Nat) t v, Tryd.f3.params[j]? = some t → args[j]? = some v → Value.okWide Tryd.prog W .any base t v := hval0
  have hW' := hW
  obtain ⟨p, q, hA0, hV, rfl, hfz, hnd⟩ := hW
  have hA : DataW.TrodAll enc Tryd.prog W 0 (fun _ => true) true Tryd.f3.params.toList args.toList ds p := hA0
  rw [Tryd.params3] at hA hval
  obtain ⟨v0, vs0, d0, ds0, p0, q0, hargs, rfl, rfl, h0, r0⟩ := trodAll_cons hA
  obtain ⟨rfl, rfl, rfl⟩ := trodAll_nil r0
  obtain rfl : args = #[v0] := by cases args; simp_all
  obtain ⟨rfl, rfl⟩ := trodVars_none hV
  have k0 := h0
  have lt0 : ∀ x ∈ p0, x.block < W.heap.size := by obtain ⟨m, hm⟩ := k0; exact DataW.trod_lt m _ _ _ hm
  have c0 := came opens25 k0
  obtain ⟨cs0, rfl, _⟩ := okWide_struct Tryd.underlying25 (hval0 0 25 v0 rfl rfl)
  clear hA0 hval0
  refine Calls.mono (lawM_law_tun W (libT_of hL9) cs0 c0) fun e W' ⟨v, he, hv, bel0⟩ => ?_
  have bel := bel0.below
  subst he hv
  exact ⟨_, rfl, _, _, _, [], _, [], hW', trodAll_mk1 (shut_bool Tryd.underlying4 _), (trodAll_cons_mk (Below.trod laidOut (by kernel_rfl) (of_decide_eq_true (by kernel_rfl)) k0 bel lt0) trodAll_mk0), rfl, bel.frame _, fun h => by cases h⟩

theorem over : Rows.fnExactTuningTextRow.holds Tryd.pinned (OpenSpec.ofChange Rows.fnExactTuningTextSpec) :=
  OpenClaim.holds_of_wide 3 Tryd.f3 rfl rfl rfl rfl rfl rfl rfl ⟨rfl, rfl, rfl, rfl, rfl⟩ rfl rfl rfl rfl rfl (by kernel_rfl) Tryd.func3 (by kernel_rfl)
    (of_decide_eq_true (by kernel_rfl)) (by unfold Func.isWrapper; first | (rw [if_pos (by decide +kernel)]; kernel_rfl) | (rw [if_neg (by decide +kernel)]; exact ⟨rfl, rfl⟩))
    (fun os started H enc _ => lifted os started H enc)

theorem row : Rows.FnExactTuningTextSaid := over
theorem proved : Rows.FnExactTuningTextCardSaid :=
  Claim7.holds_tied_plain_at .later [] [.data, .data, .data] true (true, "ca4e419765c0e96e72ac3446c7140fec547581b716a3f5e68a81f0d7f5c9d10b") true row (fun _ h => by cases h) (by kernel_rfl) (fun _ h => by cases h) fnExactTuningText_row_tie rfl ⟨rfl, rfl⟩ (by kernel_rfl) rfl
    (fun f fn hf hfn => by
      obtain rfl : f = 3 := Option.some.inj ((show Tryd.prog.funcNamed "loop.example/g01173/laws.FnExactTuningText" = some 3 by kernel_rfl).symm.trans hf) |>.symm
      obtain rfl : fn = Tryd.f3 := (Option.some.inj (Tryd.func3.symm.trans hfn)).symm
      exact ⟨by kernel_rfl, fun j t ht => by
        rw [Tryd.params3] at ht
        have hm : t ∈ [25] := by simpa using Array.mem_of_getElem? ht
        have hall : ([25].all fun u => !Tryd.prog.wantsStandIn u) = true := by kernel_rfl
        exact (show Tryd.prog.wantsStandIn t = false by simpa using List.all_eq_true.1 hall t hm)⟩)
    (by kernel_rfl)
#print axioms proved
end Go.Proofs.YteonmpphpeopiaaDoor.fnExactTuningTextDone
