/- The engine of this claim's walks, twenty-second part: code whose ways meet again. -/
import Derived.Test.YteonmpphpeopiaaDoorE5
set_option linter.unusedVariables false
namespace Go.Proofs.YteonmpphpeopiaaDoor

section
variable {P : Program} {n : Nat} {Q : Exit → Act → World → Prop} {ρ : Env} {w : World} {c : Code}
/-- the code ends as `F` says, whichever way it goes -/
theorem CE.cut (F : Env → World → Prop) (h : CE P n c (fun e a w => e = .normal ∧ ∃ ρ', Fr n ρ' a ∧ F ρ' w) ρ w) (k : ∀ ρ' w', F ρ' w' → NE n Q ρ' w') : CE P n c Q ρ w := fun a ha =>
  wp_mono (h a ha) fun e a' w' q => by
    obtain ⟨rfl, ρ', hf, hF⟩ := q
    exact k ρ' w' hF a' hf
theorem NE.cutend {F : Env → World → Prop} (ρ' : Env) (hs : subB ρ' ρ) (h : F ρ' w) : NE n (fun e a w => e = .normal ∧ ∃ ρ', Fr n ρ' a ∧ F ρ' w) ρ w := fun a ha => ⟨rfl, ρ', ha.sub hs, h⟩
end
theorem lk_bool {a b : Bool} (h : a = b) : (some (Value.bool a) : Option Value) = some (Value.bool b) := by rw [h]
end Go.Proofs.YteonmpphpeopiaaDoor
