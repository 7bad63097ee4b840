/- The engine of this claim's walks, sixth part: new slices, appends, and short facts that printed walks name. -/
import Derived.Test.YtpjjnopjpgnlaaaDoorE22
namespace Go.Proofs.YtpjjnopjpgnlaaaDoor

theorem W32.nil : W32 [] := fun x hx => by cases hx
theorem fl_len {xs : List Nat} {m : Nat} (h : xs.length = m) : (fl xs).length = m := by rw [fl_length, h]
theorem fl_one (xs : List Nat) : (fl xs).all Value.oneCell' = true := by
  rw [List.all_eq_true]; intro v hv
  obtain ⟨x, _, rfl⟩ := List.mem_map.1 hv
  rfl
theorem wid_lt {x : Nat} (h : x < wid .f32) : x < 4294967296 := by rw [wid32] at h; exact h
theorem lt_wid {x : Nat} (h : x < 4294967296) : x < wid .f32 := by rw [wid32]; exact h

section
variable {P : Program} {n : Nat} {ρ : Env} {w : World} {dst : Option Tmp} {ty : TypeId} {pos : String} {af : Array Edge} {g : Option (Nat × Bool)}

/-- an empty slice literal -/
theorem op_emptySl {t e m : Nat} {ps : Array (Nat × Operand)} (hp : ps = #[]) (hu : ∀ w, (underlying t).run P w = .ok (.slice e) w) (hs : ∀ w, (sizeOf e).run P w = .ok m w) :
    Op1 P n ⟨dst, .buildSlice t 0 ps, ty, pos, af, g⟩ ρ w (fun u w' => u = .slice (some ⟨w.heap.size, 0, none⟩) 0 0 ∧ Row w' w.heap.size 0 [] ∧ Mod [] w w' ∧ w.heap.size < w'.heap.size) := by
  subst hp
  refine op_run (v := .slice (some ⟨w.heap.size, 0, none⟩) 0 0) (w' := w.alloc (.cells #[] e)) (fun a ha => ?_) ⟨rfl, Row.new w #[] e, Mod.alloc _ _, by simp⟩
  simp [execOp, Instr.buildSlice, hu, hs, Instr.fill, newRow, Array.range_zero']

end
end Go.Proofs.YtpjjnopjpgnlaaaDoor
