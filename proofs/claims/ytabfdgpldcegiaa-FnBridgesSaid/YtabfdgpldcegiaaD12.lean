/- New strings of the law on tuning: the delays are 64ths; what holds of them, computed (a table over the delays alone). -/
import Derived.Test.YtabfdgpldcegiaaD7
set_option linter.unusedVariables false
set_option maxRecDepth 100000
namespace Go.Proofs.Ytabfdgpldcegiaa

/-- a number of 64ths -/
def w64 (m : Nat) : Nat := fop .quo .f32 (FloatKind.f32.nearest ((m : Nat) : Int)) 1115684864
/-- a delay of `m` 64ths has its parts -/
def delB (m : Nat) : Bool := spotB (w64 m) && (floatToFloatBits .f64 (floorX (wide (w64 m))) .f32 == some (nfA (w64 m))) && partB (w64 m) (nfA (w64 m)) && partB (w64 m) (fop .sub .f32 (nfA (w64 m)) 1065353216)
def delTab (k : Nat) : Bool := (List.range 128).all fun j => delB (128 * k + 160 + j)
theorem delTab0 : delTab 0 = true := by decide +kernel
theorem delTab1 : delTab 1 = true := by decide +kernel
theorem delTab2 : delTab 2 = true := by decide +kernel
theorem delTab3 : delTab 3 = true := by decide +kernel
theorem delTab4 : delTab 4 = true := by decide +kernel
theorem delTab5 : delTab 5 = true := by decide +kernel
theorem delTab6 : delTab 6 = true := by decide +kernel
theorem delTab7 : delTab 7 = true := by decide +kernel
theorem delTab8 : delTab 8 = true := by decide +kernel
theorem delTab9 : delTab 9 = true := by decide +kernel
theorem delTab10 : delTab 10 = true := by decide +kernel
theorem delTab11 : delTab 11 = true := by decide +kernel
theorem delTab12 : delTab 12 = true := by decide +kernel
theorem delTab13 : delTab 13 = true := by decide +kernel
theorem delTab14 : delTab 14 = true := by decide +kernel
theorem delTab15 : delTab 15 = true := by decide +kernel
theorem delTab16 : delTab 16 = true := by decide +kernel
theorem del_all {m : Nat} (h1 : 160 ≤ m) (h2 : m ≤ 2232) : delB m = true := by
  have e : (m - 160) / 128 = 0 ∨ (m - 160) / 128 = 1 ∨ (m - 160) / 128 = 2 ∨ (m - 160) / 128 = 3 ∨ (m - 160) / 128 = 4 ∨ (m - 160) / 128 = 5 ∨ (m - 160) / 128 = 6 ∨ (m - 160) / 128 = 7 ∨ (m - 160) / 128 = 8 ∨ (m - 160) / 128 = 9 ∨ (m - 160) / 128 = 10 ∨ (m - 160) / 128 = 11 ∨ (m - 160) / 128 = 12 ∨ (m - 160) / 128 = 13 ∨ (m - 160) / 128 = 14 ∨ (m - 160) / 128 = 15 ∨ (m - 160) / 128 = 16 := by omega
  have g : ∀ k, delTab k = true → (m - 160) / 128 = k → delB m = true := fun k hk hm => by
    have := List.all_eq_true.1 hk ((m - 160) % 128) (by simp; omega)
    rwa [show 128 * k + 160 + (m - 160) % 128 = m by omega] at this
  rcases e with h | h | h | h | h | h | h | h | h | h | h | h | h | h | h | h | h
  · exact g 0 delTab0 h
  · exact g 1 delTab1 h
  · exact g 2 delTab2 h
  · exact g 3 delTab3 h
  · exact g 4 delTab4 h
  · exact g 5 delTab5 h
  · exact g 6 delTab6 h
  · exact g 7 delTab7 h
  · exact g 8 delTab8 h
  · exact g 9 delTab9 h
  · exact g 10 delTab10 h
  · exact g 11 delTab11 h
  · exact g 12 delTab12 h
  · exact g 13 delTab13 h
  · exact g 14 delTab14 h
  · exact g 15 delTab15 h
  · exact g 16 delTab16 h
/-- the delay of a period of 3 and `p` eighths with a mix of `q` 64ths -/
def subTab (q : Nat) : Bool := (List.range 256).all fun p => (fop .sub .f32 (perW p) (sixW q) == w64 (192 + 8 * p - q)) && ((fGe .f32 (perW p) 1077936128 && fLe .f32 (perW p) 1149239296) && !isNaN .f32 (perW p))
def mixTab : Bool := (List.range 33).all fun q => (fGe .f32 (sixW q) 0 && fLe .f32 (sixW q) 1056964608) && finF (fop .sub .f32 1065353216 (sixW q)) && finF (sixW q)
theorem mixTab_ok : mixTab = true := by decide +kernel
theorem subTab0 : subTab 0 = true := by decide +kernel
theorem subTab1 : subTab 1 = true := by decide +kernel
theorem subTab2 : subTab 2 = true := by decide +kernel
theorem subTab3 : subTab 3 = true := by decide +kernel
theorem subTab4 : subTab 4 = true := by decide +kernel
theorem subTab5 : subTab 5 = true := by decide +kernel
theorem subTab6 : subTab 6 = true := by decide +kernel
theorem subTab7 : subTab 7 = true := by decide +kernel
theorem subTab8 : subTab 8 = true := by decide +kernel
theorem subTab9 : subTab 9 = true := by decide +kernel
theorem subTab10 : subTab 10 = true := by decide +kernel
theorem subTab11 : subTab 11 = true := by decide +kernel
theorem subTab12 : subTab 12 = true := by decide +kernel
theorem subTab13 : subTab 13 = true := by decide +kernel
theorem subTab14 : subTab 14 = true := by decide +kernel
theorem subTab15 : subTab 15 = true := by decide +kernel
theorem subTab16 : subTab 16 = true := by decide +kernel
theorem subTab17 : subTab 17 = true := by decide +kernel
theorem subTab18 : subTab 18 = true := by decide +kernel
theorem subTab19 : subTab 19 = true := by decide +kernel
theorem subTab20 : subTab 20 = true := by decide +kernel
theorem subTab21 : subTab 21 = true := by decide +kernel
theorem subTab22 : subTab 22 = true := by decide +kernel
theorem subTab23 : subTab 23 = true := by decide +kernel
theorem subTab24 : subTab 24 = true := by decide +kernel
theorem subTab25 : subTab 25 = true := by decide +kernel
theorem subTab26 : subTab 26 = true := by decide +kernel
theorem subTab27 : subTab 27 = true := by decide +kernel
theorem subTab28 : subTab 28 = true := by decide +kernel
theorem subTab29 : subTab 29 = true := by decide +kernel
theorem subTab30 : subTab 30 = true := by decide +kernel
theorem subTab31 : subTab 31 = true := by decide +kernel
theorem subTab32 : subTab 32 = true := by decide +kernel
theorem sub_all {q : Nat} (h : q < 33) : subTab q = true := by
  have e : q = 0 ∨ q = 1 ∨ q = 2 ∨ q = 3 ∨ q = 4 ∨ q = 5 ∨ q = 6 ∨ q = 7 ∨ q = 8 ∨ q = 9 ∨ q = 10 ∨ q = 11 ∨ q = 12 ∨ q = 13 ∨ q = 14 ∨ q = 15 ∨ q = 16 ∨ q = 17 ∨ q = 18 ∨ q = 19 ∨ q = 20 ∨ q = 21 ∨ q = 22 ∨ q = 23 ∨ q = 24 ∨ q = 25 ∨ q = 26 ∨ q = 27 ∨ q = 28 ∨ q = 29 ∨ q = 30 ∨ q = 31 ∨ q = 32 := by omega
  rcases e with rfl | rfl | rfl | rfl | rfl | rfl | rfl | rfl | rfl | rfl | rfl | rfl | rfl | rfl | rfl | rfl | rfl | rfl | rfl | rfl | rfl | rfl | rfl | rfl | rfl | rfl | rfl | rfl | rfl | rfl | rfl | rfl | rfl
  · exact subTab0
  · exact subTab1
  · exact subTab2
  · exact subTab3
  · exact subTab4
  · exact subTab5
  · exact subTab6
  · exact subTab7
  · exact subTab8
  · exact subTab9
  · exact subTab10
  · exact subTab11
  · exact subTab12
  · exact subTab13
  · exact subTab14
  · exact subTab15
  · exact subTab16
  · exact subTab17
  · exact subTab18
  · exact subTab19
  · exact subTab20
  · exact subTab21
  · exact subTab22
  · exact subTab23
  · exact subTab24
  · exact subTab25
  · exact subTab26
  · exact subTab27
  · exact subTab28
  · exact subTab29
  · exact subTab30
  · exact subTab31
  · exact subTab32
theorem tuned_ok {p q : Nat} (hp : p < 256) (hq : q < 33) : NewOk (perW p) (sixW q) ∧ isNaN .f32 (perW p) = false ∧ fop .sub .f32 (perW p) (sixW q) = w64 (192 + 8 * p - q) := by
  have h := List.all_eq_true.1 (sub_all hq) p (by simpa using hp)
  simp only [Bool.and_eq_true, beq_iff_eq] at h
  have m := List.all_eq_true.1 mixTab_ok q (by simpa using hq)
  simp only [Bool.and_eq_true] at m
  have d := del_all (m := 192 + 8 * p - q) (by omega) (by omega)
  simp only [delB, Bool.and_eq_true, beq_iff_eq] at d
  obtain ⟨⟨⟨d1, d2⟩, d3⟩, d4⟩ := d
  refine ⟨⟨by simp [h.2.1.1, h.2.1.2], by simp [m.1.1.1, m.1.1.2], by rw [h.1]; exact spotB_of d1, by rw [h.1]; exact .inr d2, by rw [h.1]; exact PartOk.of d3, by rw [h.1]; exact PartOk.of d4, m.1.2, m.2⟩, by simpa using h.2.2, h.1⟩
end Go.Proofs.Ytabfdgpldcegiaa
