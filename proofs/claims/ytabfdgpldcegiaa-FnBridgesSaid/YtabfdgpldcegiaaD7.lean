/- New strings. -/
import Derived.Test.YtabfdgpldcegiaaG7
set_option linter.unusedVariables false
set_option linter.unusedSimpArgs false
namespace Go.Proofs.Ytabfdgpldcegiaa

/-- a word from 0 on whose number is at most 1024 -/
def spotB (p : Nat) : Bool := decide (p < 2139095040) && decide (posF p ≤ 1024)
theorem spotB_of {p : Nat} (h : spotB p = true) : SpotE p := by
  simp only [spotB, Bool.and_eq_true, decide_eq_true_eq] at h
  have e : p % 2147483648 = p := Nat.mod_eq_of_lt (by omega)
  exact ⟨1024, by omega, by rw [e]; exact h.1, .inl (by simp; omega), h.2⟩
def apW (x : Nat) : Nat := fop .quo .f32 (fop .sub .f32 1065353216 x) (fop .add .f32 1065353216 x)
/-- the whole part of a delay, as a word -/
def nfA (d : Nat) : Nat := FloatKind.f32.nearest ((posF d : Nat) : Int)
def partB (d nf : Nat) : Bool := spotB nf && decide (1 ≤ posF nf) && decide (posF nf ≤ 1024) && fGe .f32 (fop .sub .f32 d nf) 0 && fLe .f32 (fop .sub .f32 d nf) 1073741824 && finF (apW (fop .sub .f32 d nf))
def newB (pw mw : Nat) : Bool := (fGe .f32 pw 1077936128 && fLe .f32 pw 1149239296) && (fGe .f32 mw 0 && fLe .f32 mw 1056964608) && spotB (fop .sub .f32 pw mw) && (floatToFloatBits .f64 (floorX (wide (fop .sub .f32 pw mw))) .f32 == some (nfA (fop .sub .f32 pw mw))) && partB (fop .sub .f32 pw mw) (nfA (fop .sub .f32 pw mw)) && partB (fop .sub .f32 pw mw) (fop .sub .f32 (nfA (fop .sub .f32 pw mw)) 1065353216) && finF (fop .sub .f32 1065353216 mw) && finF mw
structure PartOk (d nf : Nat) : Prop where
  s : SpotE nf
  n1 : 1 ≤ posF nf
  n2 : posF nf ≤ 1024
  g : fGe .f32 (fop .sub .f32 d nf) 0 = true
  l : fLe .f32 (fop .sub .f32 d nf) 1073741824 = true
  f : finF (apW (fop .sub .f32 d nf)) = true
theorem PartOk.of {d nf : Nat} (h : partB d nf = true) : PartOk d nf := by
  simp only [partB, Bool.and_eq_true, decide_eq_true_eq] at h
  exact ⟨spotB_of h.1.1.1.1.1, h.1.1.1.1.2, h.1.1.1.2, h.1.1.2, h.1.2, h.2⟩
structure NewOk (pw mw : Nat) : Prop where
  p : (fGe .f32 pw 1077936128 && fLe .f32 pw 1149239296) = true
  m : (fGe .f32 mw 0 && fLe .f32 mw 1056964608) = true
  s : SpotE (fop .sub .f32 pw mw)
  w : Narrows (floorX (wide (fop .sub .f32 pw mw))) (nfA (fop .sub .f32 pw mw))
  a : PartOk (fop .sub .f32 pw mw) (nfA (fop .sub .f32 pw mw))
  b : PartOk (fop .sub .f32 pw mw) (fop .sub .f32 (nfA (fop .sub .f32 pw mw)) 1065353216)
  f : finF (fop .sub .f32 1065353216 mw) = true
  g : finF mw = true
theorem NewOk.of {pw mw : Nat} (h : newB pw mw = true) : NewOk pw mw := by
  simp only [newB, Bool.and_eq_true, beq_iff_eq] at h
  obtain ⟨⟨⟨⟨⟨⟨⟨h1, h2⟩, h3⟩, h4⟩, h5⟩, h6⟩, h7⟩, h8⟩ := h
  exact ⟨by simp [h1.1, h1.2], by simp [h2.1, h2.2], spotB_of h3, .inr h4, PartOk.of h5, PartOk.of h6, h7, h8⟩
/-- the strings of the laws: a period of 3 and some eighths, a mix of some 64ths -/
def perW (p : Nat) : Nat := fop .add .f32 1077936128 (fop .quo .f32 (FloatKind.f32.nearest ((p : Nat) : Int)) 1090519040)
def sixW (q : Nat) : Nat := fop .quo .f32 (FloatKind.f32.nearest ((q : Nat) : Int)) 1115684864
def newTab (q : Nat) : Bool := (List.range 40).all fun p => !isNaN .f32 (perW p) && newB (perW p) (sixW q)
def sixTab : Bool := (List.range 64).all fun q => !isNaN .f32 (sixW q) && finF (sixW q) && (fGe .f32 (sixW q) 0 && fLe .f32 (sixW q) 1065353216)

theorem sixTab_ok : sixTab = true := by decide +kernel
theorem six_ok {q : Nat} (hq : q < 64) : isNaN .f32 (sixW q) = false ∧ finF (sixW q) = true ∧ (fGe .f32 (sixW q) 0 && fLe .f32 (sixW q) 1065353216) = true := by
  have := List.all_eq_true.1 sixTab_ok q (by simpa using hq)
  rw [Bool.and_eq_true, Bool.and_eq_true] at this
  exact ⟨by simpa using this.1.1, this.1.2, this.2⟩

end Go.Proofs.Ytabfdgpldcegiaa
