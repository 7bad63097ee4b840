/- Floating point: words that are no NaN, canonical words, exact conversions, and how comparisons see them. -/
import Derived.Test.YtnahhdnkbbdceaaRows
import Derived.WalkKit
import Derived.WalkLawsBesides
namespace Go.Proofs.Ytnahhdnkbbdceaa
open Ieee

/-! ### Words and rungs -/
section
variable (f : Format)

theorem word_mod (neg : Bool) {r : Nat} (h : r < f.signWeight) : f.word neg r % f.signWeight = r := by
  unfold Format.word
  split
  · rw [Nat.add_mod_left]; exact Nat.mod_eq_of_lt h
  · exact Nat.mod_eq_of_lt h

theorem word_div (neg : Bool) {r : Nat} (h : r < f.signWeight) : (f.word neg r / f.signWeight % 2 == 1) = neg := by
  have hp : 0 < f.signWeight := Nat.two_pow_pos _
  unfold Format.word
  split
  · rename_i hn
    subst hn
    rw [Nat.add_div_left _ hp, Nat.div_eq_of_lt h]
    rfl
  · rename_i hn
    rw [Nat.div_eq_of_lt h]
    simp at hn
    subst hn
    rfl

theorem read_word (neg : Bool) {r : Nat} (h : r < f.signWeight) : f.read (f.word neg r) = if r < f.binade then .number neg r f.leastPlace
    else if r < f.infRung then .number neg (f.binade + r % f.binade) (f.leastPlace + (r / f.binade - 1 : Nat)) else if r = f.infRung then .infinity neg else .nan neg (r - f.infRung) := by
  unfold Format.read
  rw [word_mod f neg h, word_div f neg h]

theorem read_nearest_noNaN (neg : Bool) (mag : Nat) (place : Int) : (f.read (f.nearest neg mag place)).isNaN = false := by
  unfold Format.nearest
  have h0 := f.infRung_lt
  split
  · rw [read_word f neg (by omega : 0 < f.signWeight)]
    have hb : 0 < f.binade := Nat.two_pow_pos _
    simp [hb, Datum.isNaN]
  · have h1 : min ((max (place + mag.log2 - f.fractionBits) f.leastPlace - f.leastPlace).toNat * f.binade + Toward.even.cut neg (mag <<< (place - max (place + mag.log2 - f.fractionBits) f.leastPlace).toNat) (max (place + mag.log2 - f.fractionBits) f.leastPlace - place).toNat) f.infRung ≤ f.infRung := Nat.min_le_right _ _
    simp only
    rw [read_word f neg (by omega)]
    split
    · rfl
    · split
      · rfl
      · split
        · rfl
        · omega

theorem read_write_noNaN {d : Datum} (h : d.isNaN = false) : (f.read (f.write d)).isNaN = false := by
  cases d with
  | number neg mag place => exact read_nearest_noNaN f neg mag place
  | infinity neg =>
    have h0 := f.infRung_lt
    show (f.read (f.word neg f.infRung)).isNaN = false
    rw [read_word f neg h0]
    split
    · rfl
    · split
      · rfl
      · simp [Datum.isNaN]
  | nan neg fr => simp [Datum.isNaN] at h

end

/-! ### NaN and canonical words -/

def nanOf : FloatKind → Nat
  | .f32 => 2143289344
  | .f64 => 9221120237041090560

def isNaN (k : FloatKind) (b : Nat) : Bool := (k.format.read b).isNaN

/-- The word, or one and the same for all NaNs. -/
def cn (k : FloatKind) (b : Nat) : Nat := if isNaN k b then nanOf k else b

def wid (k : FloatKind) : Nat := 2 ^ k.format.width

theorem isNaN_nanOf (k : FloatKind) : isNaN k (nanOf k) = true := by cases k <;> decide +kernel

theorem isNaN_cn (k : FloatKind) (b : Nat) : isNaN k (cn k b) = isNaN k b := by
  unfold cn
  split
  · rename_i h; rw [h]; exact isNaN_nanOf k
  · rfl

theorem cn_of_not {k : FloatKind} {b : Nat} (h : isNaN k b = false) : cn k b = b := by simp [cn, h]

theorem binade_lt (k : FloatKind) : k.format.binade < k.format.infRung := by cases k <;> decide +kernel

theorem isNaN_of {k : FloatKind} {b : Nat} (h : k.format.infRung < b % k.format.signWeight) : isNaN k b = true := by
  have h1 := binade_lt k
  unfold isNaN Format.read
  simp only
  rw [if_neg (by omega), if_neg (by omega), if_neg (by omega)]
  rfl

theorem inf32 : FloatKind.f32.format.infRung = 2139095040 := by decide +kernel
theorem sign32 : FloatKind.f32.format.signWeight = 2147483648 := by decide +kernel
theorem wid32 : wid .f32 = 4294967296 := by decide +kernel
theorem inf64 : FloatKind.f64.format.infRung = 9218868437227405312 := by decide +kernel
theorem sign64 : FloatKind.f64.format.signWeight = 9223372036854775808 := by decide +kernel
theorem wid64 : wid .f64 = 18446744073709551616 := by decide +kernel

theorem cut_nanBits (k : FloatKind) (x y t : Nat) : isNaN k ((Question.nanBits k x y).cut t) = true ∧ (Question.nanBits k x y).cut t < wid k := by
  cases k
  · have e : (Question.nanBits .f32 x y).cut t = (t % 2) * 2147483648 + 2139095040 + 1 + (t / 2) % 8388607 := rfl
    rw [e]
    have h1 := Nat.mod_lt t (show 0 < 2 by omega)
    have h2 := Nat.mod_lt (t / 2) (show 0 < 8388607 by omega)
    generalize t % 2 = a at *
    generalize t / 2 % 8388607 = c at *
    constructor
    · refine isNaN_of ?_
      rw [inf32, sign32]; omega
    · rw [wid32]; omega
  · have e : (Question.nanBits .f64 x y).cut t = (t % 2) * 9223372036854775808 + 9218868437227405312 + 1 + (t / 2) % 4503599627370495 := rfl
    rw [e]
    have h1 := Nat.mod_lt t (show 0 < 2 by omega)
    have h2 := Nat.mod_lt (t / 2) (show 0 < 4503599627370495 by omega)
    generalize t % 2 = a at *
    generalize t / 2 % 4503599627370495 = c at *
    constructor
    · refine isNaN_of ?_
      rw [inf64, sign64]; omega
    · rw [wid64]; omega

theorem cut_nanConv (k : FloatKind) (x t : Nat) : isNaN k ((Question.nanConv k x).cut t) = true ∧ (Question.nanConv k x).cut t < wid k := by
  have e : (Question.nanConv k x).cut t = (Question.nanBits k 0 0).cut t := by cases k <;> rfl
  rw [e]; exact cut_nanBits k 0 0 t

/-! ### Arithmetic -/

/-- The result of an operation as a canonical word. -/
def fop (op : BinOp) (k : FloatKind) (a b : Nat) : Nat := (floatBits op k a b).getD (nanOf k)

theorem isNaN_iff {k : FloatKind} {b : Nat} : isNaN k b = true ↔ ∃ s t, k.format.read b = .nan s t := by
  unfold isNaN
  cases h : k.format.read b <;> simp [Datum.isNaN]

theorem floatBits_nan_l {op : BinOp} {k : FloatKind} {a b : Nat} (h : isNaN k a = true) : floatBits op k a b = none := by
  obtain ⟨s, t, h⟩ := isNaN_iff.1 h
  unfold floatBits
  split <;> simp [Format.add, Format.sub, Format.mul, Format.div, h, Datum.sum, Datum.product, Datum.quotient]

theorem floatBits_nan_r {op : BinOp} {k : FloatKind} {a b : Nat} (h : isNaN k b = true) : floatBits op k a b = none := by
  obtain ⟨s, t, h⟩ := isNaN_iff.1 h
  unfold floatBits
  split <;> simp only [Format.add, Format.sub, Format.mul, Format.div, h, Datum.opposite] <;> cases k.format.read a <;> simp [Datum.sum, Datum.product, Datum.quotient]

theorem fop_cn_l (op : BinOp) (k : FloatKind) (a b : Nat) : fop op k (cn k a) b = fop op k a b := by
  cases h : isNaN k a
  · rw [cn_of_not h]
  · unfold fop
    rw [floatBits_nan_l h, floatBits_nan_l (by rw [isNaN_cn]; exact h)]

theorem fop_cn_r (op : BinOp) (k : FloatKind) (a b : Nat) : fop op k a (cn k b) = fop op k a b := by
  cases h : isNaN k b
  · rw [cn_of_not h]
  · unfold fop
    rw [floatBits_nan_r h, floatBits_nan_r (by rw [isNaN_cn]; exact h)]

theorem floatBits_lt {op : BinOp} {k : FloatKind} {x y r : Nat} (h : floatBits op k x y = some r) : r < wid k := by
  unfold floatBits at h
  split at h
  · exact k.format.add_lt h
  · exact k.format.sub_lt h
  · exact k.format.mul_lt h
  · exact k.format.div_lt h
  · cases h

theorem fop_lt (op : BinOp) (k : FloatKind) (a b : Nat) : fop op k a b < wid k := by
  unfold fop
  cases h : floatBits op k a b with
  | none => cases k <;> simp [nanOf, wid, FloatKind.format, Ieee.single, Ieee.double, Format.width]
  | some r => exact floatBits_lt h

/-! ### Comparisons -/

def fEq (k : FloatKind) (a b : Nat) : Bool := k.format.order a b == some .eq
def fLt (k : FloatKind) (a b : Nat) : Bool := k.format.order a b == some .lt
def fGt (k : FloatKind) (a b : Nat) : Bool := k.format.order a b == some .gt
def fLe (k : FloatKind) (a b : Nat) : Bool := k.format.order a b == some .lt || k.format.order a b == some .eq
def fGe (k : FloatKind) (a b : Nat) : Bool := k.format.order a b == some .gt || k.format.order a b == some .eq

theorem order_cn_l (k : FloatKind) (a b : Nat) : k.format.order (cn k a) b = k.format.order a b := by
  cases h : isNaN k a
  · rw [cn_of_not h]
  · obtain ⟨s, t, h1⟩ := isNaN_iff.1 h
    obtain ⟨s', t', h2⟩ := isNaN_iff.1 (show isNaN k (cn k a) = true by rw [isNaN_cn]; exact h)
    simp [Format.order, h1, h2, Datum.order]

theorem order_nan_r {k : FloatKind} {a b : Nat} (h : isNaN k b = true) : k.format.order a b = none := by
  obtain ⟨s, t, h⟩ := isNaN_iff.1 h
  simp only [Format.order, h]
  cases k.format.read a <;> rfl

theorem order_nan_l {k : FloatKind} {a b : Nat} (h : isNaN k a = true) : k.format.order a b = none := by
  obtain ⟨s, t, h⟩ := isNaN_iff.1 h
  simp only [Format.order, h]
  rfl

theorem order_cn_r (k : FloatKind) (a b : Nat) : k.format.order a (cn k b) = k.format.order a b := by
  cases h : isNaN k b
  · rw [cn_of_not h]
  · rw [order_nan_r h, order_nan_r (by rw [isNaN_cn]; exact h)]

theorem fEq_cn_l (k : FloatKind) (a b : Nat) : fEq k (cn k a) b = fEq k a b := by simp [fEq, order_cn_l]
theorem fEq_cn_r (k : FloatKind) (a b : Nat) : fEq k a (cn k b) = fEq k a b := by simp [fEq, order_cn_r]
theorem fLt_cn_l (k : FloatKind) (a b : Nat) : fLt k (cn k a) b = fLt k a b := by simp [fLt, order_cn_l]
theorem fLt_cn_r (k : FloatKind) (a b : Nat) : fLt k a (cn k b) = fLt k a b := by simp [fLt, order_cn_r]
theorem fGt_cn_l (k : FloatKind) (a b : Nat) : fGt k (cn k a) b = fGt k a b := by simp [fGt, order_cn_l]
theorem fGt_cn_r (k : FloatKind) (a b : Nat) : fGt k a (cn k b) = fGt k a b := by simp [fGt, order_cn_r]
theorem fLe_cn_l (k : FloatKind) (a b : Nat) : fLe k (cn k a) b = fLe k a b := by simp [fLe, order_cn_l]
theorem fLe_cn_r (k : FloatKind) (a b : Nat) : fLe k a (cn k b) = fLe k a b := by simp [fLe, order_cn_r]
theorem fGe_cn_l (k : FloatKind) (a b : Nat) : fGe k (cn k a) b = fGe k a b := by simp [fGe, order_cn_l]
theorem fGe_cn_r (k : FloatKind) (a b : Nat) : fGe k a (cn k b) = fGe k a b := by simp [fGe, order_cn_r]

/-- a word is equal to itself just if it is no NaN -/
theorem fEq_self (k : FloatKind) (a : Nat) : fEq k a a = !isNaN k a := by
  cases h : isNaN k a
  · have h' : ∀ s t, k.format.read a ≠ .nan s t := fun s t e => by
      have := isNaN_iff.2 ⟨s, t, e⟩
      rw [h] at this; cases this
    unfold fEq Format.order
    cases hr : k.format.read a with
    | number s m i => simp [Datum.order, Std.compare_self]
    | infinity s => simp [Datum.order, Std.compare_self]
    | nan s t => exact absurd hr (h' s t)
  · simp [fEq, order_nan_l h]

end Go.Proofs.Ytnahhdnkbbdceaa

/- The engine of this claim's walks, nineteenth part: products of floats do not look at the order. -/
namespace Go.Proofs.Ytnahhdnkbbdceaa
open Ieee
theorem product_comm (x y : Datum) : Datum.product x y = Datum.product y x := by
  cases x <;> cases y <;> simp [Datum.product, Bool.xor_comm, Nat.mul_comm, Int.add_comm]
theorem fop_mul_comm (k : FloatKind) (a b : Nat) : fop .mul k a b = fop .mul k b a := by
  unfold fop floatBits
  simp only [Format.mul]
  rw [product_comm]
end Go.Proofs.Ytnahhdnkbbdceaa
