/- Small dyadic numbers: m/128 as a float. -/
import Derived.Test.YtemnjphnhmbddaaF15
set_option linter.unusedVariables false
set_option maxRecDepth 100000
namespace Go.Proofs.Ytemnjphnhmbddaa

def wq (m : Int) : Nat := FloatKind.f32.format.nearest (decide (m < 0)) m.natAbs (-7)
def wqB (m : Int) : Bool := decide (wq m < 4294967296) && decide (wq m % 2147483648 < 2139095040) && (wq m != 2147483648) && (sV (wq m) == m * 5575186299632655785383929568162090376495104)
def haB (k : Int) : Bool := (fop .mul .f32 1056964608 (wq (2 * k)) == wq k) && (fop .quo .f32 (wq (2 * k)) 1073741824 == wq k) && (fop .mul .f32 1065353216 (wq (2 * k)) == wq (2 * k))
def plB (d : Int) : Bool := fop .quo .f32 (FloatKind.f32.nearest (d - 128)) 1115684864 == wq (2 * (d - 128))
theorem wq_t0 : (List.range 512).all (fun j => wqB ((j : Int) + (-4096))) = true := by decide +kernel
theorem wq_t1 : (List.range 512).all (fun j => wqB ((j : Int) + (-3584))) = true := by decide +kernel
theorem wq_t2 : (List.range 512).all (fun j => wqB ((j : Int) + (-3072))) = true := by decide +kernel
theorem wq_t3 : (List.range 512).all (fun j => wqB ((j : Int) + (-2560))) = true := by decide +kernel
theorem wq_t4 : (List.range 512).all (fun j => wqB ((j : Int) + (-2048))) = true := by decide +kernel
theorem wq_t5 : (List.range 512).all (fun j => wqB ((j : Int) + (-1536))) = true := by decide +kernel
theorem wq_t6 : (List.range 512).all (fun j => wqB ((j : Int) + (-1024))) = true := by decide +kernel
theorem wq_t7 : (List.range 512).all (fun j => wqB ((j : Int) + (-512))) = true := by decide +kernel
theorem wq_t8 : (List.range 512).all (fun j => wqB ((j : Int) + (0))) = true := by decide +kernel
theorem wq_t9 : (List.range 512).all (fun j => wqB ((j : Int) + (512))) = true := by decide +kernel
theorem wq_t10 : (List.range 512).all (fun j => wqB ((j : Int) + (1024))) = true := by decide +kernel
theorem wq_t11 : (List.range 512).all (fun j => wqB ((j : Int) + (1536))) = true := by decide +kernel
theorem wq_t12 : (List.range 512).all (fun j => wqB ((j : Int) + (2048))) = true := by decide +kernel
theorem wq_t13 : (List.range 512).all (fun j => wqB ((j : Int) + (2560))) = true := by decide +kernel
theorem wq_t14 : (List.range 512).all (fun j => wqB ((j : Int) + (3072))) = true := by decide +kernel
theorem wq_t15 : (List.range 512).all (fun j => wqB ((j : Int) + (3584))) = true := by decide +kernel
theorem wq_t16 : (List.range 1).all (fun j => wqB ((j : Int) + (4096))) = true := by decide +kernel
theorem ha_t0 : (List.range 512).all (fun j => haB ((j : Int) + (-2048))) = true := by decide +kernel
theorem ha_t1 : (List.range 512).all (fun j => haB ((j : Int) + (-1536))) = true := by decide +kernel
theorem ha_t2 : (List.range 512).all (fun j => haB ((j : Int) + (-1024))) = true := by decide +kernel
theorem ha_t3 : (List.range 512).all (fun j => haB ((j : Int) + (-512))) = true := by decide +kernel
theorem ha_t4 : (List.range 512).all (fun j => haB ((j : Int) + (0))) = true := by decide +kernel
theorem ha_t5 : (List.range 512).all (fun j => haB ((j : Int) + (512))) = true := by decide +kernel
theorem ha_t6 : (List.range 512).all (fun j => haB ((j : Int) + (1024))) = true := by decide +kernel
theorem ha_t7 : (List.range 512).all (fun j => haB ((j : Int) + (1536))) = true := by decide +kernel
theorem ha_t8 : (List.range 1).all (fun j => haB ((j : Int) + (2048))) = true := by decide +kernel
theorem pl_t : (List.range 257).all (fun j => plB ((j : Int))) = true := by decide +kernel
theorem tab_at {f : Int → Bool} {n : Nat} {s m : Int} (h : (List.range n).all (fun j => f ((j : Int) + s)) = true) (h0 : s ≤ m) (h1 : m < s + n) : f m = true := by
  have := List.all_eq_true.1 h (m - s).toNat (by rw [List.mem_range]; omega)
  have e : (((m - s).toNat : Nat) : Int) + s = m := by omega
  rw [e] at this; exact this
theorem wq_all {m : Int} (h0 : -4096 ≤ m) (h1 : m ≤ 4096) : wqB m = true := by
  by_cases c0 : m < -3584
  · exact tab_at wq_t0 (by omega) (by omega)
  by_cases c1 : m < -3072
  · exact tab_at wq_t1 (by omega) (by omega)
  by_cases c2 : m < -2560
  · exact tab_at wq_t2 (by omega) (by omega)
  by_cases c3 : m < -2048
  · exact tab_at wq_t3 (by omega) (by omega)
  by_cases c4 : m < -1536
  · exact tab_at wq_t4 (by omega) (by omega)
  by_cases c5 : m < -1024
  · exact tab_at wq_t5 (by omega) (by omega)
  by_cases c6 : m < -512
  · exact tab_at wq_t6 (by omega) (by omega)
  by_cases c7 : m < 0
  · exact tab_at wq_t7 (by omega) (by omega)
  by_cases c8 : m < 512
  · exact tab_at wq_t8 (by omega) (by omega)
  by_cases c9 : m < 1024
  · exact tab_at wq_t9 (by omega) (by omega)
  by_cases c10 : m < 1536
  · exact tab_at wq_t10 (by omega) (by omega)
  by_cases c11 : m < 2048
  · exact tab_at wq_t11 (by omega) (by omega)
  by_cases c12 : m < 2560
  · exact tab_at wq_t12 (by omega) (by omega)
  by_cases c13 : m < 3072
  · exact tab_at wq_t13 (by omega) (by omega)
  by_cases c14 : m < 3584
  · exact tab_at wq_t14 (by omega) (by omega)
  by_cases c15 : m < 4096
  · exact tab_at wq_t15 (by omega) (by omega)
  exact tab_at wq_t16 (by omega) (by omega)
theorem ha_all {m : Int} (h0 : -2048 ≤ m) (h1 : m ≤ 2048) : haB m = true := by
  by_cases c0 : m < -1536
  · exact tab_at ha_t0 (by omega) (by omega)
  by_cases c1 : m < -1024
  · exact tab_at ha_t1 (by omega) (by omega)
  by_cases c2 : m < -512
  · exact tab_at ha_t2 (by omega) (by omega)
  by_cases c3 : m < 0
  · exact tab_at ha_t3 (by omega) (by omega)
  by_cases c4 : m < 512
  · exact tab_at ha_t4 (by omega) (by omega)
  by_cases c5 : m < 1024
  · exact tab_at ha_t5 (by omega) (by omega)
  by_cases c6 : m < 1536
  · exact tab_at ha_t6 (by omega) (by omega)
  by_cases c7 : m < 2048
  · exact tab_at ha_t7 (by omega) (by omega)
  exact tab_at ha_t8 (by omega) (by omega)
theorem pl_all {d : Nat} (h : d < 257) : plB (d : Int) = true := List.all_eq_true.1 pl_t d (List.mem_range.2 h)
theorem wq_ok {m : Int} (h0 : -4096 ≤ m) (h1 : m ≤ 4096) : wq m < 4294967296 ∧ wq m % 2147483648 < 2139095040 ∧ wq m ≠ 2147483648 ∧ sV (wq m) = m * 5575186299632655785383929568162090376495104 := by
  have h := wq_all h0 h1
  unfold wqB at h
  rw [Bool.and_eq_true, Bool.and_eq_true, Bool.and_eq_true] at h
  obtain ⟨⟨⟨a, b⟩, c⟩, d⟩ := h
  exact ⟨of_decide_eq_true a, of_decide_eq_true b, bne_iff_ne.1 c, eq_of_beq d⟩
theorem wq_add {a b : Int} (h0 : -4096 ≤ a) (h1 : a ≤ 4096) (g0 : -4096 ≤ b) (g1 : b ≤ 4096) (k0 : -4096 ≤ a + b) (k1 : a + b ≤ 4096) : fop .add .f32 (wq a) (wq b) = wq (a + b) := by
  obtain ⟨a1, a2, a3, a4⟩ := wq_ok h0 h1
  obtain ⟨b1, b2, b3, b4⟩ := wq_ok g0 g1
  obtain ⟨c1, c2, c3, c4⟩ := wq_ok k0 k1
  exact add_ex a1 a2 b2 c1 c2 c3 a3 (by rw [a4, b4, c4, Int.add_mul])
theorem wq_sub {a b : Int} (h0 : -4096 ≤ a) (h1 : a ≤ 4096) (g0 : -4096 ≤ b) (g1 : b ≤ 4096) (k0 : -4096 ≤ a - b) (k1 : a - b ≤ 4096) : fop .sub .f32 (wq a) (wq b) = wq (a - b) := by
  obtain ⟨a1, a2, a3, a4⟩ := wq_ok h0 h1
  obtain ⟨b1, b2, b3, b4⟩ := wq_ok g0 g1
  obtain ⟨c1, c2, c3, c4⟩ := wq_ok k0 k1
  exact sub_ex a1 a2 b2 c1 c2 c3 a3 (by rw [a4, b4, c4, Int.sub_mul])
theorem ha_ok {k : Int} (h0 : -2048 ≤ k) (h1 : k ≤ 2048) : fop .mul .f32 1056964608 (wq (2 * k)) = wq k ∧ fop .quo .f32 (wq (2 * k)) 1073741824 = wq k ∧ fop .mul .f32 1065353216 (wq (2 * k)) = wq (2 * k) := by
  have h := ha_all h0 h1
  unfold haB at h
  rw [Bool.and_eq_true, Bool.and_eq_true] at h
  exact ⟨eq_of_beq h.1.1, eq_of_beq h.1.2, eq_of_beq h.2⟩
theorem pl_ok {d : Nat} (h : d < 257) : fop .quo .f32 (FloatKind.f32.nearest (((d : Nat) : Int) - 128)) 1115684864 = wq (2 * ((d : Int) - 128)) := eq_of_beq (pl_all h)
theorem wq_nan {m : Int} (h0 : -4096 ≤ m) (h1 : m ≤ 4096) : isNaN .f32 (wq m) = false := by
  obtain ⟨_, a2, _, _⟩ := wq_ok h0 h1
  rw [isNaN32]; simp; omega
theorem wq_eq {m : Int} {z : Nat} (h0 : -4096 ≤ m) (h1 : m ≤ 4096) (h : cn .f32 z = cn .f32 (wq m)) : z = wq m := eq_of_cn h (wq_nan h0 h1)
theorem wq_fEq {m : Int} (h0 : -4096 ≤ m) (h1 : m ≤ 4096) : fEq .f32 (wq m) (wq m) = true := by
  rw [fEq_self, wq_nan h0 h1]; rfl
theorem wq_fEq9 {a b : Int} (e : a = b) (h0 : -4096 ≤ a) (h1 : a ≤ 4096) : fEq .f32 (wq a) (wq b) = true := by
  subst e; exact wq_fEq h0 h1
section
variable {a b c d : Int} (h1 : -1024 ≤ a) (h2 : a ≤ 1024) (h3 : -1024 ≤ b) (h4 : b ≤ 1024) (h5 : -1024 ≤ c) (h6 : c ≤ 1024) (h7 : -1024 ≤ d) (h8 : d ≤ 1024) (hp : (a + b + c + d) % 2 = 0)
include h1 h2 h3 h4 h5 h6 h7 h8 hp
theorem mxw0 : fop .mul .f32 1056964608 (fop .add .f32 (fop .add .f32 (wq a) (wq b)) (fop .add .f32 (wq c) (wq d))) = wq ((a + b + c + d) / 2) := by
  rw [wq_add (by omega) (by omega) (by omega) (by omega) (by omega) (by omega), wq_add (a := c) (by omega) (by omega) (by omega) (by omega) (by omega) (by omega), wq_add (by omega) (by omega) (by omega) (by omega) (by omega) (by omega), show a + b + (c + d) = 2 * ((a + b + c + d) / 2) by omega]
  exact (ha_ok (by omega) (by omega)).1
theorem mxw1 : fop .mul .f32 1056964608 (fop .add .f32 (fop .sub .f32 (wq a) (wq b)) (fop .sub .f32 (wq c) (wq d))) = wq ((a - b + c - d) / 2) := by
  rw [wq_sub (by omega) (by omega) (by omega) (by omega) (by omega) (by omega), wq_sub (a := c) (by omega) (by omega) (by omega) (by omega) (by omega) (by omega), wq_add (by omega) (by omega) (by omega) (by omega) (by omega) (by omega), show a - b + (c - d) = 2 * ((a - b + c - d) / 2) by omega]
  exact (ha_ok (by omega) (by omega)).1
theorem mxw2 : fop .mul .f32 1056964608 (fop .sub .f32 (fop .add .f32 (wq a) (wq b)) (fop .add .f32 (wq c) (wq d))) = wq ((a + b - c - d) / 2) := by
  rw [wq_add (by omega) (by omega) (by omega) (by omega) (by omega) (by omega), wq_add (a := c) (by omega) (by omega) (by omega) (by omega) (by omega) (by omega), wq_sub (by omega) (by omega) (by omega) (by omega) (by omega) (by omega), show a + b - (c + d) = 2 * ((a + b - c - d) / 2) by omega]
  exact (ha_ok (by omega) (by omega)).1
theorem mxw3 : fop .mul .f32 1056964608 (fop .sub .f32 (fop .sub .f32 (wq a) (wq b)) (fop .sub .f32 (wq c) (wq d))) = wq ((a - b - c + d) / 2) := by
  rw [wq_sub (by omega) (by omega) (by omega) (by omega) (by omega) (by omega), wq_sub (a := c) (by omega) (by omega) (by omega) (by omega) (by omega) (by omega), wq_sub (by omega) (by omega) (by omega) (by omega) (by omega) (by omega), show a - b - (c - d) = 2 * ((a - b - c + d) / 2) by omega]
  exact (ha_ok (by omega) (by omega)).1
theorem shw : fop .quo .f32 (fop .mul .f32 1065353216 (fop .add .f32 (fop .add .f32 (fop .add .f32 (wq a) (wq b)) (wq c)) (wq d))) 1073741824 = wq ((a + b + c + d) / 2) := by
  rw [wq_add (by omega) (by omega) (by omega) (by omega) (by omega) (by omega), wq_add (by omega) (by omega) (by omega) (by omega) (by omega) (by omega), wq_add (by omega) (by omega) (by omega) (by omega) (by omega) (by omega), show a + b + c + d = 2 * ((a + b + c + d) / 2) by omega, (ha_ok (by omega) (by omega)).2.2, (ha_ok (by omega) (by omega)).2.1]
  congr 1; omega
end
end Go.Proofs.Ytemnjphnhmbddaa
