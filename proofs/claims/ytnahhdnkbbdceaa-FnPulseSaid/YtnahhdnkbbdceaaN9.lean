/- Floating point, seventh part: the whole part of a number; places along a list. -/
import Derived.Test.YtnahhdnkbbdceaaF6
import Derived.Test.YtnahhdnkbbdceaaF14
import Derived.Test.YtnahhdnkbbdceaaE9
import Derived.Test.YtnahhdnkbbdceaaE11
import Derived.Test.YtnahhdnkbbdceaaE17
import Derived.Test.YtnahhdnkbbdceaaN8
set_option linter.unusedVariables false
set_option linter.unusedSimpArgs false
set_option maxRecDepth 10000
namespace Go.Proofs.Ytnahhdnkbbdceaa
open Ieee

/-- the whole part of a narrow word's number without its sign -/
def posF (p : Nat) : Nat := rungVal (p % 2147483648) / 2 ^ 149
/-- a number from 0 to `n`, perhaps -0 -/
structure Spot (p n : Nat) : Prop where
  fin : p % 2147483648 < 2139095040
  sgn : (p / 2147483648 % 2 == 1) = false ∨ p % 2147483648 = 0
  le : posF p ≤ n

theorem rung_zero {r : Nat} (h : rungVal r = 0) : r = 0 := by
  have r0 : rungVal 0 = 0 := by decide
  exact rungVal_inj (by rw [r0]; exact h)

theorem Spot.read {p n : Nat} (h : Spot p n) : ∃ s m i, FloatKind.f32.format.read p = .number s m i ∧ -149 ≤ i ∧ m * 2 ^ (i + 149).toNat = rungVal (p % 2147483648) ∧ (s = false ∨ m = 0) := by
  obtain ⟨m, i, h1, h2, h3⟩ := read_fin h.fin
  refine ⟨_, m, i, h1, h2, h3, ?_⟩
  rcases h.sgn with k | k
  · exact .inl k
  · right
    rw [k, show rungVal 0 = 0 by decide] at h3
    rcases Nat.mul_eq_zero.1 h3 with e | e
    · exact e
    · exact absurd e (Nat.pos_iff_ne_zero.1 (Nat.two_pow_pos _))

/-- the whole number below, as a wide word -/
def floorW (p : Nat) : Nat := FloatKind.f64.encode ((FloatKind.f64.decode (wide p)).integral .down)
theorem whole_nat {n : Nat} (hn : n ≤ 1024) : FloatKind.f32.nearest ((n : Nat) : Int) < 2139095040 ∧ rungVal (FloatKind.f32.nearest ((n : Nat) : Int)) = n * 2 ^ 149 ∧ True := by
  have key : ∀ n, n < 1025 → (decide (FloatKind.f32.nearest ((n : Nat) : Int) < 2139095040) && decide (rungVal (FloatKind.f32.nearest ((n : Nat) : Int)) = n * 2 ^ 149)) = true := by decide +kernel
  have := key n (by omega)
  simp only [Bool.and_eq_true, decide_eq_true_eq] at this
  exact ⟨this.1, this.2, trivial⟩
/-- A place within a list of `n` samples. -/
theorem Spot.of {pl n : Nat} (hg : fGe .f32 pl 0 = true) (hl : fLt .f32 pl 1065353216 = true) (hn : n ≤ 1024) : Spot (fop .mul .f32 pl (FloatKind.f32.nearest ((n : Nat) : Int))) n := by
  have z0 : FloatKind.f32.format.read 0 = .number false 0 (-149) := by decide +kernel
  have z1 : FloatKind.f32.format.read 1065353216 = .number false 8388608 (-23) := by decide +kernel
  have hp : pl % 2147483648 < 2139095040 ∧ rungVal (pl % 2147483648) ≤ 2 ^ 149 ∧ ((pl / 2147483648 % 2 == 1) = false ∨ pl % 2147483648 = 0) := by
    unfold fGe Format.order at hg
    unfold fLt Format.order at hl
    rw [z0] at hg
    rw [z1] at hl
    rcases read32 pl with ⟨hr, _⟩ | ⟨t, hr⟩ | ⟨m, i, hr, h1, h2, h3⟩
    · rw [hr] at hg hl
      generalize (pl / 2147483648 % 2 == 1) = t at hg hl
      cases t
      · simp [Datum.order] at hl
      · simp [Datum.order] at hg
    · rw [hr] at hl; simp [Datum.order] at hl
    · rw [hr, order_number (-149) h1 (by omega)] at hl hg
      have hx : m <<< (i - -149).toNat = rungVal (pl % 2147483648) := by rw [Nat.shiftLeft_eq, ← h2, show i - -149 = i + 149 by omega]
      have h8 : 8388608 <<< ((-23 : Int) - -149).toNat = 2 ^ 149 := by decide +kernel
      unfold signed at hg hl
      rw [hx] at hg hl
      rw [h8] at hl
      generalize (pl / 2147483648 % 2 == 1) = t at hg hl ⊢
      have hl' : compare (if t = true then -((rungVal (pl % 2147483648) : Nat) : Int) else ((rungVal (pl % 2147483648) : Nat) : Int)) (if false = true then -((2 ^ 149 : Nat) : Int) else ((2 ^ 149 : Nat) : Int)) = .lt := by simpa using hl
      rw [Std.compare_eq_lt] at hl'
      cases t
      · refine ⟨h3, ?_, .inl rfl⟩
        simp only [Bool.false_eq_true, if_false] at hl'
        omega
      · have hz : rungVal (pl % 2147483648) = 0 := by
          rcases Nat.eq_zero_or_pos (rungVal (pl % 2147483648)) with k | k
          · exact k
          · exfalso
            have hc : compare (-((rungVal (pl % 2147483648) : Nat) : Int)) (0 : Int) = .lt := by rw [Std.compare_eq_lt]; omega
            simp [hc] at hg
        exact ⟨h3, by rw [hz]; exact Nat.zero_le _, .inr (rung_zero hz)⟩
  obtain ⟨p1, p2, p3⟩ := hp
  obtain ⟨v1, v2, v3⟩ := whole_nat hn
  have vm : FloatKind.f32.nearest ((n : Nat) : Int) % 2147483648 = FloatKind.f32.nearest ((n : Nat) : Int) := Nat.mod_eq_of_lt (by omega)
  generalize FloatKind.f32.nearest ((n : Nat) : Int) = N at *
  rcases p3 with ps | pz
  · obtain ⟨b, hb, e⟩ := mul_leS (c := pl) (s := N) (r := N) p1 (by rw [vm]; exact v1) v1 (by
      rw [vm, Nat.mul_comm]
      exact Nat.mul_le_mul_left _ p2)
    have es : (N / 2147483648 % 2 == 1) = false := by simp; omega
    rw [ps, es] at e
    have e' : fop .mul .f32 pl N = b := by rw [e]; rfl
    have bm : b % 2147483648 = b := Nat.mod_eq_of_lt (by omega)
    refine ⟨by rw [e', bm]; omega, .inl (by rw [e']; simp; omega), ?_⟩
    unfold posF
    rw [e', bm]
    have h1 : rungVal b ≤ n * 2 ^ 149 := by
      rw [← v2]
      rcases Nat.lt_or_ge b N with c | c
      · exact Nat.le_of_lt (rungVal_lt c)
      · rw [show b = N by omega]; exact Nat.le_refl _
    exact Nat.le_trans (Nat.div_le_div_right h1) (Nat.le_of_eq (Nat.mul_div_cancel _ (Nat.two_pow_pos _)))
  · obtain ⟨z, b, hb, e⟩ := mul_le (c := pl) (s := N) (r := 0) p1 (by rw [vm]; exact v1) (by omega) (by rw [pz]; simp [rungVal])
    have hb0 : b = 0 := by omega
    subst hb0
    have hm : fop .mul .f32 pl N % 2147483648 = 0 := by rw [e]; exact word_mod32 z (by omega)
    refine ⟨by omega, .inr hm, ?_⟩
    unfold posF
    rw [hm]; simp [rungVal]
end Go.Proofs.Ytnahhdnkbbdceaa

/- Floating point, fifteenth part: sums and differences, told by exact values; sums that are exact. -/
set_option linter.unusedVariables false
set_option linter.unusedSimpArgs false
namespace Go.Proofs.Ytnahhdnkbbdceaa
open Ieee

theorem signed_sV {x m : Nat} {i p : Int} (h3 : m * 2 ^ (i + 149).toNat = rungVal (x % 2147483648)) (hp : p ≤ i) (h9 : -149 ≤ p) : signed (x / 2147483648 % 2 == 1) m (i - p).toNat * ((2 ^ (p + 149).toNat : Nat) : Int) = sV x := by
  have e : (m * 2 ^ (i - p).toNat) * 2 ^ (p + 149).toNat = rungVal (x % 2147483648) := by
    rw [← h3, Nat.mul_assoc, ← Nat.pow_add, show (i - p).toNat + (p + 149).toNat = (i + 149).toNat by omega]
  unfold signed sV
  rw [Nat.shiftLeft_eq]
  generalize m * 2 ^ (i - p).toNat = u at e
  generalize 2 ^ (p + 149).toNat = v at e
  rw [← e]
  cases (x / 2147483648 % 2 == 1)
  · simp
  · simp [Int.neg_mul]
/-- the sum (the difference, where `t2`) of two numbers, told by its exact value -/
theorem sum_sV {x y K : Nat} {S : Int} (hK : K = 925) (t2 : Bool) (hx : x % 2147483648 < 2139095040) (hy : y % 2147483648 < 2139095040) (hS : S = sV x + (if t2 then -sV y else sV y)) :
    ((FloatKind.f32.format.read x).sum (if t2 then (FloatKind.f32.format.read y).opposite else FloatKind.f32.format.read y)).map FloatKind.f32.format.write = some (FloatKind.f32.format.word (if S = 0 then (x / 2147483648 % 2 == 1) && ((y / 2147483648 % 2 == 1) ^^ t2) else decide (S < 0)) (rungOf (S.natAbs * 2 ^ K))) := by
  obtain ⟨m, i, h1, h2, h3⟩ := read_fin hx
  obtain ⟨n, j, g1, g2, g3⟩ := read_fin hy
  rw [h1, g1]
  have ht : (if t2 then (Datum.number (y / 2147483648 % 2 == 1) n j).opposite else Datum.number (y / 2147483648 % 2 == 1) n j) = Datum.number ((y / 2147483648 % 2 == 1) ^^ t2) n j := by
    cases t2
    · simp
    · simp [Datum.opposite]
  rw [ht]
  obtain ⟨p, hp⟩ : ∃ p, p = min i j := ⟨_, rfl⟩
  have hpi : p ≤ i := by rw [hp]; omega
  have hpj : p ≤ j := by rw [hp]; omega
  have hp149 : -149 ≤ p := by rw [hp]; omega
  have k1 := signed_sV h3 hpi hp149
  have k2 := signed_sV g3 hpj hp149
  have k3 : signed ((y / 2147483648 % 2 == 1) ^^ t2) n (j - p).toNat * ((2 ^ (p + 149).toNat : Nat) : Int) = (if t2 then -sV y else sV y) := by
    rw [← k2]
    unfold signed
    cases t2 <;> cases (y / 2147483648 % 2 == 1) <;> simp [Int.neg_mul]
  have hv : (0 : Int) < ((2 ^ (p + 149).toNat : Nat) : Int) := Int.ofNat_lt.2 (Nat.two_pow_pos _)
  have hT : (signed (x / 2147483648 % 2 == 1) m (i - p).toNat + signed ((y / 2147483648 % 2 == 1) ^^ t2) n (j - p).toNat) * ((2 ^ (p + 149).toNat : Nat) : Int) = S := by
    rw [Int.add_mul, k1, k3, hS]
  simp only [Datum.sum, Format.write, ← hp, Option.map]
  generalize signed (x / 2147483648 % 2 == 1) m (i - p).toNat + signed ((y / 2147483648 % 2 == 1) ^^ t2) n (j - p).toNat = T at hT ⊢
  rw [nearest_spec _ _ (by omega)]
  have e1 : (p + 1074).toNat = (p + 149).toNat + K := by omega
  have e2 : T.natAbs * 2 ^ (p + 1074).toNat = S.natAbs * 2 ^ K := by
    rw [e1, Nat.pow_add, ← Nat.mul_assoc, ← hT, Int.natAbs_mul]
    rfl
  rw [e2]
  generalize hv9 : ((2 ^ (p + 149).toNat : Nat) : Int) = v at hT hv
  have z1 : T = 0 ↔ S = 0 := by
    rw [← hT]
    constructor
    · intro h; rw [h, Int.zero_mul]
    · intro h
      rcases Int.mul_eq_zero.1 h with h' | h'
      · exact h'
      · omega
  have z2 : T < 0 ↔ S < 0 := by
    rw [← hT]
    constructor
    · intro h; exact Int.mul_neg_of_neg_of_pos h hv
    · intro h
      by_cases h' : T < 0
      · exact h'
      · exact absurd h (Int.not_lt.2 (Int.mul_nonneg (Int.not_lt.1 h') (Int.le_of_lt hv)))
  by_cases h0 : S = 0
  · rw [if_pos h0, if_pos (z1.2 h0)]
  · rw [if_neg h0, if_neg (fun h => h0 (z1.1 h))]
    congr 2
    exact decide_eq_decide.2 z2
end Go.Proofs.Ytnahhdnkbbdceaa

/- Operations: floats to whole numbers; the whole number below. -/
set_option linter.unusedVariables false
set_option linter.unusedSimpArgs false
namespace Go.Proofs.Ytnahhdnkbbdceaa
open Ieee
section
variable {P : Program} {n : Nat} {ρ : Env} {w : World} {dst : Option Tmp} {ty : TypeId} {pos : String} {af : Array Edge} {g : Option (Nat × Bool)}
end
end Go.Proofs.Ytnahhdnkbbdceaa

/- What a ring holds behind some samples; an append of many cells to a slice of one's own; slices of slices. -/
set_option linter.unusedVariables false
namespace Go.Proofs.Ytnahhdnkbbdceaa

/-- a ring of `n` behind `i` samples -/
def rgF (n : Nat) (L : List Nat) : Nat → List Nat
  | 0 => List.replicate n 0
  | i + 1 => (rgF n L i).set (i % n) (L.getD i 0)
/-- the sample that came `k` samples ago, when `i` have come -/
def dueF (L : List Nat) (i k : Nat) : Nat := if k ≤ i then L.getD (i - k) 0 else 0
section
variable {n : Nat} {L : List Nat}
end

section
variable {P : Program} {n : Nat} {ρ : Env} {w : World} {dst : Option Tmp} {ty : TypeId} {pos : String} {af : Array Edge} {g : Option (Nat × Bool)}
end
end Go.Proofs.Ytnahhdnkbbdceaa

/- Lists of floats of any length are appended to a slice of one's own. -/
set_option linter.unusedVariables false
set_option linter.unusedSimpArgs false
namespace Go.Proofs.Ytnahhdnkbbdceaa
/-- an order of sizes that `omega` does not see -/
def SzLe (a b : Nat) : Prop := a ≤ b
theorem SzLe.mk {a b : Nat} (h : a ≤ b) : SzLe a b := h
section
variable {P : Program} {n : Nat} {ρ : Env} {w : World} {dst : Option Tmp} {ty : TypeId} {pos : String} {af : Array Edge} {g : Option (Nat × Bool)}
theorem Own.place {e : TypeId} {lo : Nat} {w : World} {A : Option Addr} {k c : Nat} {xs : List Value} (h : Own e 1 lo w A k c xs) : ∃ b, (0 < k → A = some ⟨b, 0, none⟩) ∧ Rng w b 0 xs ∧ lo ≤ b := by
  rcases h.own with ⟨rfl, rfl, _⟩ | ⟨g, cur, rfl, h2, h3, h4, _, h6, h7⟩
  · have hx : xs = [] := List.eq_nil_of_length_eq_zero (by rw [h.len])
    subst hx
    exact ⟨lo, fun h => absurd h (Nat.lt_irrefl _), Rng.nil _ _ _, Nat.le_refl _⟩
  · have r : Row w g 0 xs := ⟨cur, e, h3, fun i v hv => by
      rw [← h7, List.getElem?_take] at hv
      split at hv
      · simpa using hv
      · cases hv⟩
    exact ⟨g, fun _ => rfl, r.rng, h2⟩
end
end Go.Proofs.Ytnahhdnkbbdceaa

/- Pipes that are drawn. -/
set_option linter.unusedVariables false
set_option linter.unusedSimpArgs false
set_option maxRecDepth 100000
set_option maxHeartbeats 8000000
namespace Go.Proofs.Ytnahhdnkbbdceaa

theorem rng0S {n b o p : Nat} {xs : List Nat} {w0 w w' : World} {S : List Nat} (ln : xs.length = n) (hne : 0 < n → b ≠ p) (h0 : Rng w0 b o (bys xs)) (h : Rng w b o (bys xs)) (m : Mod (p :: S) w w') (hS : ∀ c, c ∈ S → w0.heap.size ≤ c) : Rng w' b o (bys xs) := by
  intro i v hv
  have hi : i < (bys xs).length := (List.getElem?_eq_some_iff.1 hv).1
  rw [bys_len, ln] at hi
  have hlt := World.block_lt_of_cell? w0 _ (h0 i v hv)
  exact m.cell (h i v hv) fun hc => by
    have h2 : b < w0.heap.size := hlt
    rcases List.mem_cons.1 hc with e | e
    · exact hne (by omega) e
    · have h1 : w0.heap.size ≤ b := hS _ e
      omega

theorem c_oneB (n : Nat) (c : Nat) (A : Option Addr) (b : Nat) (o : Nat) (xs : List Nat) (at_ : Nat) (s : Nat) (p : Nat) (top : Nat) (ln : xs.length = n) (hA : 0 < n → A = some ⟨b, o, none⟩) (hB : ∀ i, xs.getD i 0 < 256) (hn : n ≤ 4611686018427387904) (ha : at_ ≤ 4611686018427387000) (hs : s < 18446744073709551616) (ht : 2 ≤ top) (ht2 : top ≤ 100) (nbp : 0 < n → b ≠ p) (w : World) (q : Row w p 0 [.slice A n c, vI ((at_ : Nat) : Int), .int .u64 ((s : Nat) : Int)]) (r : Rng w b o (bys xs)) : Cl Try.prog 137 #[vP p 0, vI ((top : Nat) : Int)] w fun v w' => ∃ (ub : Bool) (s2 : Nat), v = .bool ub ∧ (s2 < 18446744073709551616) ∧ Row w' p 0 [.slice A n c, vI ((at_ + 1 : Nat) : Int), .int .u64 ((s2 : Nat) : Int)] ∧ Mod [p] w w' := by
 refine Cl.of Try.func137 Try.ntmps137 rfl rfl (ρ := [(0, vP p 0), (1, vI ((top : Nat) : Int))]) rfl ?_
 refine CE.seq (CE.region ?_)
 refine WD (op_assign rfl) rfl ?_
 refine WL.end (NE.code (CE.seq (CE.region ?_)))
 iterate 2 refine WD (op_move rfl) rfl ?_
 refine WL.call (oc_call (vs := [vP p 0, vI ((top : Nat) : Int)]) (cap := []) rfl rfl rfl Try.call54 (c_pick n c A b o xs at_ s p top ln hA hB (by omega) (by omega) (by omega) (by omega) (by omega) w q r)) rfl rfl (ltb rfl) ?_
 rintro _ w1 ⟨u1, s1, rfl, h1, h2, r1, m1⟩
 refine WD (op_eqi rfl rfl) rfl ?_
 refine WD (op_assign rfl) rfl ?_
 refine WL.end (NE.code (CE.ret' ?_))
 refine XE.leave1 Try.results137 rfl ?_
 refine ⟨(((u1 : Nat) : Int) == (0 : Int)), s1, rfl, ?_, r1, ((Mod.refl [p] w).then m1 ((aC (.inl (by simp)) aN)))⟩
 all_goals first | assumption | rfl | omega

end Go.Proofs.Ytnahhdnkbbdceaa
