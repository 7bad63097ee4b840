/- The engine of this claim's walks, sixteenth part: lists of rings that are filled, ring by ring, and rings that are overwritten. -/
import Derived.Test.YtemnjphnhmbddaaE15
import Derived.Test.YtemnjphnhmbddaaE9
import Derived.Test.YtemnjphnhmbddaaF7
import Derived.Test.YtemnjphnhmbddaaE11
import Derived.Maps.AppendAt
import Derived.Deep.Upon
import Derived.Lib.AppendZeros
namespace Go.Proofs.Ytemnjphnhmbddaa

section
variable {D : List RD} {P : List BC} {n i k : Nat} {lo : Nat} {w w' : World} {S : List Nat}

/-- a ring that came in lies in this world -/
def RiR.Ok (w : World) (e : RiR) : Prop := e.xs.length = e.n ∧ (0 < e.n → e.A = some ⟨e.b, e.o, none⟩) ∧ W32 e.xs ∧ Rng w e.b e.o (fl e.xs) ∧ e.n ≤ 9223372036854775807
theorem RiR.of {w : World} (cs : List Value) (h : Cells w [isSl [isF .f32], isI .i64] cs) : ∃ a, cs = RiR.cells a ∧ RiR.Ok w a := by
  obtain ⟨u0, r0, rfl, s0, k0⟩ := Cells.cons h
  obtain ⟨u1, r1, rfl, ⟨i, rfl, h0, h1⟩, k1⟩ := Cells.cons k0
  obtain rfl := Cells.nil k1
  obtain ⟨A, n, c, b, o, xs, rfl, hA, hn, hc, hz, hl, hr, hw⟩ := isSl_floats s0
  exact ⟨⟨A, n, c, b, o, xs, i⟩, rfl, hl, hA, hw, hr, Nat.le_trans hn hc⟩
theorem InF.of {w : World} {es : List RiR} (h : ∀ x ∈ es, RiR.Ok w x) : InF w es := by
  have k : ∀ i, RiR.Ok w (es.getD i RiR.d) := fun i => getD_all h ⟨rfl, fun h => absurd h (Nat.lt_irrefl _), W32.nil, Rng.nil _ _ _, Nat.zero_le _⟩ i
  exact ⟨fun i => (k i).1, fun i => (k i).2.1, fun i => (k i).2.2.1, fun i => (k i).2.2.2.1, fun i => (k i).2.2.2.2⟩

/-- an empty ring -/
def zf (_ : Unit) : List Value := [.slice none 0 0, vI 0]
/-- the cells of a list of `n` rings of which the first ones are filled -/
def olz (n : Nat) (D : List RD) (P : List BC) : List Value := olc D P ++ cat zf (List.replicate (n - D.length) ())
end
end Go.Proofs.Ytemnjphnhmbddaa

/- Operations: floats to whole numbers; the whole number below. -/
set_option linter.unusedVariables false
set_option linter.unusedSimpArgs false
namespace Go.Proofs.Ytemnjphnhmbddaa
open Ieee
section
variable {P : Program} {n : Nat} {ρ : Env} {w : World} {dst : Option Tmp} {ty : TypeId} {pos : String} {af : Array Edge} {g : Option (Nat × Bool)}
end
end Go.Proofs.Ytemnjphnhmbddaa

/- What a ring holds behind some samples; an append of many cells to a slice of one's own; slices of slices. -/
set_option linter.unusedVariables false
namespace Go.Proofs.Ytemnjphnhmbddaa

/-- a ring of `n` behind `i` samples -/
def rgF (n : Nat) (L : List Nat) : Nat → List Nat
  | 0 => List.replicate n 0
  | i + 1 => (rgF n L i).set (i % n) (L.getD i 0)
/-- the sample that came `k` samples ago, when `i` have come -/
def dueF (L : List Nat) (i k : Nat) : Nat := if k ≤ i then L.getD (i - k) 0 else 0
section
variable {n : Nat} {L : List Nat}
end

section
variable {P : Program} {n : Nat} {ρ : Env} {w : World} {dst : Option Tmp} {ty : TypeId} {pos : String} {af : Array Edge} {g : Option (Nat × Bool)}
end
end Go.Proofs.Ytemnjphnhmbddaa

/- The engine of this claim's walks, seventeenth part: slices that are appended to, one by one, at places that are told. -/
namespace Go.Proofs.Ytemnjphnhmbddaa

section
variable {e : TypeId} {m lo : Nat} {w w' : World} {A : Option Addr} {n c b : Nat} {xs : List Value}
end

section
variable {P : Program} {n : Nat} {ρ : Env} {w : World} {dst : Option Tmp} {ty : TypeId} {pos : String} {af : Array Edge} {g : Option (Nat × Bool)}
end
end Go.Proofs.Ytemnjphnhmbddaa

/- Lists of floats of any length are appended to a slice of one's own. -/
set_option linter.unusedVariables false
set_option linter.unusedSimpArgs false
namespace Go.Proofs.Ytemnjphnhmbddaa
/-- an order of sizes that `omega` does not see -/
def SzLe (a b : Nat) : Prop := a ≤ b
section
variable {P : Program} {n : Nat} {ρ : Env} {w : World} {dst : Option Tmp} {ty : TypeId} {pos : String} {af : Array Edge} {g : Option (Nat × Bool)}
theorem Own.place {e : TypeId} {lo : Nat} {w : World} {A : Option Addr} {k c : Nat} {xs : List Value} (h : Own e 1 lo w A k c xs) : ∃ b, (0 < k → A = some ⟨b, 0, none⟩) ∧ Rng w b 0 xs ∧ lo ≤ b := by
  rcases h.own with ⟨rfl, rfl, _⟩ | ⟨g, cur, rfl, h2, h3, h4, _, h6, h7⟩
  · have hx : xs = [] := List.eq_nil_of_length_eq_zero (by rw [h.len])
    subst hx
    exact ⟨lo, fun h => absurd h (Nat.lt_irrefl _), Rng.nil _ _ _, Nat.le_refl _⟩
  · have r : Row w g 0 xs := ⟨cur, e, h3, fun i v hv => by
      rw [← h7, List.getElem?_take] at hv
      split at hv
      · simpa using hv
      · cases hv⟩
    exact ⟨g, fun _ => rfl, r.rng, h2⟩
end
end Go.Proofs.Ytemnjphnhmbddaa

/- Slices of slices; the append of a made slice; capacities. -/
set_option linter.unusedVariables false
namespace Go.Proofs.Ytemnjphnhmbddaa

section
variable {e : TypeId} {m lo : Nat} {w : World} {b n c : Nat} {xs : List Value}
/-- a slice of one's own without cells, with room -/
def Room (e : TypeId) (lo : Nat) (w : World) (b c : Nat) : Prop := 0 < c ∧ Own e 1 lo w (some ⟨b, 0, none⟩) 0 c []
end
section
variable {P : Program} {n : Nat} {ρ : Env} {w : World} {dst : Option Tmp} {ty : TypeId} {pos : String} {af : Array Edge} {g : Option (Nat × Bool)}
end
end Go.Proofs.Ytemnjphnhmbddaa

/- An append of one element that tells what it wrote. -/
set_option linter.unusedVariables false
set_option linter.unusedSimpArgs false
namespace Go.Proofs.Ytemnjphnhmbddaa
section
variable {P : Program} {n : Nat} {ρ : Env} {w : World} {dst : Option Tmp} {ty : TypeId} {pos : String} {af : Array Edge} {g : Option (Nat × Bool)}
/-- where a slice from `i` on lies, of which perhaps nothing is left -/
def slA (b o c i : Nat) : Option Addr := if c = i then some ⟨b, o, none⟩ else some ⟨b, o + i, none⟩
end
end Go.Proofs.Ytemnjphnhmbddaa
