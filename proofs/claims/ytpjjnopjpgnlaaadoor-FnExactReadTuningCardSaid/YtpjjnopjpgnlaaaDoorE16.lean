/- The engine of this claim's walks, sixteenth part: lists of rings that are filled, ring by ring, and rings that are overwritten. -/
import Derived.Test.YtpjjnopjpgnlaaaDoorE15
namespace Go.Proofs.YtpjjnopjpgnlaaaDoor

section
variable {D : List RD} {P : List BC} {n i k : Nat} {lo : Nat} {w w' : World} {S : List Nat}

/-- a ring that came in lies in this world -/
def RiR.Ok (w : World) (e : RiR) : Prop := e.xs.length = e.n ∧ (0 < e.n → e.A = some ⟨e.b, e.o, none⟩) ∧ W32 e.xs ∧ Rng w e.b e.o (fl e.xs) ∧ e.n ≤ 9223372036854775807
theorem RiR.of {w : World} (cs : List Value) (h : Cells w [isSl [isF .f32], isI .i64] cs) : ∃ a, cs = RiR.cells a ∧ RiR.Ok w a := by
  obtain ⟨u0, r0, rfl, s0, k0⟩ := Cells.cons h
  obtain ⟨u1, r1, rfl, ⟨i, rfl, h0, h1⟩, k1⟩ := Cells.cons k0
  obtain rfl := Cells.nil k1
  obtain ⟨A, n, c, b, o, xs, rfl, hA, hn, hc, hz, hl, hr, hw⟩ := isSl_floats s0
  exact ⟨⟨A, n, c, b, o, xs, i⟩, rfl, hl, hA, hw, hr, Nat.le_trans hn hc⟩
theorem InF.of {w : World} {es : List RiR} (h : ∀ x ∈ es, RiR.Ok w x) : InF w es := by
  have k : ∀ i, RiR.Ok w (es.getD i RiR.d) := fun i => getD_all h ⟨rfl, fun h => absurd h (Nat.lt_irrefl _), W32.nil, Rng.nil _ _ _, Nat.zero_le _⟩ i
  exact ⟨fun i => (k i).1, fun i => (k i).2.1, fun i => (k i).2.2.1, fun i => (k i).2.2.2.1, fun i => (k i).2.2.2.2⟩

/-- an empty ring -/
def zf (_ : Unit) : List Value := [.slice none 0 0, vI 0]
/-- the cells of a list of `n` rings of which the first ones are filled -/
def olz (n : Nat) (D : List RD) (P : List BC) : List Value := olc D P ++ cat zf (List.replicate (n - D.length) ())
end
end Go.Proofs.YtpjjnopjpgnlaaaDoor
