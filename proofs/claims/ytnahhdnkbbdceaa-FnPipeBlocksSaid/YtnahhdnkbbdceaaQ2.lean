/- What the checks on pairs of rings and on kinds of filters compute. -/
import Derived.Test.YtnahhdnkbbdceaaB3
import Derived.Test.YtnahhdnkbbdceaaG1
import Derived.Test.YtnahhdnkbbdceaaE15
set_option linter.unusedVariables false
set_option linter.unusedSimpArgs false
set_option maxRecDepth 100000
set_option maxHeartbeats 8000000
namespace Go.Proofs.Ytnahhdnkbbdceaa

theorem c_isFilter (kd : Int) (c0 : Nat) (c1 : Nat) (c2 : Nat) (s0 : Nat) (s1 : Nat) (kk : Int) (w : World) : Cl Try.prog 101 #[.agg #[vI kd, vF c0, vF c1, vF c2, vF s0, vF s1], vI kk] w fun v w' => v = .bool (vFil kd c0 c1 c2 s0 s1 && (kd == kk)) ∧ Mod [] w w' := by
 refine Cl.of Try.func101 Try.ntmps101 rfl rfl (ρ := [(0, .agg #[vI kd, vF c0, vF c1, vF c2, vF s0, vF s1]), (1, vI kk)]) rfl ?_
 refine CE.seq (CE.region ?_)
 refine WL.op (op_box (cs := [vI kd, vF c0, vF c1, vF c2, vF s0, vF s1]) rfl rfl) rfl rfl (ltb rfl) ?_
 rintro _ w1 ⟨rfl, r1, m1, z1⟩
 refine WD (op_assign rfl) rfl ?_
 refine WL.end (NE.code (CE.seq (CE.region ?_)))
 refine WD (op_loadA (i := 0) (cs := [vI kd, vF c0, vF c1, vF c2, vF s0, vF s1]) rfl Try.isAgg31 Try.sizeOf31 r1.rng rfl rfl rfl) rfl ?_
 refine WL.call (oc_call (vs := [.agg #[vI kd, vF c0, vF c1, vF c2, vF s0, vF s1]]) (cap := []) rfl rfl rfl Try.call145 (c_ValidFilter kd c0 c1 c2 s0 s1 w1)) rfl rfl (ltb rfl) ?_
 rintro _ w2 ⟨rfl, m2⟩
 refine WD (op_move rfl) rfl ?_
 rcases Bool.eq_false_or_eq_true (vFil kd c0 c1 c2 s0 s1) with hb1 | hb1
 ·refine WL.yes rfl rfl rfl (ltb rfl) rfl hb1 ?_
  refine WD (op_fieldAddr (off' := 0) rfl Try.runUnderlying31 rfl rfl Try.sizeOf2 rfl) rfl ?_
  refine WL.yes rfl rfl rfl (ltb rfl) rfl hb1 ?_
  refine WD (op_load1 (i := 0) rfl Try.isAgg2 (r1.ext m2).rng rfl rfl) rfl ?_
  refine WL.yes rfl rfl rfl (ltb rfl) rfl hb1 ?_
  refine WD (op_move rfl) rfl ?_
  refine WL.yes rfl rfl rfl (ltb rfl) rfl hb1 ?_
  refine WD (op_eqi rfl rfl) rfl ?_
  refine WD (op_pick_t rfl hb1 rfl) rfl ?_
  refine WD (op_assign rfl) rfl ?_
  refine WL.end (NE.code (CE.ret' ?_))
  refine XE.leave1 Try.results101 rfl ?_
  refine ⟨?_, (((Mod.refl [] w).nt m1).nt m2)⟩
  all_goals simp_all
 ·refine WL.no rfl rfl rfl (ltb rfl) rfl hb1 rfl (ltb rfl) ?_
  iterate 3 refine WL.no rfl rfl rfl (ltb rfl) rfl hb1 rfl (ltb rfl) ?_
  refine WD (op_pick_f rfl hb1 rfl) rfl ?_
  refine WD (op_assign rfl) rfl ?_
  refine WL.end (NE.code (CE.ret' ?_))
  refine XE.leave1 Try.results101 rfl ?_
  refine ⟨?_, (((Mod.refl [] w).nt m1).nt m2)⟩
  all_goals simp_all

end Go.Proofs.Ytnahhdnkbbdceaa

/- The engine of this claim's walks, sixteenth part: lists of rings that are filled, ring by ring, and rings that are overwritten. -/
namespace Go.Proofs.Ytnahhdnkbbdceaa

section
variable {D : List RD} {P : List BC} {n i k : Nat} {lo : Nat} {w w' : World} {S : List Nat}

/-- a ring that came in lies in this world -/
def RiR.Ok (w : World) (e : RiR) : Prop := e.xs.length = e.n ∧ (0 < e.n → e.A = some ⟨e.b, e.o, none⟩) ∧ W32 e.xs ∧ Rng w e.b e.o (fl e.xs) ∧ e.n ≤ 9223372036854775807
theorem RiR.of {w : World} (cs : List Value) (h : Cells w [isSl [isF .f32], isI .i64] cs) : ∃ a, cs = RiR.cells a ∧ RiR.Ok w a := by
  obtain ⟨u0, r0, rfl, s0, k0⟩ := Cells.cons h
  obtain ⟨u1, r1, rfl, ⟨i, rfl, h0, h1⟩, k1⟩ := Cells.cons k0
  obtain rfl := Cells.nil k1
  obtain ⟨A, n, c, b, o, xs, rfl, hA, hn, hc, hz, hl, hr, hw⟩ := isSl_floats s0
  exact ⟨⟨A, n, c, b, o, xs, i⟩, rfl, hl, hA, hw, hr, Nat.le_trans hn hc⟩
theorem InF.of {w : World} {es : List RiR} (h : ∀ x ∈ es, RiR.Ok w x) : InF w es := by
  have k : ∀ i, RiR.Ok w (es.getD i RiR.d) := fun i => getD_all h ⟨rfl, fun h => absurd h (Nat.lt_irrefl _), W32.nil, Rng.nil _ _ _, Nat.zero_le _⟩ i
  exact ⟨fun i => (k i).1, fun i => (k i).2.1, fun i => (k i).2.2.1, fun i => (k i).2.2.2.1, fun i => (k i).2.2.2.2⟩

/-- an empty ring -/
def zf (_ : Unit) : List Value := [.slice none 0 0, vI 0]
/-- the cells of a list of `n` rings of which the first ones are filled -/
def olz (n : Nat) (D : List RD) (P : List BC) : List Value := olc D P ++ cat zf (List.replicate (n - D.length) ())
end
end Go.Proofs.Ytnahhdnkbbdceaa

/- What the functions on lists of rings compute: sizes, copies, comparisons and marks. -/
set_option linter.unusedVariables false
set_option linter.unusedSimpArgs false
set_option maxRecDepth 100000
set_option maxHeartbeats 8000000
namespace Go.Proofs.Ytnahhdnkbbdceaa

/-- the number of samples of the first `i` rings -/
def sumR (es : List RiR) : Nat → Nat
  | 0 => 0
  | i + 1 => sumR es i + (es.getD i RiR.d).n
theorem rd_small {w : World} {es : List RiR} (h : InF w es) (hz : ∀ i, (es.getD i RiR.d).n ≤ 1048576) (i : Nat) : ((es.map RiR.rd).getD i RD.d).xs.length ≤ 1048576 := by
  rw [InF.rd]; exact Nat.le_trans (Nat.le_of_eq (h.len i)) (hz i)
theorem OF.congr {lo : Nat} {w : World} {D D' : List RD} {P : List BC} (h : OF lo w D P) (e : D = D') : OF lo w D' P := e ▸ h
end Go.Proofs.Ytnahhdnkbbdceaa

/- What the functions on pipes compute: sizes, copies, comparisons, marks; pipes that have not the right numbers of rings. -/
set_option linter.unusedVariables false
set_option linter.unusedSimpArgs false
set_option maxRecDepth 100000
set_option maxHeartbeats 8000000
namespace Go.Proofs.Ytnahhdnkbbdceaa

end Go.Proofs.Ytnahhdnkbbdceaa
