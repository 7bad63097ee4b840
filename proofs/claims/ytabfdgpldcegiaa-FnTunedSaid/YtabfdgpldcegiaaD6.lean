/- What is drawn of bytes, told exactly. -/
import Derived.Test.YtabfdgpldcegiaaD1
set_option linter.unusedVariables false
set_option linter.unusedSimpArgs false
namespace Go.Proofs.Ytabfdgpldcegiaa

/-- what is drawn of bytes: the next number, and the seed behind it -/
def nxV (xs : List Nat) (n k s : Nat) : Nat := if k < n then xs.getD k 0 else sdL s 0 / 2 ^ 40 % 256
def nxS (xs : List Nat) (n k s : Nat) : Nat := sdL s (if k < n then xs.getD k 0 else 0)
def pk2 (xs : List Nat) (n k s top : Nat) : Nat := (nxV xs n k s * 256 + nxV xs n (k + 1) (nxS xs n k s)) % top
section
variable {xs : List Nat} {n k s : Nat}
end
/-- a plain number: from -2 to 2 in 64ths -/
def plainU (u : Nat) : Nat := fop .quo .f32 (FloatKind.f32.nearest (((u : Nat) : Int) - 128)) 1115684864
def plainF (xs : List Nat) (n : Nat) : Nat := plainU (pk2 xs n 0 0 257)
/-- a digit -/
def digF (xs : List Nat) (n k top : Nat) : Nat := if k < n then xs.getD k 0 % top else 0
theorem digF_in {xs : List Nat} {n k top : Nat} (h : k < n) : digF xs n k top = xs.getD k 0 % top := if_pos h
theorem digF_out {xs : List Nat} {n k top : Nat} (h : ¬ k < n) : digF xs n k top = 0 := if_neg h
theorem digF_lt {xs : List Nat} {n k top : Nat} (h : 1 ≤ top) : digF xs n k top < top := by
  unfold digF; split
  · exact Nat.mod_lt _ h
  · exact h

set_option maxRecDepth 100000 in
set_option maxHeartbeats 2000000 in
theorem c_A2DigitX (n : Nat) (c : Nat) (A : Option Addr) (b : Nat) (o : Nat) (xs : List Nat) (at_ : Nat) (top : Nat) (ln : xs.length = n) (hA : 0 < n → A = some ⟨b, o, none⟩) (hB : ∀ i, xs.getD i 0 < 256) (hn : n ≤ 4611686018427387904) (ht : 1 ≤ top) (w : World) (r : Rng w b o (bys xs)) : Cl Try.prog 16 #[.slice A n c, vI ((at_ : Nat) : Int), vI ((top : Nat) : Int)] w fun v w' => v = vI (((digF xs n at_ top) : Nat) : Int) ∧ (digF xs n at_ top < top) ∧ Mod [] w w' := by
  refine Cl.of Try.func16 Try.ntmps16 rfl rfl (ρ := [(0, .slice A n c), (1, vI ((at_ : Nat) : Int)), (2, vI ((top : Nat) : Int))]) rfl ?_
  refine CE.seq ?_
  refine CE.region ?_
  refine WL.det (op_assign rfl) rfl rfl rfl ?_
  refine WL.end ?_
  refine NE.code ?_
  refine CE.seq ?_
  refine CE.seq ?_
  refine CE.region ?_
  refine WL.det (op_move rfl) rfl rfl rfl ?_
  refine WL.det (op_move rfl) rfl rfl rfl ?_
  refine WL.det (op_len rfl Try.runUnderlying22) rfl rfl rfl ?_
  refine WL.det (op_gei rfl rfl) rfl rfl rfl ?_
  refine WL.det (op_move rfl) rfl rfl rfl ?_
  rcases Bool.eq_false_or_eq_true (decide (((n : Nat) : Int) ≤ ((at_ : Nat) : Int))) with hb1 | hb1
  · have hp1 := of_decide_eq_true hb1
    refine WL.no rfl rfl rfl (ltb rfl) rfl hb1 rfl (ltb rfl) ?_
    refine WL.no rfl rfl rfl (ltb rfl) rfl hb1 rfl (ltb rfl) ?_
    refine WL.det (op_pick_t rfl hb1 rfl) rfl rfl rfl ?_
    refine WL.end ?_
    refine NE.code ?_
    refine CE.cond_t rfl rfl ?_
    refine CE.seq ?_
    refine CE.region ?_
    refine WL.det (op_assign rfl) rfl rfl rfl ?_
    refine WL.end ?_
    refine NE.code ?_
    refine CE.ret' ?_
    refine XE.ret_then ?_
    refine XE.leave1 Try.results16 rfl ?_
    refine ⟨?_, ?_, (Mod.refl [] w)⟩
    all_goals first | assumption | omega | exact digF_lt ht | (rw [digF_in (by omega)]; done) | (rw [digF_out (by omega)]; rfl)
  · have hp1 := of_decide_eq_false hb1
    refine WL.yes rfl rfl rfl (ltb rfl) rfl hb1 ?_
    refine WL.det (op_move rfl) rfl rfl rfl ?_
    refine WL.yes rfl rfl rfl (ltb rfl) rfl hb1 ?_
    refine WL.det (op_lti rfl rfl) rfl rfl rfl ?_
    refine WL.det (op_pick_f rfl hb1 rfl) rfl rfl rfl ?_
    refine WL.end ?_
    refine NE.code ?_
    refine CE.cond_f rfl (decide_eq_false (by omega)) ?_
    refine CE.skip' ?_
    refine NE.code ?_
    refine CE.seq ?_
    refine CE.region ?_
    refine WL.det (op_move rfl) rfl rfl rfl ?_
    refine WL.det (op_move rfl) rfl rfl rfl ?_
    refine WL.det (op_indexSl (off' := o + at_) rfl (hA (by omega)) rfl Try.runUnderlying22 Try.sizeOf5 (by omega) (by omega) (by omega)) rfl rfl rfl ?_
    have hy1 := hB at_
    refine WL.det (op_load1 (i := at_) rfl Try.isAgg5 r rfl (bys_get (by have eL : List.length xs = n := ln; omega))) rfl rfl rfl ?_
    refine WL.det (op_cvt_ii (r := ((xs.getD at_ 0 : Nat) : Int)) rfl Try.runUnderlying5 Try.runUnderlying2 (w_i64 (by omega) (by omega))) rfl rfl rfl ?_
    refine WL.det (op_move rfl) rfl rfl rfl ?_
    have hm1 : (xs.getD at_ 0) % top < top := Nat.mod_lt _ (by omega)
    refine WL.det (op_rem (r := (((xs.getD at_ 0) % top : Nat) : Int)) rfl rfl (by omega) rfl) rfl rfl rfl ?_
    refine WL.det (op_assign rfl) rfl rfl rfl ?_
    refine WL.end ?_
    refine NE.code ?_
    refine CE.ret' ?_
    refine XE.leave1 Try.results16 rfl ?_
    refine ⟨?_, ?_, (Mod.refl [] w)⟩
    all_goals first | assumption | omega | exact digF_lt ht | (rw [digF_in (by omega)]; done) | (rw [digF_out (by omega)]; rfl)

end Go.Proofs.Ytabfdgpldcegiaa
