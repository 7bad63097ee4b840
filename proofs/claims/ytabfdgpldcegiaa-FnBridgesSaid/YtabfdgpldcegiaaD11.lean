/- The strings of the law on silence. -/
import Derived.Test.YtabfdgpldcegiaaD10
set_option linter.unusedVariables false
set_option linter.unusedSimpArgs false
namespace Go.Proofs.Ytabfdgpldcegiaa

/-- the law's string behind `k` steps in which nothing comes -/
def zL (n ta da mw lw : Nat) (zs : List Nat) (k : Nat) : StrSt := strAt n 3 ta 0 0 2 da mw 0 lw zs 0 0 0 0 0 (fun _ => 0) k
structure LawS (n ta da mw lw : Nat) : Prop where
  n1 : 1 ≤ n
  n2 : n ≤ 1024
  f1 : finF ta = true
  f2 : finF da = true
  f3 : finF mw = true
  f4 : finF lw = true
section
variable {n ta da mw lw : Nat} {zs : List Nat} {z : StrSt}
theorem fz9 : finF 0 = true := by decide +kernel
theorem zw9 : (0 : Nat) < wid .f32 := by decide +kernel
theorem Way.start (h : LawS n ta da mw lw) (hl : zs.length = n) (hw : W32 zs) : Way n ⟨zs, 0, 0, 0, 0, 0⟩ := ⟨h.n1, hl, hw, fz9, fz9, fz9, rfl, zw9, zw9, zw9⟩
theorem Way.valid (h : LawS n ta da mw lw) (w : Way n z) : vStr n ((z.i : Nat) : Int) 3 ta 0 0 z.t0 z.t1 2 da mw 0 z.d0 z.d1 lw = true := by
  rw [w.e]; exact vStr_law h.n1 h.n2 w.i h.f1 h.f2 h.f3 h.f4 w.f0 w.f1 w.f2
theorem still_over2 {n1 n2 : Nat} (h : 3000 < n1 ∨ 3000 < n2) : (decide ((3000 : Int) < ((n1 : Nat) : Int)) || decide ((3000 : Int) < ((n2 : Nat) : Int))) = true := by
  simp; omega
theorem still_in2 {n1 n2 : Nat} (h : n1 ≤ 3000) (h2 : n2 ≤ 3000) : (decide ((3000 : Int) < ((n1 : Nat) : Int)) || decide ((3000 : Int) < ((n2 : Nat) : Int))) = false := by
  simp; omega
/-- behind how many steps it is silent, and the code of the answer -/
def silN (n ta da mw lw : Nat) (zs : List Nat) : Nat := (silF n (fun ii => zL n ta da mw lw zs ii) (20000 + 1) 0).1.toNat
def silC (n ta da mw lw : Nat) (zs : List Nat) : Int := (silF n (fun ii => zL n ta da mw lw zs ii) (20000 + 1) 0).2
end

set_option maxRecDepth 100000 in
set_option maxHeartbeats 2000000 in
theorem c_a2Long (n1 : Nat) (c1 : Nat) (A1 : Option Addr) (n2 : Nat) (c2 : Nat) (A2 : Option Addr) (w : World) : Cl Try.prog 14 #[.slice A1 n1 c1, .slice A2 n2 c2] w fun v w' => v = .bool (decide ((3000 : Int) < ((n1 : Nat) : Int)) || decide ((3000 : Int) < ((n2 : Nat) : Int))) ∧ w = w' := by
  refine Cl.of Try.func14 Try.ntmps14 rfl rfl (ρ := [(0, .slice A1 n1 c1), (1, .slice A2 n2 c2)]) rfl ?_
  refine CE.seq ?_
  refine CE.region ?_
  refine WL.det (op_assign rfl) rfl rfl rfl ?_
  refine WL.end ?_
  refine NE.code ?_
  refine CE.seq ?_
  refine CE.region ?_
  refine WL.det (op_move rfl) rfl rfl rfl ?_
  refine WL.det (op_len rfl Try.runUnderlying22) rfl rfl rfl ?_
  refine WL.det (op_gti rfl rfl) rfl rfl rfl ?_
  refine WL.det (op_move rfl) rfl rfl rfl ?_
  rcases Bool.eq_false_or_eq_true (decide ((3000 : Int) < ((n1 : Nat) : Int))) with hb1 | hb1
  · have hp1 := of_decide_eq_true hb1
    refine WL.no rfl rfl rfl (ltb rfl) rfl hb1 rfl (ltb rfl) ?_
    refine WL.no rfl rfl rfl (ltb rfl) rfl hb1 rfl (ltb rfl) ?_
    refine WL.no rfl rfl rfl (ltb rfl) rfl hb1 rfl (ltb rfl) ?_
    refine WL.det (op_pick_t rfl hb1 rfl) rfl rfl rfl ?_
    refine WL.det (op_assign rfl) rfl rfl rfl ?_
    refine WL.end ?_
    refine NE.code ?_
    refine CE.ret' ?_
    refine XE.leave1 Try.results14 rfl ?_
    refine ⟨?_, rfl⟩
    all_goals first | (simp_all; done) | (simp_all; intros; omega)
  · have hp1 := of_decide_eq_false hb1
    refine WL.yes rfl rfl rfl (ltb rfl) rfl hb1 ?_
    refine WL.det (op_move rfl) rfl rfl rfl ?_
    refine WL.yes rfl rfl rfl (ltb rfl) rfl hb1 ?_
    refine WL.det (op_len rfl Try.runUnderlying22) rfl rfl rfl ?_
    refine WL.yes rfl rfl rfl (ltb rfl) rfl hb1 ?_
    refine WL.det (op_gti rfl rfl) rfl rfl rfl ?_
    refine WL.det (op_pick_f rfl hb1 rfl) rfl rfl rfl ?_
    refine WL.det (op_assign rfl) rfl rfl rfl ?_
    refine WL.end ?_
    refine NE.code ?_
    refine CE.ret' ?_
    refine XE.leave1 Try.results14 rfl ?_
    refine ⟨?_, rfl⟩
    all_goals first | (simp_all; done) | (simp_all; intros; omega)

end Go.Proofs.Ytabfdgpldcegiaa
