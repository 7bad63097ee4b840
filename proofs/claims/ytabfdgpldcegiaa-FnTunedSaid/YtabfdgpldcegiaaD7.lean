/- New strings. -/
import Derived.Test.YtabfdgpldcegiaaG7
set_option linter.unusedVariables false
set_option linter.unusedSimpArgs false
namespace Go.Proofs.Ytabfdgpldcegiaa

/-- a word from 0 on whose number is at most 1024 -/
def spotB (p : Nat) : Bool := decide (p < 2139095040) && decide (posF p ≤ 1024)
theorem spotB_of {p : Nat} (h : spotB p = true) : SpotE p := by
  simp only [spotB, Bool.and_eq_true, decide_eq_true_eq] at h
  have e : p % 2147483648 = p := Nat.mod_eq_of_lt (by omega)
  exact ⟨1024, by omega, by rw [e]; exact h.1, .inl (by simp; omega), h.2⟩
def apW (x : Nat) : Nat := fop .quo .f32 (fop .sub .f32 1065353216 x) (fop .add .f32 1065353216 x)
/-- the whole part of a delay, as a word -/
def nfA (d : Nat) : Nat := FloatKind.f32.nearest ((posF d : Nat) : Int)
def partB (d nf : Nat) : Bool := spotB nf && decide (1 ≤ posF nf) && decide (posF nf ≤ 1024) && fGe .f32 (fop .sub .f32 d nf) 0 && fLe .f32 (fop .sub .f32 d nf) 1073741824 && finF (apW (fop .sub .f32 d nf))
def newB (pw mw : Nat) : Bool := (fGe .f32 pw 1077936128 && fLe .f32 pw 1149239296) && (fGe .f32 mw 0 && fLe .f32 mw 1056964608) && spotB (fop .sub .f32 pw mw) && (floatToFloatBits .f64 (floorX (wide (fop .sub .f32 pw mw))) .f32 == some (nfA (fop .sub .f32 pw mw))) && partB (fop .sub .f32 pw mw) (nfA (fop .sub .f32 pw mw)) && partB (fop .sub .f32 pw mw) (fop .sub .f32 (nfA (fop .sub .f32 pw mw)) 1065353216) && finF (fop .sub .f32 1065353216 mw) && finF mw
structure PartOk (d nf : Nat) : Prop where
  s : SpotE nf
  n1 : 1 ≤ posF nf
  n2 : posF nf ≤ 1024
  g : fGe .f32 (fop .sub .f32 d nf) 0 = true
  l : fLe .f32 (fop .sub .f32 d nf) 1073741824 = true
  f : finF (apW (fop .sub .f32 d nf)) = true
theorem PartOk.of {d nf : Nat} (h : partB d nf = true) : PartOk d nf := by
  simp only [partB, Bool.and_eq_true, decide_eq_true_eq] at h
  exact ⟨spotB_of h.1.1.1.1.1, h.1.1.1.1.2, h.1.1.1.2, h.1.1.2, h.1.2, h.2⟩
structure NewOk (pw mw : Nat) : Prop where
  p : (fGe .f32 pw 1077936128 && fLe .f32 pw 1149239296) = true
  m : (fGe .f32 mw 0 && fLe .f32 mw 1056964608) = true
  s : SpotE (fop .sub .f32 pw mw)
  w : Narrows (floorX (wide (fop .sub .f32 pw mw))) (nfA (fop .sub .f32 pw mw))
  a : PartOk (fop .sub .f32 pw mw) (nfA (fop .sub .f32 pw mw))
  b : PartOk (fop .sub .f32 pw mw) (fop .sub .f32 (nfA (fop .sub .f32 pw mw)) 1065353216)
  f : finF (fop .sub .f32 1065353216 mw) = true
  g : finF mw = true
theorem NewOk.of {pw mw : Nat} (h : newB pw mw = true) : NewOk pw mw := by
  simp only [newB, Bool.and_eq_true, beq_iff_eq] at h
  obtain ⟨⟨⟨⟨⟨⟨⟨h1, h2⟩, h3⟩, h4⟩, h5⟩, h6⟩, h7⟩, h8⟩ := h
  exact ⟨by simp [h1.1, h1.2], by simp [h2.1, h2.2], spotB_of h3, .inr h4, PartOk.of h5, PartOk.of h6, h7, h8⟩
/-- the strings of the laws: a period of 3 and some eighths, a mix of some 64ths -/
def perW (p : Nat) : Nat := fop .add .f32 1077936128 (fop .quo .f32 (FloatKind.f32.nearest ((p : Nat) : Int)) 1090519040)
def sixW (q : Nat) : Nat := fop .quo .f32 (FloatKind.f32.nearest ((q : Nat) : Int)) 1115684864
def newTab (q : Nat) : Bool := (List.range 40).all fun p => !isNaN .f32 (perW p) && newB (perW p) (sixW q)
def sixTab : Bool := (List.range 64).all fun q => !isNaN .f32 (sixW q) && finF (sixW q) && (fGe .f32 (sixW q) 0 && fLe .f32 (sixW q) 1065353216)

theorem sixTab_ok : sixTab = true := by decide +kernel
theorem six_ok {q : Nat} (hq : q < 64) : isNaN .f32 (sixW q) = false ∧ finF (sixW q) = true ∧ (fGe .f32 (sixW q) 0 && fLe .f32 (sixW q) 1065353216) = true := by
  have := List.all_eq_true.1 sixTab_ok q (by simpa using hq)
  rw [Bool.and_eq_true, Bool.and_eq_true] at this
  exact ⟨by simpa using this.1.1, this.1.2, this.2⟩

set_option maxRecDepth 100000 in
set_option maxHeartbeats 2000000 in
theorem c_inside (a : Nat) (x : Nat) (lo : Nat) (hi : Nat) (ha : cn .f32 a = cn .f32 x) (w : World) : Cl Try.prog 58 #[vF a, vF lo, vF hi] w fun v w' => v = .bool (fGe .f32 x lo && fLe .f32 x hi) ∧ w = w' := by
  refine Cl.of Try.func58 Try.ntmps58 rfl rfl (ρ := [(0, vF a), (1, vF lo), (2, vF hi)]) rfl ?_
  refine CE.seq ?_
  refine CE.region ?_
  refine WL.det (op_assign rfl) rfl rfl rfl ?_
  refine WL.end ?_
  refine NE.code ?_
  refine CE.seq ?_
  refine CE.region ?_
  refine WL.det (op_move rfl) rfl rfl rfl ?_
  refine WL.det (op_move rfl) rfl rfl rfl ?_
  refine WL.det (op_fge (c := fGe .f32 x lo) rfl rfl ha rfl rfl) rfl rfl rfl ?_
  refine WL.det (op_move rfl) rfl rfl rfl ?_
  rcases Bool.eq_false_or_eq_true (fGe .f32 x lo) with hb1 | hb1
  · refine WL.yes rfl rfl rfl (ltb rfl) rfl hb1 ?_
    refine WL.det (op_move rfl) rfl rfl rfl ?_
    refine WL.yes rfl rfl rfl (ltb rfl) rfl hb1 ?_
    refine WL.det (op_move rfl) rfl rfl rfl ?_
    refine WL.yes rfl rfl rfl (ltb rfl) rfl hb1 ?_
    refine WL.det (op_fle (c := fLe .f32 x hi) rfl rfl ha rfl rfl) rfl rfl rfl ?_
    refine WL.det (op_pick_t rfl hb1 rfl) rfl rfl rfl ?_
    refine WL.det (op_assign rfl) rfl rfl rfl ?_
    refine WL.end ?_
    refine NE.code ?_
    refine CE.ret' ?_
    refine XE.leave1 Try.results58 rfl ?_
    refine ⟨?_, rfl⟩
    all_goals simp_all
  · refine WL.no rfl rfl rfl (ltb rfl) rfl hb1 rfl (ltb rfl) ?_
    refine WL.no rfl rfl rfl (ltb rfl) rfl hb1 rfl (ltb rfl) ?_
    refine WL.no rfl rfl rfl (ltb rfl) rfl hb1 rfl (ltb rfl) ?_
    refine WL.det (op_pick_f rfl hb1 rfl) rfl rfl rfl ?_
    refine WL.det (op_assign rfl) rfl rfl rfl ?_
    refine WL.end ?_
    refine NE.code ?_
    refine CE.ret' ?_
    refine XE.leave1 Try.results58 rfl ?_
    refine ⟨?_, rfl⟩
    all_goals simp_all

set_option maxRecDepth 100000 in
set_option maxHeartbeats 2000000 in
theorem c_OneZeroX (x : Nat) (lx : x < wid .f32) (w : World) : Cl Try.prog 62 #[vF x] w fun v w' => ∃ (r_ : Nat), v = .agg #[vI 2, vF r_, vF x, vF 0, vF 0, vF 0] ∧ (cn .f32 r_ = cn .f32 (fop .sub .f32 1065353216 x)) ∧ (r_ < wid .f32) ∧ Mod [] w w' := by
  refine Cl.of Try.func62 Try.ntmps62 rfl rfl (ρ := [(0, vF x)]) rfl ?_
  refine CE.seq ?_
  refine CE.region ?_
  refine WL.op (op_alloc (cs := [vI 0, vF 0, vF 0, vF 0, vF 0, vF 0]) Try.zeroValue31 rfl) rfl rfl (ltb rfl) ?_
  rintro _ w1 ⟨rfl, r1, m1, z1⟩
  refine WL.end ?_
  refine NE.code ?_
  refine CE.seq ?_
  refine CE.region ?_
  refine WL.det (op_move rfl) rfl rfl rfl ?_
  refine WL.op (op_farith (e := (fop .sub .f32 1065353216 x)) (.inr (.inl rfl)) rfl rfl rfl rfl rfl) rfl rfl (ltb rfl) ?_
  rintro _ w2 ⟨⟨f1, rfl, hf1, lf1⟩, m2⟩
  refine WL.det (op_move rfl) rfl rfl rfl ?_
  refine WL.det (op_build (qs := [(0, vF f1), (1, vF x)]) (cells := #[vF f1, vF x, vF 0]) rfl (by kernel_rfl)) rfl rfl rfl ?_
  refine WL.det (op_build (qs := [(0, vI 2), (1, .agg #[vF f1, vF x, vF 0])]) (cells := #[vI 2, vF f1, vF x, vF 0, vF 0, vF 0]) rfl (by kernel_rfl)) rfl rfl rfl ?_
  refine WL.op0 (op_store (i := 0) (cs := [vI 2, vF f1, vF x, vF 0, vF 0, vF 0]) rfl rfl rfl Try.sizeOf31 rfl (r1.ext m2) rfl (lB rfl) rfl) rfl rfl ?_
  rintro _ w3 ⟨r2, m3, z2⟩
  have r3 : Row w3 w.heap.size 0 [vI 2, vF f1, vF x, vF 0, vF 0, vF 0] := Row.congr r2 rfl
  refine WL.end ?_
  refine NE.code ?_
  refine CE.ret' ?_
  refine XE.leaveC Try.results62 (res_agg (cs := [vI 2, vF f1, vF x, vF 0, vF 0, vF 0]) rfl Try.isAgg31 Try.sizeOf31 r3.rng rfl res_nil) ?_
  refine ⟨f1, rfl, ?_, lf1, ((((Mod.refl [] w).nt m1).nt m2).then m3 ((aC (.inr lR) aN)))⟩
  all_goals simp_all

set_option maxRecDepth 100000 in
set_option maxHeartbeats 2000000 in
theorem c_AllpassFor (a : Nat) (x : Nat) (ha : cn .f32 a = cn .f32 x) (la : a < wid .f32) (hg : fGe .f32 x 0 = true) (hl : fLe .f32 x 1073741824 = true) (w : World) : Cl Try.prog 61 #[vF a] w fun v w' => ∃ (r_ : Nat), v = .tuple #[.agg #[vI 3, vF r_, vF 0, vF 0, vF 0, vF 0], vI 0] ∧ (cn .f32 r_ = cn .f32 (apW x)) ∧ (r_ < wid .f32) ∧ Mod [] w w' := by
  refine Cl.of Try.func61 Try.ntmps61 rfl rfl (ρ := [(0, vF a)]) rfl ?_
  refine CE.seq ?_
  refine CE.region ?_
  refine WL.op (op_alloc (cs := [vI 0, vF 0, vF 0, vF 0, vF 0, vF 0]) Try.zeroValue31 rfl) rfl rfl (ltb rfl) ?_
  rintro _ w1 ⟨rfl, r1, m1, z1⟩
  refine WL.det (op_assign rfl) rfl rfl rfl ?_
  refine WL.end ?_
  refine NE.code ?_
  refine CE.seq ?_
  refine CE.seq ?_
  refine CE.region ?_
  refine WL.det (op_move rfl) rfl rfl rfl ?_
  refine WL.det (op_fge (c := fGe .f32 x 0) rfl rfl ha rfl rfl) rfl rfl rfl ?_
  refine WL.det (op_move rfl) rfl rfl rfl ?_
  refine WL.yes rfl rfl rfl (ltb rfl) rfl hg ?_
  refine WL.det (op_move rfl) rfl rfl rfl ?_
  refine WL.yes rfl rfl rfl (ltb rfl) rfl hg ?_
  refine WL.det (op_fle (c := fLe .f32 x 1073741824) rfl rfl ha rfl rfl) rfl rfl rfl ?_
  refine WL.det (op_pick_t rfl hg rfl) rfl rfl rfl ?_
  refine WL.det (op_not rfl) rfl rfl rfl ?_
  refine WL.end ?_
  refine NE.code ?_
  refine CE.cond_f rfl (bnot_t hl) ?_
  refine CE.skip' ?_
  refine NE.code ?_
  refine CE.seq ?_
  refine CE.region ?_
  refine WL.det (op_move rfl) rfl rfl rfl ?_
  refine WL.op (op_farith (e := (fop .sub .f32 1065353216 x)) (.inr (.inl rfl)) rfl rfl rfl ha rfl) rfl rfl (ltb rfl) ?_
  rintro _ w2 ⟨⟨f1, rfl, hf1, lf1⟩, m2⟩
  refine WL.det (op_move rfl) rfl rfl rfl ?_
  refine WL.op (op_farith (e := (fop .add .f32 1065353216 x)) (.inl rfl) rfl rfl rfl ha rfl) rfl rfl (ltb rfl) ?_
  rintro _ w3 ⟨⟨f2, rfl, hf2, lf2⟩, m3⟩
  refine WL.op (op_farith (e := (fop .quo .f32 (fop .sub .f32 1065353216 x) (fop .add .f32 1065353216 x))) (.inr (.inr (.inr rfl))) rfl rfl hf1 hf2 rfl) rfl rfl (ltb rfl) ?_
  rintro _ w4 ⟨⟨f3, rfl, hf3, lf3⟩, m4⟩
  refine WL.det (op_build (qs := [(0, vF f3)]) (cells := #[vF f3, vF 0, vF 0]) rfl (by kernel_rfl)) rfl rfl rfl ?_
  refine WL.det (op_build (qs := [(0, vI 3), (1, .agg #[vF f3, vF 0, vF 0])]) (cells := #[vI 3, vF f3, vF 0, vF 0, vF 0, vF 0]) rfl (by kernel_rfl)) rfl rfl rfl ?_
  refine WL.op0 (op_store (i := 0) (cs := [vI 3, vF f3, vF 0, vF 0, vF 0, vF 0]) rfl rfl rfl Try.sizeOf31 rfl (((r1.ext m2).ext m3).ext m4) rfl (lB rfl) rfl) rfl rfl ?_
  rintro _ w5 ⟨r2, m5, z2⟩
  have r3 : Row w5 w.heap.size 0 [vI 3, vF f3, vF 0, vF 0, vF 0, vF 0] := Row.congr r2 rfl
  refine WL.det (op_assign rfl) rfl rfl rfl ?_
  refine WL.end ?_
  refine NE.code ?_
  refine CE.ret' ?_
  refine XE.leaveT Try.results61 (res_agg (cs := [vI 3, vF f3, vF 0, vF 0, vF 0, vF 0]) rfl Try.isAgg31 Try.sizeOf31 r3.rng rfl (res_tmp rfl res_nil)) ?_
  refine ⟨f3, rfl, ?_, lf3, ((((((Mod.refl [] w).nt m1).nt m2).nt m3).nt m4).then m5 ((aC (.inr lR) aN)))⟩
  all_goals first | assumption | (unfold apW; assumption)

set_option maxRecDepth 100000 in
set_option maxHeartbeats 2000000 in
theorem c_NewRingX (n : Nat) (h1 : 1 ≤ n) (h2 : n ≤ 1024) (w : World) : Cl Try.prog 60 #[vI ((n : Nat) : Int)] w fun v w' => ∃ (b' : Nat), v = .tuple #[.agg #[vS b' 0 n n, vI 0], vI 0] ∧ Row w' b' 0 (fl (List.replicate n 0)) ∧ w.heap.size ≤ b' ∧ Mod [] w w' := by
  refine Cl.of Try.func60 Try.ntmps60 rfl rfl (ρ := [(0, vI ((n : Nat) : Int))]) rfl ?_
  refine CE.seq ?_
  refine CE.region ?_
  refine WL.op (op_alloc (cs := [.slice none 0 0, vI 0]) Try.zeroValue26 rfl) rfl rfl (ltb rfl) ?_
  rintro _ w1 ⟨rfl, r1, m1, z1⟩
  refine WL.det (op_assign rfl) rfl rfl rfl ?_
  refine WL.end ?_
  refine NE.code ?_
  refine CE.seq ?_
  refine CE.seq ?_
  refine CE.region ?_
  refine WL.det (op_move rfl) rfl rfl rfl ?_
  refine WL.call (oc_call (vs := [vI ((n : Nat) : Int), vI 1, vI 1024]) (cap := []) rfl rfl rfl Try.call78 (c_within ((n : Nat) : Int) (1 : Int) (1024 : Int) w1)) rfl rfl (ltb rfl) ?_
  rintro _ _ ⟨rfl, rfl⟩
  refine WL.det (op_not rfl) rfl rfl rfl ?_
  refine WL.end ?_
  refine NE.code ?_
  refine CE.cond_f rfl (bnot_t ((vIn_t _ _ _).2 ⟨by omega, by omega⟩)) ?_
  refine CE.skip' ?_
  refine NE.code ?_
  refine CE.seq ?_
  refine CE.region ?_
  refine WL.det (op_move rfl) rfl rfl rfl ?_
  refine WL.op (op_makeF (i := Try.t27) rfl rfl rfl rfl Try.underlying24 rfl rfl rfl rfl (by omega)) rfl rfl (ltb rfl) ?_
  rintro _ w2 ⟨rfl, r2, m2, z2⟩
  refine WL.det (op_build (qs := [(0, vS w1.heap.size 0 n n)]) (cells := #[vS w1.heap.size 0 n n, vI 0]) rfl (by kernel_rfl)) rfl rfl rfl ?_
  refine WL.op0 (op_store (i := 0) (cs := [vS w1.heap.size 0 n n, vI 0]) rfl rfl rfl Try.sizeOf26 rfl (r1.ext m2) rfl (lB rfl) rfl) rfl rfl ?_
  rintro _ w3 ⟨r3, m3, z3⟩
  have r4 : Row w3 w.heap.size 0 [vS w1.heap.size 0 n n, vI 0] := Row.congr r3 rfl
  refine WL.det (op_assign rfl) rfl rfl rfl ?_
  refine WL.end ?_
  refine NE.code ?_
  refine CE.ret' ?_
  refine XE.leaveT Try.results60 (res_agg (cs := [vS w1.heap.size 0 n n, vI 0]) rfl Try.isAgg26 Try.sizeOf26 r4.rng rfl (res_tmp rfl res_nil)) ?_
  refine ⟨w1.heap.size, rfl, (r2.mod m3 (nC (lG (lL r1.lt lR)) nN)), (lT m1.size lR), ((((Mod.refl [] w).nt m1).nt m2).then m3 ((aC (.inr lR) aN)))⟩

set_option maxRecDepth 100000 in
set_option maxHeartbeats 2000000 in
theorem c_mathFloorX (a : Nat) (x : Nat) (ha : cn .f64 a = cn .f64 x) (hs : SpotW x) (w : World) : Cl Try.prog 59 #[.float .f64 a] w fun v w' => v = .float .f64 (floorX x) ∧ w = w' := by
  refine Cl.of Try.func59 Try.ntmps59 rfl rfl (ρ := [(0, .float .f64 a)]) rfl ?_
  refine CE.seq ?_
  refine CE.region ?_
  refine WL.det (op_assign rfl) rfl rfl rfl ?_
  refine WL.end ?_
  refine NE.code ?_
  refine CE.seq ?_
  refine CE.cond_t rfl rfl ?_
  refine CE.seq ?_
  refine CE.region ?_
  refine WL.det (op_move rfl) rfl rfl rfl ?_
  refine WL.det (op_extern (vs := [.float .f64 a]) Try.func112 rfl rfl x112n x112e rfl (fun _ => SpotW.run ha hs)) rfl rfl rfl ?_
  refine WL.det (op_assign rfl) rfl rfl rfl ?_
  refine WL.end ?_
  refine NE.code ?_
  refine CE.ret' ?_
  refine XE.ret_then ?_
  refine XE.leave1 Try.results59 rfl ?_
  refine ⟨rfl, rfl⟩

end Go.Proofs.Ytabfdgpldcegiaa
