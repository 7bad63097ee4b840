/- New strings. -/
import Derived.Test.YtabfdgpldcegiaaG7
set_option linter.unusedVariables false
set_option linter.unusedSimpArgs false
namespace Go.Proofs.Ytabfdgpldcegiaa

/-- a word from 0 on whose number is at most 1024 -/
def spotB (p : Nat) : Bool := decide (p < 2139095040) && decide (posF p ≤ 1024)
theorem spotB_of {p : Nat} (h : spotB p = true) : SpotE p := by
  simp only [spotB, Bool.and_eq_true, decide_eq_true_eq] at h
  have e : p % 2147483648 = p := Nat.mod_eq_of_lt (by omega)
  exact ⟨1024, by omega, by rw [e]; exact h.1, .inl (by simp; omega), h.2⟩
def apW (x : Nat) : Nat := fop .quo .f32 (fop .sub .f32 1065353216 x) (fop .add .f32 1065353216 x)
/-- the whole part of a delay, as a word -/
def nfA (d : Nat) : Nat := FloatKind.f32.nearest ((posF d : Nat) : Int)
def partB (d nf : Nat) : Bool := spotB nf && decide (1 ≤ posF nf) && decide (posF nf ≤ 1024) && fGe .f32 (fop .sub .f32 d nf) 0 && fLe .f32 (fop .sub .f32 d nf) 1073741824 && finF (apW (fop .sub .f32 d nf))
def newB (pw mw : Nat) : Bool := (fGe .f32 pw 1077936128 && fLe .f32 pw 1149239296) && (fGe .f32 mw 0 && fLe .f32 mw 1056964608) && spotB (fop .sub .f32 pw mw) && (floatToFloatBits .f64 (floorX (wide (fop .sub .f32 pw mw))) .f32 == some (nfA (fop .sub .f32 pw mw))) && partB (fop .sub .f32 pw mw) (nfA (fop .sub .f32 pw mw)) && partB (fop .sub .f32 pw mw) (fop .sub .f32 (nfA (fop .sub .f32 pw mw)) 1065353216) && finF (fop .sub .f32 1065353216 mw) && finF mw
structure PartOk (d nf : Nat) : Prop where
  s : SpotE nf
  n1 : 1 ≤ posF nf
  n2 : posF nf ≤ 1024
  g : fGe .f32 (fop .sub .f32 d nf) 0 = true
  l : fLe .f32 (fop .sub .f32 d nf) 1073741824 = true
  f : finF (apW (fop .sub .f32 d nf)) = true
theorem PartOk.of {d nf : Nat} (h : partB d nf = true) : PartOk d nf := by
  simp only [partB, Bool.and_eq_true, decide_eq_true_eq] at h
  exact ⟨spotB_of h.1.1.1.1.1, h.1.1.1.1.2, h.1.1.1.2, h.1.1.2, h.1.2, h.2⟩
structure NewOk (pw mw : Nat) : Prop where
  p : (fGe .f32 pw 1077936128 && fLe .f32 pw 1149239296) = true
  m : (fGe .f32 mw 0 && fLe .f32 mw 1056964608) = true
  s : SpotE (fop .sub .f32 pw mw)
  w : Narrows (floorX (wide (fop .sub .f32 pw mw))) (nfA (fop .sub .f32 pw mw))
  a : PartOk (fop .sub .f32 pw mw) (nfA (fop .sub .f32 pw mw))
  b : PartOk (fop .sub .f32 pw mw) (fop .sub .f32 (nfA (fop .sub .f32 pw mw)) 1065353216)
  f : finF (fop .sub .f32 1065353216 mw) = true
  g : finF mw = true
theorem NewOk.of {pw mw : Nat} (h : newB pw mw = true) : NewOk pw mw := by
  simp only [newB, Bool.and_eq_true, beq_iff_eq] at h
  obtain ⟨⟨⟨⟨⟨⟨⟨h1, h2⟩, h3⟩, h4⟩, h5⟩, h6⟩, h7⟩, h8⟩ := h
  exact ⟨by simp [h1.1, h1.2], by simp [h2.1, h2.2], spotB_of h3, .inr h4, PartOk.of h5, PartOk.of h6, h7, h8⟩
/-- the strings of the laws: a period of 3 and some eighths, a mix of some 64ths -/
def perW (p : Nat) : Nat := fop .add .f32 1077936128 (fop .quo .f32 (FloatKind.f32.nearest ((p : Nat) : Int)) 1090519040)
def sixW (q : Nat) : Nat := fop .quo .f32 (FloatKind.f32.nearest ((q : Nat) : Int)) 1115684864
def newTab (q : Nat) : Bool := (List.range 40).all fun p => !isNaN .f32 (perW p) && newB (perW p) (sixW q)
def sixTab : Bool := (List.range 64).all fun q => !isNaN .f32 (sixW q) && finF (sixW q) && (fGe .f32 (sixW q) 0 && fLe .f32 (sixW q) 1065353216)

theorem newTab0 : newTab 0 = true := by decide +kernel
theorem newTab1 : newTab 1 = true := by decide +kernel
theorem newTab2 : newTab 2 = true := by decide +kernel
theorem newTab3 : newTab 3 = true := by decide +kernel
theorem newTab4 : newTab 4 = true := by decide +kernel
theorem newTab5 : newTab 5 = true := by decide +kernel
theorem newTab6 : newTab 6 = true := by decide +kernel
theorem newTab7 : newTab 7 = true := by decide +kernel
theorem newTab8 : newTab 8 = true := by decide +kernel
theorem newTab9 : newTab 9 = true := by decide +kernel
theorem newTab10 : newTab 10 = true := by decide +kernel
theorem newTab11 : newTab 11 = true := by decide +kernel
theorem newTab12 : newTab 12 = true := by decide +kernel
theorem newTab13 : newTab 13 = true := by decide +kernel
theorem newTab14 : newTab 14 = true := by decide +kernel
theorem newTab15 : newTab 15 = true := by decide +kernel
theorem newTab16 : newTab 16 = true := by decide +kernel
theorem sixTab_ok : sixTab = true := by decide +kernel
theorem newTab_all {q : Nat} (h : q < 17) : newTab q = true := by
  have e : q = 0 ∨ q = 1 ∨ q = 2 ∨ q = 3 ∨ q = 4 ∨ q = 5 ∨ q = 6 ∨ q = 7 ∨ q = 8 ∨ q = 9 ∨ q = 10 ∨ q = 11 ∨ q = 12 ∨ q = 13 ∨ q = 14 ∨ q = 15 ∨ q = 16 := by omega
  rcases e with rfl | rfl | rfl | rfl | rfl | rfl | rfl | rfl | rfl | rfl | rfl | rfl | rfl | rfl | rfl | rfl | rfl
  · exact newTab0
  · exact newTab1
  · exact newTab2
  · exact newTab3
  · exact newTab4
  · exact newTab5
  · exact newTab6
  · exact newTab7
  · exact newTab8
  · exact newTab9
  · exact newTab10
  · exact newTab11
  · exact newTab12
  · exact newTab13
  · exact newTab14
  · exact newTab15
  · exact newTab16
theorem new_ok {p q : Nat} (hp : p < 40) (hq : q < 17) : NewOk (perW p) (sixW q) ∧ isNaN .f32 (perW p) = false := by
  have := List.all_eq_true.1 (newTab_all hq) p (by simpa using hp)
  rw [Bool.and_eq_true] at this
  exact ⟨NewOk.of this.2, by simpa using this.1⟩
theorem six_ok {q : Nat} (hq : q < 64) : isNaN .f32 (sixW q) = false ∧ finF (sixW q) = true ∧ (fGe .f32 (sixW q) 0 && fLe .f32 (sixW q) 1065353216) = true := by
  have := List.all_eq_true.1 sixTab_ok q (by simpa using hq)
  rw [Bool.and_eq_true, Bool.and_eq_true] at this
  exact ⟨by simpa using this.1.1, this.1.2, this.2⟩

set_option maxRecDepth 100000 in
set_option maxHeartbeats 2000000 in
theorem c_inside (a : Nat) (x : Nat) (lo : Nat) (hi : Nat) (ha : cn .f32 a = cn .f32 x) (w : World) : Cl Try.prog 58 #[vF a, vF lo, vF hi] w fun v w' => v = .bool (fGe .f32 x lo && fLe .f32 x hi) ∧ w = w' := by
  refine Cl.of Try.func58 Try.ntmps58 rfl rfl (ρ := [(0, vF a), (1, vF lo), (2, vF hi)]) rfl ?_
  refine CE.seq ?_
  refine CE.region ?_
  refine WL.det (op_assign rfl) rfl rfl rfl ?_
  refine WL.end ?_
  refine NE.code ?_
  refine CE.seq ?_
  refine CE.region ?_
  refine WL.det (op_move rfl) rfl rfl rfl ?_
  refine WL.det (op_move rfl) rfl rfl rfl ?_
  refine WL.det (op_fge (c := fGe .f32 x lo) rfl rfl ha rfl rfl) rfl rfl rfl ?_
  refine WL.det (op_move rfl) rfl rfl rfl ?_
  rcases Bool.eq_false_or_eq_true (fGe .f32 x lo) with hb1 | hb1
  · refine WL.yes rfl rfl rfl (ltb rfl) rfl hb1 ?_
    refine WL.det (op_move rfl) rfl rfl rfl ?_
    refine WL.yes rfl rfl rfl (ltb rfl) rfl hb1 ?_
    refine WL.det (op_move rfl) rfl rfl rfl ?_
    refine WL.yes rfl rfl rfl (ltb rfl) rfl hb1 ?_
    refine WL.det (op_fle (c := fLe .f32 x hi) rfl rfl ha rfl rfl) rfl rfl rfl ?_
    refine WL.det (op_pick_t rfl hb1 rfl) rfl rfl rfl ?_
    refine WL.det (op_assign rfl) rfl rfl rfl ?_
    refine WL.end ?_
    refine NE.code ?_
    refine CE.ret' ?_
    refine XE.leave1 Try.results58 rfl ?_
    refine ⟨?_, rfl⟩
    all_goals simp_all
  · refine WL.no rfl rfl rfl (ltb rfl) rfl hb1 rfl (ltb rfl) ?_
    refine WL.no rfl rfl rfl (ltb rfl) rfl hb1 rfl (ltb rfl) ?_
    refine WL.no rfl rfl rfl (ltb rfl) rfl hb1 rfl (ltb rfl) ?_
    refine WL.det (op_pick_f rfl hb1 rfl) rfl rfl rfl ?_
    refine WL.det (op_assign rfl) rfl rfl rfl ?_
    refine WL.end ?_
    refine NE.code ?_
    refine CE.ret' ?_
    refine XE.leave1 Try.results58 rfl ?_
    refine ⟨?_, rfl⟩
    all_goals simp_all

set_option maxRecDepth 100000 in
set_option maxHeartbeats 2000000 in
theorem c_OneZeroX (x : Nat) (lx : x < wid .f32) (w : World) : Cl Try.prog 62 #[vF x] w fun v w' => ∃ (r_ : Nat), v = .agg #[vI 2, vF r_, vF x, vF 0, vF 0, vF 0] ∧ (cn .f32 r_ = cn .f32 (fop .sub .f32 1065353216 x)) ∧ (r_ < wid .f32) ∧ Mod [] w w' := by
  refine Cl.of Try.func62 Try.ntmps62 rfl rfl (ρ := [(0, vF x)]) rfl ?_
  refine CE.seq ?_
  refine CE.region ?_
  refine WL.op (op_alloc (cs := [vI 0, vF 0, vF 0, vF 0, vF 0, vF 0]) Try.zeroValue31 rfl) rfl rfl (ltb rfl) ?_
  rintro _ w1 ⟨rfl, r1, m1, z1⟩
  refine WL.end ?_
  refine NE.code ?_
  refine CE.seq ?_
  refine CE.region ?_
  refine WL.det (op_move rfl) rfl rfl rfl ?_
  refine WL.op (op_farith (e := (fop .sub .f32 1065353216 x)) (.inr (.inl rfl)) rfl rfl rfl rfl rfl) rfl rfl (ltb rfl) ?_
  rintro _ w2 ⟨⟨f1, rfl, hf1, lf1⟩, m2⟩
  refine WL.det (op_move rfl) rfl rfl rfl ?_
  refine WL.det (op_build (qs := [(0, vF f1), (1, vF x)]) (cells := #[vF f1, vF x, vF 0]) rfl (by kernel_rfl)) rfl rfl rfl ?_
  refine WL.det (op_build (qs := [(0, vI 2), (1, .agg #[vF f1, vF x, vF 0])]) (cells := #[vI 2, vF f1, vF x, vF 0, vF 0, vF 0]) rfl (by kernel_rfl)) rfl rfl rfl ?_
  refine WL.op0 (op_store (i := 0) (cs := [vI 2, vF f1, vF x, vF 0, vF 0, vF 0]) rfl rfl rfl Try.sizeOf31 rfl (r1.ext m2) rfl (lB rfl) rfl) rfl rfl ?_
  rintro _ w3 ⟨r2, m3, z2⟩
  have r3 : Row w3 w.heap.size 0 [vI 2, vF f1, vF x, vF 0, vF 0, vF 0] := Row.congr r2 rfl
  refine WL.end ?_
  refine NE.code ?_
  refine CE.ret' ?_
  refine XE.leaveC Try.results62 (res_agg (cs := [vI 2, vF f1, vF x, vF 0, vF 0, vF 0]) rfl Try.isAgg31 Try.sizeOf31 r3.rng rfl res_nil) ?_
  refine ⟨f1, rfl, ?_, lf1, ((((Mod.refl [] w).nt m1).nt m2).then m3 ((aC (.inr lR) aN)))⟩
  all_goals simp_all

set_option maxRecDepth 100000 in
set_option maxHeartbeats 2000000 in
theorem c_AllpassFor (a : Nat) (x : Nat) (ha : cn .f32 a = cn .f32 x) (la : a < wid .f32) (hg : fGe .f32 x 0 = true) (hl : fLe .f32 x 1073741824 = true) (w : World) : Cl Try.prog 61 #[vF a] w fun v w' => ∃ (r_ : Nat), v = .tuple #[.agg #[vI 3, vF r_, vF 0, vF 0, vF 0, vF 0], vI 0] ∧ (cn .f32 r_ = cn .f32 (apW x)) ∧ (r_ < wid .f32) ∧ Mod [] w w' := by
  refine Cl.of Try.func61 Try.ntmps61 rfl rfl (ρ := [(0, vF a)]) rfl ?_
  refine CE.seq ?_
  refine CE.region ?_
  refine WL.op (op_alloc (cs := [vI 0, vF 0, vF 0, vF 0, vF 0, vF 0]) Try.zeroValue31 rfl) rfl rfl (ltb rfl) ?_
  rintro _ w1 ⟨rfl, r1, m1, z1⟩
  refine WL.det (op_assign rfl) rfl rfl rfl ?_
  refine WL.end ?_
  refine NE.code ?_
  refine CE.seq ?_
  refine CE.seq ?_
  refine CE.region ?_
  refine WL.det (op_move rfl) rfl rfl rfl ?_
  refine WL.det (op_fge (c := fGe .f32 x 0) rfl rfl ha rfl rfl) rfl rfl rfl ?_
  refine WL.det (op_move rfl) rfl rfl rfl ?_
  refine WL.yes rfl rfl rfl (ltb rfl) rfl hg ?_
  refine WL.det (op_move rfl) rfl rfl rfl ?_
  refine WL.yes rfl rfl rfl (ltb rfl) rfl hg ?_
  refine WL.det (op_fle (c := fLe .f32 x 1073741824) rfl rfl ha rfl rfl) rfl rfl rfl ?_
  refine WL.det (op_pick_t rfl hg rfl) rfl rfl rfl ?_
  refine WL.det (op_not rfl) rfl rfl rfl ?_
  refine WL.end ?_
  refine NE.code ?_
  refine CE.cond_f rfl (bnot_t hl) ?_
  refine CE.skip' ?_
  refine NE.code ?_
  refine CE.seq ?_
  refine CE.region ?_
  refine WL.det (op_move rfl) rfl rfl rfl ?_
  refine WL.op (op_farith (e := (fop .sub .f32 1065353216 x)) (.inr (.inl rfl)) rfl rfl rfl ha rfl) rfl rfl (ltb rfl) ?_
  rintro _ w2 ⟨⟨f1, rfl, hf1, lf1⟩, m2⟩
  refine WL.det (op_move rfl) rfl rfl rfl ?_
  refine WL.op (op_farith (e := (fop .add .f32 1065353216 x)) (.inl rfl) rfl rfl rfl ha rfl) rfl rfl (ltb rfl) ?_
  rintro _ w3 ⟨⟨f2, rfl, hf2, lf2⟩, m3⟩
  refine WL.op (op_farith (e := (fop .quo .f32 (fop .sub .f32 1065353216 x) (fop .add .f32 1065353216 x))) (.inr (.inr (.inr rfl))) rfl rfl hf1 hf2 rfl) rfl rfl (ltb rfl) ?_
  rintro _ w4 ⟨⟨f3, rfl, hf3, lf3⟩, m4⟩
  refine WL.det (op_build (qs := [(0, vF f3)]) (cells := #[vF f3, vF 0, vF 0]) rfl (by kernel_rfl)) rfl rfl rfl ?_
  refine WL.det (op_build (qs := [(0, vI 3), (1, .agg #[vF f3, vF 0, vF 0])]) (cells := #[vI 3, vF f3, vF 0, vF 0, vF 0, vF 0]) rfl (by kernel_rfl)) rfl rfl rfl ?_
  refine WL.op0 (op_store (i := 0) (cs := [vI 3, vF f3, vF 0, vF 0, vF 0, vF 0]) rfl rfl rfl Try.sizeOf31 rfl (((r1.ext m2).ext m3).ext m4) rfl (lB rfl) rfl) rfl rfl ?_
  rintro _ w5 ⟨r2, m5, z2⟩
  have r3 : Row w5 w.heap.size 0 [vI 3, vF f3, vF 0, vF 0, vF 0, vF 0] := Row.congr r2 rfl
  refine WL.det (op_assign rfl) rfl rfl rfl ?_
  refine WL.end ?_
  refine NE.code ?_
  refine CE.ret' ?_
  refine XE.leaveT Try.results61 (res_agg (cs := [vI 3, vF f3, vF 0, vF 0, vF 0, vF 0]) rfl Try.isAgg31 Try.sizeOf31 r3.rng rfl (res_tmp rfl res_nil)) ?_
  refine ⟨f3, rfl, ?_, lf3, ((((((Mod.refl [] w).nt m1).nt m2).nt m3).nt m4).then m5 ((aC (.inr lR) aN)))⟩
  all_goals first | assumption | (unfold apW; assumption)

set_option maxRecDepth 100000 in
set_option maxHeartbeats 2000000 in
theorem c_NewRingX (n : Nat) (h1 : 1 ≤ n) (h2 : n ≤ 1024) (w : World) : Cl Try.prog 60 #[vI ((n : Nat) : Int)] w fun v w' => ∃ (b' : Nat), v = .tuple #[.agg #[vS b' 0 n n, vI 0], vI 0] ∧ Row w' b' 0 (fl (List.replicate n 0)) ∧ w.heap.size ≤ b' ∧ Mod [] w w' := by
  refine Cl.of Try.func60 Try.ntmps60 rfl rfl (ρ := [(0, vI ((n : Nat) : Int))]) rfl ?_
  refine CE.seq ?_
  refine CE.region ?_
  refine WL.op (op_alloc (cs := [.slice none 0 0, vI 0]) Try.zeroValue26 rfl) rfl rfl (ltb rfl) ?_
  rintro _ w1 ⟨rfl, r1, m1, z1⟩
  refine WL.det (op_assign rfl) rfl rfl rfl ?_
  refine WL.end ?_
  refine NE.code ?_
  refine CE.seq ?_
  refine CE.seq ?_
  refine CE.region ?_
  refine WL.det (op_move rfl) rfl rfl rfl ?_
  refine WL.call (oc_call (vs := [vI ((n : Nat) : Int), vI 1, vI 1024]) (cap := []) rfl rfl rfl Try.call78 (c_within ((n : Nat) : Int) (1 : Int) (1024 : Int) w1)) rfl rfl (ltb rfl) ?_
  rintro _ _ ⟨rfl, rfl⟩
  refine WL.det (op_not rfl) rfl rfl rfl ?_
  refine WL.end ?_
  refine NE.code ?_
  refine CE.cond_f rfl (bnot_t ((vIn_t _ _ _).2 ⟨by omega, by omega⟩)) ?_
  refine CE.skip' ?_
  refine NE.code ?_
  refine CE.seq ?_
  refine CE.region ?_
  refine WL.det (op_move rfl) rfl rfl rfl ?_
  refine WL.op (op_makeF (i := Try.t27) rfl rfl rfl rfl Try.underlying24 rfl rfl rfl rfl (by omega)) rfl rfl (ltb rfl) ?_
  rintro _ w2 ⟨rfl, r2, m2, z2⟩
  refine WL.det (op_build (qs := [(0, vS w1.heap.size 0 n n)]) (cells := #[vS w1.heap.size 0 n n, vI 0]) rfl (by kernel_rfl)) rfl rfl rfl ?_
  refine WL.op0 (op_store (i := 0) (cs := [vS w1.heap.size 0 n n, vI 0]) rfl rfl rfl Try.sizeOf26 rfl (r1.ext m2) rfl (lB rfl) rfl) rfl rfl ?_
  rintro _ w3 ⟨r3, m3, z3⟩
  have r4 : Row w3 w.heap.size 0 [vS w1.heap.size 0 n n, vI 0] := Row.congr r3 rfl
  refine WL.det (op_assign rfl) rfl rfl rfl ?_
  refine WL.end ?_
  refine NE.code ?_
  refine CE.ret' ?_
  refine XE.leaveT Try.results60 (res_agg (cs := [vS w1.heap.size 0 n n, vI 0]) rfl Try.isAgg26 Try.sizeOf26 r4.rng rfl (res_tmp rfl res_nil)) ?_
  refine ⟨w1.heap.size, rfl, (r2.mod m3 (nC (lG (lL r1.lt lR)) nN)), (lT m1.size lR), ((((Mod.refl [] w).nt m1).nt m2).then m3 ((aC (.inr lR) aN)))⟩

set_option maxRecDepth 100000 in
set_option maxHeartbeats 2000000 in
theorem c_mathFloorX (a : Nat) (x : Nat) (ha : cn .f64 a = cn .f64 x) (hs : SpotW x) (w : World) : Cl Try.prog 59 #[.float .f64 a] w fun v w' => v = .float .f64 (floorX x) ∧ w = w' := by
  refine Cl.of Try.func59 Try.ntmps59 rfl rfl (ρ := [(0, .float .f64 a)]) rfl ?_
  refine CE.seq ?_
  refine CE.region ?_
  refine WL.det (op_assign rfl) rfl rfl rfl ?_
  refine WL.end ?_
  refine NE.code ?_
  refine CE.seq ?_
  refine CE.cond_t rfl rfl ?_
  refine CE.seq ?_
  refine CE.region ?_
  refine WL.det (op_move rfl) rfl rfl rfl ?_
  refine WL.det (op_extern (vs := [.float .f64 a]) Try.func112 rfl rfl x112n x112e rfl (fun _ => SpotW.run ha hs)) rfl rfl rfl ?_
  refine WL.det (op_assign rfl) rfl rfl rfl ?_
  refine WL.end ?_
  refine NE.code ?_
  refine CE.ret' ?_
  refine XE.ret_then ?_
  refine XE.leave1 Try.results59 rfl ?_
  refine ⟨rfl, rfl⟩

set_option maxRecDepth 100000 in
set_option maxHeartbeats 2000000 in
theorem c_NewString (pw : Nat) (mw : Nat) (lw : Nat) (lp : pw < wid .f32) (lm : mw < wid .f32) (ll : lw < wid .f32) (ho : NewOk pw mw) (hlw : (fGe .f32 lw 0 && fLe .f32 lw 1065353216) = true) (w : World) : Cl Try.prog 15 #[vF pw, vF mw, vF lw] w fun v w' => ∃ (n' : Nat) (b' : Nat) (ta : Nat) (da : Nat), v = .tuple #[.agg #[vS b' 0 n' n', vI 0, vI 3, vF ta, vF 0, vF 0, vF 0, vF 0, vI 2, vF da, vF mw, vF 0, vF 0, vF 0, vF lw], vI 0] ∧ (1 ≤ n') ∧ (n' ≤ 1024) ∧ (ta < wid .f32) ∧ (da < wid .f32) ∧ (finF ta = true) ∧ (finF da = true) ∧ Row w' b' 0 (fl (List.replicate n' 0)) ∧ w.heap.size ≤ b' ∧ Mod [] w w' := by
  refine Cl.of Try.func15 Try.ntmps15 rfl rfl (ρ := [(0, vF pw), (1, vF mw), (2, vF lw)]) rfl ?_
  refine CE.seq ?_
  refine CE.region ?_
  refine WL.op (op_alloc (cs := [.slice none 0 0, vI 0, vI 0, vF 0, vF 0, vF 0, vF 0, vF 0, vI 0, vF 0, vF 0, vF 0, vF 0, vF 0, vF 0]) Try.zeroValue33 rfl) rfl rfl (ltb rfl) ?_
  rintro _ w1 ⟨rfl, r1, m1, z1⟩
  refine WL.det (op_assign rfl) rfl rfl rfl ?_
  refine WL.end ?_
  refine NE.code ?_
  refine CE.seq ?_
  refine CE.seq ?_
  refine CE.region ?_
  refine WL.det (op_move rfl) rfl rfl rfl ?_
  refine WL.call (oc_call (vs := [vF pw, vF 1077936128, vF 1149239296]) (cap := []) rfl rfl rfl Try.call58 (c_inside pw pw 1077936128 1149239296 rfl w1)) rfl rfl (ltb rfl) ?_
  rintro _ _ ⟨rfl, rfl⟩
  refine WL.det (op_not rfl) rfl rfl rfl ?_
  refine WL.det (op_move rfl) rfl rfl rfl ?_
  refine WL.yes rfl rfl rfl (ltb rfl) rfl (bnot_t ho.p) ?_
  refine WL.det (op_move rfl) rfl rfl rfl ?_
  refine WL.yes rfl rfl rfl (ltb rfl) rfl (bnot_t ho.p) ?_
  refine WL.call (oc_call (vs := [vF mw, vF 0, vF 1056964608]) (cap := []) rfl rfl rfl Try.call58 (c_inside mw mw 0 1056964608 rfl w1)) rfl rfl (ltb rfl) ?_
  rintro _ _ ⟨rfl, rfl⟩
  refine WL.yes rfl rfl rfl (ltb rfl) rfl (bnot_t ho.p) ?_
  refine WL.det (op_not rfl) rfl rfl rfl ?_
  refine WL.det (op_pick_f rfl (bnot_t ho.p) rfl) rfl rfl rfl ?_
  refine WL.det (op_move rfl) rfl rfl rfl ?_
  refine WL.yes rfl rfl rfl (ltb rfl) rfl (bnot_t ho.m) ?_
  refine WL.det (op_move rfl) rfl rfl rfl ?_
  refine WL.yes rfl rfl rfl (ltb rfl) rfl (bnot_t ho.m) ?_
  refine WL.call (oc_call (vs := [vF lw, vF 0, vF 1065353216]) (cap := []) rfl rfl rfl Try.call58 (c_inside lw lw 0 1065353216 rfl w1)) rfl rfl (ltb rfl) ?_
  rintro _ _ ⟨rfl, rfl⟩
  refine WL.yes rfl rfl rfl (ltb rfl) rfl (bnot_t ho.m) ?_
  refine WL.det (op_not rfl) rfl rfl rfl ?_
  refine WL.det (op_pick_f rfl (bnot_t ho.m) rfl) rfl rfl rfl ?_
  refine WL.end ?_
  refine NE.code ?_
  refine CE.cond_f rfl (bnot_t hlw) ?_
  refine CE.skip' ?_
  refine NE.code ?_
  refine CE.seq ?_
  refine CE.region ?_
  refine WL.det (op_move rfl) rfl rfl rfl ?_
  refine WL.det (op_move rfl) rfl rfl rfl ?_
  refine WL.op (op_farith (e := (fop .sub .f32 pw mw)) (.inr (.inl rfl)) rfl rfl rfl rfl rfl) rfl rfl (ltb rfl) ?_
  rintro _ w2 ⟨⟨f1, rfl, hf1, lf1⟩, m2⟩
  refine WL.det (op_assign rfl) rfl rfl rfl ?_
  refine WL.end ?_
  refine NE.code ?_
  refine CE.seq ?_
  refine CE.region ?_
  refine WL.det (op_move rfl) rfl rfl rfl ?_
  refine WL.op (op_widen (e := (wide (fop .sub .f32 pw mw))) rfl hf1 Try.runUnderlying27 Try.runUnderlying67 rfl) rfl rfl (ltb rfl) ?_
  rintro _ w3 ⟨⟨f2, rfl, hf2, lf2⟩, m3⟩
  refine WL.call (oc_call (vs := [.float .f64 f2]) (cap := []) rfl rfl rfl Try.call59 (c_mathFloorX f2 (wide (fop .sub .f32 pw mw)) hf2 (by exact ⟨_, rfl, ho.s⟩) w3)) rfl rfl (ltb rfl) ?_
  rintro _ _ ⟨rfl, rfl⟩
  refine WL.op (op_narrow (e := (nfA (fop .sub .f32 pw mw))) rfl rfl Try.runUnderlying67 Try.runUnderlying27 ho.w) rfl rfl (ltb rfl) ?_
  rintro _ w4 ⟨⟨f3, rfl, hf3, lf3⟩, m4⟩
  refine WL.det (op_assign rfl) rfl rfl rfl ?_
  refine WL.end ?_
  refine NE.code ?_
  refine CE.seq ?_
  refine CE.seq ?_
  refine CE.region ?_
  refine WL.det (op_move rfl) rfl rfl rfl ?_
  refine WL.det (op_move rfl) rfl rfl rfl ?_
  refine WL.op (op_farith (e := (fop .sub .f32 (fop .sub .f32 pw mw) (nfA (fop .sub .f32 pw mw)))) (.inr (.inl rfl)) rfl rfl hf1 hf3 rfl) rfl rfl (ltb rfl) ?_
  rintro _ w5 ⟨⟨f4, rfl, hf4, lf4⟩, m5⟩
  refine WL.det (op_flt (c := fLt .f32 (fop .sub .f32 (fop .sub .f32 pw mw) (nfA (fop .sub .f32 pw mw))) 1048576000) rfl rfl hf4 rfl rfl) rfl rfl rfl ?_
  refine WL.end ?_
  refine NE.code ?_
  rcases Bool.eq_false_or_eq_true (fLt .f32 (fop .sub .f32 (fop .sub .f32 pw mw) (nfA (fop .sub .f32 pw mw))) 1048576000) with hb1 | hb1
  · refine CE.cond_t rfl hb1 ?_
    refine CE.region ?_
    refine WL.det (op_move rfl) rfl rfl rfl ?_
    refine WL.op (op_farith (e := (fop .sub .f32 (nfA (fop .sub .f32 pw mw)) 1065353216)) (.inr (.inl rfl)) rfl rfl hf3 rfl rfl) rfl rfl (ltb rfl) ?_
    rintro _ w6 ⟨⟨f5, rfl, hf5, lf5⟩, m6⟩
    refine WL.det (op_assign rfl) rfl rfl rfl ?_
    refine WL.end ?_
    refine NE.code ?_
    refine CE.seq ?_
    refine CE.region ?_
    refine WL.det (op_move rfl) rfl rfl rfl ?_
    refine WL.det (op_ftoi rfl Try.runUnderlying27 Try.runUnderlying2 (SpotE.toInt32 hf5 (by first | exact ho.a.s | exact ho.b.s | exact ho.s)) (SpotE.bd (by first | exact ho.a.s | exact ho.b.s | exact ho.s))) rfl rfl rfl ?_
    refine WL.call (oc_call (vs := [vI ((posF (fop .sub .f32 (nfA (fop .sub .f32 pw mw)) 1065353216) : Nat) : Int)]) (cap := []) rfl rfl rfl Try.call60 (c_NewRingX (posF (fop .sub .f32 (nfA (fop .sub .f32 pw mw)) 1065353216)) (by first | exact ho.a.n1 | exact ho.b.n1) (by first | exact ho.a.n2 | exact ho.b.n2) w6)) rfl rfl (ltb rfl) ?_
    rintro _ w7 ⟨b'1, rfl, r2, ge1, m7⟩
    refine WL.det (op_move rfl) rfl rfl rfl ?_
    refine WL.det (op_extract rfl rfl) rfl rfl rfl ?_
    refine WL.det (op_extract rfl rfl) rfl rfl rfl ?_
    refine WL.op (op_alloc (cs := [.slice none 0 0, vI 0]) Try.zeroValue26 rfl) rfl rfl (ltb rfl) ?_
    rintro _ w8 ⟨rfl, r3, m8, z2⟩
    refine WL.op0 (op_store (i := 0) (cs := [vS b'1 0 (posF (fop .sub .f32 (nfA (fop .sub .f32 pw mw)) 1065353216)) (posF (fop .sub .f32 (nfA (fop .sub .f32 pw mw)) 1065353216)), vI 0]) rfl rfl rfl Try.sizeOf26 rfl r3 rfl (lB rfl) rfl) rfl rfl ?_
    rintro _ w9 ⟨r4, m9, z3⟩
    have r5 : Row w9 w7.heap.size 0 [vS b'1 0 (posF (fop .sub .f32 (nfA (fop .sub .f32 pw mw)) 1065353216)) (posF (fop .sub .f32 (nfA (fop .sub .f32 pw mw)) 1065353216)), vI 0] := Row.congr r4 rfl
    refine WL.det (op_assign rfl) rfl rfl rfl ?_
    refine WL.end ?_
    refine NE.code ?_
    refine CE.seq ?_
    refine CE.region ?_
    refine WL.det (op_move rfl) rfl rfl rfl ?_
    refine WL.det (op_move rfl) rfl rfl rfl ?_
    refine WL.op (op_farith (e := (fop .sub .f32 (fop .sub .f32 pw mw) (fop .sub .f32 (nfA (fop .sub .f32 pw mw)) 1065353216))) (.inr (.inl rfl)) rfl rfl hf1 hf5 rfl) rfl rfl (ltb rfl) ?_
    rintro _ w10 ⟨⟨f6, rfl, hf6, lf6⟩, m10⟩
    refine WL.call (oc_call (vs := [vF f6]) (cap := []) rfl rfl rfl Try.call61 (c_AllpassFor f6 (fop .sub .f32 (fop .sub .f32 pw mw) (fop .sub .f32 (nfA (fop .sub .f32 pw mw)) 1065353216)) hf6 lf6 (by first | exact ho.a.g | exact ho.b.g) (by first | exact ho.a.l | exact ho.b.l) w10)) rfl rfl (ltb rfl) ?_
    rintro _ w11 ⟨r_1, rfl, h1, h2, m11⟩
    refine WL.det (op_move rfl) rfl rfl rfl ?_
    refine WL.det (op_extract rfl rfl) rfl rfl rfl ?_
    refine WL.det (op_extract rfl rfl) rfl rfl rfl ?_
    refine WL.op (op_alloc (cs := [vI 0, vF 0, vF 0, vF 0, vF 0, vF 0]) Try.zeroValue31 rfl) rfl rfl (ltb rfl) ?_
    rintro _ w12 ⟨rfl, r6, m12, z4⟩
    refine WL.op0 (op_store (i := 0) (cs := [vI 3, vF r_1, vF 0, vF 0, vF 0, vF 0]) rfl rfl rfl Try.sizeOf31 rfl r6 rfl (lB rfl) rfl) rfl rfl ?_
    rintro _ w13 ⟨r7, m13, z5⟩
    have r8 : Row w13 w11.heap.size 0 [vI 3, vF r_1, vF 0, vF 0, vF 0, vF 0] := Row.congr r7 rfl
    refine WL.det (op_assign rfl) rfl rfl rfl ?_
    refine WL.end ?_
    refine NE.code ?_
    refine CE.seq ?_
    refine CE.draw (fun | 3 => some (fun _ wA uA wB => ∃ (r_ : Nat), uA = .agg #[vI 2, vF r_, vF mw, vF 0, vF 0, vF 0] ∧ (cn .f32 r_ = cn .f32 (fop .sub .f32 1065353216 mw)) ∧ (r_ < wid .f32) ∧ Mod [] wA wB) | _ => none) [0, 1, 2, 3, 4] [5, 6, 7] [] (by kernel_rfl) (by kernel_rfl) ?_
    have md1 : Mod [] w13 w13.drew := (Mod.refl _ _).drew
    generalize w13.drew = w14 at md1 ⊢
    refine DR.det (i := 0) rfl rfl (by kernel_rfl) (.free rfl) rfl rfl (fun wD mD => op_loadA (i := 0) (cs := [vS b'1 0 (posF (fop .sub .f32 (nfA (fop .sub .f32 pw mw)) 1065353216)) (posF (fop .sub .f32 (nfA (fop .sub .f32 pw mw)) 1065353216)), vI 0]) rfl Try.isAgg26 Try.sizeOf26 ((((((r5.ext m10).ext m11).ext m12).mod m13 (nC (lE (lL (lL r3.lt (lT (lT m9.size m10.size) m11.size)) lR)) nN)).ext md1).ext mD).rng rfl rfl rfl) ?_
    refine DR.det (i := 1) rfl rfl (by kernel_rfl) (.free rfl) rfl rfl (fun wD mD => op_loadA (i := 0) (cs := [vI 3, vF r_1, vF 0, vF 0, vF 0, vF 0]) rfl Try.isAgg31 Try.sizeOf31 ((r8.ext md1).ext mD).rng rfl rfl rfl) ?_
    refine DR.det (i := 2) rfl rfl (by kernel_rfl) (.free rfl) rfl rfl (fun wD mD => op_move rfl) ?_
    refine DR.call (i := 3) (fun uA => ∃ (r_ : Nat), uA = .agg #[vI 2, vF r_, vF mw, vF 0, vF 0, vF 0] ∧ (cn .f32 r_ = cn .f32 (fop .sub .f32 1065353216 mw)) ∧ (r_ < wid .f32)) rfl rfl (by kernel_rfl) (.free rfl) rfl (ltb rfl) ⟨_, _, rfl, rfl, fop_lt _ _ _ _⟩ (vs := [.func (.func 62) #[] #[], vF mw]) rfl (fun wD mD => oc_call (vs := [vF mw]) (cap := []) rfl rfl rfl Try.call62 (c_OneZeroX mw lm wD)) ?_ ?_
    · rintro w1 _ w2 m1 ⟨r_, rfl, p0, p1, m2⟩; exact ⟨⟨r_, rfl, p0, p1⟩, m2⟩
    rintro _ ⟨r_2, rfl, h3, h4⟩
    refine DR.det (i := 4) rfl rfl (by kernel_rfl) (.free rfl) rfl rfl (fun wD mD => op_move rfl) ?_
    refine DR.done rfl ?_
    intro w15 m14
    refine WO.det (op_build (qs := [(0, .agg #[vS b'1 0 (posF (fop .sub .f32 (nfA (fop .sub .f32 pw mw)) 1065353216)) (posF (fop .sub .f32 (nfA (fop .sub .f32 pw mw)) 1065353216)), vI 0]), (1, .agg #[vI 3, vF r_1, vF 0, vF 0, vF 0, vF 0]), (2, .agg #[vI 2, vF r_2, vF mw, vF 0, vF 0, vF 0]), (3, vF lw)]) (cells := #[vS b'1 0 (posF (fop .sub .f32 (nfA (fop .sub .f32 pw mw)) 1065353216)) (posF (fop .sub .f32 (nfA (fop .sub .f32 pw mw)) 1065353216)), vI 0, vI 3, vF r_1, vF 0, vF 0, vF 0, vF 0, vI 2, vF r_2, vF mw, vF 0, vF 0, vF 0, vF lw]) rfl (by kernel_rfl)) rfl (.free rfl) rfl rfl ?_
    refine WO.op0 rfl (.free rfl) rfl (op_store (i := 0) (cs := [vS b'1 0 (posF (fop .sub .f32 (nfA (fop .sub .f32 pw mw)) 1065353216)) (posF (fop .sub .f32 (nfA (fop .sub .f32 pw mw)) 1065353216)), vI 0, vI 3, vF r_1, vF 0, vF 0, vF 0, vF 0, vI 2, vF r_2, vF mw, vF 0, vF 0, vF 0, vF lw]) rfl rfl rfl Try.sizeOf33 rfl ((((((((((((((r1.ext m2).ext m3).ext m4).ext m5).ext m6).ext m7).ext m8).mod m9 (nC (lE (lL (lL r1.lt (lT (lT (lT (lT (lT m2.size m3.size) m4.size) m5.size) m6.size) m7.size)) lR)) nN)).ext m10).ext m11).ext m12).mod m13 (nC (lE (lL (lL r1.lt (lT (lT (lT (lT (lT (lT (lT (lT (lT m2.size m3.size) m4.size) m5.size) m6.size) m7.size) m8.size) m9.size) m10.size) m11.size)) lR)) nN)).ext md1).ext m14) rfl (lB rfl) rfl) ?_
    rintro _ w16 ⟨r9, m15, z6⟩
    have r10 : Row w16 w.heap.size 0 [vS b'1 0 (posF (fop .sub .f32 (nfA (fop .sub .f32 pw mw)) 1065353216)) (posF (fop .sub .f32 (nfA (fop .sub .f32 pw mw)) 1065353216)), vI 0, vI 3, vF r_1, vF 0, vF 0, vF 0, vF 0, vI 2, vF r_2, vF mw, vF 0, vF 0, vF 0, vF lw] := Row.congr r9 rfl
    refine WO.det (op_assign rfl) rfl (.free rfl) rfl rfl ?_
    refine WO.end ?_
    refine NE.code ?_
    refine CE.ret' ?_
    refine XE.leaveT Try.results15 (res_agg (cs := [vS b'1 0 (posF (fop .sub .f32 (nfA (fop .sub .f32 pw mw)) 1065353216)) (posF (fop .sub .f32 (nfA (fop .sub .f32 pw mw)) 1065353216)), vI 0, vI 3, vF r_1, vF 0, vF 0, vF 0, vF 0, vI 2, vF r_2, vF mw, vF 0, vF 0, vF 0, vF lw]) rfl Try.isAgg33 Try.sizeOf33 r10.rng rfl (res_tmp rfl res_nil)) ?_
    refine ⟨(posF (fop .sub .f32 (nfA (fop .sub .f32 pw mw)) 1065353216)), b'1, r_1, r_2, rfl, ?_, ?_, h2, h4, ?_, ?_, (((((((((r2.ext m8).mod m9 (nC (lE (lL r2.lt lR)) nN)).ext m10).ext m11).ext m12).mod m13 (nC (lE (lL (lL r2.lt (lT (lT (lT m8.size m9.size) m10.size) m11.size)) lR)) nN)).ext md1).ext m14).mod m15 (nC (lG (lL (lL r1.lt (lT (lT (lT (lT m2.size m3.size) m4.size) m5.size) m6.size)) ge1)) nN)), (lT (lT (lT (lT (lT (lT m1.size m2.size) m3.size) m4.size) m5.size) m6.size) ge1), (((((((((((((((((Mod.refl [] w).nt m1).nt m2).nt m3).nt m4).nt m5).nt m6).nt m7).nt m8).then m9 ((aC (.inr (lT (lT (lT (lT (lT (lT (lT m1.size m2.size) m3.size) m4.size) m5.size) m6.size) m7.size) lR)) aN))).nt m10).nt m11).nt m12).then m13 ((aC (.inr (lT (lT (lT (lT (lT (lT (lT (lT (lT (lT (lT m1.size m2.size) m3.size) m4.size) m5.size) m6.size) m7.size) m8.size) m9.size) m10.size) m11.size) lR)) aN))).nt md1).nt m14).then m15 ((aC (.inr lR) aN)))⟩
    all_goals first | assumption | exact ho.a.n1 | exact ho.b.n1 | exact ho.a.n2 | exact ho.b.n2 | (rw [finF_congr (by assumption)]; first | exact ho.a.f | exact ho.b.f | exact ho.f)
  · refine CE.cond_f rfl hb1 ?_
    refine CE.skip' ?_
    refine NE.code ?_
    refine CE.seq ?_
    refine CE.region ?_
    refine WL.det (op_move rfl) rfl rfl rfl ?_
    refine WL.det (op_ftoi rfl Try.runUnderlying27 Try.runUnderlying2 (SpotE.toInt32 hf3 (by first | exact ho.a.s | exact ho.b.s | exact ho.s)) (SpotE.bd (by first | exact ho.a.s | exact ho.b.s | exact ho.s))) rfl rfl rfl ?_
    refine WL.call (oc_call (vs := [vI ((posF (nfA (fop .sub .f32 pw mw)) : Nat) : Int)]) (cap := []) rfl rfl rfl Try.call60 (c_NewRingX (posF (nfA (fop .sub .f32 pw mw))) (by first | exact ho.a.n1 | exact ho.b.n1) (by first | exact ho.a.n2 | exact ho.b.n2) w5)) rfl rfl (ltb rfl) ?_
    rintro _ w17 ⟨b'2, rfl, r11, ge2, m16⟩
    refine WL.det (op_move rfl) rfl rfl rfl ?_
    refine WL.det (op_extract rfl rfl) rfl rfl rfl ?_
    refine WL.det (op_extract rfl rfl) rfl rfl rfl ?_
    refine WL.op (op_alloc (cs := [.slice none 0 0, vI 0]) Try.zeroValue26 rfl) rfl rfl (ltb rfl) ?_
    rintro _ w18 ⟨rfl, r12, m17, z7⟩
    refine WL.op0 (op_store (i := 0) (cs := [vS b'2 0 (posF (nfA (fop .sub .f32 pw mw))) (posF (nfA (fop .sub .f32 pw mw))), vI 0]) rfl rfl rfl Try.sizeOf26 rfl r12 rfl (lB rfl) rfl) rfl rfl ?_
    rintro _ w19 ⟨r13, m18, z8⟩
    have r14 : Row w19 w17.heap.size 0 [vS b'2 0 (posF (nfA (fop .sub .f32 pw mw))) (posF (nfA (fop .sub .f32 pw mw))), vI 0] := Row.congr r13 rfl
    refine WL.det (op_assign rfl) rfl rfl rfl ?_
    refine WL.end ?_
    refine NE.code ?_
    refine CE.seq ?_
    refine CE.region ?_
    refine WL.det (op_move rfl) rfl rfl rfl ?_
    refine WL.det (op_move rfl) rfl rfl rfl ?_
    refine WL.op (op_farith (e := (fop .sub .f32 (fop .sub .f32 pw mw) (nfA (fop .sub .f32 pw mw)))) (.inr (.inl rfl)) rfl rfl hf1 hf3 rfl) rfl rfl (ltb rfl) ?_
    rintro _ w20 ⟨⟨f7, rfl, hf7, lf7⟩, m19⟩
    refine WL.call (oc_call (vs := [vF f7]) (cap := []) rfl rfl rfl Try.call61 (c_AllpassFor f7 (fop .sub .f32 (fop .sub .f32 pw mw) (nfA (fop .sub .f32 pw mw))) hf7 lf7 (by first | exact ho.a.g | exact ho.b.g) (by first | exact ho.a.l | exact ho.b.l) w20)) rfl rfl (ltb rfl) ?_
    rintro _ w21 ⟨r_3, rfl, h5, h6, m20⟩
    refine WL.det (op_move rfl) rfl rfl rfl ?_
    refine WL.det (op_extract rfl rfl) rfl rfl rfl ?_
    refine WL.det (op_extract rfl rfl) rfl rfl rfl ?_
    refine WL.op (op_alloc (cs := [vI 0, vF 0, vF 0, vF 0, vF 0, vF 0]) Try.zeroValue31 rfl) rfl rfl (ltb rfl) ?_
    rintro _ w22 ⟨rfl, r15, m21, z9⟩
    refine WL.op0 (op_store (i := 0) (cs := [vI 3, vF r_3, vF 0, vF 0, vF 0, vF 0]) rfl rfl rfl Try.sizeOf31 rfl r15 rfl (lB rfl) rfl) rfl rfl ?_
    rintro _ w23 ⟨r16, m22, z10⟩
    have r17 : Row w23 w21.heap.size 0 [vI 3, vF r_3, vF 0, vF 0, vF 0, vF 0] := Row.congr r16 rfl
    refine WL.det (op_assign rfl) rfl rfl rfl ?_
    refine WL.end ?_
    refine NE.code ?_
    refine CE.seq ?_
    refine CE.draw (fun | 3 => some (fun _ wA uA wB => ∃ (r_ : Nat), uA = .agg #[vI 2, vF r_, vF mw, vF 0, vF 0, vF 0] ∧ (cn .f32 r_ = cn .f32 (fop .sub .f32 1065353216 mw)) ∧ (r_ < wid .f32) ∧ Mod [] wA wB) | _ => none) [0, 1, 2, 3, 4] [5, 6, 7] [] (by kernel_rfl) (by kernel_rfl) ?_
    have md2 : Mod [] w23 w23.drew := (Mod.refl _ _).drew
    generalize w23.drew = w24 at md2 ⊢
    refine DR.det (i := 0) rfl rfl (by kernel_rfl) (.free rfl) rfl rfl (fun wD mD => op_loadA (i := 0) (cs := [vS b'2 0 (posF (nfA (fop .sub .f32 pw mw))) (posF (nfA (fop .sub .f32 pw mw))), vI 0]) rfl Try.isAgg26 Try.sizeOf26 ((((((r14.ext m19).ext m20).ext m21).mod m22 (nC (lE (lL (lL r12.lt (lT (lT m18.size m19.size) m20.size)) lR)) nN)).ext md2).ext mD).rng rfl rfl rfl) ?_
    refine DR.det (i := 1) rfl rfl (by kernel_rfl) (.free rfl) rfl rfl (fun wD mD => op_loadA (i := 0) (cs := [vI 3, vF r_3, vF 0, vF 0, vF 0, vF 0]) rfl Try.isAgg31 Try.sizeOf31 ((r17.ext md2).ext mD).rng rfl rfl rfl) ?_
    refine DR.det (i := 2) rfl rfl (by kernel_rfl) (.free rfl) rfl rfl (fun wD mD => op_move rfl) ?_
    refine DR.call (i := 3) (fun uA => ∃ (r_ : Nat), uA = .agg #[vI 2, vF r_, vF mw, vF 0, vF 0, vF 0] ∧ (cn .f32 r_ = cn .f32 (fop .sub .f32 1065353216 mw)) ∧ (r_ < wid .f32)) rfl rfl (by kernel_rfl) (.free rfl) rfl (ltb rfl) ⟨_, _, rfl, rfl, fop_lt _ _ _ _⟩ (vs := [.func (.func 62) #[] #[], vF mw]) rfl (fun wD mD => oc_call (vs := [vF mw]) (cap := []) rfl rfl rfl Try.call62 (c_OneZeroX mw lm wD)) ?_ ?_
    · rintro w1 _ w2 m1 ⟨r_, rfl, p0, p1, m2⟩; exact ⟨⟨r_, rfl, p0, p1⟩, m2⟩
    rintro _ ⟨r_4, rfl, h7, h8⟩
    refine DR.det (i := 4) rfl rfl (by kernel_rfl) (.free rfl) rfl rfl (fun wD mD => op_move rfl) ?_
    refine DR.done rfl ?_
    intro w25 m23
    refine WO.det (op_build (qs := [(0, .agg #[vS b'2 0 (posF (nfA (fop .sub .f32 pw mw))) (posF (nfA (fop .sub .f32 pw mw))), vI 0]), (1, .agg #[vI 3, vF r_3, vF 0, vF 0, vF 0, vF 0]), (2, .agg #[vI 2, vF r_4, vF mw, vF 0, vF 0, vF 0]), (3, vF lw)]) (cells := #[vS b'2 0 (posF (nfA (fop .sub .f32 pw mw))) (posF (nfA (fop .sub .f32 pw mw))), vI 0, vI 3, vF r_3, vF 0, vF 0, vF 0, vF 0, vI 2, vF r_4, vF mw, vF 0, vF 0, vF 0, vF lw]) rfl (by kernel_rfl)) rfl (.free rfl) rfl rfl ?_
    refine WO.op0 rfl (.free rfl) rfl (op_store (i := 0) (cs := [vS b'2 0 (posF (nfA (fop .sub .f32 pw mw))) (posF (nfA (fop .sub .f32 pw mw))), vI 0, vI 3, vF r_3, vF 0, vF 0, vF 0, vF 0, vI 2, vF r_4, vF mw, vF 0, vF 0, vF 0, vF lw]) rfl rfl rfl Try.sizeOf33 rfl (((((((((((((r1.ext m2).ext m3).ext m4).ext m5).ext m16).ext m17).mod m18 (nC (lE (lL (lL r1.lt (lT (lT (lT (lT m2.size m3.size) m4.size) m5.size) m16.size)) lR)) nN)).ext m19).ext m20).ext m21).mod m22 (nC (lE (lL (lL r1.lt (lT (lT (lT (lT (lT (lT (lT (lT m2.size m3.size) m4.size) m5.size) m16.size) m17.size) m18.size) m19.size) m20.size)) lR)) nN)).ext md2).ext m23) rfl (lB rfl) rfl) ?_
    rintro _ w26 ⟨r18, m24, z11⟩
    have r19 : Row w26 w.heap.size 0 [vS b'2 0 (posF (nfA (fop .sub .f32 pw mw))) (posF (nfA (fop .sub .f32 pw mw))), vI 0, vI 3, vF r_3, vF 0, vF 0, vF 0, vF 0, vI 2, vF r_4, vF mw, vF 0, vF 0, vF 0, vF lw] := Row.congr r18 rfl
    refine WO.det (op_assign rfl) rfl (.free rfl) rfl rfl ?_
    refine WO.end ?_
    refine NE.code ?_
    refine CE.ret' ?_
    refine XE.leaveT Try.results15 (res_agg (cs := [vS b'2 0 (posF (nfA (fop .sub .f32 pw mw))) (posF (nfA (fop .sub .f32 pw mw))), vI 0, vI 3, vF r_3, vF 0, vF 0, vF 0, vF 0, vI 2, vF r_4, vF mw, vF 0, vF 0, vF 0, vF lw]) rfl Try.isAgg33 Try.sizeOf33 r19.rng rfl (res_tmp rfl res_nil)) ?_
    refine ⟨(posF (nfA (fop .sub .f32 pw mw))), b'2, r_3, r_4, rfl, ?_, ?_, h6, h8, ?_, ?_, (((((((((r11.ext m17).mod m18 (nC (lE (lL r11.lt lR)) nN)).ext m19).ext m20).ext m21).mod m22 (nC (lE (lL (lL r11.lt (lT (lT (lT m17.size m18.size) m19.size) m20.size)) lR)) nN)).ext md2).ext m23).mod m24 (nC (lG (lL (lL r1.lt (lT (lT (lT m2.size m3.size) m4.size) m5.size)) ge2)) nN)), (lT (lT (lT (lT (lT m1.size m2.size) m3.size) m4.size) m5.size) ge2), ((((((((((((((((Mod.refl [] w).nt m1).nt m2).nt m3).nt m4).nt m5).nt m16).nt m17).then m18 ((aC (.inr (lT (lT (lT (lT (lT (lT m1.size m2.size) m3.size) m4.size) m5.size) m16.size) lR)) aN))).nt m19).nt m20).nt m21).then m22 ((aC (.inr (lT (lT (lT (lT (lT (lT (lT (lT (lT (lT m1.size m2.size) m3.size) m4.size) m5.size) m16.size) m17.size) m18.size) m19.size) m20.size) lR)) aN))).nt md2).nt m23).then m24 ((aC (.inr lR) aN)))⟩
    all_goals first | assumption | exact ho.a.n1 | exact ho.b.n1 | exact ho.a.n2 | exact ho.b.n2 | (rw [finF_congr (by assumption)]; first | exact ho.a.f | exact ho.b.f | exact ho.f)

end Go.Proofs.Ytabfdgpldcegiaa
