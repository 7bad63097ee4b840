/- Bows that are drawn. -/
import Derived.Test.YtkgdhlhmckdcmaaD2F
import Derived.Test.YtkgdhlhmckdcmaaF7
import Derived.Test.YtkgdhlhmckdcmaaE24
set_option linter.unusedVariables false
set_option linter.unusedSimpArgs false
namespace Go.Proofs.Ytkgdhlhmckdcmaa

theorem x138n : Extern.findNext Try.f138 = none := by kernel_rfl
theorem x138e : Extern.find Try.f138 = some (Extern.MathFloor.toIntegral "math.archFloor" .down) := by kernel_rfl
def SpotE (p : Nat) : Prop := ∃ n, n ≤ 1048576 ∧ Spot p n
theorem SpotE.bd {p : Nat} (h : SpotE p) : posF p ≤ 9223372036854775807 := by obtain ⟨n, h1, h2⟩ := h; exact Nat.le_trans h2.le (by omega)
theorem SpotE.toInt64 {p : Nat} (h : SpotE p) : (FloatKind.f64.decode (floorW p)).toInt .zero = some ((posF p : Nat) : Int) := by obtain ⟨n, h1, h2⟩ := h; exact h2.toInt64 h1
def SpotW (x : Nat) : Prop := ∃ p, x = wide p ∧ SpotE p
/-- the whole number below a wide word's number -/
def floorX (x : Nat) : Nat := FloatKind.f64.encode ((FloatKind.f64.decode x).integral .down)
theorem SpotW.run {P : Program} {a x : Nat} {w : World} (ha : cn .f64 a = cn .f64 x) (h : SpotW x) : (Extern.MathFloor.toIntegral "math.archFloor" .down #[.float .f64 a]).run P w = .ok (.float .f64 (floorX x)) w := by
  obtain ⟨p, rfl, n, h1, h2⟩ := h
  exact floor_run ha h2
theorem floorX_wide {a p : Nat} (ha : cn .f64 a = cn .f64 (floorX (wide p))) (h : SpotE p) : (FloatKind.f64.decode a).toInt .zero = some ((posF p : Nat) : Int) := by
  have hn : isNaN .f64 (floorX (wide p)) = false := by
    obtain ⟨n, h1, h2⟩ := h
    obtain ⟨s, e, _, _⟩ := h2.floor
    unfold floorX
    rw [e]; exact read_nearest_noNaN FloatKind.f64.format s (posF p) 0
  rw [eq_of_cn ha hn]; exact h.toInt64

def spotB (p : Nat) : Bool := decide (p < 2139095040) && decide (posF p ≤ 1024)
theorem spotB_of {p : Nat} (h : spotB p = true) : SpotE p := by
  simp only [spotB, Bool.and_eq_true, decide_eq_true_eq] at h
  have e : p % 2147483648 = p := Nat.mod_eq_of_lt (by omega)
  exact ⟨1024, by omega, by rw [e]; exact h.1, .inl (by simp; omega), h.2⟩
theorem and_l9 {a b : Bool} (h : (a && b) = true) : a = true := by rw [Bool.and_eq_true] at h; exact h.1
theorem and_r9 {a b : Bool} (h : (a && b) = true) : b = true := by rw [Bool.and_eq_true] at h; exact h.2
def w8 (u : Nat) : Nat := fop .quo .f32 (FloatKind.f32.nearest ((u : Nat) : Int)) 1090519040
def w16 (u : Nat) : Nat := fop .quo .f32 (FloatKind.f32.nearest ((u : Nat) : Int)) 1098907648
/-- places of bows that are drawn -/
def placeT : Bool := (List.range 9).all fun u => (!isNaN .f32 (w8 u) && (fGe .f32 (w8 u) 0 && fLe .f32 (w8 u) 1065353216)) && (List.range 8).all fun m => spotB (fop .mul .f32 (w8 u) (FloatKind.f32.nearest (((2 + m : Nat)) : Int)))
theorem placeT_ok : placeT = true := by decide +kernel
theorem place_of {u m pl : Nat} (h : cn .f32 pl = cn .f32 (w8 u)) (hu : u < 9) (hm : m < 8) : (fGe .f32 pl 0 && fLe .f32 pl 1065353216) = true ∧ SpotE (fop .mul .f32 pl (FloatKind.f32.nearest (((2 + m : Nat)) : Int))) := by
  have k := List.all_eq_true.1 placeT_ok u (by simpa using hu)
  rw [Bool.and_eq_true, Bool.and_eq_true] at k
  have e : pl = w8 u := eq_of_cn h (by simpa using k.1.1)
  rw [e]
  exact ⟨k.1.2, spotB_of (List.all_eq_true.1 k.2 m (by simpa using hm))⟩

set_option maxRecDepth 100000 in
set_option maxHeartbeats 2000000 in
theorem c_mathFloorR (a : Nat) (x : Nat) (ha : cn .f64 a = cn .f64 x) (hs : SpotW x) (w : World) : Cl Try.prog 127 #[.float .f64 a] w fun v w' => v = .float .f64 (floorX x) ∧ w = w' := by
  refine Cl.of Try.func127 Try.ntmps127 rfl rfl (ρ := [(0, .float .f64 a)]) rfl ?_
  refine CE.seq ?_
  refine CE.region ?_
  refine WL.det (op_assign rfl) rfl rfl rfl ?_
  refine WL.end ?_
  refine NE.code ?_
  refine CE.seq ?_
  refine CE.cond_t rfl rfl ?_
  refine CE.seq ?_
  refine CE.region ?_
  refine WL.det (op_move rfl) rfl rfl rfl ?_
  refine WL.det (op_extern (vs := [.float .f64 a]) Try.func138 rfl rfl x138n x138e rfl (fun _ => SpotW.run ha hs)) rfl rfl rfl ?_
  refine WL.det (op_assign rfl) rfl rfl rfl ?_
  refine WL.end ?_
  refine NE.code ?_
  refine CE.ret' ?_
  refine XE.ret_then ?_
  refine XE.leave1 Try.results127 rfl ?_
  refine ⟨rfl, rfl⟩

set_option maxRecDepth 100000 in
set_option maxHeartbeats 2000000 in
theorem c_l00MinN (q1_ : Nat) (q2_ : Nat) (w : World) : Cl Try.prog 129 #[vI ((q1_ : Nat) : Int), vI ((q2_ : Nat) : Int)] w fun v w' => ∃ (mn : Nat), v = vI ((mn : Nat) : Int) ∧ (mn ≤ q1_) ∧ Mod [] w w' := by
  refine Cl.of Try.func129 Try.ntmps129 rfl rfl (ρ := [(0, vI ((q1_ : Nat) : Int)), (1, vI ((q2_ : Nat) : Int))]) rfl ?_
  refine CE.seq ?_
  refine CE.region ?_
  refine WL.det (op_assign rfl) rfl rfl rfl ?_
  refine WL.end ?_
  refine NE.code ?_
  refine CE.seq ?_
  refine CE.seq ?_
  refine CE.region ?_
  refine WL.det (op_move rfl) rfl rfl rfl ?_
  refine WL.det (op_move rfl) rfl rfl rfl ?_
  refine WL.det (op_lti rfl rfl) rfl rfl rfl ?_
  refine WL.end ?_
  refine NE.code ?_
  rcases Bool.eq_false_or_eq_true (decide (((q1_ : Nat) : Int) < ((q2_ : Nat) : Int))) with hb1 | hb1
  · have hp1 := of_decide_eq_true hb1
    refine CE.cond_t rfl hb1 ?_
    refine CE.seq ?_
    refine CE.region ?_
    refine WL.det (op_move rfl) rfl rfl rfl ?_
    refine WL.det (op_assign rfl) rfl rfl rfl ?_
    refine WL.end ?_
    refine NE.code ?_
    refine CE.ret' ?_
    refine XE.ret_then ?_
    refine XE.leave1 Try.results129 rfl ?_
    refine ⟨q1_, rfl, ?_, (Mod.refl [] w)⟩
    all_goals omega
  · have hp1 := of_decide_eq_false hb1
    refine CE.cond_f rfl hb1 ?_
    refine CE.skip' ?_
    refine NE.code ?_
    refine CE.seq ?_
    refine CE.region ?_
    refine WL.det (op_move rfl) rfl rfl rfl ?_
    refine WL.det (op_assign rfl) rfl rfl rfl ?_
    refine WL.end ?_
    refine NE.code ?_
    refine CE.ret' ?_
    refine XE.leave1 Try.results129 rfl ?_
    refine ⟨q2_, rfl, ?_, (Mod.refl [] w)⟩
    all_goals omega

set_option maxRecDepth 100000 in
set_option maxHeartbeats 2000000 in
theorem c_l00MaxN (q2_ : Nat) (w : World) : Cl Try.prog 128 #[vI 1, vI ((q2_ : Nat) : Int)] w fun v w' => ∃ (mx : Nat), v = vI ((mx : Nat) : Int) ∧ (1 ≤ mx) ∧ (mx ≤ q2_ ∨ mx = 1) ∧ Mod [] w w' := by
  refine Cl.of Try.func128 Try.ntmps128 rfl rfl (ρ := [(0, vI 1), (1, vI ((q2_ : Nat) : Int))]) rfl ?_
  refine CE.seq ?_
  refine CE.region ?_
  refine WL.det (op_assign rfl) rfl rfl rfl ?_
  refine WL.end ?_
  refine NE.code ?_
  refine CE.seq ?_
  refine CE.seq ?_
  refine CE.region ?_
  refine WL.det (op_move rfl) rfl rfl rfl ?_
  refine WL.det (op_move rfl) rfl rfl rfl ?_
  refine WL.det (op_gti rfl rfl) rfl rfl rfl ?_
  refine WL.end ?_
  refine NE.code ?_
  rcases Bool.eq_false_or_eq_true (decide (((q2_ : Nat) : Int) < (1 : Int))) with hb1 | hb1
  · have hp1 := of_decide_eq_true hb1
    refine CE.cond_t rfl hb1 ?_
    refine CE.seq ?_
    refine CE.region ?_
    refine WL.det (op_move rfl) rfl rfl rfl ?_
    refine WL.det (op_assign rfl) rfl rfl rfl ?_
    refine WL.end ?_
    refine NE.code ?_
    refine CE.ret' ?_
    refine XE.ret_then ?_
    refine XE.leave1 Try.results128 rfl ?_
    refine ⟨1, rfl, ?_, ?_, (Mod.refl [] w)⟩
    all_goals omega
  · have hp1 := of_decide_eq_false hb1
    refine CE.cond_f rfl hb1 ?_
    refine CE.skip' ?_
    refine NE.code ?_
    refine CE.seq ?_
    refine CE.region ?_
    refine WL.det (op_move rfl) rfl rfl rfl ?_
    refine WL.det (op_assign rfl) rfl rfl rfl ?_
    refine WL.end ?_
    refine NE.code ?_
    refine CE.ret' ?_
    refine XE.leave1 Try.results128 rfl ?_
    refine ⟨q2_, rfl, ?_, ?_, (Mod.refl [] w)⟩
    all_goals omega

set_option maxRecDepth 100000 in
set_option maxHeartbeats 2000000 in
theorem c_sOnePoleX (x : Nat) (hn9 : isNaN .f32 (fop .sub .f32 1065353216 x) = false) (w : World) : Cl Try.prog 130 #[vF x] w fun v w' => v = .agg #[vI 1, vF (fop .sub .f32 1065353216 x), vF x, vF 0, vF 0, vF 0] ∧ Mod [] w w' := by
  refine Cl.of Try.func130 Try.ntmps130 rfl rfl (ρ := [(0, vF x)]) rfl ?_
  refine CE.seq ?_
  refine CE.region ?_
  refine WL.op (op_alloc (cs := [vI 0, vF 0, vF 0, vF 0, vF 0, vF 0]) Try.zeroValue34 rfl) rfl rfl (ltb rfl) ?_
  rintro _ w1 ⟨rfl, r1, m1, z1⟩
  refine WL.end ?_
  refine NE.code ?_
  refine CE.seq ?_
  refine CE.region ?_
  refine WL.det (op_move rfl) rfl rfl rfl ?_
  refine WL.op (op_farith (e := (fop .sub .f32 1065353216 x)) (.inr (.inl rfl)) rfl rfl rfl rfl rfl) rfl rfl (ltb rfl) ?_
  rintro _ w2 ⟨⟨f1, rfl, hf1, lf1⟩, m2⟩
  refine WL.det (op_move rfl) rfl rfl rfl ?_
  refine WL.det (op_build (qs := [(0, vF f1), (1, vF x), (2, vF 0)]) (cells := #[vF f1, vF x, vF 0]) rfl (by kernel_rfl)) rfl rfl rfl ?_
  refine WL.det (op_build (qs := [(0, vI 1), (1, .agg #[vF f1, vF x, vF 0])]) (cells := #[vI 1, vF f1, vF x, vF 0, vF 0, vF 0]) rfl (by kernel_rfl)) rfl rfl rfl ?_
  refine WL.op0 (op_store (i := 0) (cs := [vI 1, vF f1, vF x, vF 0, vF 0, vF 0]) rfl rfl rfl Try.sizeOf34 rfl (r1.ext m2) rfl (lB rfl) rfl) rfl rfl ?_
  rintro _ w3 ⟨r2, m3, z2⟩
  have r3 : Row w3 w.heap.size 0 [vI 1, vF f1, vF x, vF 0, vF 0, vF 0] := Row.congr r2 rfl
  refine WL.end ?_
  refine NE.code ?_
  refine CE.ret' ?_
  refine XE.leaveC Try.results130 (res_agg (cs := [vI 1, vF f1, vF x, vF 0, vF 0, vF 0]) rfl Try.isAgg34 Try.sizeOf34 r3.rng rfl res_nil) ?_
  refine ⟨?_, ((((Mod.refl [] w).nt m1).nt m2).then m3 ((aC (.inr lR) aN)))⟩
  all_goals (have e9 := eq_of_cn hf1 hn9; subst e9; rfl)

set_option maxRecDepth 100000 in
set_option maxHeartbeats 2000000 in
theorem c_NewBowF (n : Nat) (pl : Nat) (kp : Nat) (lo : Nat) (sl : Nat) (h1 : 2 ≤ n) (h2 : n ≤ 1024) (lkp : kp < wid .f32) (hpl : (fGe .f32 pl 0 && fLe .f32 pl 1065353216) = true) (hkp : (fGe .f32 kp 0 && fLt .f32 kp 1065353216) = true) (hlo : (fGe .f32 lo 0 && fLe .f32 lo 1065353216) = true) (hsl : finF sl = true) (hn9 : isNaN .f32 (fop .sub .f32 1065353216 kp) = false) (hsp : SpotE (fop .mul .f32 pl (FloatKind.f32.nearest ((n : Nat) : Int)))) (w : World) : Cl Try.prog 110 #[vI ((n : Nat) : Int), vF pl, vF kp, vF lo, vF sl] w fun v w' => ∃ (b' : Nat) (d' : Nat) (p : Nat), v = .tuple #[.agg #[vS b' 0 (n - p) (n - p), vI 0, vS d' 0 p p, vI 0, vI 1, vF (fop .sub .f32 1065353216 kp), vF kp, vF 0, vF 0, vF 0, vF sl, vF lo], vI 0] ∧ (1 ≤ p) ∧ (p < n) ∧ Row w' b' 0 (fl (List.replicate (n - p) 0)) ∧ Row w' d' 0 (fl (List.replicate p 0)) ∧ w.heap.size ≤ b' ∧ w.heap.size ≤ d' ∧ b' ≠ d' ∧ Mod [] w w' := by
  refine Cl.of Try.func110 Try.ntmps110 rfl rfl (ρ := [(0, vI ((n : Nat) : Int)), (1, vF pl), (2, vF kp), (3, vF lo), (4, vF sl)]) rfl ?_
  refine CE.seq ?_
  refine CE.region ?_
  refine WL.op (op_alloc (cs := [.slice none 0 0, vI 0, .slice none 0 0, vI 0, vI 0, vF 0, vF 0, vF 0, vF 0, vF 0, vF 0, vF 0]) Try.zeroValue36 rfl) rfl rfl (ltb rfl) ?_
  rintro _ w1 ⟨rfl, r1, m1, z1⟩
  refine WL.det (op_assign rfl) rfl rfl rfl ?_
  refine WL.end ?_
  refine NE.code ?_
  refine CE.seq ?_
  refine CE.seq ?_
  refine CE.region ?_
  refine WL.det (op_move rfl) rfl rfl rfl ?_
  refine WL.call (oc_call (vs := [vI ((n : Nat) : Int), vI 2, vI 1024]) (cap := []) rfl rfl rfl Try.call115 (c_l00In ((n : Nat) : Int) (2 : Int) (1024 : Int) w1)) rfl rfl (ltb rfl) ?_
  rintro _ _ ⟨rfl, rfl⟩
  refine WL.det (op_not rfl) rfl rfl rfl ?_
  refine WL.det (op_move rfl) rfl rfl rfl ?_
  refine WL.yes rfl rfl rfl (ltb rfl) rfl (bnot_t ((vIn_t _ _ _).2 ⟨by omega, by omega⟩)) ?_
  refine WL.det (op_move rfl) rfl rfl rfl ?_
  refine WL.yes rfl rfl rfl (ltb rfl) rfl (bnot_t ((vIn_t _ _ _).2 ⟨by omega, by omega⟩)) ?_
  refine WL.det (op_fge (c := fGe .f32 pl 0) rfl rfl rfl rfl rfl) rfl rfl rfl ?_
  refine WL.yes rfl rfl rfl (ltb rfl) rfl (bnot_t ((vIn_t _ _ _).2 ⟨by omega, by omega⟩)) ?_
  refine WL.det (op_move rfl) rfl rfl rfl ?_
  refine WL.yes rfl rfl rfl (ltb rfl) rfl (and_l9 hpl) ?_
  refine WL.det (op_move rfl) rfl rfl rfl ?_
  refine WL.yes rfl rfl rfl (ltb rfl) rfl (and_l9 hpl) ?_
  refine WL.det (op_fle (c := fLe .f32 pl 1065353216) rfl rfl rfl rfl rfl) rfl rfl rfl ?_
  refine WL.yes rfl rfl rfl (ltb rfl) rfl (bnot_t ((vIn_t _ _ _).2 ⟨by omega, by omega⟩)) ?_
  refine WL.det (op_pick_t rfl (and_l9 hpl) rfl) rfl rfl rfl ?_
  refine WL.yes rfl rfl rfl (ltb rfl) rfl (bnot_t ((vIn_t _ _ _).2 ⟨by omega, by omega⟩)) ?_
  refine WL.det (op_not rfl) rfl rfl rfl ?_
  refine WL.det (op_pick_f rfl (bnot_t ((vIn_t _ _ _).2 ⟨by omega, by omega⟩)) rfl) rfl rfl rfl ?_
  refine WL.det (op_move rfl) rfl rfl rfl ?_
  refine WL.yes rfl rfl rfl (ltb rfl) rfl (bnot_t (and_r9 hpl)) ?_
  refine WL.det (op_move rfl) rfl rfl rfl ?_
  refine WL.yes rfl rfl rfl (ltb rfl) rfl (bnot_t (and_r9 hpl)) ?_
  refine WL.det (op_fge (c := fGe .f32 kp 0) rfl rfl rfl rfl rfl) rfl rfl rfl ?_
  refine WL.yes rfl rfl rfl (ltb rfl) rfl (bnot_t (and_r9 hpl)) ?_
  refine WL.det (op_move rfl) rfl rfl rfl ?_
  refine WL.yes rfl rfl rfl (ltb rfl) rfl (and_l9 hkp) ?_
  refine WL.det (op_move rfl) rfl rfl rfl ?_
  refine WL.yes rfl rfl rfl (ltb rfl) rfl (and_l9 hkp) ?_
  refine WL.det (op_flt (c := fLt .f32 kp 1065353216) rfl rfl rfl rfl rfl) rfl rfl rfl ?_
  refine WL.yes rfl rfl rfl (ltb rfl) rfl (bnot_t (and_r9 hpl)) ?_
  refine WL.det (op_pick_t rfl (and_l9 hkp) rfl) rfl rfl rfl ?_
  refine WL.yes rfl rfl rfl (ltb rfl) rfl (bnot_t (and_r9 hpl)) ?_
  refine WL.det (op_not rfl) rfl rfl rfl ?_
  refine WL.det (op_pick_f rfl (bnot_t (and_r9 hpl)) rfl) rfl rfl rfl ?_
  refine WL.det (op_move rfl) rfl rfl rfl ?_
  refine WL.yes rfl rfl rfl (ltb rfl) rfl (bnot_t (and_r9 hkp)) ?_
  refine WL.det (op_move rfl) rfl rfl rfl ?_
  refine WL.yes rfl rfl rfl (ltb rfl) rfl (bnot_t (and_r9 hkp)) ?_
  refine WL.det (op_fge (c := fGe .f32 lo 0) rfl rfl rfl rfl rfl) rfl rfl rfl ?_
  refine WL.yes rfl rfl rfl (ltb rfl) rfl (bnot_t (and_r9 hkp)) ?_
  refine WL.det (op_move rfl) rfl rfl rfl ?_
  refine WL.yes rfl rfl rfl (ltb rfl) rfl (and_l9 hlo) ?_
  refine WL.det (op_move rfl) rfl rfl rfl ?_
  refine WL.yes rfl rfl rfl (ltb rfl) rfl (and_l9 hlo) ?_
  refine WL.det (op_fle (c := fLe .f32 lo 1065353216) rfl rfl rfl rfl rfl) rfl rfl rfl ?_
  refine WL.yes rfl rfl rfl (ltb rfl) rfl (bnot_t (and_r9 hkp)) ?_
  refine WL.det (op_pick_t rfl (and_l9 hlo) rfl) rfl rfl rfl ?_
  refine WL.yes rfl rfl rfl (ltb rfl) rfl (bnot_t (and_r9 hkp)) ?_
  refine WL.det (op_not rfl) rfl rfl rfl ?_
  refine WL.det (op_pick_f rfl (bnot_t (and_r9 hkp)) rfl) rfl rfl rfl ?_
  refine WL.det (op_move rfl) rfl rfl rfl ?_
  refine WL.yes rfl rfl rfl (ltb rfl) rfl (bnot_t (and_r9 hlo)) ?_
  refine WL.det (op_move rfl) rfl rfl rfl ?_
  refine WL.yes rfl rfl rfl (ltb rfl) rfl (bnot_t (and_r9 hlo)) ?_
  refine WL.call (oc_call (vs := [vF sl]) (cap := []) rfl rfl rfl Try.call56 (c_l01Finite sl sl rfl w1)) rfl rfl (ltb rfl) ?_
  rintro _ w2 ⟨rfl, m2⟩
  refine WL.yes rfl rfl rfl (ltb rfl) rfl (bnot_t (and_r9 hlo)) ?_
  refine WL.det (op_not rfl) rfl rfl rfl ?_
  refine WL.det (op_pick_f rfl (bnot_t (and_r9 hlo)) rfl) rfl rfl rfl ?_
  refine WL.end ?_
  refine NE.code ?_
  refine CE.cond_f rfl (bnot_t hsl) ?_
  refine CE.skip' ?_
  refine NE.code ?_
  refine CE.seq ?_
  refine CE.region ?_
  refine WL.det (op_move rfl) rfl rfl rfl ?_
  refine WL.det (op_move rfl) rfl rfl rfl ?_
  refine WL.det (op_cvt_if rfl Try.runUnderlying2 Try.runUnderlying25) rfl rfl rfl ?_
  refine WL.op (op_farith (e := (fop .mul .f32 pl (FloatKind.f32.nearest ((n : Nat) : Int)))) (.inr (.inr (.inl rfl))) rfl rfl rfl rfl rfl) rfl rfl (ltb rfl) ?_
  rintro _ w3 ⟨⟨f1, rfl, hf1, lf1⟩, m3⟩
  refine WL.op (op_widen (e := (wide (fop .mul .f32 pl (FloatKind.f32.nearest ((n : Nat) : Int))))) rfl hf1 Try.runUnderlying25 Try.runUnderlying67 rfl) rfl rfl (ltb rfl) ?_
  rintro _ w4 ⟨⟨f2, rfl, hf2, lf2⟩, m4⟩
  refine WL.call (oc_call (vs := [.float .f64 f2]) (cap := []) rfl rfl rfl Try.call127 (c_mathFloorR f2 (wide (fop .mul .f32 pl (FloatKind.f32.nearest ((n : Nat) : Int)))) hf2 (by exact ⟨_, rfl, hsp⟩) w4)) rfl rfl (ltb rfl) ?_
  rintro _ _ ⟨rfl, rfl⟩
  refine WL.det (op_ftoi rfl Try.runUnderlying67 Try.runUnderlying2 (floorX_wide rfl hsp) (SpotE.bd hsp)) rfl rfl rfl ?_
  refine WL.det (op_assign rfl) rfl rfl rfl ?_
  refine WL.end ?_
  refine NE.code ?_
  refine CE.seq ?_
  refine CE.region ?_
  refine WL.det (op_move rfl) rfl rfl rfl ?_
  refine WL.det (op_sub (r := ((n - 1 : Nat) : Int)) rfl rfl (w_nsub (l := n) (n := 1) (by omega) (by omega))) rfl rfl rfl ?_
  refine WL.det (op_move rfl) rfl rfl rfl ?_
  refine WL.call (oc_call (vs := [vI ((n - 1 : Nat) : Int), vI ((posF (fop .mul .f32 pl (FloatKind.f32.nearest ((n : Nat) : Int))) : Nat) : Int)]) (cap := []) rfl rfl rfl Try.call129 (c_l00MinN (n - 1) (posF (fop .mul .f32 pl (FloatKind.f32.nearest ((n : Nat) : Int)))) w4)) rfl rfl (ltb rfl) ?_
  rintro _ w5 ⟨mn1, rfl, h1, m5⟩
  refine WL.call (oc_call (vs := [vI 1, vI ((mn1 : Nat) : Int)]) (cap := []) rfl rfl rfl Try.call128 (c_l00MaxN mn1 w5)) rfl rfl (ltb rfl) ?_
  rintro _ w6 ⟨mx1, rfl, h2, h3, m6⟩
  refine WL.det (op_assign rfl) rfl rfl rfl ?_
  refine WL.end ?_
  refine NE.code ?_
  refine CE.seq ?_
  refine CE.drawF (fun | 9 => some (fun _ wA uA wB => uA = .agg #[vI 1, vF (fop .sub .f32 1065353216 kp), vF kp, vF 0, vF 0, vF 0] ∧ Mod [] wA wB) | _ => none) [0, 1, 2, 3, 4, 5, 6, 7, 8, 9, 10, 11] [12, 13, 14] [] (fun ρ W => ∃ (e1_3_0 : Nat) (e1_6_0 : Nat), ρ = [(10, vP w.heap.size 0), (11, vI 0), (65, .agg #[vS e1_3_0 0 (n - mx1) (n - mx1), vI 0]), (68, .agg #[vS e1_6_0 0 mx1 mx1, vI 0]), (70, .agg #[vI 1, vF (fop .sub .f32 1065353216 kp), vF kp, vF 0, vF 0, vF 0]), (71, vF sl), (72, vF lo)] ∧ Row W e1_3_0 0 (fl (List.replicate (n - mx1) 0)) ∧ Row W e1_6_0 0 (fl (List.replicate mx1 0)) ∧ w6.heap.size ≤ e1_3_0 ∧ w6.heap.size ≤ e1_6_0 ∧ e1_3_0 ≠ e1_6_0 ∧ Mod [] w6 W) (by kernel_rfl) (by kernel_rfl) ?_ ?_
  have md1 : Mod [] w6 w6.drew := (Mod.refl _ _).drew
  generalize w6.drew = w7 at md1 ⊢
  · refine DR.det (i := 0) rfl rfl (by kernel_rfl) (.free rfl) rfl rfl (fun wD mD => op_move rfl) ?_
    refine DR.det (i := 1) rfl rfl (by kernel_rfl) (.free rfl) rfl rfl (fun wD mD => op_move rfl) ?_
    refine DR.det (i := 2) rfl rfl (by kernel_rfl) (.free rfl) rfl rfl (fun wD mD => op_sub (r := ((n - mx1 : Nat) : Int)) rfl rfl (w_nsub (l := n) (n := mx1) (by omega) (by omega))) ?_
    refine DR.det (i := 5) rfl rfl (by kernel_rfl) (.free rfl) rfl rfl (fun wD mD => op_move rfl) ?_
    refine DR.det (i := 8) rfl rfl (by kernel_rfl) (.free rfl) rfl rfl (fun wD mD => op_move rfl) ?_
    refine DR.call (i := 9) (fun uA => uA = .agg #[vI 1, vF (fop .sub .f32 1065353216 kp), vF kp, vF 0, vF 0, vF 0]) rfl rfl (by kernel_rfl) (.free rfl) rfl (ltb rfl) ⟨_, rfl⟩ (vs := [.func (.func 130) #[] #[], vF kp]) rfl (fun wD mD => oc_call (vs := [vF kp]) (cap := []) rfl rfl rfl Try.call130 (c_sOnePoleX kp (by first | assumption) wD)) ?_ ?_
    · rintro w1 _ w2 m1 ⟨rfl, m2⟩; exact ⟨rfl, m2⟩
    rintro _ rfl
    refine DR.det (i := 10) rfl rfl (by kernel_rfl) (.free rfl) rfl rfl (fun wD mD => op_move rfl) ?_
    refine DR.det (i := 11) rfl rfl (by kernel_rfl) (.free rfl) rfl rfl (fun wD mD => op_move rfl) ?_
    refine DR.fork (is := [3, 6]) (by kernel_rfl) (by decide) (all2 ?_ ?_)
    · refine DP.op (i := 3) rfl rfl (.free rfl) rfl (ltb rfl) ?_
      intro w8 m7
      refine Op1.mono (op_makeF (i := Try.t25) rfl rfl rfl rfl Try.underlying22 rfl rfl rfl rfl (by first | omega | decide)) ?_
      rintro _ w9 ⟨rfl, r2, m8, z2⟩
      refine ⟨(((Mod.refl [] w7).nt m7).nt m8), ?_⟩
      refine DR.rebase ?_
      refine DR.det (i := 4) rfl rfl (by kernel_rfl) (.free rfl) rfl rfl (fun wD mD => op_build (qs := [(0, vS w8.heap.size 0 (n - mx1) (n - mx1))]) (cells := #[vS w8.heap.size 0 (n - mx1) (n - mx1), vI 0]) rfl (by kernel_rfl)) ?_
      refine DR.one1 (i := 6) rfl rfl (by kernel_rfl) (.free rfl) rfl (ltb rfl) ?_
      intro w10 m9
      refine Op1.mono (op_makeF (i := Try.t25) rfl rfl rfl rfl Try.underlying22 rfl rfl rfl rfl (by first | omega | decide)) ?_
      rintro _ w11 ⟨rfl, r3, m10, z3⟩
      refine ⟨(((Mod.refl [] w9).nt m9).nt m10), ?_⟩
      refine DR.rebase ?_
      refine DR.det (i := 7) rfl rfl (by kernel_rfl) (.free rfl) rfl rfl (fun wD mD => op_build (qs := [(0, vS w10.heap.size 0 mx1 mx1)]) (cells := #[vS w10.heap.size 0 mx1 mx1, vI 0]) rfl (by kernel_rfl)) ?_
      refine DR.sub [(10, vP w.heap.size 0), (11, vI 0), (65, .agg #[vS w8.heap.size 0 (n - mx1) (n - mx1), vI 0]), (68, .agg #[vS w10.heap.size 0 mx1 mx1, vI 0]), (70, .agg #[vI 1, vF (fop .sub .f32 1065353216 kp), vF kp, vF 0, vF 0, vF 0]), (71, vF sl), (72, vF lo)] ⟨rfl, rfl, rfl, rfl, rfl, rfl, rfl, trivial⟩ ?_
      refine DR.meet rfl ?_
      intro w12 m11
      exact ⟨w8.heap.size, w10.heap.size, rfl, (((r2.ext m9).ext m10).ext m11), (r3.ext m11), (lT (lT md1.size m7.size) lR), (lT (lT (lT (lT md1.size m7.size) m8.size) m9.size) lR), (lE (lL (lL r2.lt m9.size) lR)), (((((((Mod.refl [] w6).nt md1).nt m7).nt m8).nt m9).nt m10).nt m11)⟩
    · refine DP.op (i := 6) rfl rfl (.free rfl) rfl (ltb rfl) ?_
      intro w13 m12
      refine Op1.mono (op_makeF (i := Try.t25) rfl rfl rfl rfl Try.underlying22 rfl rfl rfl rfl (by first | omega | decide)) ?_
      rintro _ w14 ⟨rfl, r4, m13, z4⟩
      refine ⟨(((Mod.refl [] w7).nt m12).nt m13), ?_⟩
      refine DR.rebase ?_
      refine DR.det (i := 7) rfl rfl (by kernel_rfl) (.free rfl) rfl rfl (fun wD mD => op_build (qs := [(0, vS w13.heap.size 0 mx1 mx1)]) (cells := #[vS w13.heap.size 0 mx1 mx1, vI 0]) rfl (by kernel_rfl)) ?_
      refine DR.one1 (i := 3) rfl rfl (by kernel_rfl) (.free rfl) rfl (ltb rfl) ?_
      intro w15 m14
      refine Op1.mono (op_makeF (i := Try.t25) rfl rfl rfl rfl Try.underlying22 rfl rfl rfl rfl (by first | omega | decide)) ?_
      rintro _ w16 ⟨rfl, r5, m15, z5⟩
      refine ⟨(((Mod.refl [] w14).nt m14).nt m15), ?_⟩
      refine DR.rebase ?_
      refine DR.det (i := 4) rfl rfl (by kernel_rfl) (.free rfl) rfl rfl (fun wD mD => op_build (qs := [(0, vS w15.heap.size 0 (n - mx1) (n - mx1))]) (cells := #[vS w15.heap.size 0 (n - mx1) (n - mx1), vI 0]) rfl (by kernel_rfl)) ?_
      refine DR.sub [(10, vP w.heap.size 0), (11, vI 0), (65, .agg #[vS w15.heap.size 0 (n - mx1) (n - mx1), vI 0]), (68, .agg #[vS w13.heap.size 0 mx1 mx1, vI 0]), (70, .agg #[vI 1, vF (fop .sub .f32 1065353216 kp), vF kp, vF 0, vF 0, vF 0]), (71, vF sl), (72, vF lo)] ⟨rfl, rfl, rfl, rfl, rfl, rfl, rfl, trivial⟩ ?_
      refine DR.meet rfl ?_
      intro w17 m16
      exact ⟨w15.heap.size, w13.heap.size, rfl, (r5.ext m16), (((r4.ext m14).ext m15).ext m16), (lT (lT (lT (lT md1.size m12.size) m13.size) m14.size) lR), (lT (lT md1.size m12.size) lR), (lG (lL (lL r4.lt m14.size) lR)), (((((((Mod.refl [] w6).nt md1).nt m12).nt m13).nt m14).nt m15).nt m16)⟩
  · rintro _ w18 ⟨e1_3_0, e1_6_0, rfl, rr1_0, rr1_1, ge1, ge2, ne1, m17⟩
    refine WO.det (op_build (qs := [(0, .agg #[vS e1_3_0 0 (n - mx1) (n - mx1), vI 0]), (1, .agg #[vS e1_6_0 0 mx1 mx1, vI 0]), (2, .agg #[vI 1, vF (fop .sub .f32 1065353216 kp), vF kp, vF 0, vF 0, vF 0]), (3, vF sl), (4, vF lo)]) (cells := #[vS e1_3_0 0 (n - mx1) (n - mx1), vI 0, vS e1_6_0 0 mx1 mx1, vI 0, vI 1, vF (fop .sub .f32 1065353216 kp), vF kp, vF 0, vF 0, vF 0, vF sl, vF lo]) rfl (by kernel_rfl)) rfl (.free rfl) rfl rfl ?_
    refine WO.op0 rfl (.free rfl) rfl (op_store (i := 0) (cs := [vS e1_3_0 0 (n - mx1) (n - mx1), vI 0, vS e1_6_0 0 mx1 mx1, vI 0, vI 1, vF (fop .sub .f32 1065353216 kp), vF kp, vF 0, vF 0, vF 0, vF sl, vF lo]) rfl rfl rfl Try.sizeOf36 rfl ((((((r1.ext m2).ext m3).ext m4).ext m5).ext m6).ext m17) rfl (lB rfl) rfl) ?_
    rintro _ w19 ⟨r6, m18, z6⟩
    have r7 : Row w19 w.heap.size 0 [vS e1_3_0 0 (n - mx1) (n - mx1), vI 0, vS e1_6_0 0 mx1 mx1, vI 0, vI 1, vF (fop .sub .f32 1065353216 kp), vF kp, vF 0, vF 0, vF 0, vF sl, vF lo] := Row.congr r6 rfl
    refine WO.det (op_assign rfl) rfl (.free rfl) rfl rfl ?_
    refine WO.end ?_
    refine NE.code ?_
    refine CE.ret' ?_
    refine XE.leaveT Try.results110 (res_agg (cs := [vS e1_3_0 0 (n - mx1) (n - mx1), vI 0, vS e1_6_0 0 mx1 mx1, vI 0, vI 1, vF (fop .sub .f32 1065353216 kp), vF kp, vF 0, vF 0, vF 0, vF sl, vF lo]) rfl Try.isAgg36 Try.sizeOf36 r7.rng rfl (res_tmp rfl res_nil)) ?_
    refine ⟨e1_3_0, e1_6_0, mx1, ?_, ?_, ?_, (rr1_0.mod m18 (nC (lG (lL (lL r1.lt (lT (lT (lT (lT m2.size m3.size) m4.size) m5.size) m6.size)) ge1)) nN)), (rr1_1.mod m18 (nC (lG (lL (lL r1.lt (lT (lT (lT (lT m2.size m3.size) m4.size) m5.size) m6.size)) ge2)) nN)), (lT (lT (lT (lT (lT (lT m1.size m2.size) m3.size) m4.size) m5.size) m6.size) ge1), (lT (lT (lT (lT (lT (lT m1.size m2.size) m3.size) m4.size) m5.size) m6.size) ge2), ne1, (((((((((Mod.refl [] w).nt m1).nt m2).nt m3).nt m4).nt m5).nt m6).nt m17).then m18 ((aC (.inr lR) aN)))⟩
    all_goals first | assumption | rfl | omega

end Go.Proofs.Ytkgdhlhmckdcmaa
