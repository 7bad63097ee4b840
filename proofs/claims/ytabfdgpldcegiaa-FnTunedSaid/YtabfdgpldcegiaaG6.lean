/- What changing the samples of a string does: plucks and noise. -/
import Derived.Test.YtabfdgpldcegiaaG3
set_option linter.unusedVariables false
set_option linter.unusedSimpArgs false
namespace Go.Proofs.Ytabfdgpldcegiaa

theorem Cn.eq2 {xs ys L : List Nat} (h : Cn xs L) (k : Cn ys L) : Cn xs ys := h.trans k.symm
def chg (f : Nat → Nat → Nat) (n a : Nat) (xs : List Nat) : Nat → List Nat
  | 0 => xs
  | i + 1 => (chg f n a xs i).set ((a + i) % n) (f i ((chg f n a xs i).getD ((a + i) % n) 0))
theorem chg_succ {f : Nat → Nat → Nat} {n a : Nat} {xs : List Nat} {i : Nat} : chg f n a xs (i + 1) = (chg f n a xs i).set ((a + i) % n) (f i ((chg f n a xs i).getD ((a + i) % n) 0)) := rfl
def mulN (s : Nat) : Nat := (1974033781 * s) % 4294967296
def nextN (s : Nat) : Nat := (mulN s + 907633385) % 4294967296
def sdAt (s : Nat) : Nat → Nat
  | 0 => s
  | i + 1 => nextN (sdAt s i)
def noiseF (s : Nat) : Nat := fop .quo .f32 (FloatKind.f32.nearest (((nextN s / 256 : Nat) : Int) - 8388608)) 1258291200
def noiseG (fo s j a : Nat) : Nat := fop .add .f32 a (fop .mul .f32 fo (noiseF (sdAt s j)))
def pluckF (fo nf pe j a : Nat) : Nat :=
  if fLt .f32 (FloatKind.f32.nearest ((j : Nat) : Int)) pe then fop .add .f32 a (fop .mul .f32 fo (fop .quo .f32 (FloatKind.f32.nearest ((j : Nat) : Int)) pe))
  else fop .add .f32 a (fop .mul .f32 fo (fop .quo .f32 (fop .sub .f32 nf (FloatKind.f32.nearest ((j : Nat) : Int))) (fop .sub .f32 nf pe)))
theorem pluck_t {fo nf pe j a : Nat} (h : fLt .f32 (FloatKind.f32.nearest ((j : Nat) : Int)) pe = true) : pluckF fo nf pe j a = fop .add .f32 a (fop .mul .f32 fo (fop .quo .f32 (FloatKind.f32.nearest ((j : Nat) : Int)) pe)) := if_pos h
theorem pluck_f {fo nf pe j a : Nat} (h : fLt .f32 (FloatKind.f32.nearest ((j : Nat) : Int)) pe = false) : pluckF fo nf pe j a = fop .add .f32 a (fop .mul .f32 fo (fop .quo .f32 (fop .sub .f32 nf (FloatKind.f32.nearest ((j : Nat) : Int))) (fop .sub .f32 nf pe))) := if_neg (by rw [h]; simp)
theorem pluck_lt (fo nf pe j a : Nat) : pluckF fo nf pe j a < wid .f32 := by unfold pluckF; split <;> exact fop_lt _ _ _ _
def placeF (a : Nat) : Bool := fGe .f32 a 0 && fLt .f32 a 1065353216
theorem place_ge {a : Nat} (h : placeF a = true) : fGe .f32 a 0 = true := by simp only [placeF, Bool.and_eq_true] at h; exact h.1
theorem place_lt {a : Nat} (h : placeF a = true) : fLt .f32 a 1065353216 = true := by simp only [placeF, Bool.and_eq_true] at h; exact h.2

set_option maxRecDepth 100000 in
set_option maxHeartbeats 2000000 in
theorem c_l03Add (n : Nat) (c : Nat) (b : Nat) (xs : List Nat) (L : List Nat) (i0 : Nat) (e : Nat) (p : Nat) (k : Nat) (vs : List Value) (a : Nat) (x : Nat) (ln : xs.length = n) (hi0 : i0 < n) (he : e < n) (hn : n ≤ 1048576) (wx : W32 xs) (hc : Cn xs L) (hk : k + 2 ≤ vs.length) (ha : cn .f32 a = cn .f32 x) (la : a < wid .f32) (w : World) (q : Rng w p 0 (splice vs k [vS b 0 n c, vI ((i0 : Nat) : Int)])) (r : Row w b 0 (fl xs)) (hne : p ≠ b) : Cl Try.prog 74 #[vP p k, vI ((e : Nat) : Int), vF a] w fun v w' => ∃ (r0 : Nat), v = .tuple #[] ∧ (cn .f32 r0 = cn .f32 (fop .add .f32 (L.getD ((i0 + e) % n) 0) x)) ∧ (r0 < wid .f32) ∧ Row w' b 0 (fl (xs.set ((i0 + e) % n) r0)) ∧ Mod [b] w w' := by
  refine Cl.of Try.func74 Try.ntmps74 rfl rfl (ρ := [(0, vP p k), (1, vI ((e : Nat) : Int)), (2, vF a)]) rfl ?_
  refine CE.seq ?_
  refine CE.draw (fun _ => none) [0, 1, 2, 3, 4, 5, 6, 7, 8, 9, 10] [11, 12] [] (by kernel_rfl) (by kernel_rfl) ?_
  have md1 : Mod [] w w.drew := (Mod.refl _ _).drew
  generalize w.drew = w1 at md1 ⊢
  refine DR.det (i := 0) rfl rfl (by kernel_rfl) (.free rfl) rfl rfl (fun wD mD => op_move rfl) ?_
  refine DR.det (i := 1) rfl rfl (by kernel_rfl) (.free rfl) rfl rfl (fun wD mD => op_nilCheck rfl) ?_
  refine DR.det (i := 2) rfl rfl (by kernel_rfl) (.free rfl) rfl rfl (fun wD mD => op_fieldAddr (off' := k + 1) rfl Try.runUnderlying26 rfl rfl Try.sizeOf2 rfl) ?_
  refine DR.det (i := 3) rfl rfl (by kernel_rfl) (.free rfl) rfl rfl (fun wD mD => op_load1 (i := k + 1) rfl Try.isAgg2 ((q.ext md1).ext mD) (Nat.zero_add _) (sub_get (i := 1) hk rfl)) ?_
  refine DR.det (i := 4) rfl rfl (by kernel_rfl) (.free rfl) rfl rfl (fun wD mD => op_move rfl) ?_
  refine DR.det (i := 5) rfl rfl (by kernel_rfl) (.free rfl) rfl rfl (fun wD mD => op_add (r := ((i0 + e : Nat) : Int)) rfl rfl (w_i64 (by omega) (by omega))) ?_
  refine DR.det (i := 6) rfl rfl (by kernel_rfl) (.free rfl) rfl rfl (fun wD mD => op_move rfl) ?_
  refine DR.det (i := 7) rfl rfl (by kernel_rfl) (.free rfl) rfl rfl (fun wD mD => op_nilCheck rfl) ?_
  refine DR.det (i := 8) rfl rfl (by kernel_rfl) (.free rfl) rfl rfl (fun wD mD => op_fieldAddr (off' := k) rfl Try.runUnderlying26 rfl rfl Try.sizeOf24 rfl) ?_
  refine DR.det (i := 9) rfl rfl (by kernel_rfl) (.free rfl) rfl rfl (fun wD mD => op_load1 (i := k) rfl Try.isAgg24 ((q.ext md1).ext mD) (Nat.zero_add _) (sub_get (i := 0) hk rfl)) ?_
  refine DR.det (i := 10) rfl rfl (by kernel_rfl) (.free rfl) rfl rfl (fun wD mD => op_len rfl Try.runUnderlying24) ?_
  refine DR.done rfl ?_
  intro w2 m1
  have hm1 : (i0 + e) % n < n := Nat.mod_lt _ (by omega)
  refine WO.det (op_rem (r := (((i0 + e) % n : Nat) : Int)) rfl rfl (by omega) rfl) rfl (.free rfl) rfl rfl ?_
  refine WO.det (op_assign rfl) rfl (.free rfl) rfl rfl ?_
  refine WO.end ?_
  refine NE.code ?_
  refine CE.draw (fun _ => none) [0, 1, 2, 3, 4, 5, 6, 7, 8, 9, 10, 11, 12, 13] [14, 15] [] (by kernel_rfl) (by kernel_rfl) ?_
  have md2 : Mod [] w2 w2.drew := (Mod.refl _ _).drew
  generalize w2.drew = w3 at md2 ⊢
  refine DR.det (i := 0) rfl rfl (by kernel_rfl) (.free rfl) rfl rfl (fun wD mD => op_move rfl) ?_
  refine DR.det (i := 1) rfl rfl (by kernel_rfl) (.free rfl) rfl rfl (fun wD mD => op_nilCheck rfl) ?_
  refine DR.det (i := 2) rfl rfl (by kernel_rfl) (.free rfl) rfl rfl (fun wD mD => op_fieldAddr (off' := k) rfl Try.runUnderlying26 rfl rfl Try.sizeOf24 rfl) ?_
  refine DR.det (i := 3) rfl rfl (by kernel_rfl) (.free rfl) rfl rfl (fun wD mD => op_load1 (i := k) rfl Try.isAgg24 ((((q.ext md1).ext m1).ext md2).ext mD) (Nat.zero_add _) (sub_get (i := 0) hk rfl)) ?_
  refine DR.det (i := 4) rfl rfl (by kernel_rfl) (.free rfl) rfl rfl (fun wD mD => op_move rfl) ?_
  refine DR.det (i := 5) rfl rfl (by kernel_rfl) (.free rfl) rfl rfl (fun wD mD => op_move rfl) ?_
  refine DR.det (i := 6) rfl rfl (by kernel_rfl) (.free rfl) rfl rfl (fun wD mD => op_nilCheck rfl) ?_
  refine DR.det (i := 7) rfl rfl (by kernel_rfl) (.free rfl) rfl rfl (fun wD mD => op_fieldAddr (off' := k) rfl Try.runUnderlying26 rfl rfl Try.sizeOf24 rfl) ?_
  refine DR.det (i := 8) rfl rfl (by kernel_rfl) (.free rfl) rfl rfl (fun wD mD => op_load1 (i := k) rfl Try.isAgg24 ((((q.ext md1).ext m1).ext md2).ext mD) (Nat.zero_add _) (sub_get (i := 0) hk rfl)) ?_
  refine DR.det (i := 9) rfl rfl (by kernel_rfl) (.free rfl) rfl rfl (fun wD mD => op_move rfl) ?_
  refine DR.det (i := 10) rfl rfl (by kernel_rfl) (.free rfl) rfl rfl (fun wD mD => op_indexSl (off' := 0 + ((i0 + e) % n)) rfl rfl rfl Try.runUnderlying24 Try.sizeOf27 (by omega) (by omega) (by omega)) ?_
  refine DR.det (i := 11) rfl rfl (by kernel_rfl) (.free rfl) rfl rfl (fun wD mD => op_load1 (i := ((i0 + e) % n)) rfl Try.isAgg27 ((((r.ext md1).ext m1).ext md2).ext mD).rng rfl (fl_get (by have eL : List.length xs = n := ln; omega))) ?_
  refine DR.det (i := 12) rfl rfl (by kernel_rfl) (.free rfl) rfl rfl (fun wD mD => op_move rfl) ?_
  refine DR.op (i := 13) (FOut .f32 (fop .add .f32 (L.getD ((i0 + e) % n) 0) x)) rfl rfl (by kernel_rfl) (.free rfl) rfl (ltb rfl) (fun wD mD => op_farith (e := (fop .add .f32 (L.getD ((i0 + e) % n) 0) x)) (.inl rfl) rfl rfl (Cn.get hc _) ha rfl) ?_
  rintro _ ⟨f1, rfl, hf1, lf1⟩
  refine DR.done rfl ?_
  intro w4 m2
  refine WO.det (op_indexSl (off' := 0 + ((i0 + e) % n)) rfl rfl rfl Try.runUnderlying24 Try.sizeOf27 (by omega) (by omega) (by omega)) rfl (.free rfl) rfl rfl ?_
  refine WO.op0 rfl (.free rfl) rfl (op_store (i := ((i0 + e) % n)) (cs := [vF f1]) rfl rfl rfl Try.sizeOf27 rfl ((((r.ext md1).ext m1).ext md2).ext m2) rfl (by rw [fl_length]; have eL : List.length xs = n := ln; omega) rfl) ?_
  rintro _ w5 ⟨r1, m3, z1⟩
  have r2 : Row w5 b 0 (fl (xs.set ((i0 + e) % n) f1)) := Row.congr r1 (fl_splice (by have eL : List.length xs = n := ln; omega))
  refine WO.end ?_
  refine NE.leave0 Try.results74 ?_
  refine ⟨f1, rfl, ?_, ?_, r2, ((((((Mod.refl [b] w).nt md1).nt m1).nt md2).nt m2).then m3 ((aC (.inl (by simp)) aN)))⟩
  all_goals first | assumption | rfl

set_option maxRecDepth 100000 in
set_option maxHeartbeats 2000000 in
theorem c_pluck1 (j : Nat) (a : Nat) (x : Nat) (e1 : Nat) (e2 : Nat) (e3 : Nat) (pa : Nat) (pe : Nat) (fo : Nat) (nf : Nat) (ha : cn .f32 a = cn .f32 x) (la : a < wid .f32) (hp : cn .f32 pa = cn .f32 pe) (w : World) (rq1 : Rng w e1 0 [vF pa]) (rq2 : Rng w e2 0 [vF fo]) (rq3 : Rng w e3 0 [vF nf]) : Cl Try.prog 97 #[vI ((j : Nat) : Int), vF a, vP e1 0, vP e2 0, vP e3 0] w fun v w' => ∃ (r : Nat), v = vF r ∧ (cn .f32 r = cn .f32 (pluckF fo nf pe j x)) ∧ (r < wid .f32) ∧ Mod [] w w' := by
  refine Cl.of Try.func97 Try.ntmps97 rfl rfl (ρ := [(0, vI ((j : Nat) : Int)), (1, vF a), (2, vP e1 0), (3, vP e2 0), (4, vP e3 0)]) rfl ?_
  refine CE.seq ?_
  refine CE.region ?_
  refine WL.det (op_assign rfl) rfl rfl rfl ?_
  refine WL.end ?_
  refine NE.code ?_
  refine CE.seq ?_
  refine CE.region ?_
  refine WL.det (op_move rfl) rfl rfl rfl ?_
  refine WL.det (op_cvt_if rfl Try.runUnderlying3 Try.runUnderlying27) rfl rfl rfl ?_
  refine WL.det (op_assign rfl) rfl rfl rfl ?_
  refine WL.end ?_
  refine NE.code ?_
  refine CE.seq ?_
  refine CE.seq ?_
  refine CE.region ?_
  refine WL.det (op_move rfl) rfl rfl rfl ?_
  refine WL.det (op_load1 (i := 0) rfl Try.isAgg27 rq1 rfl rfl) rfl rfl rfl ?_
  refine WL.det (op_flt (c := fLt .f32 (FloatKind.f32.nearest ((j : Nat) : Int)) pe) rfl rfl rfl hp rfl) rfl rfl rfl ?_
  refine WL.end ?_
  refine NE.code ?_
  rcases Bool.eq_false_or_eq_true (fLt .f32 (FloatKind.f32.nearest ((j : Nat) : Int)) pe) with hb1 | hb1
  · refine CE.cond_t rfl hb1 ?_
    refine CE.seq ?_
    refine CE.region ?_
    refine WL.det (op_move rfl) rfl rfl rfl ?_
    refine WL.det (op_load1 (i := 0) rfl Try.isAgg27 rq2 rfl rfl) rfl rfl rfl ?_
    refine WL.det (op_move rfl) rfl rfl rfl ?_
    refine WL.det (op_load1 (i := 0) rfl Try.isAgg27 rq1 rfl rfl) rfl rfl rfl ?_
    refine WL.op (op_farith (e := (fop .quo .f32 (FloatKind.f32.nearest ((j : Nat) : Int)) pe)) (.inr (.inr (.inr rfl))) rfl rfl rfl hp rfl) rfl rfl (ltb rfl) ?_
    rintro _ w1 ⟨⟨f1, rfl, hf1, lf1⟩, m1⟩
    refine WL.op (op_farith (e := (fop .mul .f32 fo (fop .quo .f32 (FloatKind.f32.nearest ((j : Nat) : Int)) pe))) (.inr (.inr (.inl rfl))) rfl rfl rfl hf1 rfl) rfl rfl (ltb rfl) ?_
    rintro _ w2 ⟨⟨f2, rfl, hf2, lf2⟩, m2⟩
    refine WL.op (op_farith (e := (fop .add .f32 x (fop .mul .f32 fo (fop .quo .f32 (FloatKind.f32.nearest ((j : Nat) : Int)) pe)))) (.inl rfl) rfl rfl ha hf2 rfl) rfl rfl (ltb rfl) ?_
    rintro _ w3 ⟨⟨f3, rfl, hf3, lf3⟩, m3⟩
    refine WL.det (op_assign rfl) rfl rfl rfl ?_
    refine WL.end ?_
    refine NE.code ?_
    refine CE.ret' ?_
    refine XE.ret_then ?_
    refine XE.leave1 Try.results97 rfl ?_
    refine ⟨f3, rfl, ?_, lf3, ((((Mod.refl [] w).nt m1).nt m2).nt m3)⟩
    all_goals first | assumption | (rw [pluck_t (by assumption)]; assumption) | (rw [pluck_f (by assumption)]; assumption)
  · refine CE.cond_f rfl hb1 ?_
    refine CE.skip' ?_
    refine NE.code ?_
    refine CE.seq ?_
    refine CE.region ?_
    refine WL.det (op_move rfl) rfl rfl rfl ?_
    refine WL.det (op_load1 (i := 0) rfl Try.isAgg27 rq2 rfl rfl) rfl rfl rfl ?_
    refine WL.det (op_load1 (i := 0) rfl Try.isAgg27 rq3 rfl rfl) rfl rfl rfl ?_
    refine WL.det (op_move rfl) rfl rfl rfl ?_
    refine WL.op (op_farith (e := (fop .sub .f32 nf (FloatKind.f32.nearest ((j : Nat) : Int)))) (.inr (.inl rfl)) rfl rfl rfl rfl rfl) rfl rfl (ltb rfl) ?_
    rintro _ w4 ⟨⟨f4, rfl, hf4, lf4⟩, m4⟩
    refine WL.det (op_load1 (i := 0) rfl Try.isAgg27 (rq3.ext m4) rfl rfl) rfl rfl rfl ?_
    refine WL.det (op_load1 (i := 0) rfl Try.isAgg27 (rq1.ext m4) rfl rfl) rfl rfl rfl ?_
    refine WL.op (op_farith (e := (fop .sub .f32 nf pe)) (.inr (.inl rfl)) rfl rfl rfl hp rfl) rfl rfl (ltb rfl) ?_
    rintro _ w5 ⟨⟨f5, rfl, hf5, lf5⟩, m5⟩
    refine WL.op (op_farith (e := (fop .quo .f32 (fop .sub .f32 nf (FloatKind.f32.nearest ((j : Nat) : Int))) (fop .sub .f32 nf pe))) (.inr (.inr (.inr rfl))) rfl rfl hf4 hf5 rfl) rfl rfl (ltb rfl) ?_
    rintro _ w6 ⟨⟨f6, rfl, hf6, lf6⟩, m6⟩
    refine WL.op (op_farith (e := (fop .mul .f32 fo (fop .quo .f32 (fop .sub .f32 nf (FloatKind.f32.nearest ((j : Nat) : Int))) (fop .sub .f32 nf pe)))) (.inr (.inr (.inl rfl))) rfl rfl rfl hf6 rfl) rfl rfl (ltb rfl) ?_
    rintro _ w7 ⟨⟨f7, rfl, hf7, lf7⟩, m7⟩
    refine WL.op (op_farith (e := (fop .add .f32 x (fop .mul .f32 fo (fop .quo .f32 (fop .sub .f32 nf (FloatKind.f32.nearest ((j : Nat) : Int))) (fop .sub .f32 nf pe))))) (.inl rfl) rfl rfl ha hf7 rfl) rfl rfl (ltb rfl) ?_
    rintro _ w8 ⟨⟨f8, rfl, hf8, lf8⟩, m8⟩
    refine WL.det (op_assign rfl) rfl rfl rfl ?_
    refine WL.end ?_
    refine NE.code ?_
    refine CE.ret' ?_
    refine XE.leave1 Try.results97 rfl ?_
    refine ⟨f8, rfl, ?_, lf8, ((((((Mod.refl [] w).nt m4).nt m5).nt m6).nt m7).nt m8)⟩
    all_goals first | assumption | (rw [pluck_t (by assumption)]; assumption) | (rw [pluck_f (by assumption)]; assumption)

set_option maxRecDepth 100000 in
set_option maxHeartbeats 2000000 in
theorem c_changedPluck (n : Nat) (c : Nat) (b : Nat) (xs : List Nat) (i0 : Nat) (tk : Int) (tc0 : Nat) (tc1 : Nat) (tc2 : Nat) (ts0 : Nat) (ts1 : Nat) (dk : Int) (dc0 : Nat) (dc1 : Nat) (dc2 : Nat) (ds0 : Nat) (ds1 : Nat) (g : Nat) (e1 : Nat) (e2 : Nat) (e3 : Nat) (pa : Nat) (pe : Nat) (fo : Nat) (nf : Nat) (ln : xs.length = n) (hi0 : i0 < n) (hn : n ≤ 1024) (wx : W32 xs) (h0 : 0 < n) (hp : cn .f32 pa = cn .f32 pe) (w : World) (r : Rng w b 0 (fl xs)) (rq1 : Rng w e1 0 [vF pa]) (rq2 : Rng w e2 0 [vF fo]) (rq3 : Rng w e3 0 [vF nf]) : Cl Try.prog 65 #[.agg #[vS b 0 n c, vI ((i0 : Nat) : Int), vI tk, vF tc0, vF tc1, vF tc2, vF ts0, vF ts1, vI dk, vF dc0, vF dc1, vF dc2, vF ds0, vF ds1, vF g], .func (.func 97) #[] #[vP e1 0, vP e2 0, vP e3 0]] w fun v w' => ∃ (b' : Nat) (c' : Nat) (zs : List Nat), v = .agg #[vS b' 0 n c', vI ((i0 : Nat) : Int), vI tk, vF tc0, vF tc1, vF tc2, vF ts0, vF ts1, vI dk, vF dc0, vF dc1, vF dc2, vF ds0, vF ds1, vF g] ∧ (zs.length = n) ∧ (W32 zs) ∧ (Cn zs (chg (pluckF fo nf pe) n i0 xs n)) ∧ Row w' b' 0 (fl zs) ∧ w.heap.size ≤ b' ∧ Mod [] w w' := by
  refine Cl.of Try.func65 Try.ntmps65 rfl rfl (ρ := [(0, .agg #[vS b 0 n c, vI ((i0 : Nat) : Int), vI tk, vF tc0, vF tc1, vF tc2, vF ts0, vF ts1, vI dk, vF dc0, vF dc1, vF dc2, vF ds0, vF ds1, vF g]), (1, .func (.func 97) #[] #[vP e1 0, vP e2 0, vP e3 0])]) rfl ?_
  refine CE.seq ?_
  refine CE.region ?_
  refine WL.op (op_box (cs := [vS b 0 n c, vI ((i0 : Nat) : Int), vI tk, vF tc0, vF tc1, vF tc2, vF ts0, vF ts1, vI dk, vF dc0, vF dc1, vF dc2, vF ds0, vF ds1, vF g]) rfl rfl) rfl rfl (ltb rfl) ?_
  rintro _ w1 ⟨rfl, r1, m1, z1⟩
  refine WL.op (op_alloc (cs := [.slice none 0 0, vI 0, vI 0, vF 0, vF 0, vF 0, vF 0, vF 0, vI 0, vF 0, vF 0, vF 0, vF 0, vF 0, vF 0]) Try.zeroValue33 rfl) rfl rfl (ltb rfl) ?_
  rintro _ w2 ⟨rfl, r2, m2, z2⟩
  refine WL.end ?_
  refine NE.code ?_
  refine CE.seq ?_
  refine CE.region ?_
  refine WL.det (op_loadA (i := 0) (cs := [vS b 0 n c, vI ((i0 : Nat) : Int), vI tk, vF tc0, vF tc1, vF tc2, vF ts0, vF ts1, vI dk, vF dc0, vF dc1, vF dc2, vF ds0, vF ds1, vF g]) rfl Try.isAgg33 Try.sizeOf33 (r1.ext m2).rng rfl rfl rfl) rfl rfl rfl ?_
  refine WL.call (oc_call (vs := [.agg #[vS b 0 n c, vI ((i0 : Nat) : Int), vI tk, vF tc0, vF tc1, vF tc2, vF ts0, vF ts1, vI dk, vF dc0, vF dc1, vF dc2, vF ds0, vF ds1, vF g]]) (cap := []) rfl rfl rfl Try.call79 (c_cloneString n c b xs ((i0 : Nat) : Int) tk tc0 tc1 tc2 ts0 ts1 dk dc0 dc1 dc2 ds0 ds1 g ln (by omega) (by omega) w2 ((r.ext m1).ext m2))) rfl rfl (ltb rfl) ?_
  rintro _ w3 ⟨b'1, c'1, rfl, r3, ge1, m3⟩
  refine WL.op0 (op_store (i := 0) (cs := [vS b'1 0 n c'1, vI ((i0 : Nat) : Int), vI tk, vF tc0, vF tc1, vF tc2, vF ts0, vF ts1, vI dk, vF dc0, vF dc1, vF dc2, vF ds0, vF ds1, vF g]) rfl rfl rfl Try.sizeOf33 rfl ((r1.ext m2).ext m3) rfl (lB rfl) rfl) rfl rfl ?_
  rintro _ w4 ⟨r4, m4, z3⟩
  have r5 : Row w4 w.heap.size 0 [vS b'1 0 n c'1, vI ((i0 : Nat) : Int), vI tk, vF tc0, vF tc1, vF tc2, vF ts0, vF ts1, vI dk, vF dc0, vF dc1, vF dc2, vF ds0, vF ds1, vF g] := Row.congr r4 rfl
  refine WL.end ?_
  refine NE.code ?_
  refine CE.seq ?_
  refine CE.region ?_
  refine WL.det (op_fieldAddr (off' := 0) rfl Try.runUnderlying33 rfl rfl Try.sizeOf26 rfl) rfl rfl rfl ?_
  refine WL.det (op_fieldAddr (off' := 0) rfl Try.runUnderlying26 rfl rfl Try.sizeOf24 rfl) rfl rfl rfl ?_
  refine WL.det (op_load1 (i := 0) rfl Try.isAgg24 r5.rng rfl rfl) rfl rfl rfl ?_
  refine WL.det (op_len rfl Try.runUnderlying24) rfl rfl rfl ?_
  refine WL.det (op_assign rfl) rfl rfl rfl ?_
  refine WL.end ?_
  refine NE.code ?_
  refine CE.seq ?_
  refine CE.seq ?_
  refine CE.region ?_
  refine WL.det (op_move rfl) rfl rfl rfl ?_
  refine WL.det (op_move rfl) rfl rfl rfl ?_
  refine WL.end ?_
  refine NE.code ?_
  refine CE.block ?_
  refine CE.loop (fun (z : Nat × List Nat) => [(15, vI ((z.1 : Nat) : Int)), (1, .func (.func 97) #[] #[vP e1 0, vP e2 0, vP e3 0]), (2, vP w.heap.size 0), (4, vP w1.heap.size 0), (5, vI ((n : Nat) : Int)), (14, vI ((n : Nat) : Int))]) (fun (z : Nat × List Nat) => fun W => (z.1 ≤ n) ∧ (z.2.length = n) ∧ (W32 z.2) ∧ (Cn z.2 (chg (pluckF fo nf pe) n i0 xs z.1)) ∧ Row W b'1 0 (fl z.2) ∧ Mod [b'1] w4 W) (fun (z : Nat × List Nat) => n - z.1) (0, xs) (⟨rfl, rfl, rfl, rfl, rfl, rfl, trivial⟩) ⟨(by omega), (by exact ln), (by exact wx), (by exact Cn.refl _), (Row.congr (r3.mod m4 (nC (lG (lL (lL r1.lt m2.size) ge1)) nN)) rfl), Mod.refl _ _⟩ ?_
  rintro ⟨i, ys⟩ w5 ⟨hi, hl, hx, hc, r6, m5⟩
  replace hi : i ≤ n := hi
  replace hl : ys.length = n := hl
  replace hx : W32 ys := hx
  replace hc : Cn ys (chg (pluckF fo nf pe) n i0 xs i) := hc
  replace r6 : Row w5 b'1 0 (fl ys) := r6
  show CE _ _ _ _ [(15, vI ((i : Nat) : Int)), (1, .func (.func 97) #[] #[vP e1 0, vP e2 0, vP e3 0]), (2, vP w.heap.size 0), (4, vP w1.heap.size 0), (5, vI ((n : Nat) : Int)), (14, vI ((n : Nat) : Int))] _
  refine CE.seq ?_
  refine CE.region ?_
  refine WL.det (op_lti rfl rfl) rfl rfl rfl ?_
  refine WL.end ?_
  refine NE.code ?_
  refine CE.seq ?_
  rcases Bool.eq_false_or_eq_true (decide (((i : Nat) : Int) < ((n : Nat) : Int))) with hb1 | hb1
  · have hp1 := hb1; try simp only [Bool.and_eq_true, Bool.or_eq_true, Bool.not_eq_true', Bool.not_eq_false', Bool.and_eq_false_iff, Bool.or_eq_false_iff, decide_eq_true_eq, decide_eq_false_iff_not, beq_iff_eq, bne_iff_ne, beq_eq_false_iff_ne, bne_eq_false_iff_eq, ne_eq, Bool.false_eq_true, not_false_eq_true, not_true_eq_false, vIn_t, vIn_f] at hp1
    refine CE.cond_t rfl hb1 ?_
    refine CE.skip' ?_
    refine NE.code ?_
    refine CE.seq ?_
    refine CE.block ?_
    refine CE.seq ?_
    refine CE.region ?_
    refine WL.det (op_move rfl) rfl rfl rfl ?_
    refine WL.det (op_assign rfl) rfl rfl rfl ?_
    refine WL.end ?_
    refine NE.code ?_
    refine CE.seq ?_
    refine CE.region ?_
    refine WL.det (op_fieldAddr (off' := 0) rfl Try.runUnderlying33 rfl rfl Try.sizeOf26 rfl) rfl rfl rfl ?_
    refine WL.det (op_fieldAddr (off' := 1) rfl Try.runUnderlying26 rfl rfl Try.sizeOf2 rfl) rfl rfl rfl ?_
    refine WL.det (op_load1 (i := 1) rfl Try.isAgg2 (r5.mod m5 (nC (lE (lL (lL r1.lt m2.size) ge1)) nN)).rng rfl rfl) rfl rfl rfl ?_
    refine WL.det (op_move rfl) rfl rfl rfl ?_
    refine WL.det (op_add (r := ((i0 + i : Nat) : Int)) rfl rfl (w_i64 (by omega) (by omega))) rfl rfl rfl ?_
    refine WL.det (op_move rfl) rfl rfl rfl ?_
    have hm1 : (i0 + i) % n < n := Nat.mod_lt _ (by omega)
    refine WL.det (op_rem (r := (((i0 + i) % n : Nat) : Int)) rfl rfl (by omega) rfl) rfl rfl rfl ?_
    refine WL.det (op_assign rfl) rfl rfl rfl ?_
    refine WL.end ?_
    refine NE.code ?_
    refine CE.draw (fun | 12 => some (fun _ wA uA wB => ∃ (r : Nat), uA = vF r ∧ (cn .f32 r = cn .f32 (pluckF fo nf pe i ((chg (pluckF fo nf pe) n i0 xs i).getD ((i0 + i) % n) 0))) ∧ (r < wid .f32) ∧ Mod [] wA wB) | _ => none) [0, 1, 2, 3, 4, 5, 6, 7, 8, 9, 10, 11, 12] [13, 14] [] (by kernel_rfl) (by kernel_rfl) ?_
    have md1 : Mod [] w5 w5.drew := (Mod.refl _ _).drew
    generalize w5.drew = w6 at md1 ⊢
    refine DR.det (i := 0) rfl rfl (by kernel_rfl) (.free rfl) rfl rfl (fun wD mD => op_fieldAddr (off' := 0) rfl Try.runUnderlying33 rfl rfl Try.sizeOf26 rfl) ?_
    refine DR.det (i := 1) rfl rfl (by kernel_rfl) (.free rfl) rfl rfl (fun wD mD => op_fieldAddr (off' := 0) rfl Try.runUnderlying26 rfl rfl Try.sizeOf24 rfl) ?_
    refine DR.det (i := 2) rfl rfl (by kernel_rfl) (.free rfl) rfl rfl (fun wD mD => op_load1 (i := 0) rfl Try.isAgg24 (((r5.mod m5 (nC (lE (lL (lL r1.lt m2.size) ge1)) nN)).ext md1).ext mD).rng rfl rfl) ?_
    refine DR.det (i := 3) rfl rfl (by kernel_rfl) (.free rfl) rfl rfl (fun wD mD => op_move rfl) ?_
    refine DR.det (i := 4) rfl rfl (by kernel_rfl) (.free rfl) rfl rfl (fun wD mD => op_move rfl) ?_
    refine DR.det (i := 5) rfl rfl (by kernel_rfl) (.free rfl) rfl rfl (fun wD mD => op_move rfl) ?_
    refine DR.det (i := 6) rfl rfl (by kernel_rfl) (.free rfl) rfl rfl (fun wD mD => op_fieldAddr (off' := 0) rfl Try.runUnderlying33 rfl rfl Try.sizeOf26 rfl) ?_
    refine DR.det (i := 7) rfl rfl (by kernel_rfl) (.free rfl) rfl rfl (fun wD mD => op_fieldAddr (off' := 0) rfl Try.runUnderlying26 rfl rfl Try.sizeOf24 rfl) ?_
    refine DR.det (i := 8) rfl rfl (by kernel_rfl) (.free rfl) rfl rfl (fun wD mD => op_load1 (i := 0) rfl Try.isAgg24 (((r5.mod m5 (nC (lE (lL (lL r1.lt m2.size) ge1)) nN)).ext md1).ext mD).rng rfl rfl) ?_
    refine DR.det (i := 9) rfl rfl (by kernel_rfl) (.free rfl) rfl rfl (fun wD mD => op_move rfl) ?_
    refine DR.det (i := 10) rfl rfl (by kernel_rfl) (.free rfl) rfl rfl (fun wD mD => op_indexSl (off' := 0 + ((i0 + i) % n)) rfl rfl rfl Try.runUnderlying24 Try.sizeOf27 (by omega) (by omega) (by omega)) ?_
    refine DR.det (i := 11) rfl rfl (by kernel_rfl) (.free rfl) rfl rfl (fun wD mD => op_load1 (i := ((i0 + i) % n)) rfl Try.isAgg27 ((r6.ext md1).ext mD).rng rfl (fl_get (by have eL : List.length ys = n := hl; omega))) ?_
    refine DR.call (i := 12) (fun uA => ∃ (r : Nat), uA = vF r ∧ (cn .f32 r = cn .f32 (pluckF fo nf pe i ((chg (pluckF fo nf pe) n i0 xs i).getD ((i0 + i) % n) 0))) ∧ (r < wid .f32)) rfl rfl (by kernel_rfl) (.free rfl) rfl (ltb rfl) ⟨_, _, rfl, rfl, pluck_lt _ _ _ _ _⟩ (vs := [.func (.func 97) #[] #[vP e1 0, vP e2 0, vP e3 0], vI ((i : Nat) : Int), vF (ys.getD ((i0 + i) % n) 0)]) rfl (fun wD mD => oc_call (vs := [vI ((i : Nat) : Int), vF (ys.getD ((i0 + i) % n) 0)]) (cap := [vP e1 0, vP e2 0, vP e3 0]) rfl rfl rfl Try.call97 (c_pluck1 i (ys.getD ((i0 + i) % n) 0) ((chg (pluckF fo nf pe) n i0 xs i).getD ((i0 + i) % n) 0) e1 e2 e3 pa pe fo nf (Cn.get hc _) (hx.get _) hp wD (((Rng.youngS rq1 (Rng.youngS rq1 (((rq1.ext m1).ext m2).ext m3) m4 (allge_cons lR allge_nil)) m5 (allge_cons (lT (lT m1.size m2.size) ge1) allge_nil)).ext md1).ext mD) (((Rng.youngS rq2 (Rng.youngS rq2 (((rq2.ext m1).ext m2).ext m3) m4 (allge_cons lR allge_nil)) m5 (allge_cons (lT (lT m1.size m2.size) ge1) allge_nil)).ext md1).ext mD) (((Rng.youngS rq3 (Rng.youngS rq3 (((rq3.ext m1).ext m2).ext m3) m4 (allge_cons lR allge_nil)) m5 (allge_cons (lT (lT m1.size m2.size) ge1) allge_nil)).ext md1).ext mD))) ?_ ?_
    · rintro w1 _ w2 m1 ⟨r, rfl, p0, p1, m2⟩; exact ⟨⟨r, rfl, p0, p1⟩, m2⟩
    rintro _ ⟨r7, rfl, h1, h2⟩
    refine DR.done rfl ?_
    intro w7 m6
    refine WO.det (op_indexSl (off' := 0 + ((i0 + i) % n)) rfl rfl rfl Try.runUnderlying24 Try.sizeOf27 (by omega) (by omega) (by omega)) rfl (.free rfl) rfl rfl ?_
    refine WO.op0 rfl (.free rfl) rfl (op_store (i := ((i0 + i) % n)) (cs := [vF r7]) rfl rfl rfl Try.sizeOf27 rfl ((r6.ext md1).ext m6) rfl (by rw [fl_length]; have eL : List.length ys = n := hl; omega) rfl) ?_
    rintro _ w8 ⟨r8, m7, z4⟩
    have r9 : Row w8 b'1 0 (fl (ys.set ((i0 + i) % n) r7)) := Row.congr r8 (fl_splice (by have eL : List.length ys = n := hl; omega))
    refine WO.end ?_
    refine NE.blk ?_
    refine NE.code ?_
    refine CE.region ?_
    refine WL.det (op_add (r := ((i + 1 : Nat) : Int)) rfl rfl (w_i64 (by omega) (by omega))) rfl rfl rfl ?_
    refine WL.det (op_move rfl) rfl rfl rfl ?_
    refine WL.end ?_
    exact NE.again ((i + 1), (ys.set ((i0 + i) % n) r7)) (⟨rfl, rfl, rfl, rfl, rfl, rfl, trivial⟩) ⟨(by omega), (by exact (List.length_set).trans hl), (by exact W32.set hx (by assumption)), (by rw [chg_succ]; exact Cn.set hc (by first | assumption | (rw [pluck_t (by assumption)]; assumption) | (rw [pluck_f (by assumption)]; assumption)) _), (Row.congr r9 rfl), (((m5.nt md1).nt m6).then m7 ((aC (.inl (by simp)) aN)))⟩ (by first | (dsimp only; omega) | omega)
  · have hp1 := hb1; try simp only [Bool.and_eq_true, Bool.or_eq_true, Bool.not_eq_true', Bool.not_eq_false', Bool.and_eq_false_iff, Bool.or_eq_false_iff, decide_eq_true_eq, decide_eq_false_iff_not, beq_iff_eq, bne_iff_ne, beq_eq_false_iff_ne, bne_eq_false_iff_eq, ne_eq, Bool.false_eq_true, not_false_eq_true, not_true_eq_false, vIn_t, vIn_f] at hp1
    refine CE.cond_f rfl hb1 ?_
    refine CE.exit' ?_
    refine XE.exit_then ?_
    refine XE.exit_then ?_
    refine XE.exit_here ?_
    refine NE.code ?_
    refine CE.seq ?_
    refine CE.region ?_
    refine WL.det (op_loadA (i := 0) (cs := [vS b'1 0 n c'1, vI ((i0 : Nat) : Int), vI tk, vF tc0, vF tc1, vF tc2, vF ts0, vF ts1, vI dk, vF dc0, vF dc1, vF dc2, vF ds0, vF ds1, vF g]) rfl Try.isAgg33 Try.sizeOf33 (r5.mod m5 (nC (lE (lL (lL r1.lt m2.size) ge1)) nN)).rng rfl rfl rfl) rfl rfl rfl ?_
    refine WL.op0 (op_store (i := 0) (cs := [vS b'1 0 n c'1, vI ((i0 : Nat) : Int), vI tk, vF tc0, vF tc1, vF tc2, vF ts0, vF ts1, vI dk, vF dc0, vF dc1, vF dc2, vF ds0, vF ds1, vF g]) rfl rfl rfl Try.sizeOf33 rfl (((r2.ext m3).mod m4 (nC (lG (lL r1.lt lR)) nN)).mod m5 (nC (lE (lL r2.lt ge1)) nN)) rfl (lB rfl) rfl) rfl rfl ?_
    rintro _ w9 ⟨r10, m8, z5⟩
    have r11 : Row w9 w1.heap.size 0 [vS b'1 0 n c'1, vI ((i0 : Nat) : Int), vI tk, vF tc0, vF tc1, vF tc2, vF ts0, vF ts1, vI dk, vF dc0, vF dc1, vF dc2, vF ds0, vF ds1, vF g] := Row.congr r10 rfl
    refine WL.end ?_
    refine NE.code ?_
    refine CE.ret' ?_
    have ei : n = i := by omega
    subst ei
    refine XE.leaveC Try.results65 (res_agg (cs := [vS b'1 0 n c'1, vI ((i0 : Nat) : Int), vI tk, vF tc0, vF tc1, vF tc2, vF ts0, vF ts1, vI dk, vF dc0, vF dc1, vF dc2, vF ds0, vF ds1, vF g]) rfl Try.isAgg33 Try.sizeOf33 r11.rng rfl res_nil) ?_
    refine ⟨b'1, c'1, ys, rfl, ?_, ?_, ?_, (r6.mod m8 (nC (lG (lL r2.lt ge1)) nN)), (lT (lT m1.size m2.size) ge1), (((((((Mod.refl [] w).nt m1).nt m2).nt m3).then m4 ((aC (.inr lR) aN))).then m5 ((aC (.inr (lT (lT m1.size m2.size) ge1)) aN))).then m8 ((aC (.inr (lT m1.size lR)) aN)))⟩
    all_goals first | assumption | rfl

set_option maxRecDepth 100000 in
set_option maxHeartbeats 2000000 in
theorem c_isPlace (a : Nat) (w : World) : Cl Try.prog 96 #[vF a] w fun v w' => v = .bool (placeF a) ∧ Mod [] w w' := by
  refine Cl.of Try.func96 Try.ntmps96 rfl rfl (ρ := [(0, vF a)]) rfl ?_
  refine CE.seq ?_
  refine CE.region ?_
  refine WL.det (op_assign rfl) rfl rfl rfl ?_
  refine WL.end ?_
  refine NE.code ?_
  refine CE.seq ?_
  refine CE.region ?_
  refine WL.det (op_move rfl) rfl rfl rfl ?_
  refine WL.det (op_fge (c := fGe .f32 a 0) rfl rfl rfl rfl rfl) rfl rfl rfl ?_
  refine WL.det (op_move rfl) rfl rfl rfl ?_
  rcases Bool.eq_false_or_eq_true (fGe .f32 a 0) with hb1 | hb1
  · refine WL.yes rfl rfl rfl (ltb rfl) rfl hb1 ?_
    refine WL.det (op_move rfl) rfl rfl rfl ?_
    refine WL.yes rfl rfl rfl (ltb rfl) rfl hb1 ?_
    refine WL.det (op_flt (c := fLt .f32 a 1065353216) rfl rfl rfl rfl rfl) rfl rfl rfl ?_
    refine WL.det (op_pick_t rfl hb1 rfl) rfl rfl rfl ?_
    refine WL.det (op_assign rfl) rfl rfl rfl ?_
    refine WL.end ?_
    refine NE.code ?_
    refine CE.ret' ?_
    refine XE.leave1 Try.results96 rfl ?_
    refine ⟨?_, (Mod.refl [] w)⟩
    all_goals simp_all [placeF]
  · refine WL.no rfl rfl rfl (ltb rfl) rfl hb1 rfl (ltb rfl) ?_
    refine WL.no rfl rfl rfl (ltb rfl) rfl hb1 rfl (ltb rfl) ?_
    refine WL.det (op_pick_f rfl hb1 rfl) rfl rfl rfl ?_
    refine WL.det (op_assign rfl) rfl rfl rfl ?_
    refine WL.end ?_
    refine NE.code ?_
    refine CE.ret' ?_
    refine XE.leave1 Try.results96 rfl ?_
    refine ⟨?_, (Mod.refl [] w)⟩
    all_goals simp_all [placeF]

set_option maxRecDepth 100000 in
set_option maxHeartbeats 2000000 in
theorem c_iPluck (n : Nat) (c : Nat) (b : Nat) (xs : List Nat) (i0 : Nat) (tk : Int) (tc0 : Nat) (tc1 : Nat) (tc2 : Nat) (ts0 : Nat) (ts1 : Nat) (dk : Int) (dc0 : Nat) (dc1 : Nat) (dc2 : Nat) (ds0 : Nat) (ds1 : Nat) (g : Nat) (pl : Nat) (fo : Nat) (ln : xs.length = n) (hi0 : i0 < n) (hn : n ≤ 1024) (wx : W32 xs) (h0 : 0 < n) (lts0 : ts0 < wid .f32) (lts1 : ts1 < wid .f32) (lds0 : ds0 < wid .f32) (lds1 : ds1 < wid .f32) (lpl : pl < wid .f32) (lfo : fo < wid .f32) (hv : vStr n ((i0 : Nat) : Int) tk tc0 tc1 tc2 ts0 ts1 dk dc0 dc1 dc2 ds0 ds1 g = true) (hp : placeF pl = true) (hf : finF fo = true) (w : World) (r : Rng w b 0 (fl xs)) : Cl Try.prog 31 #[.agg #[vS b 0 n c, vI ((i0 : Nat) : Int), vI tk, vF tc0, vF tc1, vF tc2, vF ts0, vF ts1, vI dk, vF dc0, vF dc1, vF dc2, vF ds0, vF ds1, vF g], vF pl, vF fo] w fun v w' => ∃ (b' : Nat) (c' : Nat) (zs : List Nat), v = .tuple #[.agg #[vS b' 0 n c', vI ((i0 : Nat) : Int), vI tk, vF tc0, vF tc1, vF tc2, vF ts0, vF ts1, vI dk, vF dc0, vF dc1, vF dc2, vF ds0, vF ds1, vF g], vI 0] ∧ (zs.length = n) ∧ (W32 zs) ∧ (Cn zs (chg (pluckF fo (FloatKind.f32.nearest ((n : Nat) : Int)) (fop .mul .f32 pl (FloatKind.f32.nearest ((n : Nat) : Int)))) n i0 xs n)) ∧ Row w' b' 0 (fl zs) ∧ w.heap.size ≤ b' ∧ Mod [] w w' := by
  refine Cl.of Try.func31 Try.ntmps31 rfl rfl (ρ := [(0, .agg #[vS b 0 n c, vI ((i0 : Nat) : Int), vI tk, vF tc0, vF tc1, vF tc2, vF ts0, vF ts1, vI dk, vF dc0, vF dc1, vF dc2, vF ds0, vF ds1, vF g]), (1, vF pl), (2, vF fo)]) rfl ?_
  refine CE.seq ?_
  refine CE.region ?_
  refine WL.op (op_box (cs := [vS b 0 n c, vI ((i0 : Nat) : Int), vI tk, vF tc0, vF tc1, vF tc2, vF ts0, vF ts1, vI dk, vF dc0, vF dc1, vF dc2, vF ds0, vF ds1, vF g]) rfl rfl) rfl rfl (ltb rfl) ?_
  rintro _ w1 ⟨rfl, r1, m1, z1⟩
  refine WL.op (op_box (cs := [vF fo]) rfl rfl) rfl rfl (ltb rfl) ?_
  rintro _ w2 ⟨rfl, r2, m2, z2⟩
  refine WL.op (op_alloc (cs := [.slice none 0 0, vI 0, vI 0, vF 0, vF 0, vF 0, vF 0, vF 0, vI 0, vF 0, vF 0, vF 0, vF 0, vF 0, vF 0]) Try.zeroValue33 rfl) rfl rfl (ltb rfl) ?_
  rintro _ w3 ⟨rfl, r3, m3, z3⟩
  refine WL.det (op_assign rfl) rfl rfl rfl ?_
  refine WL.end ?_
  refine NE.code ?_
  refine CE.seq ?_
  refine CE.block ?_
  refine CE.seq ?_
  refine CE.region ?_
  refine WL.det (op_loadA (i := 0) (cs := [vS b 0 n c, vI ((i0 : Nat) : Int), vI tk, vF tc0, vF tc1, vF tc2, vF ts0, vF ts1, vI dk, vF dc0, vF dc1, vF dc2, vF ds0, vF ds1, vF g]) rfl Try.isAgg33 Try.sizeOf33 ((r1.ext m2).ext m3).rng rfl rfl rfl) rfl rfl rfl ?_
  refine WL.call (oc_call (vs := [.agg #[vS b 0 n c, vI ((i0 : Nat) : Int), vI tk, vF tc0, vF tc1, vF tc2, vF ts0, vF ts1, vI dk, vF dc0, vF dc1, vF dc2, vF ds0, vF ds1, vF g]]) (cap := []) rfl rfl rfl Try.call63 (c_ValidString n c (some ⟨b, 0, none⟩) ((i0 : Nat) : Int) tk tc0 tc1 tc2 ts0 ts1 dk dc0 dc1 dc2 ds0 ds1 g (by omega) w3)) rfl rfl (ltb rfl) ?_
  rintro _ w4 ⟨rfl, m4⟩
  refine WL.det (op_not rfl) rfl rfl rfl ?_
  refine WL.det (op_assign rfl) rfl rfl rfl ?_
  refine WL.end ?_
  refine NE.code ?_
  refine CE.cond_f rfl (bnot_t hv) ?_
  refine CE.seq ?_
  refine CE.region ?_
  refine WL.det (op_move rfl) rfl rfl rfl ?_
  refine WL.call (oc_call (vs := [vF pl]) (cap := []) rfl rfl rfl Try.call96 (c_isPlace pl w4)) rfl rfl (ltb rfl) ?_
  rintro _ w5 ⟨rfl, m5⟩
  refine WL.det (op_not rfl) rfl rfl rfl ?_
  refine WL.det (op_move rfl) rfl rfl rfl ?_
  refine WL.yes rfl rfl rfl (ltb rfl) rfl (bnot_t hp) ?_
  refine WL.det (op_load1 (i := 0) rfl Try.isAgg27 (((r2.ext m3).ext m4).ext m5).rng rfl rfl) rfl rfl rfl ?_
  refine WL.yes rfl rfl rfl (ltb rfl) rfl (bnot_t hp) ?_
  refine WL.call (oc_call (vs := [vF fo]) (cap := []) rfl rfl rfl Try.call64 (c_isFinite fo fo rfl w5)) rfl rfl (ltb rfl) ?_
  rintro _ w6 ⟨rfl, m6⟩
  refine WL.yes rfl rfl rfl (ltb rfl) rfl (bnot_t hp) ?_
  refine WL.det (op_not rfl) rfl rfl rfl ?_
  refine WL.det (op_pick_f rfl (bnot_t hp) rfl) rfl rfl rfl ?_
  refine WL.det (op_assign rfl) rfl rfl rfl ?_
  refine WL.end ?_
  refine NE.code ?_
  refine CE.cond_f rfl (bnot_t hf) ?_
  refine CE.skip' ?_
  refine NE.blk ?_
  refine NE.code ?_
  refine CE.seq ?_
  refine CE.region ?_
  refine WL.det (op_fieldAddr (off' := 0) rfl Try.runUnderlying33 rfl rfl Try.sizeOf26 rfl) rfl rfl rfl ?_
  refine WL.det (op_fieldAddr (off' := 0) rfl Try.runUnderlying26 rfl rfl Try.sizeOf24 rfl) rfl rfl rfl ?_
  refine WL.det (op_load1 (i := 0) rfl Try.isAgg24 (((((r1.ext m2).ext m3).ext m4).ext m5).ext m6).rng rfl rfl) rfl rfl rfl ?_
  refine WL.det (op_len rfl Try.runUnderlying24) rfl rfl rfl ?_
  refine WL.det (op_cvt_if rfl Try.runUnderlying3 Try.runUnderlying27) rfl rfl rfl ?_
  refine WL.op (op_alloc (cs := [vF 0]) Try.zeroValue27 rfl) rfl rfl (ltb rfl) ?_
  rintro _ w7 ⟨rfl, r4, m7, z4⟩
  refine WL.op0 (op_store (i := 0) (cs := [vF (FloatKind.f32.nearest ((n : Nat) : Int))]) rfl rfl rfl Try.sizeOf27 rfl r4 rfl (lB rfl) rfl) rfl rfl ?_
  rintro _ w8 ⟨r5, m8, z5⟩
  have r6 : Row w8 w6.heap.size 0 [vF (FloatKind.f32.nearest ((n : Nat) : Int))] := Row.congr r5 rfl
  refine WL.end ?_
  refine NE.code ?_
  refine CE.seq ?_
  refine CE.region ?_
  refine WL.det (op_move rfl) rfl rfl rfl ?_
  refine WL.det (op_load1 (i := 0) rfl Try.isAgg27 r6.rng rfl rfl) rfl rfl rfl ?_
  refine WL.op (op_farith (e := (fop .mul .f32 pl (FloatKind.f32.nearest ((n : Nat) : Int)))) (.inr (.inr (.inl rfl))) rfl rfl rfl rfl rfl) rfl rfl (ltb rfl) ?_
  rintro _ w9 ⟨⟨f1, rfl, hf1, lf1⟩, m9⟩
  refine WL.op (op_alloc (cs := [vF 0]) Try.zeroValue27 rfl) rfl rfl (ltb rfl) ?_
  rintro _ w10 ⟨rfl, r7, m10, z6⟩
  refine WL.op0 (op_store (i := 0) (cs := [vF f1]) rfl rfl rfl Try.sizeOf27 rfl r7 rfl (lB rfl) rfl) rfl rfl ?_
  rintro _ w11 ⟨r8, m11, z7⟩
  have r9 : Row w11 w9.heap.size 0 [vF f1] := Row.congr r8 rfl
  refine WL.end ?_
  refine NE.code ?_
  refine CE.seq ?_
  refine CE.region ?_
  refine WL.det (op_loadA (i := 0) (cs := [vS b 0 n c, vI ((i0 : Nat) : Int), vI tk, vF tc0, vF tc1, vF tc2, vF ts0, vF ts1, vI dk, vF dc0, vF dc1, vF dc2, vF ds0, vF ds1, vF g]) rfl Try.isAgg33 Try.sizeOf33 ((((((((((r1.ext m2).ext m3).ext m4).ext m5).ext m6).ext m7).mod m8 (nC (lE (lL (lL r1.lt (lT (lT (lT (lT m2.size m3.size) m4.size) m5.size) m6.size)) lR)) nN)).ext m9).ext m10).mod m11 (nC (lE (lL (lL r1.lt (lT (lT (lT (lT (lT (lT (lT m2.size m3.size) m4.size) m5.size) m6.size) m7.size) m8.size) m9.size)) lR)) nN)).rng rfl rfl rfl) rfl rfl rfl ?_
  refine WL.det (op_makeFunc (vs := []) (us := [vP w9.heap.size 0, vP w1.heap.size 0, vP w6.heap.size 0]) rfl rfl) rfl rfl rfl ?_
  refine WL.call (oc_call (vs := [.agg #[vS b 0 n c, vI ((i0 : Nat) : Int), vI tk, vF tc0, vF tc1, vF tc2, vF ts0, vF ts1, vI dk, vF dc0, vF dc1, vF dc2, vF ds0, vF ds1, vF g], .func (.func 97) #[] #[vP w9.heap.size 0, vP w1.heap.size 0, vP w6.heap.size 0]]) (cap := []) rfl rfl rfl Try.call65 (c_changedPluck n c b xs i0 tk tc0 tc1 tc2 ts0 ts1 dk dc0 dc1 dc2 ds0 ds1 g w9.heap.size w1.heap.size w6.heap.size f1 (fop .mul .f32 pl (FloatKind.f32.nearest ((n : Nat) : Int))) fo (FloatKind.f32.nearest ((n : Nat) : Int)) ln (by omega) (by omega) wx (by omega) hf1 w11 (Rng.youngS r (((Rng.youngS r (((((((r.ext m1).ext m2).ext m3).ext m4).ext m5).ext m6).ext m7) m8 (allge_cons (lT (lT (lT (lT (lT (lT m1.size m2.size) m3.size) m4.size) m5.size) m6.size) lR) allge_nil)).ext m9).ext m10) m11 (allge_cons (lT (lT (lT (lT (lT (lT (lT (lT (lT m1.size m2.size) m3.size) m4.size) m5.size) m6.size) m7.size) m8.size) m9.size) lR) allge_nil)) r9.rng (((((((((r2.ext m3).ext m4).ext m5).ext m6).ext m7).mod m8 (nC (lE (lL (lL r2.lt (lT (lT (lT m3.size m4.size) m5.size) m6.size)) lR)) nN)).ext m9).ext m10).mod m11 (nC (lE (lL (lL r2.lt (lT (lT (lT (lT (lT (lT m3.size m4.size) m5.size) m6.size) m7.size) m8.size) m9.size)) lR)) nN)).rng (((r6.ext m9).ext m10).mod m11 (nC (lE (lL (lL r4.lt (lT m8.size m9.size)) lR)) nN)).rng)) rfl rfl (ltb rfl) ?_
  rintro _ w12 ⟨b'1, c'1, zs1, rfl, h1, h2, h3, r10, ge1, m12⟩
  refine WL.op0 (op_store (i := 0) (cs := [vS b'1 0 n c'1, vI ((i0 : Nat) : Int), vI tk, vF tc0, vF tc1, vF tc2, vF ts0, vF ts1, vI dk, vF dc0, vF dc1, vF dc2, vF ds0, vF ds1, vF g]) rfl rfl rfl Try.sizeOf33 rfl (((((((((r3.ext m4).ext m5).ext m6).ext m7).mod m8 (nC (lE (lL (lL r3.lt (lT (lT m4.size m5.size) m6.size)) lR)) nN)).ext m9).ext m10).mod m11 (nC (lE (lL (lL r3.lt (lT (lT (lT (lT (lT m4.size m5.size) m6.size) m7.size) m8.size) m9.size)) lR)) nN)).ext m12) rfl (lB rfl) rfl) rfl rfl ?_
  rintro _ w13 ⟨r11, m13, z8⟩
  have r12 : Row w13 w2.heap.size 0 [vS b'1 0 n c'1, vI ((i0 : Nat) : Int), vI tk, vF tc0, vF tc1, vF tc2, vF ts0, vF ts1, vI dk, vF dc0, vF dc1, vF dc2, vF ds0, vF ds1, vF g] := Row.congr r11 rfl
  refine WL.det (op_assign rfl) rfl rfl rfl ?_
  refine WL.end ?_
  refine NE.code ?_
  refine CE.ret' ?_
  refine XE.leaveT Try.results31 (res_agg (cs := [vS b'1 0 n c'1, vI ((i0 : Nat) : Int), vI tk, vF tc0, vF tc1, vF tc2, vF ts0, vF ts1, vI dk, vF dc0, vF dc1, vF dc2, vF ds0, vF ds1, vF g]) rfl Try.isAgg33 Try.sizeOf33 r12.rng rfl (res_tmp rfl res_nil)) ?_
  refine ⟨b'1, c'1, zs1, rfl, ?_, ?_, ?_, (r10.mod m13 (nC (lG (lL (lL r3.lt (lT (lT (lT (lT (lT (lT (lT m4.size m5.size) m6.size) m7.size) m8.size) m9.size) m10.size) m11.size)) ge1)) nN)), (lT (lT (lT (lT (lT (lT (lT (lT (lT (lT (lT m1.size m2.size) m3.size) m4.size) m5.size) m6.size) m7.size) m8.size) m9.size) m10.size) m11.size) ge1), ((((((((((((((Mod.refl [] w).nt m1).nt m2).nt m3).nt m4).nt m5).nt m6).nt m7).then m8 ((aC (.inr (lT (lT (lT (lT (lT (lT m1.size m2.size) m3.size) m4.size) m5.size) m6.size) lR)) aN))).nt m9).nt m10).then m11 ((aC (.inr (lT (lT (lT (lT (lT (lT (lT (lT (lT m1.size m2.size) m3.size) m4.size) m5.size) m6.size) m7.size) m8.size) m9.size) lR)) aN))).nt m12).then m13 ((aC (.inr (lT (lT m1.size m2.size) lR)) aN)))⟩
  all_goals first | assumption | rfl

end Go.Proofs.Ytabfdgpldcegiaa
