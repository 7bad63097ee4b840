/- Combs, filters and mixes within bounds. -/
import Derived.Test.YtemnjphnhmbddaaU2
set_option linter.unusedVariables false
set_option linter.unusedSimpArgs false
namespace Go.Proofs.Ytemnjphnhmbddaa

theorem PlQ.bw {a : Nat} (h : PlQ a) : Bw a 1 := by
  refine ⟨h.lt, ?_⟩
  obtain ⟨d, hd, rfl⟩ := h
  exact pl_bd hd
theorem Bw.addc {y a b k : Nat} (h : cn .f32 y = cn .f32 (fop .add .f32 a b)) (ha : Bw a k) (hb : Bw b k) (hk : k ≤ 99) : Bw y (k + 1) := by
  have hs := ha.add hb hk
  rw [Bw.of_cn h hs.2 hs.1 (by omega)]; exact hs
theorem Bw.gainc {y g a k : Nat} (h : cn .f32 y = cn .f32 (fop .mul .f32 g a)) (hg : Bw g 0) (ha : Bw a k) (hk : k ≤ 100) : Bw y k := by
  have hs := hg.gain ha hk
  rw [Bw.of_cn h hs.2 hs.1 hk]; exact hs
theorem LBw.get {xs : List Nat} {k : Nat} (h : LBw xs k) (j : Nat) : Bw (xs.getD j 0) k := h j

set_option maxRecDepth 100000 in
set_option maxHeartbeats 2000000 in
theorem c_combK (n : Nat) (c : Nat) (b : Nat) (xs : List Nat) (i : Nat) (p : Nat) (k : Nat) (vs : List Value) (a : Nat) (g : Nat) (ln : xs.length = n) (hi : i < n) (hn : n ≤ 1048576) (hk : k + 3 ≤ vs.length) (la : a < wid .f32) (w : World) (q : Row w p 0 (splice vs k [vS b 0 n c, vI ((i : Nat) : Int), vF g])) (r : Row w b 0 (fl xs)) (hne : p ≠ b) : Cl Try.prog 47 #[vP p k, vF a] w fun v w' => ∃ (y : Nat), v = vF y ∧ (cn .f32 y = cn .f32 (combY g xs i a)) ∧ (y < wid .f32) ∧ Row w' p 0 (splice vs k [vS b 0 n c, vI (((i + 1) % n : Nat) : Int), vF g]) ∧ Row w' b 0 (fl (xs.set i (keptF (combW g xs i a)))) ∧ Mod [p, b] w w' := by
  refine Cl.of Try.func47 Try.ntmps47 rfl rfl (ρ := [(0, vP p k), (1, vF a)]) rfl ?_
  refine CE.seq ?_
  refine CE.region ?_
  refine WL.det (op_assign rfl) rfl rfl rfl ?_
  refine WL.end ?_
  refine NE.code ?_
  refine CE.seq ?_
  refine CE.region ?_
  refine WL.det (op_move rfl) rfl rfl rfl ?_
  refine WL.det (op_nilCheck rfl) rfl rfl rfl ?_
  refine WL.det (op_fieldAddr (off' := k) rfl Try.runUnderlying34 rfl rfl Try.sizeOf31 rfl) rfl rfl rfl ?_
  refine WL.det (op_loadA (i := k) (cs := [vS b 0 n c, vI ((i : Nat) : Int)]) rfl Try.isAgg31 Try.sizeOf31 q.rng (Nat.zero_add _) (sub_take (i := 0) hk (lB rfl) rfl) rfl) rfl rfl rfl ?_
  refine WL.call (oc_call (vs := [.agg #[vS b 0 n c, vI ((i : Nat) : Int)]]) (cap := []) rfl rfl rfl Try.call48 (c_oldest n c b xs i ln (by omega) (by omega) w r.rng)) rfl rfl (ltb rfl) ?_
  rintro _ w1 ⟨rfl, m1⟩
  refine WL.det (op_assign rfl) rfl rfl rfl ?_
  refine WL.end ?_
  refine NE.code ?_
  refine CE.seq ?_
  refine CE.region ?_
  iterate 2 refine WL.det (op_move rfl) rfl rfl rfl ?_
  refine WL.det (op_nilCheck rfl) rfl rfl rfl ?_
  refine WL.det (op_fieldAddr (off' := k + 2) rfl Try.runUnderlying34 rfl rfl Try.sizeOf24 rfl) rfl rfl rfl ?_
  refine WL.det (op_load1 (i := k + 2) rfl Try.isAgg24 (q.ext m1).rng (Nat.zero_add _) (sub_get (i := 2) hk rfl)) rfl rfl rfl ?_
  refine WL.det (op_move rfl) rfl rfl rfl ?_
  refine WL.op (op_farith (e := (fop .mul .f32 g (xs.getD i 0))) (.inr (.inr (.inl rfl))) rfl rfl rfl rfl rfl) rfl rfl (ltb rfl) ?_
  rintro _ w2 ⟨⟨f1, rfl, hf1, lf1⟩, m2⟩
  refine WL.op (op_farith (e := (fop .add .f32 a (fop .mul .f32 g (xs.getD i 0)))) (.inl rfl) rfl rfl rfl hf1 rfl) rfl rfl (ltb rfl) ?_
  rintro _ w3 ⟨⟨f2, rfl, hf2, lf2⟩, m3⟩
  refine WL.det (op_assign rfl) rfl rfl rfl ?_
  refine WL.end ?_
  refine NE.code ?_
  refine CE.seq ?_
  refine CE.draw (fun | 4 => some (fun _ wA uA wB => uA = vF (keptF (fop .add .f32 a (fop .mul .f32 g (xs.getD i 0)))) ∧ (keptF (fop .add .f32 a (fop .mul .f32 g (xs.getD i 0))) < wid .f32) ∧ Mod [] wA wB) | _ => none) [0, 1, 2, 3, 4] [5] [] (by kernel_rfl) (by kernel_rfl) ?_
  have md1 : Mod [] w3 w3.drew := (Mod.refl _ _).drew
  generalize w3.drew = w4 at md1 ⊢
  refine DR.det (i := 0) rfl rfl (by kernel_rfl) (.free rfl) rfl rfl (fun wD mD => op_move rfl) ?_
  refine DR.det (i := 1) rfl rfl (by kernel_rfl) (.free rfl) rfl rfl (fun wD mD => op_nilCheck rfl) ?_
  refine DR.det (i := 2) rfl rfl (by kernel_rfl) (.free rfl) rfl rfl (fun wD mD => op_fieldAddr (off' := k) rfl Try.runUnderlying34 rfl rfl Try.sizeOf31 rfl) ?_
  refine DR.det (i := 3) rfl rfl (by kernel_rfl) (.free rfl) rfl rfl (fun wD mD => op_move rfl) ?_
  refine DR.call (i := 4) (fun uA => uA = vF (keptF (fop .add .f32 a (fop .mul .f32 g (xs.getD i 0)))) ∧ (keptF (fop .add .f32 a (fop .mul .f32 g (xs.getD i 0))) < wid .f32)) rfl rfl (by kernel_rfl) (.free rfl) rfl (ltb rfl) ⟨_, rfl, keptF_wid hf2 lf2⟩ (vs := [.func (.func 46) #[] #[], vF f2]) rfl (fun wD mD => oc_call (vs := [vF f2]) (cap := []) rfl rfl rfl Try.call46 (c_kept f2 (fop .add .f32 a (fop .mul .f32 g (xs.getD i 0))) hf2 lf2 wD)) ?_ ?_
  · rintro w1 _ w2 m1 ⟨rfl, p0, m2⟩; exact ⟨⟨rfl, p0⟩, m2⟩
  rintro _ ⟨rfl, h1⟩
  refine DR.done rfl ?_
  intro w5 m4
  have r1 := (((((q.ext m1).ext m2).ext m3).ext md1).ext m4)
  have r2 := (((((r.ext m1).ext m2).ext m3).ext md1).ext m4)
  refine WO.call rfl (.free rfl) rfl (ltb rfl) (oc_call (vs := [vP p k, vF (keptF (fop .add .f32 a (fop .mul .f32 g (xs.getD i 0))))]) (cap := []) rfl rfl rfl Try.call45 (c_push n c b xs i p k (splice vs k [vS b 0 n c, vI ((i : Nat) : Int), vF g]) (keptF (fop .add .f32 a (fop .mul .f32 g (xs.getD i 0)))) ln (by omega) (by omega) (sub_fit (i := 0) hk (lB rfl)) w5 (Row.congr r1 (sub_same (i := 0) hk (lB rfl) rfl)) r2 hne)) ?_
  rintro _ w6 ⟨rfl, r3, r4, m5⟩
  have r5 : Row w6 p 0 (splice vs k [vS b 0 n c, vI (((i + 1) % n : Nat) : Int), vF g]) := Row.congr r3 (sub_put (i := 0) hk (lB rfl) rfl)
  refine WO.end ?_
  refine NE.code ?_
  refine CE.seq ?_
  refine CE.region ?_
  iterate 2 refine WL.det (op_move rfl) rfl rfl rfl ?_
  refine WL.det (op_nilCheck rfl) rfl rfl rfl ?_
  refine WL.det (op_fieldAddr (off' := k + 2) rfl Try.runUnderlying34 rfl rfl Try.sizeOf24 rfl) rfl rfl rfl ?_
  refine WL.det (op_load1 (i := k + 2) rfl Try.isAgg24 r5.rng (Nat.zero_add _) (sub_get (i := 2) hk rfl)) rfl rfl rfl ?_
  refine WL.det (op_move rfl) rfl rfl rfl ?_
  refine WL.op (op_farith (e := (fop .mul .f32 g (fop .add .f32 a (fop .mul .f32 g (xs.getD i 0))))) (.inr (.inr (.inl rfl))) rfl rfl rfl hf2 rfl) rfl rfl (ltb rfl) ?_
  rintro _ w7 ⟨⟨f3, rfl, hf3, lf3⟩, m6⟩
  refine WL.op (op_farith (e := (fop .sub .f32 (xs.getD i 0) (fop .mul .f32 g (fop .add .f32 a (fop .mul .f32 g (xs.getD i 0)))))) (.inr (.inl rfl)) rfl rfl rfl hf3 rfl) rfl rfl (ltb rfl) ?_
  rintro _ w8 ⟨⟨f4, rfl, hf4, lf4⟩, m7⟩
  refine WL.det (op_assign rfl) rfl rfl rfl ?_
  refine WL.end ?_
  refine NE.code ?_
  refine CE.ret' ?_
  refine XE.leave1 Try.results47 rfl ?_
  refine ⟨f4, rfl, ?_, lf4, ((r5.ext m6).ext m7), (Row.congr ((r4.ext m6).ext m7) ?_), (((((((((Mod.refl [p, b] w).nt m1).nt m2).nt m3).nt md1).nt m4).then m5 ((aC (.inl (by simp)) (aC (.inl (by simp)) aN)))).nt m6).nt m7)⟩
  all_goals first | assumption | rfl

theorem c_comb0 (n : Nat) (c : Nat) (b : Nat) (xs : List Nat) (i : Nat) (p : Nat) (vs : List Value) (a : Nat) (ln : xs.length = n) (hi : i < n) (hn : n ≤ 1048576) (hk : 3 + 3 ≤ vs.length) (hL : LBw xs 3) (hx : Bw a 2) (w : World) (q : Row w p 0 (splice vs 3 [vS b 0 n c, vI ((i : Nat) : Int), vF 1056964608])) (r : Row w b 0 (fl xs)) (hne : p ≠ b) : Cl Try.prog 47 #[vP p 3, vF a] w fun v w' => ∃ (y : Nat) (xs' : List Nat), v = vF y ∧ (xs'.length = n) ∧ (LBw xs' 3) ∧ (Bw y 4) ∧ Row w' p 0 (splice vs 3 [vS b 0 n c, vI (((i + 1) % n : Nat) : Int), vF 1056964608]) ∧ Row w' b 0 (fl xs') ∧ Mod [p, b] w w' := by
  refine Cl.mono (c_combK n c b xs i p 3 vs a 1056964608 ln hi hn hk hx.1 w q r hne) ?_
  rintro v w' ⟨y, rfl, h, h2, r1, r2, m⟩
  have hy := comb_y (i := i) hL hx (by omega)
  have e := Bw.of_cn h hy.2 hy.1 (by omega)
  rw [e]
  exact ⟨_, _, rfl, (List.length_set).trans ln, hL.set (comb_w hL hx (by omega)).kept, hy, r1, r2, m⟩
theorem c_comb1 (n : Nat) (c : Nat) (b : Nat) (xs : List Nat) (i : Nat) (p : Nat) (vs : List Value) (a : Nat) (ln : xs.length = n) (hi : i < n) (hn : n ≤ 1048576) (hk : 6 + 3 ≤ vs.length) (hL : LBw xs 5) (hx : Bw a 4) (w : World) (q : Row w p 0 (splice vs 6 [vS b 0 n c, vI ((i : Nat) : Int), vF 1056964608])) (r : Row w b 0 (fl xs)) (hne : p ≠ b) : Cl Try.prog 47 #[vP p 6, vF a] w fun v w' => ∃ (y : Nat) (xs' : List Nat), v = vF y ∧ (xs'.length = n) ∧ (LBw xs' 5) ∧ (Bw y 6) ∧ Row w' p 0 (splice vs 6 [vS b 0 n c, vI (((i + 1) % n : Nat) : Int), vF 1056964608]) ∧ Row w' b 0 (fl xs') ∧ Mod [p, b] w w' := by
  refine Cl.mono (c_combK n c b xs i p 6 vs a 1056964608 ln hi hn hk hx.1 w q r hne) ?_
  rintro v w' ⟨y, rfl, h, h2, r1, r2, m⟩
  have hy := comb_y (i := i) hL hx (by omega)
  have e := Bw.of_cn h hy.2 hy.1 (by omega)
  rw [e]
  exact ⟨_, _, rfl, (List.length_set).trans ln, hL.set (comb_w hL hx (by omega)).kept, hy, r1, r2, m⟩
theorem c_pole (s0 : Nat) (p : Nat) (k : Nat) (vs : List Value) (a : Nat) (kb : Nat) (hk : k + 6 ≤ vs.length) (hs : Bw s0 (kb + 1)) (hx : Bw a (kb + 1)) (hb : kb ≤ 80) (w : World) (q : Row w p 0 (splice vs k [vI 1, vF 1056964608, vF 1056964608, vF 0, vF s0, vF 0])) : Cl Try.prog 49 #[vP p k, vF a] w fun v w' => ∃ (y : Nat) (t0 : Nat), v = vF y ∧ (Bw y (kb + 1)) ∧ (Bw t0 (kb + 1)) ∧ Row w' p 0 (splice vs k [vI 1, vF 1056964608, vF 1056964608, vF 0, vF t0, vF 0]) ∧ Mod [p] w w' := by
  refine Cl.mono (c_fstep 1 1056964608 1056964608 0 s0 0 p k vs a a hs.1 (by decide +kernel) hk rfl hx.1 w q) ?_
  rintro v w' ⟨y, rfl, h, h2, h3, h4, r1, m⟩
  have hy := pole_y (s1 := 0) hs hx (by omega)
  have e := Bw.of_cn h hy.2 hy.1 (by omega)
  rw [e]
  exact ⟨_, _, rfl, hy, hy.kept, r1, m⟩
theorem c_mixBd (x0 : Nat) (x1 : Nat) (x2 : Nat) (x3 : Nat) (kb : Nat) (hx0 : Bw x0 (kb + 1)) (hx1 : Bw x1 (kb + 1)) (hx2 : Bw x2 (kb + 1)) (hx3 : Bw x3 (kb + 1)) (hb : kb ≤ 80) (w : World) : Cl Try.prog 6 #[.agg #[vF x0, vF x1, vF x2, vF x3]] w fun v w' => ∃ (z0 : Nat) (z1 : Nat) (z2 : Nat) (z3 : Nat), v = .agg #[vF z0, vF z1, vF z2, vF z3] ∧ (Bw z0 (kb + 2)) ∧ (Bw z1 (kb + 2)) ∧ (Bw z2 (kb + 2)) ∧ (Bw z3 (kb + 2)) ∧ Mod [] w w' := by
  refine Cl.mono (c_imixB x0 x1 x2 x3 w) ?_
  rintro v w' ⟨z0, z1, z2, z3, rfl, h0, h1, h2, h3, m⟩
  have a := hx0.add hx1 (by omega)
  have b := hx0.sub hx1 (by omega)
  have c := hx2.add hx3 (by omega)
  have d := hx2.sub hx3 (by omega)
  have k0 := (a.add c (by omega)).half (by omega)
  have k1 := (b.add d (by omega)).half (by omega)
  have k2 := (a.sub c (by omega)).half (by omega)
  have k3 := (b.sub d (by omega)).half (by omega)
  have e0 := Bw.of_cn h0 k0.2 k0.1 (by omega)
  have e1 := Bw.of_cn h1 k1.2 k1.1 (by omega)
  have e2 := Bw.of_cn h2 k2.2 k2.1 (by omega)
  have e3 := Bw.of_cn h3 k3.2 k3.1 (by omega)
  rw [e0, e1, e2, e3]
  exact ⟨_, _, _, _, rfl, k0, k1, k2, k3, m⟩
set_option maxRecDepth 100000 in
set_option maxHeartbeats 2000000 in
theorem c_early (nE : Nat) (cE : Nat) (bE : Nat) (iE : Nat) (nC0 : Nat) (cC0 : Nat) (bC0 : Nat) (iC0 : Nat) (nC1 : Nat) (cC1 : Nat) (bC1 : Nat) (iC1 : Nat) (nL0 : Nat) (cL0 : Nat) (bL0 : Nat) (iL0 : Nat) (nL1 : Nat) (cL1 : Nat) (bL1 : Nat) (iL1 : Nat) (nL2 : Nat) (cL2 : Nat) (bL2 : Nat) (iL2 : Nat) (nL3 : Nat) (cL3 : Nat) (bL3 : Nat) (iL3 : Nat) (s0 : Nat) (s1 : Nat) (s2 : Nat) (s3 : Nat) (g0 : Nat) (g1 : Nat) (g2 : Nat) (g3 : Nat) (p : Nat) (w : World) (q : Rng w p 0 [vS bE 0 nE cE, vI ((iE : Nat) : Int), .slice none 0 0, vS bC0 0 nC0 cC0, vI ((iC0 : Nat) : Int), vF 1056964608, vS bC1 0 nC1 cC1, vI ((iC1 : Nat) : Int), vF 1056964608, vS bL0 0 nL0 cL0, vI ((iL0 : Nat) : Int), vS bL1 0 nL1 cL1, vI ((iL1 : Nat) : Int), vS bL2 0 nL2 cL2, vI ((iL2 : Nat) : Int), vS bL3 0 nL3 cL3, vI ((iL3 : Nat) : Int), vI 1, vF 1056964608, vF 1056964608, vF 0, vF s0, vF 0, vI 1, vF 1056964608, vF 1056964608, vF 0, vF s1, vF 0, vI 1, vF 1056964608, vF 1056964608, vF 0, vF s2, vF 0, vI 1, vF 1056964608, vF 1056964608, vF 0, vF s3, vF 0, vF g0, vF g1, vF g2, vF g3, vF 1065353216, vF 0]) : Cl Try.prog 44 #[vP p 0] w fun v w' => v = vF 0 ∧ Mod [] w w' := by
  refine Cl.of Try.func44 Try.ntmps44 rfl rfl (ρ := [(0, vP p 0)]) rfl ?_
  refine CE.seq ?_
  refine CE.region ?_
  refine WL.det (op_assign rfl) rfl rfl rfl ?_
  refine WL.end ?_
  refine NE.code ?_
  refine CE.seq ?_
  refine CE.region ?_
  refine WL.det (op_assign rfl) rfl rfl rfl ?_
  refine WL.end ?_
  refine NE.code ?_
  iterate 2 refine CE.seq ?_
  refine CE.region ?_
  refine WL.det (op_move rfl) rfl rfl rfl ?_
  refine WL.det (op_nilCheck rfl) rfl rfl rfl ?_
  refine WL.det (op_fieldAddr (off' := 2) rfl Try.runUnderlying43 rfl rfl Try.sizeOf32 rfl) rfl rfl rfl ?_
  refine WL.det (op_load1 (i := 2) rfl Try.isAgg32 q rfl rfl) rfl rfl rfl ?_
  refine WL.det (op_len rfl Try.runUnderlying32) rfl rfl rfl ?_
  refine WL.det (op_move rfl) rfl rfl rfl ?_
  refine WL.end ?_
  refine NE.code ?_
  refine CE.block ?_
  refine CE.rounds 1 ?_
  refine RN.one ?_
  refine CE.seq ?_
  refine CE.region ?_
  refine WL.det (op_lti rfl rfl) rfl rfl rfl ?_
  refine WL.end ?_
  refine NE.code ?_
  refine CE.seq ?_
  refine CE.cond_f rfl rfl ?_
  refine CE.exit' ?_
  iterate 2 refine XE.exit_then ?_
  refine XE.exit_here ?_
  refine NE.code ?_
  refine CE.seq ?_
  refine CE.region ?_
  refine WL.det (op_move rfl) rfl rfl rfl ?_
  refine WL.det (op_assign rfl) rfl rfl rfl ?_
  refine WL.end ?_
  refine NE.code ?_
  refine CE.ret' ?_
  refine XE.leave1 Try.results44 rfl ?_
  refine ⟨rfl, (Mod.refl [] w)⟩

end Go.Proofs.Ytemnjphnhmbddaa
