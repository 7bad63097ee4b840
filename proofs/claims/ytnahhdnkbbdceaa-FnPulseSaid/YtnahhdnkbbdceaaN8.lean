/- New pipes of the reference. -/
import Derived.Test.YtnahhdnkbbdceaaN7
import Derived.Test.YtnahhdnkbbdceaaE17
set_option linter.unusedVariables false
set_option linter.unusedSimpArgs false
set_option maxRecDepth 100000
set_option maxHeartbeats 8000000
namespace Go.Proofs.Ytnahhdnkbbdceaa

def eigW (e : Nat) : Nat := fop .quo .f32 (FloatKind.f32.nearest (((e : Nat) : Int) - (8 : Int))) 1090519040
theorem eig_ok : ∀ e, e < 17 → (decide (eigW e % 2147483648 ≤ 1065353216) && (fGe .f32 (eigW e) 3212836864 && fLe .f32 (eigW e) 1065353216)) = true := by decide +kernel
/-- a number between sections -/
def ScE (s : Nat) : Prop := ∃ e, e < 17 ∧ cn .f32 s = cn .f32 (eigW e)
theorem scE_of {s e : Nat} (h : cn .f32 s = cn .f32 (fop .quo .f32 (FloatKind.f32.nearest (((e : Nat) : Int) - (8 : Int))) 1090519040)) (he : e < 17) : ScE s := ⟨e, he, h⟩
theorem ScE.word {s : Nat} (h : ScE s) : Bd s 0 ∧ (fGe .f32 s 3212836864 && fLe .f32 s 1065353216) = true := by
  obtain ⟨e, he, h⟩ := h
  have k := eig_ok e he
  simp only [Bool.and_eq_true, decide_eq_true_eq] at k
  have e1 : s = eigW e := eq_of_cn h (by rw [isNaN32]; simp; omega)
  rw [e1, Bool.and_eq_true]
  exact ⟨by unfold Bd; omega, k.2⟩
def ScL (xs : List Nat) : Prop := ∀ i, i < xs.length → ScE (xs.getD i 0)
theorem scl0 : ScL [] := fun i hi => absurd hi (by simp)
theorem scl1 {a : Nat} (h : ScE a) : ScL [a] := fun i hi => by
  obtain rfl : i = 0 := by simpa using hi
  exact h
theorem scl2 {a b : Nat} (h : ScE a) (k : ScE b) : ScL [a, b] := fun i hi => by
  match i, hi with
  | 0, _ => exact h
  | 1, _ => exact k
theorem ScL.bd {xs : List Nat} (h : ScL xs) (i : Nat) : Bd (xs.getD i 0) 0 := by
  by_cases hi : i < xs.length
  · exact (h i hi).word.1
  · rw [List.getD_eq_getElem?_getD, List.getElem?_eq_none (by omega)]; exact Bd.zero
theorem ScL.sc {xs : List Nat} (h : ScL xs) : ∀ n, n ≤ xs.length → vSc xs n = true
  | 0, _ => rfl
  | n + 1, hn => by
    show (vSc xs n && _) = true
    rw [h.sc n (by omega), (h n (by omega)).word.2]; rfl
theorem vSc_get {xs : List Nat} {n i : Nat} (h : vSc xs n = true) (hi : i < n) : fGe .f32 (xs.getD i 0) 3212836864 = true ∧ fLe .f32 (xs.getD i 0) 1065353216 = true := by
  rw [← Bool.and_eq_true]
  cases hb : (fGe .f32 (xs.getD i 0) 3212836864 && fLe .f32 (xs.getD i 0) 1065353216)
  · rw [vSc_out hi hb] at h; cases h
  · rfl
theorem keepE_of {d kw : Nat} (h : cn .f32 kw = cn .f32 (fop .quo .f32 (FloatKind.f32.nearest ((d : Nat) : Int)) 1090519040)) (hd : d < 8) : ∃ d, d < 8 ∧ cn .f32 kw = cn .f32 (fop .quo .f32 (FloatKind.f32.nearest ((d : Nat) : Int)) 1090519040) := ⟨d, hd, h⟩
theorem lossE_of {u lw : Nat} (h : cn .f32 lw = cn .f32 (fop .quo .f32 (FloatKind.f32.nearest ((u : Nat) : Int)) 1098907648)) (hu : u < 17) : ∃ u, u < 17 ∧ cn .f32 lw = cn .f32 (fop .quo .f32 (FloatKind.f32.nearest ((u : Nat) : Int)) 1098907648) := ⟨u, hu, h⟩
theorem and_l8 {a b : Bool} (h : (a && b) = true) : a = true := by rw [Bool.and_eq_true] at h; exact h.1
theorem and_r8 {a b : Bool} (h : (a && b) = true) : b = true := by rw [Bool.and_eq_true] at h; exact h.2

theorem c_sNewQ1 (ka : Nat) (cl : Nat) (lb : Nat) (cs : Nat) (sb : Nat) (op : Bool) (kw : Nat) (lw : Nat) (h1ka : 1 ≤ ka) (h2ka : ka ≤ 5) (lkw : kw < wid .f32) (llw : lw < wid .f32) (hk : (fGe .f32 kw 0 && fLt .f32 kw 1065353216) = true) (hl : (fGe .f32 lw 0 && fLe .f32 lw 1065353216) = true) (w : World) (rl : Rng w lb 0 [vI ((ka : Nat) : Int)]) (rs : Rng w sb 0 []) : Cl Try.prog 15 #[vS lb 0 1 cl, vS sb 0 0 cs, .bool op, vF kw, vF lw] w fun v w' => ∃ (bR' : Nat) (cR' : Nat) (bL' : Nat) (cL' : Nat) (bS' : Nat) (cS' : Nat) (r_ : Nat) (d0' : Nat) (e0' : Nat), v = .tuple #[.agg #[vS bR' 0 1 cR', vS bL' 0 1 cL', vS bS' 0 0 cS', vI 1, vF r_, vF kw, vF 0, vF 0, vF 0, .bool op, vF lw, vF 1061158912, vF 3200253952], vI 0] ∧ (cn .f32 r_ = cn .f32 (fop .sub .f32 1065353216 kw)) ∧ (r_ < wid .f32) ∧ Row w' bR' 0 [vS d0' 0 ka ka, vI 0] ∧ Row w' bL' 0 [vS e0' 0 ka ka, vI 0] ∧ Row w' bS' 0 [] ∧ Row w' d0' 0 (fl (List.replicate ka 0)) ∧ Row w' e0' 0 (fl (List.replicate ka 0)) ∧ w.heap.size ≤ bR' ∧ w.heap.size ≤ bL' ∧ w.heap.size ≤ bS' ∧ w.heap.size ≤ d0' ∧ w.heap.size ≤ e0' ∧ bR' ≠ bL' ∧ bR' ≠ bS' ∧ bL' ≠ bS' ∧ d0' ≠ bR' ∧ d0' ≠ bL' ∧ d0' ≠ bS' ∧ e0' ≠ bR' ∧ e0' ≠ bL' ∧ e0' ≠ bS' ∧ d0' ≠ e0' ∧ Mod [] w w' := by
 refine Cl.of Try.func15 Try.ntmps15 rfl rfl (ρ := [(0, vS lb 0 1 cl), (1, vS sb 0 0 cs), (2, .bool op), (3, vF kw), (4, vF lw)]) rfl ?_
 refine CE.seq (CE.region ?_)
 refine WL.op (op_alloc (cs := [.slice none 0 0, .slice none 0 0, .slice none 0 0, vI 0, vF 0, vF 0, vF 0, vF 0, vF 0, .bool false, vF 0, vF 0, vF 0]) Try.zeroValue33 rfl) rfl rfl (ltb rfl) ?_
 rintro _ w1 ⟨rfl, r1, m1, z1⟩
 refine WD (op_assign rfl) rfl ?_
 refine WL.end (NE.code (CE.seq (CE.region ?_)))
 refine WD (op_move rfl) rfl ?_
 refine WD (op_len rfl Try.runUnderlying36) rfl ?_
 refine WL.call (oc_call (vs := [vI 1, vI 1, vI 3]) (cap := []) rfl rfl rfl Try.call55 (c_l00In (1 : Int) (1 : Int) (3 : Int) w1)) rfl rfl (ltb rfl) ?_
 rintro _ _ ⟨rfl, rfl⟩
 refine WD (op_move rfl) rfl ?_
 refine WL.yes rfl rfl rfl (ltb rfl) rfl (by decide +kernel) ?_
 refine WD (op_move rfl) rfl ?_
 refine WL.yes rfl rfl rfl (ltb rfl) rfl (by decide +kernel) ?_
 refine WD (op_len rfl Try.runUnderlying26) rfl ?_
 refine WL.yes rfl rfl rfl (ltb rfl) rfl (by decide +kernel) ?_
 refine WD (op_move rfl) rfl ?_
 refine WL.yes rfl rfl rfl (ltb rfl) rfl (by decide +kernel) ?_
 refine WD (op_len rfl Try.runUnderlying36) rfl ?_
 refine WL.yes rfl rfl rfl (ltb rfl) rfl (by decide +kernel) ?_
 refine WD (op_sub (r := 0) rfl rfl (by decide)) rfl ?_
 refine WL.yes rfl rfl rfl (ltb rfl) rfl (by decide +kernel) ?_
 refine WD (op_eqi rfl rfl) rfl ?_
 refine WD (op_pick_t rfl (by decide +kernel) rfl) rfl ?_
 refine WD (op_move rfl) rfl ?_
 refine WL.yes rfl rfl rfl (ltb rfl) rfl rfl ?_
 refine WD (op_move rfl) rfl ?_
 refine WL.yes rfl rfl rfl (ltb rfl) rfl rfl ?_
 refine WD (op_fge (c := fGe .f32 kw 0) rfl rfl rfl rfl rfl) rfl ?_
 refine WD (op_pick_t rfl rfl rfl) rfl ?_
 refine WD (op_move rfl) rfl ?_
 refine WL.yes rfl rfl rfl (ltb rfl) rfl (and_l8 hk) ?_
 refine WD (op_move rfl) rfl ?_
 refine WL.yes rfl rfl rfl (ltb rfl) rfl (and_l8 hk) ?_
 refine WD (op_flt (c := fLt .f32 kw 1065353216) rfl rfl rfl rfl rfl) rfl ?_
 refine WD (op_pick_t rfl (and_l8 hk) rfl) rfl ?_
 refine WD (op_move rfl) rfl ?_
 refine WL.yes rfl rfl rfl (ltb rfl) rfl (and_r8 hk) ?_
 refine WD (op_move rfl) rfl ?_
 refine WL.yes rfl rfl rfl (ltb rfl) rfl (and_r8 hk) ?_
 refine WD (op_fge (c := fGe .f32 lw 0) rfl rfl rfl rfl rfl) rfl ?_
 refine WD (op_pick_t rfl (and_r8 hk) rfl) rfl ?_
 refine WD (op_move rfl) rfl ?_
 refine WL.yes rfl rfl rfl (ltb rfl) rfl (and_l8 hl) ?_
 refine WD (op_move rfl) rfl ?_
 refine WL.yes rfl rfl rfl (ltb rfl) rfl (and_l8 hl) ?_
 refine WD (op_fle (c := fLe .f32 lw 1065353216) rfl rfl rfl rfl rfl) rfl ?_
 refine WD (op_pick_t rfl (and_l8 hl) rfl) rfl ?_
 refine WD (op_assign rfl) rfl ?_
 refine WL.end (NE.code (CE.seq (CE.seq (CE.region ?_))))
 refine WD (op_assign rfl) rfl ?_
 refine WL.end (NE.code (CE.block ?_))
 refine CE.rounds 2 ?_
 refine RN.one (CE.seq (CE.seq (CE.region ?_)))
 iterate 2 refine WD (op_move rfl) rfl ?_
 refine WD (op_len rfl Try.runUnderlying36) rfl ?_
 refine WD (op_lti rfl rfl) rfl ?_
 refine WD (op_move rfl) rfl ?_
 refine WL.yes rfl rfl rfl (ltb rfl) rfl rfl ?_
 refine WD (op_move rfl) rfl ?_
 refine WD (op_pick_t rfl rfl rfl) rfl ?_
 refine WL.end (NE.code ?_)
 refine CE.cond_t rfl (and_r8 hl) ?_
 refine CE.skip' (NE.code (CE.seq (CE.block (CE.region ?_))))
 iterate 2 refine WD (op_move rfl) rfl ?_
 refine WD (op_indexSl (off' := 0) rfl rfl rfl Try.runUnderlying36 Try.sizeOf2 (by omega) (by omega) rfl) rfl ?_
 refine WD (op_load1 (i := 0) rfl Try.isAgg2 (rl.ext m1) rfl rfl) rfl ?_
 refine WL.call (oc_call (vs := [vI ((ka : Nat) : Int), vI 1, vI 1024]) (cap := []) rfl rfl rfl Try.call55 (c_l00In ((ka : Nat) : Int) (1 : Int) (1024 : Int) w1)) rfl rfl (ltb rfl) ?_
 rintro _ _ ⟨rfl, rfl⟩
 refine WD (op_assign rfl) rfl ?_
 refine WL.end (NE.blk (NE.code (CE.region ?_)))
 refine WD (op_move rfl) rfl ?_
 refine WD (op_add (r := 1) rfl rfl (by decide)) rfl ?_
 refine WD (op_assign rfl) rfl ?_
 refine WL.end (NE.round (RN.one (CE.seq (CE.seq (CE.region ?_)))))
 iterate 2 refine WD (op_move rfl) rfl ?_
 refine WD (op_len rfl Try.runUnderlying36) rfl ?_
 refine WD (op_lti rfl rfl) rfl ?_
 refine WD (op_move rfl) rfl ?_
 refine WL.no rfl rfl rfl (ltb rfl) rfl rfl rfl (ltb rfl) ?_
 refine WD (op_pick_f rfl rfl rfl) rfl ?_
 refine WL.end (NE.code ?_)
 refine CE.cond_f rfl rfl ?_
 refine CE.exit' (XE.exit_then (XE.exit_then (XE.exit_here (NE.code (CE.seq (CE.seq (CE.region ?_)))))))
 refine WD (op_assign rfl) rfl ?_
 refine WL.end (NE.code (CE.block ?_))
 refine CE.rounds 1 ?_
 refine RN.one (CE.seq (CE.seq (CE.region ?_)))
 iterate 2 refine WD (op_move rfl) rfl ?_
 refine WD (op_len rfl Try.runUnderlying26) rfl ?_
 refine WD (op_lti rfl rfl) rfl ?_
 refine WD (op_move rfl) rfl ?_
 refine WL.no rfl rfl rfl (ltb rfl) rfl rfl rfl (ltb rfl) ?_
 refine WD (op_pick_f rfl rfl rfl) rfl ?_
 refine WL.end (NE.code ?_)
 refine CE.cond_f rfl rfl ?_
 refine CE.exit' (XE.exit_then (XE.exit_then (XE.exit_here (NE.code (CE.seq (CE.seq (CE.region ?_)))))))
 refine WD (op_move rfl) rfl ?_
 refine WD (op_not rfl) rfl ?_
 refine WL.end (NE.code ?_)
 refine CE.cond_f rfl (bnot_t ((vIn_t _ _ _).2 ⟨by omega, by omega⟩)) ?_
 refine CE.skip' (NE.code (CE.seq (CE.region ?_)))
 refine WL.op (op_emptySl rfl Try.runUnderlying26 Try.sizeOf27) rfl rfl (ltb rfl) ?_
 rintro _ w2 ⟨rfl, r2, m2, z2⟩
 refine WD (op_move rfl) rfl ?_
 refine WD (op_appN (i := Try.t27) rfl rfl (by decide) Try.underlying26 rfl) rfl ?_
 refine WD (op_move rfl) rfl ?_
 refine WL.call (oc_call (vs := [vF kw]) (cap := []) rfl rfl rfl Try.call56 (c_sOnePoleP kw lkw w2)) rfl rfl (ltb rfl) ?_
 rintro _ w3 ⟨r_1, rfl, h1, h2, m3⟩
 iterate 2 refine WD (op_move rfl) rfl ?_
 refine WD (op_build (qs := [(2, vS w1.heap.size 0 0 0), (3, .agg #[vI 1, vF r_1, vF kw, vF 0, vF 0, vF 0]), (4, .bool op), (5, vF lw), (6, vF 1061158912), (7, vF 3200253952)]) (cells := #[.slice none 0 0, .slice none 0 0, vS w1.heap.size 0 0 0, vI 1, vF r_1, vF kw, vF 0, vF 0, vF 0, .bool op, vF lw, vF 1061158912, vF 3200253952]) rfl (by kernel_rfl)) rfl ?_
 refine WL.op (op_alloc (cs := [.slice none 0 0, .slice none 0 0, .slice none 0 0, vI 0, vF 0, vF 0, vF 0, vF 0, vF 0, .bool false, vF 0, vF 0, vF 0]) Try.zeroValue33 rfl) rfl rfl (ltb rfl) ?_
 rintro _ w4 ⟨rfl, r3, m4, z3⟩
 refine WL.op0 (op_store (i := 0) (cs := [.slice none 0 0, .slice none 0 0, vS w1.heap.size 0 0 0, vI 1, vF r_1, vF kw, vF 0, vF 0, vF 0, .bool op, vF lw, vF 1061158912, vF 3200253952]) rfl rfl rfl Try.sizeOf33 rfl r3 rfl (lB rfl) rfl) rfl rfl ?_
 rintro _ w5 ⟨r4, m5, z4⟩
 have r5 : Row w5 w3.heap.size 0 [.slice none 0 0, .slice none 0 0, vS w1.heap.size 0 0 0, vI 1, vF r_1, vF kw, vF 0, vF 0, vF 0, .bool op, vF lw, vF 1061158912, vF 3200253952] := Row.congr r4 rfl
 refine WL.end (NE.code (CE.seq (CE.seq (CE.region ?_))))
 refine WD (op_assign rfl) rfl ?_
 refine WL.end (NE.code (CE.block ?_))
 refine CE.rounds 2 ?_
 refine RN.one (CE.seq (CE.seq (CE.region ?_)))
 iterate 2 refine WD (op_move rfl) rfl ?_
 refine WD (op_len rfl Try.runUnderlying36) rfl ?_
 refine WD (op_lti rfl rfl) rfl ?_
 refine WL.end (NE.code ?_)
 refine CE.cond_t rfl rfl ?_
 refine CE.skip' (NE.code (CE.seq (CE.block (CE.seq ?_))))
 refine CE.draw (fun _ => none) [0, 1, 2, 3, 4, 5, 6, 7, 8] [9, 10, 11] [] (by kernel_rfl) (by kernel_rfl) ?_
 have md1 : Mod [] w5 w5.drew := (Mod.refl _ _).drew
 generalize w5.drew = w6 at md1 ⊢
 refine DD 0 rfl (by kernel_rfl) rfl (fun wD mD => op_fieldAddr (off' := 0) rfl Try.runUnderlying33 rfl rfl Try.sizeOf25 rfl) ?_
 refine DD 1 rfl (by kernel_rfl) rfl (fun wD mD => op_load1 (i := 0) rfl Try.isAgg25 ((r5.ext md1).ext mD).rng rfl rfl) ?_
 refine DD 2 rfl (by kernel_rfl) rfl (fun wD mD => op_move rfl) ?_
 refine DD 3 rfl (by kernel_rfl) rfl (fun wD mD => op_move rfl) ?_
 refine DD 4 rfl (by kernel_rfl) rfl (fun wD mD => op_indexSl (off' := 0) rfl rfl rfl Try.runUnderlying36 Try.sizeOf2 (by omega) (by omega) rfl) ?_
 refine DD 5 rfl (by kernel_rfl) rfl (fun wD mD => op_load1 (i := 0) rfl Try.isAgg2 (((Rng.youngS rl ((((rl.ext m1).ext m2).ext m3).ext m4) m5 (allge_cons (lT (lT (lT m1.size m2.size) m3.size) lR) allge_nil)).ext md1).ext mD) rfl rfl) ?_
 refine DR.one1 (i := 6) rfl rfl (by kernel_rfl) (.free rfl) rfl (ltb rfl) ?_
 intro w7 m6
 refine Op1.mono (op_makeF (i := Try.t27) rfl rfl rfl rfl Try.underlying26 rfl rfl rfl rfl (by first | omega | decide)) ?_
 rintro _ w8 ⟨rfl, r6, m7, z5⟩
 refine ⟨(((Mod.refl [] w6).nt m6).nt m7), ?_⟩
 refine DR.rebase ?_
 refine DD 7 rfl (by kernel_rfl) rfl (fun wD mD => op_build (qs := [(0, vS w7.heap.size 0 ka ka)]) (cells := #[vS w7.heap.size 0 ka ka, vI 0]) rfl (by kernel_rfl)) ?_
 refine DR.one1 (i := 8) rfl rfl (by kernel_rfl) (.free rfl) rfl (ltb rfl) ?_
 intro w9 m8
 refine Op1.mono (op_buildSl (qs := [(0, .agg #[vS w7.heap.size 0 ka ka, vI 0])]) (cells := #[vS w7.heap.size 0 ka ka, vI 0]) rfl Try.runUnderlying25 Try.sizeOf60 Try.zeroValue60 (by decide) (by decide) (by kernel_rfl)) ?_
 rintro _ w10 ⟨rfl, r7, m9, z6⟩
 refine ⟨(((Mod.refl [] w8).nt m8).nt m9), ?_⟩
 refine DR.done rfl ?_
 intro w11 m10
 refine WO.op rfl (.free rfl) rfl (ltb rfl) (op_app0 (i := Try.t60) (m := 2) (bt := 32) (news := [vS w7.heap.size 0 ka ka, vI 0]) (q := 0) (.inl rfl) rfl rfl Try.underlying25 rfl rfl rfl rfl rfl (by decide) (r7.ext m10).rng rfl rfl (by omega) (by decide)) ?_
 rintro _ w12 ⟨b1, c1, rfl, ow1, ge1, m11⟩
 have r8 : Row w12 b1 0 [vS w7.heap.size 0 ka ka, vI 0] := (Own.row1 ow1).1
 refine WO.det (op_fieldAddr (off' := 0) rfl Try.runUnderlying33 rfl rfl Try.sizeOf25 rfl) rfl (.free rfl) rfl rfl ?_
 have r9 := (((((((r5.ext md1).ext m6).ext m7).ext m8).ext m9).ext m10).ext m11)
 refine WO.op0 rfl (.free rfl) rfl (op_store (i := 0) (cs := [vS b1 0 1 c1]) rfl rfl rfl Try.sizeOf25 rfl r9 rfl (lB rfl) rfl) ?_
 rintro _ w13 ⟨r10, m12, z7⟩
 have r11 : Row w13 w3.heap.size 0 [vS b1 0 1 c1, .slice none 0 0, vS w1.heap.size 0 0 0, vI 1, vF r_1, vF kw, vF 0, vF 0, vF 0, .bool op, vF lw, vF 1061158912, vF 3200253952] := Row.congr r10 rfl
 refine WO.end (NE.code ?_)
 refine CE.draw (fun _ => none) [0, 1, 2, 3, 4, 5, 6, 7, 8] [9, 10, 11] [] (by kernel_rfl) (by kernel_rfl) ?_
 have md2 : Mod [] w13 w13.drew := (Mod.refl _ _).drew
 generalize w13.drew = w14 at md2 ⊢
 refine DD 0 rfl (by kernel_rfl) rfl (fun wD mD => op_fieldAddr (off' := 1) rfl Try.runUnderlying33 rfl rfl Try.sizeOf25 rfl) ?_
 refine DD 1 rfl (by kernel_rfl) rfl (fun wD mD => op_load1 (i := 1) rfl Try.isAgg25 ((r11.ext md2).ext mD).rng rfl rfl) ?_
 refine DD 2 rfl (by kernel_rfl) rfl (fun wD mD => op_move rfl) ?_
 refine DD 3 rfl (by kernel_rfl) rfl (fun wD mD => op_move rfl) ?_
 refine DD 4 rfl (by kernel_rfl) rfl (fun wD mD => op_indexSl (off' := 0) rfl rfl rfl Try.runUnderlying36 Try.sizeOf2 (by omega) (by omega) rfl) ?_
 refine DD 5 rfl (by kernel_rfl) rfl (fun wD mD => op_load1 (i := 0) rfl Try.isAgg2 (((Rng.youngS rl ((((((((Rng.youngS rl ((((rl.ext m1).ext m2).ext m3).ext m4) m5 (allge_cons (lT (lT (lT m1.size m2.size) m3.size) lR) allge_nil)).ext md1).ext m6).ext m7).ext m8).ext m9).ext m10).ext m11) m12 (allge_cons (lT (lT (lT m1.size m2.size) m3.size) lR) allge_nil)).ext md2).ext mD) rfl rfl) ?_
 refine DR.one1 (i := 6) rfl rfl (by kernel_rfl) (.free rfl) rfl (ltb rfl) ?_
 intro w15 m13
 refine Op1.mono (op_makeF (i := Try.t27) rfl rfl rfl rfl Try.underlying26 rfl rfl rfl rfl (by first | omega | decide)) ?_
 rintro _ w16 ⟨rfl, r12, m14, z8⟩
 refine ⟨(((Mod.refl [] w14).nt m13).nt m14), ?_⟩
 refine DR.rebase ?_
 refine DD 7 rfl (by kernel_rfl) rfl (fun wD mD => op_build (qs := [(0, vS w15.heap.size 0 ka ka)]) (cells := #[vS w15.heap.size 0 ka ka, vI 0]) rfl (by kernel_rfl)) ?_
 refine DR.one1 (i := 8) rfl rfl (by kernel_rfl) (.free rfl) rfl (ltb rfl) ?_
 intro w17 m15
 refine Op1.mono (op_buildSl (qs := [(0, .agg #[vS w15.heap.size 0 ka ka, vI 0])]) (cells := #[vS w15.heap.size 0 ka ka, vI 0]) rfl Try.runUnderlying25 Try.sizeOf60 Try.zeroValue60 (by decide) (by decide) (by kernel_rfl)) ?_
 rintro _ w18 ⟨rfl, r13, m16, z9⟩
 refine ⟨(((Mod.refl [] w16).nt m15).nt m16), ?_⟩
 refine DR.done rfl ?_
 intro w19 m17
 refine WO.op rfl (.free rfl) rfl (ltb rfl) (op_app0 (i := Try.t60) (m := 2) (bt := 32) (news := [vS w15.heap.size 0 ka ka, vI 0]) (q := 0) (.inl rfl) rfl rfl Try.underlying25 rfl rfl rfl rfl rfl (by decide) (r13.ext m17).rng rfl rfl (by omega) (by decide)) ?_
 rintro _ w20 ⟨b2, c2, rfl, ow2, ge2, m18⟩
 have r14 : Row w20 b2 0 [vS w15.heap.size 0 ka ka, vI 0] := (Own.row1 ow2).1
 refine WO.det (op_fieldAddr (off' := 1) rfl Try.runUnderlying33 rfl rfl Try.sizeOf25 rfl) rfl (.free rfl) rfl rfl ?_
 have r15 := (((((((r11.ext md2).ext m13).ext m14).ext m15).ext m16).ext m17).ext m18)
 refine WO.op0 rfl (.free rfl) rfl (op_store (i := 1) (cs := [vS b2 0 1 c2]) rfl rfl rfl Try.sizeOf25 rfl r15 rfl (lB rfl) rfl) ?_
 rintro _ w21 ⟨r16, m19, z10⟩
 have r17 : Row w21 w3.heap.size 0 [vS b1 0 1 c1, vS b2 0 1 c2, vS w1.heap.size 0 0 0, vI 1, vF r_1, vF kw, vF 0, vF 0, vF 0, .bool op, vF lw, vF 1061158912, vF 3200253952] := Row.congr r16 rfl
 refine WO.end (NE.blk (NE.code (CE.region ?_)))
 refine WD (op_move rfl) rfl ?_
 refine WD (op_add (r := 1) rfl rfl (by decide)) rfl ?_
 refine WD (op_assign rfl) rfl ?_
 refine WL.end (NE.round (RN.one (CE.seq (CE.seq (CE.region ?_)))))
 iterate 2 refine WD (op_move rfl) rfl ?_
 refine WD (op_len rfl Try.runUnderlying36) rfl ?_
 refine WD (op_lti rfl rfl) rfl ?_
 refine WL.end (NE.code ?_)
 refine CE.cond_f rfl rfl ?_
 refine CE.exit' (XE.exit_then (XE.exit_then (XE.exit_here (NE.code (CE.seq (CE.region ?_))))))
 refine WD (op_loadA (i := 0) (cs := [vS b1 0 1 c1, vS b2 0 1 c2, vS w1.heap.size 0 0 0, vI 1, vF r_1, vF kw, vF 0, vF 0, vF 0, .bool op, vF lw, vF 1061158912, vF 3200253952]) rfl Try.isAgg33 Try.sizeOf33 r17.rng rfl rfl rfl) rfl ?_
 have r18 := ((((((((((((((((((((r1.ext m2).ext m3).ext m4).mod m5 (nC (lE (lL (lL r1.lt (lT m2.size m3.size)) lR)) nN)).ext md1).ext m6).ext m7).ext m8).ext m9).ext m10).ext m11).mod m12 (nC (lE (lL (lL r1.lt (lT m2.size m3.size)) lR)) nN)).ext md2).ext m13).ext m14).ext m15).ext m16).ext m17).ext m18).mod m19 (nC (lE (lL (lL r1.lt (lT m2.size m3.size)) lR)) nN))
 refine WL.op0 (op_store (i := 0) (cs := [vS b1 0 1 c1, vS b2 0 1 c2, vS w1.heap.size 0 0 0, vI 1, vF r_1, vF kw, vF 0, vF 0, vF 0, .bool op, vF lw, vF 1061158912, vF 3200253952]) rfl rfl rfl Try.sizeOf33 rfl r18 rfl (lB rfl) rfl) rfl rfl ?_
 rintro _ w22 ⟨r19, m20, z11⟩
 have r20 : Row w22 w.heap.size 0 [vS b1 0 1 c1, vS b2 0 1 c2, vS w1.heap.size 0 0 0, vI 1, vF r_1, vF kw, vF 0, vF 0, vF 0, .bool op, vF lw, vF 1061158912, vF 3200253952] := Row.congr r19 rfl
 refine WD (op_assign rfl) rfl ?_
 refine WL.end (NE.code (CE.ret' ?_))
 refine XE.leaveT Try.results15 (res_agg (cs := [vS b1 0 1 c1, vS b2 0 1 c2, vS w1.heap.size 0 0 0, vI 1, vF r_1, vF kw, vF 0, vF 0, vF 0, .bool op, vF lw, vF 1061158912, vF 3200253952]) rfl Try.isAgg33 Try.sizeOf33 r20.rng rfl (res_tmp rfl res_nil)) ?_
 have sz1 := (lT (lT (lT (lT (lT (lT m5.size md1.size) m6.size) m7.size) m8.size) m9.size) m10.size)
 have sz2 := (lT (lT (lT (lT (lT (lT (lT (lT (lT m2.size m3.size) m4.size) m5.size) md1.size) m6.size) m7.size) m8.size) m9.size) m10.size)
 have r21 := ((((((((((r8.mod m12 (nC (lG (lL (lL r3.lt sz1) ge1)) nN)).ext md2).ext m13).ext m14).ext m15).ext m16).ext m17).ext m18).mod m19 (nC (lG (lL (lL r3.lt sz1) ge1)) nN)).mod m20 (nC (lG (lL (lL r1.lt sz2) ge1)) nN))
 have sz3 := (lT (lT (lT (lT (lT (lT (lT (lT sz1 m11.size) m12.size) md2.size) m13.size) m14.size) m15.size) m16.size) m17.size)
 have sz4 := (lT (lT (lT (lT (lT (lT (lT (lT sz2 m11.size) m12.size) md2.size) m13.size) m14.size) m15.size) m16.size) m17.size)
 have r22 := ((r14.mod m19 (nC (lG (lL (lL r3.lt sz3) ge2)) nN)).mod m20 (nC (lG (lL (lL r1.lt sz4) ge2)) nN))
 have r23 := ((((((((((((((((((((r2.ext m3).ext m4).mod m5 (nC (lE (lL (lL r2.lt m3.size) lR)) nN)).ext md1).ext m6).ext m7).ext m8).ext m9).ext m10).ext m11).mod m12 (nC (lE (lL (lL r2.lt m3.size) lR)) nN)).ext md2).ext m13).ext m14).ext m15).ext m16).ext m17).ext m18).mod m19 (nC (lE (lL (lL r2.lt m3.size) lR)) nN)).mod m20 (nC (lG (lL r1.lt lR)) nN))
 have sz5 := (lT (lT m5.size md1.size) m6.size)
 have sz6 := (lT (lT (lT (lT (lT m2.size m3.size) m4.size) m5.size) md1.size) m6.size)
 have r24 := ((((((((((((((r6.ext m8).ext m9).ext m10).ext m11).mod m12 (nC (lG (lL (lL r3.lt sz5) lR)) nN)).ext md2).ext m13).ext m14).ext m15).ext m16).ext m17).ext m18).mod m19 (nC (lG (lL (lL r3.lt sz5) lR)) nN)).mod m20 (nC (lG (lL (lL r1.lt sz6) lR)) nN))
 have sz7 := (lT (lT (lT (lT sz1 m11.size) m12.size) md2.size) m13.size)
 have sz8 := (lT (lT (lT (lT sz2 m11.size) m12.size) md2.size) m13.size)
 have r25 := ((((((r12.ext m15).ext m16).ext m17).ext m18).mod m19 (nC (lG (lL (lL r3.lt sz7) lR)) nN)).mod m20 (nC (lG (lL (lL r1.lt sz8) lR)) nN))
 have sz9 := (lT (lT (lT (lT (lT (lT (lT (lT (lT (lT m1.size m2.size) m3.size) m4.size) m5.size) md1.size) m6.size) m7.size) m8.size) m9.size) m10.size)
 have sz10 := (lT (lT (lT (lT (lT (lT (lT (lT sz9 m11.size) m12.size) md2.size) m13.size) m14.size) m15.size) m16.size) m17.size)
 have sz11 := (lT (lT (lT (lT (lT (lT m1.size m2.size) m3.size) m4.size) m5.size) md1.size) m6.size)
 have sz12 := (lT (lT (lT (lT sz9 m11.size) m12.size) md2.size) m13.size)
 have sz13 := (lT (lT (lT (lT (lT (lT m12.size md2.size) m13.size) m14.size) m15.size) m16.size) m17.size)
 have sz14 := (lT (lT (lT (lT (lT (lT (lT (lT m3.size m4.size) m5.size) md1.size) m6.size) m7.size) m8.size) m9.size) m10.size)
 have sz15 := (lT (lT (lT (lT (lT (lT (lT (lT sz14 m11.size) m12.size) md2.size) m13.size) m14.size) m15.size) m16.size) m17.size)
 have sz16 := (lT (lT m8.size m9.size) m10.size)
 have sz17 := (lT (lT (lT (lT (lT (lT (lT (lT sz16 m11.size) m12.size) md2.size) m13.size) m14.size) m15.size) m16.size) m17.size)
 have sz18 := (lT (lT (lT (lT m3.size m4.size) m5.size) md1.size) m6.size)
 have sz19 := (lT (lT m12.size md2.size) m13.size)
 have sz20 := (lT (lT m15.size m16.size) m17.size)
 have sz21 := (lT (lT (lT (lT sz14 m11.size) m12.size) md2.size) m13.size)
 have sz22 := (lT (lT (lT (lT sz16 m11.size) m12.size) md2.size) m13.size)
 have sz23 := (lT (lT m1.size m2.size) m3.size)
 refine ⟨b1, c1, b2, c2, w1.heap.size, 0, r_1, w7.heap.size, w15.heap.size, rfl, ?_, h2, r21, r22, r23, r24, r25, (lT sz9 ge1), (lT sz10 ge2), (lT m1.size lR), (lT sz11 lR), (lT sz12 lR), (lE (lL (lL r8.lt sz13) ge2)), (lG (lL (lL r2.lt sz14) ge1)), (lG (lL (lL r2.lt sz15) ge2)), (lE (lL (lL r6.lt sz16) ge1)), (lE (lL (lL r6.lt sz17) ge2)), (lG (lL (lL r2.lt sz18) lR)), (lG (lL (lL r8.lt sz19) lR)), (lE (lL (lL r12.lt sz20) ge2)), (lG (lL (lL r2.lt sz21) lR)), (lE (lL (lL r6.lt sz22) lR)), (((((((((((((((((((((((Mod.refl [] w).nt m1).nt m2).nt m3).nt m4).then m5 ((aC (.inr (lT sz23 lR)) aN))).nt md1).nt m6).nt m7).nt m8).nt m9).nt m10).nt m11).then m12 ((aC (.inr (lT sz23 lR)) aN))).nt md2).nt m13).nt m14).nt m15).nt m16).nt m17).nt m18).then m19 ((aC (.inr (lT sz23 lR)) aN))).then m20 ((aC (.inr lR) aN)))⟩
 all_goals first | assumption | rfl

theorem c_sNewQ2 (ka : Nat) (kb : Nat) (cl : Nat) (lb : Nat) (cs : Nat) (sb : Nat) (xS : List Nat) (op : Bool) (kw : Nat) (lw : Nat) (h1ka : 1 ≤ ka) (h2ka : ka ≤ 5) (h1kb : 1 ≤ kb) (h2kb : kb ≤ 5) (lkw : kw < wid .f32) (llw : lw < wid .f32) (lnS : xS.length = 1) (hsc : vSc xS 1 = true) (hk : (fGe .f32 kw 0 && fLt .f32 kw 1065353216) = true) (hl : (fGe .f32 lw 0 && fLe .f32 lw 1065353216) = true) (w : World) (rl : Rng w lb 0 [vI ((ka : Nat) : Int), vI ((kb : Nat) : Int)]) (rs : Rng w sb 0 (fl xS)) : Cl Try.prog 15 #[vS lb 0 2 cl, vS sb 0 1 cs, .bool op, vF kw, vF lw] w fun v w' => ∃ (bR' : Nat) (cR' : Nat) (bL' : Nat) (cL' : Nat) (bS' : Nat) (cS' : Nat) (r_ : Nat) (d0' : Nat) (d1' : Nat) (e0' : Nat) (e1' : Nat), v = .tuple #[.agg #[vS bR' 0 2 cR', vS bL' 0 2 cL', vS bS' 0 1 cS', vI 1, vF r_, vF kw, vF 0, vF 0, vF 0, .bool op, vF lw, vF 1061158912, vF 3200253952], vI 0] ∧ (cn .f32 r_ = cn .f32 (fop .sub .f32 1065353216 kw)) ∧ (r_ < wid .f32) ∧ Row w' bR' 0 [vS d0' 0 ka ka, vI 0, vS d1' 0 kb kb, vI 0] ∧ Row w' bL' 0 [vS e0' 0 ka ka, vI 0, vS e1' 0 kb kb, vI 0] ∧ Row w' bS' 0 (fl xS) ∧ Row w' d0' 0 (fl (List.replicate ka 0)) ∧ Row w' d1' 0 (fl (List.replicate kb 0)) ∧ Row w' e0' 0 (fl (List.replicate ka 0)) ∧ Row w' e1' 0 (fl (List.replicate kb 0)) ∧ w.heap.size ≤ bR' ∧ w.heap.size ≤ bL' ∧ w.heap.size ≤ bS' ∧ w.heap.size ≤ d0' ∧ w.heap.size ≤ d1' ∧ w.heap.size ≤ e0' ∧ w.heap.size ≤ e1' ∧ bR' ≠ bL' ∧ bR' ≠ bS' ∧ bL' ≠ bS' ∧ d0' ≠ bR' ∧ d0' ≠ bL' ∧ d0' ≠ bS' ∧ d1' ≠ bR' ∧ d1' ≠ bL' ∧ d1' ≠ bS' ∧ e0' ≠ bR' ∧ e0' ≠ bL' ∧ e0' ≠ bS' ∧ e1' ≠ bR' ∧ e1' ≠ bL' ∧ e1' ≠ bS' ∧ d0' ≠ e0' ∧ d0' ≠ e1' ∧ d1' ≠ e0' ∧ d1' ≠ e1' ∧ d0' ≠ d1' ∧ e0' ≠ e1' ∧ Mod [] w w' := by
 refine Cl.of Try.func15 Try.ntmps15 rfl rfl (ρ := [(0, vS lb 0 2 cl), (1, vS sb 0 1 cs), (2, .bool op), (3, vF kw), (4, vF lw)]) rfl ?_
 refine CE.seq (CE.region ?_)
 refine WL.op (op_alloc (cs := [.slice none 0 0, .slice none 0 0, .slice none 0 0, vI 0, vF 0, vF 0, vF 0, vF 0, vF 0, .bool false, vF 0, vF 0, vF 0]) Try.zeroValue33 rfl) rfl rfl (ltb rfl) ?_
 rintro _ w1 ⟨rfl, r1, m1, z1⟩
 refine WD (op_assign rfl) rfl ?_
 refine WL.end (NE.code (CE.seq (CE.region ?_)))
 refine WD (op_move rfl) rfl ?_
 refine WD (op_len rfl Try.runUnderlying36) rfl ?_
 refine WL.call (oc_call (vs := [vI 2, vI 1, vI 3]) (cap := []) rfl rfl rfl Try.call55 (c_l00In (2 : Int) (1 : Int) (3 : Int) w1)) rfl rfl (ltb rfl) ?_
 rintro _ _ ⟨rfl, rfl⟩
 refine WD (op_move rfl) rfl ?_
 refine WL.yes rfl rfl rfl (ltb rfl) rfl (by decide +kernel) ?_
 refine WD (op_move rfl) rfl ?_
 refine WL.yes rfl rfl rfl (ltb rfl) rfl (by decide +kernel) ?_
 refine WD (op_len rfl Try.runUnderlying26) rfl ?_
 refine WL.yes rfl rfl rfl (ltb rfl) rfl (by decide +kernel) ?_
 refine WD (op_move rfl) rfl ?_
 refine WL.yes rfl rfl rfl (ltb rfl) rfl (by decide +kernel) ?_
 refine WD (op_len rfl Try.runUnderlying36) rfl ?_
 refine WL.yes rfl rfl rfl (ltb rfl) rfl (by decide +kernel) ?_
 refine WD (op_sub (r := 1) rfl rfl (by decide)) rfl ?_
 refine WL.yes rfl rfl rfl (ltb rfl) rfl (by decide +kernel) ?_
 refine WD (op_eqi rfl rfl) rfl ?_
 refine WD (op_pick_t rfl (by decide +kernel) rfl) rfl ?_
 refine WD (op_move rfl) rfl ?_
 refine WL.yes rfl rfl rfl (ltb rfl) rfl rfl ?_
 refine WD (op_move rfl) rfl ?_
 refine WL.yes rfl rfl rfl (ltb rfl) rfl rfl ?_
 refine WD (op_fge (c := fGe .f32 kw 0) rfl rfl rfl rfl rfl) rfl ?_
 refine WD (op_pick_t rfl rfl rfl) rfl ?_
 refine WD (op_move rfl) rfl ?_
 refine WL.yes rfl rfl rfl (ltb rfl) rfl (and_l8 hk) ?_
 refine WD (op_move rfl) rfl ?_
 refine WL.yes rfl rfl rfl (ltb rfl) rfl (and_l8 hk) ?_
 refine WD (op_flt (c := fLt .f32 kw 1065353216) rfl rfl rfl rfl rfl) rfl ?_
 refine WD (op_pick_t rfl (and_l8 hk) rfl) rfl ?_
 refine WD (op_move rfl) rfl ?_
 refine WL.yes rfl rfl rfl (ltb rfl) rfl (and_r8 hk) ?_
 refine WD (op_move rfl) rfl ?_
 refine WL.yes rfl rfl rfl (ltb rfl) rfl (and_r8 hk) ?_
 refine WD (op_fge (c := fGe .f32 lw 0) rfl rfl rfl rfl rfl) rfl ?_
 refine WD (op_pick_t rfl (and_r8 hk) rfl) rfl ?_
 refine WD (op_move rfl) rfl ?_
 refine WL.yes rfl rfl rfl (ltb rfl) rfl (and_l8 hl) ?_
 refine WD (op_move rfl) rfl ?_
 refine WL.yes rfl rfl rfl (ltb rfl) rfl (and_l8 hl) ?_
 refine WD (op_fle (c := fLe .f32 lw 1065353216) rfl rfl rfl rfl rfl) rfl ?_
 refine WD (op_pick_t rfl (and_l8 hl) rfl) rfl ?_
 refine WD (op_assign rfl) rfl ?_
 refine WL.end (NE.code (CE.seq (CE.seq (CE.region ?_))))
 refine WD (op_assign rfl) rfl ?_
 refine WL.end (NE.code (CE.block ?_))
 refine CE.rounds 3 ?_
 refine RN.one (CE.seq (CE.seq (CE.region ?_)))
 iterate 2 refine WD (op_move rfl) rfl ?_
 refine WD (op_len rfl Try.runUnderlying36) rfl ?_
 refine WD (op_lti rfl rfl) rfl ?_
 refine WD (op_move rfl) rfl ?_
 refine WL.yes rfl rfl rfl (ltb rfl) rfl rfl ?_
 refine WD (op_move rfl) rfl ?_
 refine WD (op_pick_t rfl rfl rfl) rfl ?_
 refine WL.end (NE.code ?_)
 refine CE.cond_t rfl (and_r8 hl) ?_
 refine CE.skip' (NE.code (CE.seq (CE.block (CE.region ?_))))
 iterate 2 refine WD (op_move rfl) rfl ?_
 refine WD (op_indexSl (off' := 0) rfl rfl rfl Try.runUnderlying36 Try.sizeOf2 (by omega) (by omega) rfl) rfl ?_
 refine WD (op_load1 (i := 0) rfl Try.isAgg2 (rl.ext m1) rfl rfl) rfl ?_
 refine WL.call (oc_call (vs := [vI ((ka : Nat) : Int), vI 1, vI 1024]) (cap := []) rfl rfl rfl Try.call55 (c_l00In ((ka : Nat) : Int) (1 : Int) (1024 : Int) w1)) rfl rfl (ltb rfl) ?_
 rintro _ _ ⟨rfl, rfl⟩
 refine WD (op_assign rfl) rfl ?_
 refine WL.end (NE.blk (NE.code (CE.region ?_)))
 refine WD (op_move rfl) rfl ?_
 refine WD (op_add (r := 1) rfl rfl (by decide)) rfl ?_
 refine WD (op_assign rfl) rfl ?_
 refine WL.end (NE.round (RN.one (CE.seq (CE.seq (CE.region ?_)))))
 iterate 2 refine WD (op_move rfl) rfl ?_
 refine WD (op_len rfl Try.runUnderlying36) rfl ?_
 refine WD (op_lti rfl rfl) rfl ?_
 refine WD (op_move rfl) rfl ?_
 refine WL.yes rfl rfl rfl (ltb rfl) rfl rfl ?_
 refine WD (op_move rfl) rfl ?_
 refine WD (op_pick_t rfl rfl rfl) rfl ?_
 refine WL.end (NE.code ?_)
 refine CE.cond_t rfl ((vIn_t _ _ _).2 ⟨by omega, by omega⟩) ?_
 refine CE.skip' (NE.code (CE.seq (CE.block (CE.region ?_))))
 iterate 2 refine WD (op_move rfl) rfl ?_
 refine WD (op_indexSl (off' := 1) rfl rfl rfl Try.runUnderlying36 Try.sizeOf2 (by omega) (by omega) rfl) rfl ?_
 refine WD (op_load1 (i := 1) rfl Try.isAgg2 (rl.ext m1) rfl rfl) rfl ?_
 refine WL.call (oc_call (vs := [vI ((kb : Nat) : Int), vI 1, vI 1024]) (cap := []) rfl rfl rfl Try.call55 (c_l00In ((kb : Nat) : Int) (1 : Int) (1024 : Int) w1)) rfl rfl (ltb rfl) ?_
 rintro _ _ ⟨rfl, rfl⟩
 refine WD (op_assign rfl) rfl ?_
 refine WL.end (NE.blk (NE.code (CE.region ?_)))
 refine WD (op_move rfl) rfl ?_
 refine WD (op_add (r := 2) rfl rfl (by decide)) rfl ?_
 refine WD (op_assign rfl) rfl ?_
 refine WL.end (NE.round (RN.one (CE.seq (CE.seq (CE.region ?_)))))
 iterate 2 refine WD (op_move rfl) rfl ?_
 refine WD (op_len rfl Try.runUnderlying36) rfl ?_
 refine WD (op_lti rfl rfl) rfl ?_
 refine WD (op_move rfl) rfl ?_
 refine WL.no rfl rfl rfl (ltb rfl) rfl rfl rfl (ltb rfl) ?_
 refine WD (op_pick_f rfl rfl rfl) rfl ?_
 refine WL.end (NE.code ?_)
 refine CE.cond_f rfl rfl ?_
 refine CE.exit' (XE.exit_then (XE.exit_then (XE.exit_here (NE.code (CE.seq (CE.seq (CE.region ?_)))))))
 refine WD (op_assign rfl) rfl ?_
 refine WL.end (NE.code (CE.block ?_))
 refine CE.rounds 2 ?_
 refine RN.one (CE.seq (CE.seq (CE.region ?_)))
 iterate 2 refine WD (op_move rfl) rfl ?_
 refine WD (op_len rfl Try.runUnderlying26) rfl ?_
 refine WD (op_lti rfl rfl) rfl ?_
 refine WD (op_move rfl) rfl ?_
 refine WL.yes rfl rfl rfl (ltb rfl) rfl rfl ?_
 refine WD (op_move rfl) rfl ?_
 refine WD (op_pick_t rfl rfl rfl) rfl ?_
 refine WL.end (NE.code ?_)
 refine CE.cond_t rfl ((vIn_t _ _ _).2 ⟨by omega, by omega⟩) ?_
 refine CE.skip' (NE.code (CE.seq (CE.block (CE.region ?_))))
 iterate 2 refine WD (op_move rfl) rfl ?_
 refine WD (op_indexSl (off' := 0) rfl rfl rfl Try.runUnderlying26 Try.sizeOf27 (by omega) (by omega) rfl) rfl ?_
 refine WD (op_load1 (i := 0) rfl Try.isAgg27 (rs.ext m1) rfl (fl_get (by have eL : List.length xS = 1 := lnS; omega))) rfl ?_
 refine WD (op_fge (c := fGe .f32 (xS.getD 0 0) 3212836864) rfl rfl rfl rfl rfl) rfl ?_
 refine WD (op_move rfl) rfl ?_
 refine WL.yes rfl rfl rfl (ltb rfl) rfl (vSc_get hsc (i := 0) (by omega)).1 ?_
 refine WD (op_move rfl) rfl ?_
 refine WL.yes rfl rfl rfl (ltb rfl) rfl (vSc_get hsc (i := 0) (by omega)).1 ?_
 refine WD (op_move rfl) rfl ?_
 refine WL.yes rfl rfl rfl (ltb rfl) rfl (vSc_get hsc (i := 0) (by omega)).1 ?_
 refine WD (op_indexSl (off' := 0) rfl rfl rfl Try.runUnderlying26 Try.sizeOf27 (by omega) (by omega) rfl) rfl ?_
 refine WL.yes rfl rfl rfl (ltb rfl) rfl (vSc_get hsc (i := 0) (by omega)).1 ?_
 refine WD (op_load1 (i := 0) rfl Try.isAgg27 (rs.ext m1) rfl (fl_get (by have eL : List.length xS = 1 := lnS; omega))) rfl ?_
 refine WL.yes rfl rfl rfl (ltb rfl) rfl (vSc_get hsc (i := 0) (by omega)).1 ?_
 refine WD (op_fle (c := fLe .f32 (xS.getD 0 0) 1065353216) rfl rfl rfl rfl rfl) rfl ?_
 refine WD (op_pick_t rfl (vSc_get hsc (i := 0) (by omega)).1 rfl) rfl ?_
 refine WD (op_assign rfl) rfl ?_
 refine WL.end (NE.blk (NE.code (CE.region ?_)))
 refine WD (op_move rfl) rfl ?_
 refine WD (op_add (r := 1) rfl rfl (by decide)) rfl ?_
 refine WD (op_assign rfl) rfl ?_
 refine WL.end (NE.round (RN.one (CE.seq (CE.seq (CE.region ?_)))))
 iterate 2 refine WD (op_move rfl) rfl ?_
 refine WD (op_len rfl Try.runUnderlying26) rfl ?_
 refine WD (op_lti rfl rfl) rfl ?_
 refine WD (op_move rfl) rfl ?_
 refine WL.no rfl rfl rfl (ltb rfl) rfl rfl rfl (ltb rfl) ?_
 refine WD (op_pick_f rfl rfl rfl) rfl ?_
 refine WL.end (NE.code ?_)
 refine CE.cond_f rfl rfl ?_
 refine CE.exit' (XE.exit_then (XE.exit_then (XE.exit_here (NE.code (CE.seq (CE.seq (CE.region ?_)))))))
 refine WD (op_move rfl) rfl ?_
 refine WD (op_not rfl) rfl ?_
 refine WL.end (NE.code ?_)
 refine CE.cond_f rfl (bnot_t (vSc_get hsc (i := 0) (by omega)).2) ?_
 refine CE.skip' (NE.code (CE.seq (CE.region ?_)))
 refine WL.op (op_emptySl rfl Try.runUnderlying26 Try.sizeOf27) rfl rfl (ltb rfl) ?_
 rintro _ w2 ⟨rfl, r2, m2, z2⟩
 refine WD (op_move rfl) rfl ?_
 refine WL.op (op_appendF (i := Try.t27) rfl rfl Try.underlying26 rfl rfl rfl rfl ((rs.ext m1).ext m2) lnS (by omega) (by omega)) rfl rfl (ltb rfl) ?_
 rintro _ w3 ⟨b1, c1, rfl, ge1, r3, m3⟩
 refine WD (op_move rfl) rfl ?_
 refine WL.call (oc_call (vs := [vF kw]) (cap := []) rfl rfl rfl Try.call56 (c_sOnePoleP kw lkw w3)) rfl rfl (ltb rfl) ?_
 rintro _ w4 ⟨r_1, rfl, h1, h2, m4⟩
 iterate 2 refine WD (op_move rfl) rfl ?_
 refine WD (op_build (qs := [(2, vS b1 0 1 c1), (3, .agg #[vI 1, vF r_1, vF kw, vF 0, vF 0, vF 0]), (4, .bool op), (5, vF lw), (6, vF 1061158912), (7, vF 3200253952)]) (cells := #[.slice none 0 0, .slice none 0 0, vS b1 0 1 c1, vI 1, vF r_1, vF kw, vF 0, vF 0, vF 0, .bool op, vF lw, vF 1061158912, vF 3200253952]) rfl (by kernel_rfl)) rfl ?_
 refine WL.op (op_alloc (cs := [.slice none 0 0, .slice none 0 0, .slice none 0 0, vI 0, vF 0, vF 0, vF 0, vF 0, vF 0, .bool false, vF 0, vF 0, vF 0]) Try.zeroValue33 rfl) rfl rfl (ltb rfl) ?_
 rintro _ w5 ⟨rfl, r4, m5, z3⟩
 refine WL.op0 (op_store (i := 0) (cs := [.slice none 0 0, .slice none 0 0, vS b1 0 1 c1, vI 1, vF r_1, vF kw, vF 0, vF 0, vF 0, .bool op, vF lw, vF 1061158912, vF 3200253952]) rfl rfl rfl Try.sizeOf33 rfl r4 rfl (lB rfl) rfl) rfl rfl ?_
 rintro _ w6 ⟨r5, m6, z4⟩
 have r6 : Row w6 w4.heap.size 0 [.slice none 0 0, .slice none 0 0, vS b1 0 1 c1, vI 1, vF r_1, vF kw, vF 0, vF 0, vF 0, .bool op, vF lw, vF 1061158912, vF 3200253952] := Row.congr r5 rfl
 refine WL.end (NE.code (CE.seq (CE.seq (CE.region ?_))))
 refine WD (op_assign rfl) rfl ?_
 refine WL.end (NE.code (CE.block ?_))
 refine CE.rounds 3 ?_
 refine RN.one (CE.seq (CE.seq (CE.region ?_)))
 iterate 2 refine WD (op_move rfl) rfl ?_
 refine WD (op_len rfl Try.runUnderlying36) rfl ?_
 refine WD (op_lti rfl rfl) rfl ?_
 refine WL.end (NE.code ?_)
 refine CE.cond_t rfl rfl ?_
 refine CE.skip' (NE.code (CE.seq (CE.block (CE.seq ?_))))
 refine CE.draw (fun _ => none) [0, 1, 2, 3, 4, 5, 6, 7, 8] [9, 10, 11] [] (by kernel_rfl) (by kernel_rfl) ?_
 have md1 : Mod [] w6 w6.drew := (Mod.refl _ _).drew
 generalize w6.drew = w7 at md1 ⊢
 refine DD 0 rfl (by kernel_rfl) rfl (fun wD mD => op_fieldAddr (off' := 0) rfl Try.runUnderlying33 rfl rfl Try.sizeOf25 rfl) ?_
 refine DD 1 rfl (by kernel_rfl) rfl (fun wD mD => op_load1 (i := 0) rfl Try.isAgg25 ((r6.ext md1).ext mD).rng rfl rfl) ?_
 refine DD 2 rfl (by kernel_rfl) rfl (fun wD mD => op_move rfl) ?_
 refine DD 3 rfl (by kernel_rfl) rfl (fun wD mD => op_move rfl) ?_
 refine DD 4 rfl (by kernel_rfl) rfl (fun wD mD => op_indexSl (off' := 0) rfl rfl rfl Try.runUnderlying36 Try.sizeOf2 (by omega) (by omega) rfl) ?_
 refine DD 5 rfl (by kernel_rfl) rfl (fun wD mD => op_load1 (i := 0) rfl Try.isAgg2 (((Rng.youngS rl (((((rl.ext m1).ext m2).ext m3).ext m4).ext m5) m6 (allge_cons (lT (lT (lT (lT m1.size m2.size) m3.size) m4.size) lR) allge_nil)).ext md1).ext mD) rfl rfl) ?_
 refine DR.one1 (i := 6) rfl rfl (by kernel_rfl) (.free rfl) rfl (ltb rfl) ?_
 intro w8 m7
 refine Op1.mono (op_makeF (i := Try.t27) rfl rfl rfl rfl Try.underlying26 rfl rfl rfl rfl (by first | omega | decide)) ?_
 rintro _ w9 ⟨rfl, r7, m8, z5⟩
 refine ⟨(((Mod.refl [] w7).nt m7).nt m8), ?_⟩
 refine DR.rebase ?_
 refine DD 7 rfl (by kernel_rfl) rfl (fun wD mD => op_build (qs := [(0, vS w8.heap.size 0 ka ka)]) (cells := #[vS w8.heap.size 0 ka ka, vI 0]) rfl (by kernel_rfl)) ?_
 refine DR.one1 (i := 8) rfl rfl (by kernel_rfl) (.free rfl) rfl (ltb rfl) ?_
 intro w10 m9
 refine Op1.mono (op_buildSl (qs := [(0, .agg #[vS w8.heap.size 0 ka ka, vI 0])]) (cells := #[vS w8.heap.size 0 ka ka, vI 0]) rfl Try.runUnderlying25 Try.sizeOf60 Try.zeroValue60 (by decide) (by decide) (by kernel_rfl)) ?_
 rintro _ w11 ⟨rfl, r8, m10, z6⟩
 refine ⟨(((Mod.refl [] w9).nt m9).nt m10), ?_⟩
 refine DR.done rfl ?_
 intro w12 m11
 refine WO.op rfl (.free rfl) rfl (ltb rfl) (op_app0 (i := Try.t60) (m := 2) (bt := 32) (news := [vS w8.heap.size 0 ka ka, vI 0]) (q := 0) (.inl rfl) rfl rfl Try.underlying25 rfl rfl rfl rfl rfl (by decide) (r8.ext m11).rng rfl rfl (by omega) (by decide)) ?_
 rintro _ w13 ⟨b2, c2, rfl, ow1, ge2, m12⟩
 have r9 : Row w13 b2 0 [vS w8.heap.size 0 ka ka, vI 0] := (Own.row1 ow1).1
 refine WO.det (op_fieldAddr (off' := 0) rfl Try.runUnderlying33 rfl rfl Try.sizeOf25 rfl) rfl (.free rfl) rfl rfl ?_
 have r10 := (((((((r6.ext md1).ext m7).ext m8).ext m9).ext m10).ext m11).ext m12)
 refine WO.op0 rfl (.free rfl) rfl (op_store (i := 0) (cs := [vS b2 0 1 c2]) rfl rfl rfl Try.sizeOf25 rfl r10 rfl (lB rfl) rfl) ?_
 rintro _ w14 ⟨r11, m13, z7⟩
 have r12 : Row w14 w4.heap.size 0 [vS b2 0 1 c2, .slice none 0 0, vS b1 0 1 c1, vI 1, vF r_1, vF kw, vF 0, vF 0, vF 0, .bool op, vF lw, vF 1061158912, vF 3200253952] := Row.congr r11 rfl
 refine WO.end (NE.code ?_)
 refine CE.draw (fun _ => none) [0, 1, 2, 3, 4, 5, 6, 7, 8] [9, 10, 11] [] (by kernel_rfl) (by kernel_rfl) ?_
 have md2 : Mod [] w14 w14.drew := (Mod.refl _ _).drew
 generalize w14.drew = w15 at md2 ⊢
 refine DD 0 rfl (by kernel_rfl) rfl (fun wD mD => op_fieldAddr (off' := 1) rfl Try.runUnderlying33 rfl rfl Try.sizeOf25 rfl) ?_
 refine DD 1 rfl (by kernel_rfl) rfl (fun wD mD => op_load1 (i := 1) rfl Try.isAgg25 ((r12.ext md2).ext mD).rng rfl rfl) ?_
 refine DD 2 rfl (by kernel_rfl) rfl (fun wD mD => op_move rfl) ?_
 refine DD 3 rfl (by kernel_rfl) rfl (fun wD mD => op_move rfl) ?_
 refine DD 4 rfl (by kernel_rfl) rfl (fun wD mD => op_indexSl (off' := 0) rfl rfl rfl Try.runUnderlying36 Try.sizeOf2 (by omega) (by omega) rfl) ?_
 refine DD 5 rfl (by kernel_rfl) rfl (fun wD mD => op_load1 (i := 0) rfl Try.isAgg2 (((Rng.youngS rl ((((((((Rng.youngS rl (((((rl.ext m1).ext m2).ext m3).ext m4).ext m5) m6 (allge_cons (lT (lT (lT (lT m1.size m2.size) m3.size) m4.size) lR) allge_nil)).ext md1).ext m7).ext m8).ext m9).ext m10).ext m11).ext m12) m13 (allge_cons (lT (lT (lT (lT m1.size m2.size) m3.size) m4.size) lR) allge_nil)).ext md2).ext mD) rfl rfl) ?_
 refine DR.one1 (i := 6) rfl rfl (by kernel_rfl) (.free rfl) rfl (ltb rfl) ?_
 intro w16 m14
 refine Op1.mono (op_makeF (i := Try.t27) rfl rfl rfl rfl Try.underlying26 rfl rfl rfl rfl (by first | omega | decide)) ?_
 rintro _ w17 ⟨rfl, r13, m15, z8⟩
 refine ⟨(((Mod.refl [] w15).nt m14).nt m15), ?_⟩
 refine DR.rebase ?_
 refine DD 7 rfl (by kernel_rfl) rfl (fun wD mD => op_build (qs := [(0, vS w16.heap.size 0 ka ka)]) (cells := #[vS w16.heap.size 0 ka ka, vI 0]) rfl (by kernel_rfl)) ?_
 refine DR.one1 (i := 8) rfl rfl (by kernel_rfl) (.free rfl) rfl (ltb rfl) ?_
 intro w18 m16
 refine Op1.mono (op_buildSl (qs := [(0, .agg #[vS w16.heap.size 0 ka ka, vI 0])]) (cells := #[vS w16.heap.size 0 ka ka, vI 0]) rfl Try.runUnderlying25 Try.sizeOf60 Try.zeroValue60 (by decide) (by decide) (by kernel_rfl)) ?_
 rintro _ w19 ⟨rfl, r14, m17, z9⟩
 refine ⟨(((Mod.refl [] w17).nt m16).nt m17), ?_⟩
 refine DR.done rfl ?_
 intro w20 m18
 refine WO.op rfl (.free rfl) rfl (ltb rfl) (op_app0 (i := Try.t60) (m := 2) (bt := 32) (news := [vS w16.heap.size 0 ka ka, vI 0]) (q := 0) (.inl rfl) rfl rfl Try.underlying25 rfl rfl rfl rfl rfl (by decide) (r14.ext m18).rng rfl rfl (by omega) (by decide)) ?_
 rintro _ w21 ⟨b3, c3, rfl, ow2, ge3, m19⟩
 have r15 : Row w21 b3 0 [vS w16.heap.size 0 ka ka, vI 0] := (Own.row1 ow2).1
 refine WO.det (op_fieldAddr (off' := 1) rfl Try.runUnderlying33 rfl rfl Try.sizeOf25 rfl) rfl (.free rfl) rfl rfl ?_
 have r16 := (((((((r12.ext md2).ext m14).ext m15).ext m16).ext m17).ext m18).ext m19)
 refine WO.op0 rfl (.free rfl) rfl (op_store (i := 1) (cs := [vS b3 0 1 c3]) rfl rfl rfl Try.sizeOf25 rfl r16 rfl (lB rfl) rfl) ?_
 rintro _ w22 ⟨r17, m20, z10⟩
 have r18 : Row w22 w4.heap.size 0 [vS b2 0 1 c2, vS b3 0 1 c3, vS b1 0 1 c1, vI 1, vF r_1, vF kw, vF 0, vF 0, vF 0, .bool op, vF lw, vF 1061158912, vF 3200253952] := Row.congr r17 rfl
 refine WO.end (NE.blk (NE.code (CE.region ?_)))
 refine WD (op_move rfl) rfl ?_
 refine WD (op_add (r := 1) rfl rfl (by decide)) rfl ?_
 refine WD (op_assign rfl) rfl ?_
 refine WL.end (NE.round (RN.one (CE.seq (CE.seq (CE.region ?_)))))
 iterate 2 refine WD (op_move rfl) rfl ?_
 refine WD (op_len rfl Try.runUnderlying36) rfl ?_
 refine WD (op_lti rfl rfl) rfl ?_
 refine WL.end (NE.code ?_)
 refine CE.cond_t rfl rfl ?_
 refine CE.skip' (NE.code (CE.seq (CE.block (CE.seq ?_))))
 refine CE.draw (fun _ => none) [0, 1, 2, 3, 4, 5, 6, 7, 8] [9, 10, 11] [] (by kernel_rfl) (by kernel_rfl) ?_
 have md3 : Mod [] w22 w22.drew := (Mod.refl _ _).drew
 generalize w22.drew = w23 at md3 ⊢
 refine DD 0 rfl (by kernel_rfl) rfl (fun wD mD => op_fieldAddr (off' := 0) rfl Try.runUnderlying33 rfl rfl Try.sizeOf25 rfl) ?_
 refine DD 1 rfl (by kernel_rfl) rfl (fun wD mD => op_load1 (i := 0) rfl Try.isAgg25 ((r18.ext md3).ext mD).rng rfl rfl) ?_
 refine DD 2 rfl (by kernel_rfl) rfl (fun wD mD => op_move rfl) ?_
 refine DD 3 rfl (by kernel_rfl) rfl (fun wD mD => op_move rfl) ?_
 refine DD 4 rfl (by kernel_rfl) rfl (fun wD mD => op_indexSl (off' := 1) rfl rfl rfl Try.runUnderlying36 Try.sizeOf2 (by omega) (by omega) rfl) ?_
 refine DD 5 rfl (by kernel_rfl) rfl (fun wD mD => op_load1 (i := 1) rfl Try.isAgg2 (((Rng.youngS rl ((((((((Rng.youngS rl ((((((((Rng.youngS rl (((((rl.ext m1).ext m2).ext m3).ext m4).ext m5) m6 (allge_cons (lT (lT (lT (lT m1.size m2.size) m3.size) m4.size) lR) allge_nil)).ext md1).ext m7).ext m8).ext m9).ext m10).ext m11).ext m12) m13 (allge_cons (lT (lT (lT (lT m1.size m2.size) m3.size) m4.size) lR) allge_nil)).ext md2).ext m14).ext m15).ext m16).ext m17).ext m18).ext m19) m20 (allge_cons (lT (lT (lT (lT m1.size m2.size) m3.size) m4.size) lR) allge_nil)).ext md3).ext mD) rfl rfl) ?_
 refine DR.one1 (i := 6) rfl rfl (by kernel_rfl) (.free rfl) rfl (ltb rfl) ?_
 intro w24 m21
 refine Op1.mono (op_makeF (i := Try.t27) rfl rfl rfl rfl Try.underlying26 rfl rfl rfl rfl (by first | omega | decide)) ?_
 rintro _ w25 ⟨rfl, r19, m22, z11⟩
 refine ⟨(((Mod.refl [] w23).nt m21).nt m22), ?_⟩
 refine DR.rebase ?_
 refine DD 7 rfl (by kernel_rfl) rfl (fun wD mD => op_build (qs := [(0, vS w24.heap.size 0 kb kb)]) (cells := #[vS w24.heap.size 0 kb kb, vI 0]) rfl (by kernel_rfl)) ?_
 refine DR.one1 (i := 8) rfl rfl (by kernel_rfl) (.free rfl) rfl (ltb rfl) ?_
 intro w26 m23
 refine Op1.mono (op_buildSl (qs := [(0, .agg #[vS w24.heap.size 0 kb kb, vI 0])]) (cells := #[vS w24.heap.size 0 kb kb, vI 0]) rfl Try.runUnderlying25 Try.sizeOf60 Try.zeroValue60 (by decide) (by decide) (by kernel_rfl)) ?_
 rintro _ w27 ⟨rfl, r20, m24, z12⟩
 refine ⟨(((Mod.refl [] w25).nt m23).nt m24), ?_⟩
 refine DR.done rfl ?_
 intro w28 m25
 have sz1 := (lT (lT (lT (lT (lT (lT m6.size md1.size) m7.size) m8.size) m9.size) m10.size) m11.size)
 have sz2 := (lT (lT (lT (lT (lT (lT (lT (lT (lT (lT (lT (lT (lT (lT (lT m12.size m13.size) md2.size) m14.size) m15.size) m16.size) m17.size) m18.size) m19.size) m20.size) md3.size) m21.size) m22.size) m23.size) m24.size) m25.size)
 refine WO.op rfl (.free rfl) rfl (ltb rfl) (op_appk (i := Try.t60) (m := 2) (bt := 32) (news := [vS w24.heap.size 0 kb kb, vI 0]) (q := 0) rfl rfl Try.underlying25 rfl rfl rfl rfl rfl (by decide) (r20.ext m25).rng rfl rfl (Own.modb (Own.modb (Own.modb (Own.modb (Own.modb (Own.modb (Own.modb (Own.modb (Own.modb (Own.modb (Own.modb (Own.modb (Own.modb (Own.modb (Own.modb ow1 m13 (nC (lG (lL (lL r4.lt sz1) ge2)) nN)) md2 nN) m14 nN) m15 nN) m16 nN) m17 nN) m18 nN) m19 nN) m20 (nC (lG (lL (lL r4.lt sz1) ge2)) nN)) md3 nN) m21 nN) m22 nN) m23 nN) m24 nN) m25 nN) sz2 (by omega) (by omega) (by decide)) ?_
 have sz3 := (lT (lT (lT (lT (lT (lT (lT (lT (lT (lT (lT m1.size m2.size) m3.size) m4.size) m5.size) m6.size) md1.size) m7.size) m8.size) m9.size) m10.size) m11.size)
 have sz4 := (lT (lT (lT (lT (lT (lT (lT (lT (lT (lT (lT (lT (lT (lT (lT (lT sz3 m12.size) m13.size) md2.size) m14.size) m15.size) m16.size) m17.size) m18.size) m19.size) m20.size) md3.size) m21.size) m22.size) m23.size) m24.size) m25.size)
 have sz5 := (lT (lT (lT (lT (lT (lT (lT (lT (lT (lT m2.size m3.size) m4.size) m5.size) m6.size) md1.size) m7.size) m8.size) m9.size) m10.size) m11.size)
 have sz6 := (lT (lT (lT (lT (lT (lT (lT (lT (lT (lT (lT (lT (lT (lT (lT (lT sz5 m12.size) m13.size) md2.size) m14.size) m15.size) m16.size) m17.size) m18.size) m19.size) m20.size) md3.size) m21.size) m22.size) m23.size) m24.size) m25.size)
 have sz7 := (lT (lT (lT (lT (lT (lT (lT (lT (lT m3.size m4.size) m5.size) m6.size) md1.size) m7.size) m8.size) m9.size) m10.size) m11.size)
 have sz8 := (lT (lT (lT (lT (lT (lT (lT (lT (lT (lT (lT (lT (lT (lT (lT (lT sz7 m12.size) m13.size) md2.size) m14.size) m15.size) m16.size) m17.size) m18.size) m19.size) m20.size) md3.size) m21.size) m22.size) m23.size) m24.size) m25.size)
 have sz9 := (lT (lT (lT (lT (lT (lT (lT (lT m4.size m5.size) m6.size) md1.size) m7.size) m8.size) m9.size) m10.size) m11.size)
 have sz10 := (lT (lT (lT (lT (lT (lT (lT (lT (lT (lT (lT (lT (lT (lT (lT (lT sz9 m12.size) m13.size) md2.size) m14.size) m15.size) m16.size) m17.size) m18.size) m19.size) m20.size) md3.size) m21.size) m22.size) m23.size) m24.size) m25.size)
 have sz11 := (lT (lT (lT (lT (lT (lT (lT (lT (lT (lT (lT (lT (lT (lT (lT (lT sz1 m12.size) m13.size) md2.size) m14.size) m15.size) m16.size) m17.size) m18.size) m19.size) m20.size) md3.size) m21.size) m22.size) m23.size) m24.size) m25.size)
 have sz12 := (lT (lT m9.size m10.size) m11.size)
 have sz13 := (lT (lT (lT (lT (lT (lT (lT (lT (lT (lT (lT (lT (lT (lT (lT (lT sz12 m12.size) m13.size) md2.size) m14.size) m15.size) m16.size) m17.size) m18.size) m19.size) m20.size) md3.size) m21.size) m22.size) m23.size) m24.size) m25.size)
 have sz14 := (lT (lT (lT (lT (lT (lT (lT (lT (lT (lT (lT (lT (lT (lT (lT (lT m11.size m12.size) m13.size) md2.size) m14.size) m15.size) m16.size) m17.size) m18.size) m19.size) m20.size) md3.size) m21.size) m22.size) m23.size) m24.size) m25.size)
 have sz15 := (lT (lT m13.size md2.size) m14.size)
 have sz16 := (lT (lT (lT (lT (lT (lT (lT (lT (lT (lT m16.size m17.size) m18.size) m19.size) m20.size) md3.size) m21.size) m22.size) m23.size) m24.size) m25.size)
 have sz17 := (lT (lT sz15 m15.size) m16.size)
 have sz18 := (lT (lT (lT (lT (lT (lT (lT (lT m18.size m19.size) m20.size) md3.size) m21.size) m22.size) m23.size) m24.size) m25.size)
 have sz19 := (lT (lT sz17 m17.size) m18.size)
 have sz20 := (lT (lT (lT (lT (lT (lT m20.size md3.size) m21.size) m22.size) m23.size) m24.size) m25.size)
 have sz21 := (lT (lT (lT (lT sz19 m19.size) m20.size) md3.size) m21.size)
 have sz22 := (lT (lT m23.size m24.size) m25.size)
 have sz23 := (lT (lT sz21 m22.size) m23.size)
 rintro _ w29 ⟨b4, c4, rfl, ow3, hb1, m26⟩
 have r21 : Row w29 b4 0 [vS w8.heap.size 0 ka ka, vI 0, vS w24.heap.size 0 kb kb, vI 0] := (Own.row1 ow3).1
 refine WO.det (op_fieldAddr (off' := 0) rfl Try.runUnderlying33 rfl rfl Try.sizeOf25 rfl) rfl (.free rfl) rfl rfl ?_
 have r22 := (((((((r18.ext md3).ext m21).ext m22).ext m23).ext m24).ext m25).mod m26 (nC (lE (lL (lL r4.lt sz1) ge2)) nN))
 refine WO.op0 rfl (.free rfl) rfl (op_store (i := 0) (cs := [vS b4 0 2 c4]) rfl rfl rfl Try.sizeOf25 rfl r22 rfl (lB rfl) rfl) ?_
 rintro _ w30 ⟨r23, m27, z13⟩
 have r24 : Row w30 w4.heap.size 0 [vS b4 0 2 c4, vS b3 0 1 c3, vS b1 0 1 c1, vI 1, vF r_1, vF kw, vF 0, vF 0, vF 0, .bool op, vF lw, vF 1061158912, vF 3200253952] := Row.congr r23 rfl
 refine WO.end (NE.code ?_)
 refine CE.draw (fun _ => none) [0, 1, 2, 3, 4, 5, 6, 7, 8] [9, 10, 11] [] (by kernel_rfl) (by kernel_rfl) ?_
 have md4 : Mod [] w30 w30.drew := (Mod.refl _ _).drew
 generalize w30.drew = w31 at md4 ⊢
 refine DD 0 rfl (by kernel_rfl) rfl (fun wD mD => op_fieldAddr (off' := 1) rfl Try.runUnderlying33 rfl rfl Try.sizeOf25 rfl) ?_
 refine DD 1 rfl (by kernel_rfl) rfl (fun wD mD => op_load1 (i := 1) rfl Try.isAgg25 ((r24.ext md4).ext mD).rng rfl rfl) ?_
 refine DD 2 rfl (by kernel_rfl) rfl (fun wD mD => op_move rfl) ?_
 refine DD 3 rfl (by kernel_rfl) rfl (fun wD mD => op_move rfl) ?_
 refine DD 4 rfl (by kernel_rfl) rfl (fun wD mD => op_indexSl (off' := 1) rfl rfl rfl Try.runUnderlying36 Try.sizeOf2 (by omega) (by omega) rfl) ?_
 refine DD 5 rfl (by kernel_rfl) rfl (fun wD mD => op_load1 (i := 1) rfl Try.isAgg2 (((Rng.youngS rl (Rng.youngS rl (((((((Rng.youngS rl ((((((((Rng.youngS rl ((((((((Rng.youngS rl (((((rl.ext m1).ext m2).ext m3).ext m4).ext m5) m6 (allge_cons (lT (lT (lT (lT m1.size m2.size) m3.size) m4.size) lR) allge_nil)).ext md1).ext m7).ext m8).ext m9).ext m10).ext m11).ext m12) m13 (allge_cons (lT (lT (lT (lT m1.size m2.size) m3.size) m4.size) lR) allge_nil)).ext md2).ext m14).ext m15).ext m16).ext m17).ext m18).ext m19) m20 (allge_cons (lT (lT (lT (lT m1.size m2.size) m3.size) m4.size) lR) allge_nil)).ext md3).ext m21).ext m22).ext m23).ext m24).ext m25) m26 (allge_cons (lT sz3 ge2) allge_nil)) m27 (allge_cons (lT (lT (lT (lT m1.size m2.size) m3.size) m4.size) lR) allge_nil)).ext md4).ext mD) rfl rfl) ?_
 refine DR.one1 (i := 6) rfl rfl (by kernel_rfl) (.free rfl) rfl (ltb rfl) ?_
 intro w32 m28
 refine Op1.mono (op_makeF (i := Try.t27) rfl rfl rfl rfl Try.underlying26 rfl rfl rfl rfl (by first | omega | decide)) ?_
 rintro _ w33 ⟨rfl, r25, m29, z14⟩
 refine ⟨(((Mod.refl [] w31).nt m28).nt m29), ?_⟩
 refine DR.rebase ?_
 refine DD 7 rfl (by kernel_rfl) rfl (fun wD mD => op_build (qs := [(0, vS w32.heap.size 0 kb kb)]) (cells := #[vS w32.heap.size 0 kb kb, vI 0]) rfl (by kernel_rfl)) ?_
 refine DR.one1 (i := 8) rfl rfl (by kernel_rfl) (.free rfl) rfl (ltb rfl) ?_
 intro w34 m30
 refine Op1.mono (op_buildSl (qs := [(0, .agg #[vS w32.heap.size 0 kb kb, vI 0])]) (cells := #[vS w32.heap.size 0 kb kb, vI 0]) rfl Try.runUnderlying25 Try.sizeOf60 Try.zeroValue60 (by decide) (by decide) (by kernel_rfl)) ?_
 rintro _ w35 ⟨rfl, r26, m31, z15⟩
 refine ⟨(((Mod.refl [] w33).nt m30).nt m31), ?_⟩
 refine DR.done rfl ?_
 intro w36 m32
 have sz24 := (lT (lT (lT (lT (lT (lT (lT (lT sz1 m12.size) m13.size) md2.size) m14.size) m15.size) m16.size) m17.size) m18.size)
 have sz25 := (lT (lT (lT (lT (lT (lT (lT (lT (lT (lT (lT (lT (lT (lT (lT m19.size m20.size) md3.size) m21.size) m22.size) m23.size) m24.size) m25.size) m26.size) m27.size) md4.size) m28.size) m29.size) m30.size) m31.size) m32.size)
 refine WO.op rfl (.free rfl) rfl (ltb rfl) (op_appk (i := Try.t60) (m := 2) (bt := 32) (news := [vS w32.heap.size 0 kb kb, vI 0]) (q := 0) rfl rfl Try.underlying25 rfl rfl rfl rfl rfl (by decide) (r26.ext m32).rng rfl rfl (Own.modb (Own.modb (Own.modb (Own.modb (Own.modb (Own.modb (Own.modb (Own.modb (Own.modb (Own.modb (Own.modb (Own.modb (Own.modb (Own.modb (Own.modb ow2 m20 (nC (lG (lL (lL r4.lt sz24) ge3)) nN)) md3 nN) m21 nN) m22 nN) m23 nN) m24 nN) m25 nN) m26 (nC (lG (lL (lL r9.lt sz19) ge3)) nN)) m27 (nC (lG (lL (lL r4.lt sz24) ge3)) nN)) md4 nN) m28 nN) m29 nN) m30 nN) m31 nN) m32 nN) sz25 (by omega) (by omega) (by decide)) ?_
 have sz26 := (lT (lT (lT (lT (lT (lT (lT (lT sz3 m12.size) m13.size) md2.size) m14.size) m15.size) m16.size) m17.size) m18.size)
 have sz27 := (lT (lT (lT (lT (lT (lT (lT (lT sz4 m26.size) m27.size) md4.size) m28.size) m29.size) m30.size) m31.size) m32.size)
 have sz28 := (lT (lT (lT (lT (lT (lT (lT (lT sz5 m12.size) m13.size) md2.size) m14.size) m15.size) m16.size) m17.size) m18.size)
 have sz29 := (lT (lT (lT (lT (lT (lT (lT (lT sz6 m26.size) m27.size) md4.size) m28.size) m29.size) m30.size) m31.size) m32.size)
 have sz30 := (lT (lT (lT (lT (lT (lT (lT (lT sz7 m12.size) m13.size) md2.size) m14.size) m15.size) m16.size) m17.size) m18.size)
 have sz31 := (lT (lT (lT (lT (lT (lT (lT (lT sz8 m26.size) m27.size) md4.size) m28.size) m29.size) m30.size) m31.size) m32.size)
 have sz32 := (lT (lT (lT (lT (lT (lT (lT (lT sz9 m12.size) m13.size) md2.size) m14.size) m15.size) m16.size) m17.size) m18.size)
 have sz33 := (lT (lT (lT (lT (lT (lT (lT (lT sz10 m26.size) m27.size) md4.size) m28.size) m29.size) m30.size) m31.size) m32.size)
 have sz34 := (lT (lT (lT (lT (lT (lT (lT (lT sz11 m26.size) m27.size) md4.size) m28.size) m29.size) m30.size) m31.size) m32.size)
 have sz35 := (lT (lT (lT (lT (lT (lT (lT (lT sz12 m12.size) m13.size) md2.size) m14.size) m15.size) m16.size) m17.size) m18.size)
 have sz36 := (lT (lT (lT (lT (lT (lT (lT (lT sz13 m26.size) m27.size) md4.size) m28.size) m29.size) m30.size) m31.size) m32.size)
 have sz37 := (lT (lT (lT (lT (lT (lT (lT (lT m11.size m12.size) m13.size) md2.size) m14.size) m15.size) m16.size) m17.size) m18.size)
 have sz38 := (lT (lT (lT (lT (lT (lT (lT (lT sz14 m26.size) m27.size) md4.size) m28.size) m29.size) m30.size) m31.size) m32.size)
 have sz39 := (lT (lT (lT (lT (lT (lT (lT (lT (lT (lT sz23 m24.size) m25.size) m26.size) m27.size) md4.size) m28.size) m29.size) m30.size) m31.size) m32.size)
 have sz40 := (lT (lT m16.size m17.size) m18.size)
 have sz41 := (lT (lT (lT (lT (lT (lT (lT (lT sz16 m26.size) m27.size) md4.size) m28.size) m29.size) m30.size) m31.size) m32.size)
 have sz42 := (lT (lT (lT (lT (lT (lT (lT (lT sz18 m26.size) m27.size) md4.size) m28.size) m29.size) m30.size) m31.size) m32.size)
 have sz43 := (lT (lT m20.size md3.size) m21.size)
 have sz44 := (lT (lT (lT (lT (lT (lT (lT (lT sz22 m26.size) m27.size) md4.size) m28.size) m29.size) m30.size) m31.size) m32.size)
 have sz45 := (lT (lT sz43 m22.size) m23.size)
 have sz46 := (lT (lT (lT (lT (lT (lT (lT (lT m25.size m26.size) m27.size) md4.size) m28.size) m29.size) m30.size) m31.size) m32.size)
 have sz47 := (lT (lT (lT (lT (lT (lT m27.size md4.size) m28.size) m29.size) m30.size) m31.size) m32.size)
 have sz48 := (lT (lT (lT (lT sz20 m26.size) m27.size) md4.size) m28.size)
 have sz49 := (lT (lT m30.size m31.size) m32.size)
 have sz50 := (lT (lT sz48 m29.size) m30.size)
 rintro _ w37 ⟨b5, c5, rfl, ow4, hb2, m33⟩
 have r27 : Row w37 b5 0 [vS w16.heap.size 0 ka ka, vI 0, vS w32.heap.size 0 kb kb, vI 0] := (Own.row1 ow4).1
 refine WO.det (op_fieldAddr (off' := 1) rfl Try.runUnderlying33 rfl rfl Try.sizeOf25 rfl) rfl (.free rfl) rfl rfl ?_
 have r28 := (((((((r24.ext md4).ext m28).ext m29).ext m30).ext m31).ext m32).mod m33 (nC (lE (lL (lL r4.lt sz24) ge3)) nN))
 refine WO.op0 rfl (.free rfl) rfl (op_store (i := 1) (cs := [vS b5 0 2 c5]) rfl rfl rfl Try.sizeOf25 rfl r28 rfl (lB rfl) rfl) ?_
 rintro _ w38 ⟨r29, m34, z16⟩
 have r30 : Row w38 w4.heap.size 0 [vS b4 0 2 c4, vS b5 0 2 c5, vS b1 0 1 c1, vI 1, vF r_1, vF kw, vF 0, vF 0, vF 0, .bool op, vF lw, vF 1061158912, vF 3200253952] := Row.congr r29 rfl
 refine WO.end (NE.blk (NE.code (CE.region ?_)))
 refine WD (op_move rfl) rfl ?_
 refine WD (op_add (r := 2) rfl rfl (by decide)) rfl ?_
 refine WD (op_assign rfl) rfl ?_
 refine WL.end (NE.round (RN.one (CE.seq (CE.seq (CE.region ?_)))))
 iterate 2 refine WD (op_move rfl) rfl ?_
 refine WD (op_len rfl Try.runUnderlying36) rfl ?_
 refine WD (op_lti rfl rfl) rfl ?_
 refine WL.end (NE.code ?_)
 refine CE.cond_f rfl rfl ?_
 refine CE.exit' (XE.exit_then (XE.exit_then (XE.exit_here (NE.code (CE.seq (CE.region ?_))))))
 refine WD (op_loadA (i := 0) (cs := [vS b4 0 2 c4, vS b5 0 2 c5, vS b1 0 1 c1, vI 1, vF r_1, vF kw, vF 0, vF 0, vF 0, .bool op, vF lw, vF 1061158912, vF 3200253952]) rfl Try.isAgg33 Try.sizeOf33 r30.rng rfl rfl rfl) rfl ?_
 have sz51 := (lT (lT m2.size m3.size) m4.size)
 have r31 := (((((((((((((((((((((((((((((((((((((r1.ext m2).ext m3).ext m4).ext m5).mod m6 (nC (lE (lL (lL r1.lt sz51) lR)) nN)).ext md1).ext m7).ext m8).ext m9).ext m10).ext m11).ext m12).mod m13 (nC (lE (lL (lL r1.lt sz51) lR)) nN)).ext md2).ext m14).ext m15).ext m16).ext m17).ext m18).ext m19).mod m20 (nC (lE (lL (lL r1.lt sz51) lR)) nN)).ext md3).ext m21).ext m22).ext m23).ext m24).ext m25).mod m26 (nC (lE (lL (lL r1.lt sz5) ge2)) nN)).mod m27 (nC (lE (lL (lL r1.lt sz51) lR)) nN)).ext md4).ext m28).ext m29).ext m30).ext m31).ext m32).mod m33 (nC (lE (lL (lL r1.lt sz28) ge3)) nN)).mod m34 (nC (lE (lL (lL r1.lt sz51) lR)) nN))
 refine WL.op0 (op_store (i := 0) (cs := [vS b4 0 2 c4, vS b5 0 2 c5, vS b1 0 1 c1, vI 1, vF r_1, vF kw, vF 0, vF 0, vF 0, .bool op, vF lw, vF 1061158912, vF 3200253952]) rfl rfl rfl Try.sizeOf33 rfl r31 rfl (lB rfl) rfl) rfl rfl ?_
 rintro _ w39 ⟨r32, m35, z17⟩
 have r33 : Row w39 w.heap.size 0 [vS b4 0 2 c4, vS b5 0 2 c5, vS b1 0 1 c1, vI 1, vF r_1, vF kw, vF 0, vF 0, vF 0, .bool op, vF lw, vF 1061158912, vF 3200253952] := Row.congr r32 rfl
 refine WD (op_assign rfl) rfl ?_
 refine WL.end (NE.code (CE.ret' ?_))
 refine XE.leaveT Try.results15 (res_agg (cs := [vS b4 0 2 c4, vS b5 0 2 c5, vS b1 0 1 c1, vI 1, vF r_1, vF kw, vF 0, vF 0, vF 0, .bool op, vF lw, vF 1061158912, vF 3200253952]) rfl Try.isAgg33 Try.sizeOf33 r33.rng rfl (res_tmp rfl res_nil)) ?_
 have r34 := ((((((((((r21.mod m27 (nC (Ne.symm (own_ne hb1 (lE (lL (lL r4.lt sz1) ge2)) (lL r4.lt sz11))) nN)).ext md4).ext m28).ext m29).ext m30).ext m31).ext m32).mod m33 (nC (Ne.symm (own_ne hb1 (lG (lL (lL r9.lt sz19) ge3)) (lL r15.lt sz20))) nN)).mod m34 (nC (Ne.symm (own_ne hb1 (lE (lL (lL r4.lt sz1) ge2)) (lL r4.lt sz11))) nN)).mod m35 (nC (Ne.symm (own_ne hb1 (lE (lL (lL r1.lt sz5) ge2)) (lL r1.lt sz6))) nN))
 have r35 := ((r27.mod m34 (nC (Ne.symm (own_ne hb2 (lE (lL (lL r4.lt sz24) ge3)) (lL r4.lt sz34))) nN)).mod m35 (nC (Ne.symm (own_ne hb2 (lE (lL (lL r1.lt sz28) ge3)) (lL r1.lt sz29))) nN))
 have r36 := ((((((((((((((((((((((((((((((((((((r3.ext m4).ext m5).mod m6 (nC (lE (lL (lL r3.lt m4.size) lR)) nN)).ext md1).ext m7).ext m8).ext m9).ext m10).ext m11).ext m12).mod m13 (nC (lE (lL (lL r3.lt m4.size) lR)) nN)).ext md2).ext m14).ext m15).ext m16).ext m17).ext m18).ext m19).mod m20 (nC (lE (lL (lL r3.lt m4.size) lR)) nN)).ext md3).ext m21).ext m22).ext m23).ext m24).ext m25).mod m26 (nC (lE (lL (lL r3.lt sz9) ge2)) nN)).mod m27 (nC (lE (lL (lL r3.lt m4.size) lR)) nN)).ext md4).ext m28).ext m29).ext m30).ext m31).ext m32).mod m33 (nC (lE (lL (lL r3.lt sz32) ge3)) nN)).mod m34 (nC (lE (lL (lL r3.lt m4.size) lR)) nN)).mod m35 (nC (lG (lL (lL r1.lt m2.size) ge1)) nN))
 have sz52 := (lT (lT m6.size md1.size) m7.size)
 have sz53 := (lT (lT (lT (lT sz51 m5.size) m6.size) md1.size) m7.size)
 have r37 := ((((((((((((((((((((((((((((((r7.ext m9).ext m10).ext m11).ext m12).mod m13 (nC (lG (lL (lL r4.lt sz52) lR)) nN)).ext md2).ext m14).ext m15).ext m16).ext m17).ext m18).ext m19).mod m20 (nC (lG (lL (lL r4.lt sz52) lR)) nN)).ext md3).ext m21).ext m22).ext m23).ext m24).ext m25).mod m26 (nC (lE (lL (lL r7.lt sz12) ge2)) nN)).mod m27 (nC (lG (lL (lL r4.lt sz52) lR)) nN)).ext md4).ext m28).ext m29).ext m30).ext m31).ext m32).mod m33 (nC (lE (lL (lL r7.lt sz35) ge3)) nN)).mod m34 (nC (lG (lL (lL r4.lt sz52) lR)) nN)).mod m35 (nC (lG (lL (lL r1.lt sz53) lR)) nN))
 have sz54 := (lT (lT (lT (lT sz24 m19.size) m20.size) md3.size) m21.size)
 have sz55 := (lT (lT (lT (lT sz28 m19.size) m20.size) md3.size) m21.size)
 have r38 := ((((((((((((((r19.ext m23).ext m24).ext m25).mod m26 (nC (lG (lL (lL r9.lt sz21) lR)) nN)).mod m27 (nC (lG (lL (lL r4.lt sz54) lR)) nN)).ext md4).ext m28).ext m29).ext m30).ext m31).ext m32).mod m33 (nC (lG (lL (lL r15.lt sz43) lR)) nN)).mod m34 (nC (lG (lL (lL r4.lt sz54) lR)) nN)).mod m35 (nC (lG (lL (lL r1.lt sz55) lR)) nN))
 have sz56 := (lT (lT (lT (lT sz1 m12.size) m13.size) md2.size) m14.size)
 have sz57 := (lT (lT (lT (lT sz5 m12.size) m13.size) md2.size) m14.size)
 have r39 := ((((((((((((((((((((((r13.ext m16).ext m17).ext m18).ext m19).mod m20 (nC (lG (lL (lL r4.lt sz56) lR)) nN)).ext md3).ext m21).ext m22).ext m23).ext m24).ext m25).mod m26 (nC (lG (lL (lL r9.lt sz15) lR)) nN)).mod m27 (nC (lG (lL (lL r4.lt sz56) lR)) nN)).ext md4).ext m28).ext m29).ext m30).ext m31).ext m32).mod m33 (nC (lE (lL (lL r13.lt sz40) ge3)) nN)).mod m34 (nC (lG (lL (lL r4.lt sz56) lR)) nN)).mod m35 (nC (lG (lL (lL r1.lt sz57) lR)) nN))
 have sz58 := (lT (lT (lT (lT sz11 m26.size) m27.size) md4.size) m28.size)
 have sz59 := (lT (lT (lT (lT sz6 m26.size) m27.size) md4.size) m28.size)
 have r40 := ((((((r25.ext m30).ext m31).ext m32).mod m33 (nC (lG (lL (lL r15.lt sz48) lR)) nN)).mod m34 (nC (lG (lL (lL r4.lt sz58) lR)) nN)).mod m35 (nC (lG (lL (lL r1.lt sz59) lR)) nN))
 have sz60 := (lT (lT (lT (lT (lT (lT (lT m1.size m2.size) m3.size) m4.size) m5.size) m6.size) md1.size) m7.size)
 have sz61 := (lT (lT (lT (lT sz26 m19.size) m20.size) md3.size) m21.size)
 have sz62 := (lT (lT (lT (lT sz3 m12.size) m13.size) md2.size) m14.size)
 have sz63 := (lT (lT (lT (lT sz4 m26.size) m27.size) md4.size) m28.size)
 have sz64 := (lT (lT (lT (lT m4.size m5.size) m6.size) md1.size) m7.size)
 have sz65 := (lT (lT (lT (lT sz32 m19.size) m20.size) md3.size) m21.size)
 have sz66 := (lT (lT (lT (lT sz9 m12.size) m13.size) md2.size) m14.size)
 have sz67 := (lT (lT m27.size md4.size) m28.size)
 have sz68 := (lT (lT (lT (lT sz10 m26.size) m27.size) md4.size) m28.size)
 have sz69 := (lT (lT (lT (lT sz12 m12.size) m13.size) md2.size) m14.size)
 have sz70 := (lT (lT (lT (lT sz13 m26.size) m27.size) md4.size) m28.size)
 have sz71 := (lT (lT (lT (lT sz40 m19.size) m20.size) md3.size) m21.size)
 have sz72 := (lT (lT (lT (lT sz22 m26.size) m27.size) md4.size) m28.size)
 have sz73 := (lT (lT (lT (lT sz35 m19.size) m20.size) md3.size) m21.size)
 have sz74 := (lT (lT (lT (lT sz16 m26.size) m27.size) md4.size) m28.size)
 have sz75 := (lT (lT (lT m1.size m2.size) m3.size) m4.size)
 refine ⟨b4, c4, b5, c5, b1, c1, r_1, w8.heap.size, w24.heap.size, w16.heap.size, w32.heap.size, rfl, ?_, h2, r34, r35, r36, r37, r38, r39, r40, (lT sz3 (Own.row1 ow3).2), (lT sz26 (Own.row1 ow4).2), (lT (lT m1.size m2.size) ge1), (lT sz60 lR), (lT sz61 lR), (lT sz62 lR), (lT sz63 lR), (own_ne hb2 (Ne.symm (own_ne hb1 (lG (lL (lL r9.lt sz19) ge3)) (lL r15.lt sz20))) (lL r21.lt sz47)), (Ne.symm (own_ne hb1 (lE (lL (lL r3.lt sz9) ge2)) (lL r3.lt sz10))), (Ne.symm (own_ne hb2 (lE (lL (lL r3.lt sz32) ge3)) (lL r3.lt sz33))), (own_ne hb1 (lE (lL (lL r7.lt sz12) ge2)) (lL r7.lt sz13)), (own_ne hb2 (lE (lL (lL r7.lt sz35) ge3)) (lL r7.lt sz36)), (lG (lL (lL r3.lt sz64) lR)), (own_ne hb1 (lG (lL (lL r9.lt sz21) lR)) (lL r19.lt sz22)), (own_ne hb2 (lG (lL (lL r15.lt sz43) lR)) (lL r19.lt sz44)), (lG (lL (lL r3.lt sz65) lR)), (own_ne hb1 (lG (lL (lL r9.lt sz15) lR)) (lL r13.lt sz16)), (own_ne hb2 (lE (lL (lL r13.lt sz40) ge3)) (lL r13.lt sz41)), (lG (lL (lL r3.lt sz66) lR)), (lG (lL (lL r21.lt sz67) lR)), (own_ne hb2 (lG (lL (lL r15.lt sz48) lR)) (lL r25.lt sz49)), (lG (lL (lL r3.lt sz68) lR)), (lE (lL (lL r7.lt sz69) lR)), (lE (lL (lL r7.lt sz70) lR)), (lG (lL (lL r13.lt sz71) lR)), (lE (lL (lL r19.lt sz72) lR)), (lE (lL (lL r7.lt sz73) lR)), (lE (lL (lL r13.lt sz74) lR)), ((((((((((((((((((((((((((((((((((((((((Mod.refl [] w).nt m1).nt m2).nt m3).nt m4).nt m5).then m6 ((aC (.inr (lT sz75 lR)) aN))).nt md1).nt m7).nt m8).nt m9).nt m10).nt m11).nt m12).then m13 ((aC (.inr (lT sz75 lR)) aN))).nt md2).nt m14).nt m15).nt m16).nt m17).nt m18).nt m19).then m20 ((aC (.inr (lT sz75 lR)) aN))).nt md3).nt m21).nt m22).nt m23).nt m24).nt m25).then m26 ((aC (.inr (lT sz3 ge2)) aN))).then m27 ((aC (.inr (lT sz75 lR)) aN))).nt md4).nt m28).nt m29).nt m30).nt m31).nt m32).then m33 ((aC (.inr (lT sz26 ge3)) aN))).then m34 ((aC (.inr (lT sz75 lR)) aN))).then m35 ((aC (.inr lR) aN)))⟩
 all_goals first | assumption | rfl

theorem c_sNewQ3 (ka : Nat) (kb : Nat) (kd : Nat) (cl : Nat) (lb : Nat) (cs : Nat) (sb : Nat) (xS : List Nat) (op : Bool) (kw : Nat) (lw : Nat) (h1ka : 1 ≤ ka) (h2ka : ka ≤ 5) (h1kb : 1 ≤ kb) (h2kb : kb ≤ 5) (h1kd : 1 ≤ kd) (h2kd : kd ≤ 5) (lkw : kw < wid .f32) (llw : lw < wid .f32) (lnS : xS.length = 2) (hsc : vSc xS 2 = true) (hk : (fGe .f32 kw 0 && fLt .f32 kw 1065353216) = true) (hl : (fGe .f32 lw 0 && fLe .f32 lw 1065353216) = true) (w : World) (rl : Rng w lb 0 [vI ((ka : Nat) : Int), vI ((kb : Nat) : Int), vI ((kd : Nat) : Int)]) (rs : Rng w sb 0 (fl xS)) : Cl Try.prog 15 #[vS lb 0 3 cl, vS sb 0 2 cs, .bool op, vF kw, vF lw] w fun v w' => ∃ (bR' : Nat) (cR' : Nat) (bL' : Nat) (cL' : Nat) (bS' : Nat) (cS' : Nat) (r_ : Nat) (d0' : Nat) (d1' : Nat) (d2' : Nat) (e0' : Nat) (e1' : Nat) (e2' : Nat), v = .tuple #[.agg #[vS bR' 0 3 cR', vS bL' 0 3 cL', vS bS' 0 2 cS', vI 1, vF r_, vF kw, vF 0, vF 0, vF 0, .bool op, vF lw, vF 1061158912, vF 3200253952], vI 0] ∧ (cn .f32 r_ = cn .f32 (fop .sub .f32 1065353216 kw)) ∧ (r_ < wid .f32) ∧ Row w' bR' 0 [vS d0' 0 ka ka, vI 0, vS d1' 0 kb kb, vI 0, vS d2' 0 kd kd, vI 0] ∧ Row w' bL' 0 [vS e0' 0 ka ka, vI 0, vS e1' 0 kb kb, vI 0, vS e2' 0 kd kd, vI 0] ∧ Row w' bS' 0 (fl xS) ∧ Row w' d0' 0 (fl (List.replicate ka 0)) ∧ Row w' d1' 0 (fl (List.replicate kb 0)) ∧ Row w' d2' 0 (fl (List.replicate kd 0)) ∧ Row w' e0' 0 (fl (List.replicate ka 0)) ∧ Row w' e1' 0 (fl (List.replicate kb 0)) ∧ Row w' e2' 0 (fl (List.replicate kd 0)) ∧ w.heap.size ≤ bR' ∧ w.heap.size ≤ bL' ∧ w.heap.size ≤ bS' ∧ w.heap.size ≤ d0' ∧ w.heap.size ≤ d1' ∧ w.heap.size ≤ d2' ∧ w.heap.size ≤ e0' ∧ w.heap.size ≤ e1' ∧ w.heap.size ≤ e2' ∧ bR' ≠ bL' ∧ bR' ≠ bS' ∧ bL' ≠ bS' ∧ d0' ≠ bR' ∧ d0' ≠ bL' ∧ d0' ≠ bS' ∧ d1' ≠ bR' ∧ d1' ≠ bL' ∧ d1' ≠ bS' ∧ d2' ≠ bR' ∧ d2' ≠ bL' ∧ d2' ≠ bS' ∧ e0' ≠ bR' ∧ e0' ≠ bL' ∧ e0' ≠ bS' ∧ e1' ≠ bR' ∧ e1' ≠ bL' ∧ e1' ≠ bS' ∧ e2' ≠ bR' ∧ e2' ≠ bL' ∧ e2' ≠ bS' ∧ d0' ≠ e0' ∧ d0' ≠ e1' ∧ d0' ≠ e2' ∧ d1' ≠ e0' ∧ d1' ≠ e1' ∧ d1' ≠ e2' ∧ d2' ≠ e0' ∧ d2' ≠ e1' ∧ d2' ≠ e2' ∧ d0' ≠ d1' ∧ d0' ≠ d2' ∧ d1' ≠ d2' ∧ e0' ≠ e1' ∧ e0' ≠ e2' ∧ e1' ≠ e2' ∧ Mod [] w w' := by
 refine Cl.of Try.func15 Try.ntmps15 rfl rfl (ρ := [(0, vS lb 0 3 cl), (1, vS sb 0 2 cs), (2, .bool op), (3, vF kw), (4, vF lw)]) rfl ?_
 refine CE.seq (CE.region ?_)
 refine WL.op (op_alloc (cs := [.slice none 0 0, .slice none 0 0, .slice none 0 0, vI 0, vF 0, vF 0, vF 0, vF 0, vF 0, .bool false, vF 0, vF 0, vF 0]) Try.zeroValue33 rfl) rfl rfl (ltb rfl) ?_
 rintro _ w1 ⟨rfl, r1, m1, z1⟩
 refine WD (op_assign rfl) rfl ?_
 refine WL.end (NE.code (CE.seq (CE.region ?_)))
 refine WD (op_move rfl) rfl ?_
 refine WD (op_len rfl Try.runUnderlying36) rfl ?_
 refine WL.call (oc_call (vs := [vI 3, vI 1, vI 3]) (cap := []) rfl rfl rfl Try.call55 (c_l00In (3 : Int) (1 : Int) (3 : Int) w1)) rfl rfl (ltb rfl) ?_
 rintro _ _ ⟨rfl, rfl⟩
 refine WD (op_move rfl) rfl ?_
 refine WL.yes rfl rfl rfl (ltb rfl) rfl (by decide +kernel) ?_
 refine WD (op_move rfl) rfl ?_
 refine WL.yes rfl rfl rfl (ltb rfl) rfl (by decide +kernel) ?_
 refine WD (op_len rfl Try.runUnderlying26) rfl ?_
 refine WL.yes rfl rfl rfl (ltb rfl) rfl (by decide +kernel) ?_
 refine WD (op_move rfl) rfl ?_
 refine WL.yes rfl rfl rfl (ltb rfl) rfl (by decide +kernel) ?_
 refine WD (op_len rfl Try.runUnderlying36) rfl ?_
 refine WL.yes rfl rfl rfl (ltb rfl) rfl (by decide +kernel) ?_
 refine WD (op_sub (r := 2) rfl rfl (by decide)) rfl ?_
 refine WL.yes rfl rfl rfl (ltb rfl) rfl (by decide +kernel) ?_
 refine WD (op_eqi rfl rfl) rfl ?_
 refine WD (op_pick_t rfl (by decide +kernel) rfl) rfl ?_
 refine WD (op_move rfl) rfl ?_
 refine WL.yes rfl rfl rfl (ltb rfl) rfl rfl ?_
 refine WD (op_move rfl) rfl ?_
 refine WL.yes rfl rfl rfl (ltb rfl) rfl rfl ?_
 refine WD (op_fge (c := fGe .f32 kw 0) rfl rfl rfl rfl rfl) rfl ?_
 refine WD (op_pick_t rfl rfl rfl) rfl ?_
 refine WD (op_move rfl) rfl ?_
 refine WL.yes rfl rfl rfl (ltb rfl) rfl (and_l8 hk) ?_
 refine WD (op_move rfl) rfl ?_
 refine WL.yes rfl rfl rfl (ltb rfl) rfl (and_l8 hk) ?_
 refine WD (op_flt (c := fLt .f32 kw 1065353216) rfl rfl rfl rfl rfl) rfl ?_
 refine WD (op_pick_t rfl (and_l8 hk) rfl) rfl ?_
 refine WD (op_move rfl) rfl ?_
 refine WL.yes rfl rfl rfl (ltb rfl) rfl (and_r8 hk) ?_
 refine WD (op_move rfl) rfl ?_
 refine WL.yes rfl rfl rfl (ltb rfl) rfl (and_r8 hk) ?_
 refine WD (op_fge (c := fGe .f32 lw 0) rfl rfl rfl rfl rfl) rfl ?_
 refine WD (op_pick_t rfl (and_r8 hk) rfl) rfl ?_
 refine WD (op_move rfl) rfl ?_
 refine WL.yes rfl rfl rfl (ltb rfl) rfl (and_l8 hl) ?_
 refine WD (op_move rfl) rfl ?_
 refine WL.yes rfl rfl rfl (ltb rfl) rfl (and_l8 hl) ?_
 refine WD (op_fle (c := fLe .f32 lw 1065353216) rfl rfl rfl rfl rfl) rfl ?_
 refine WD (op_pick_t rfl (and_l8 hl) rfl) rfl ?_
 refine WD (op_assign rfl) rfl ?_
 refine WL.end (NE.code (CE.seq (CE.seq (CE.region ?_))))
 refine WD (op_assign rfl) rfl ?_
 refine WL.end (NE.code (CE.block ?_))
 refine CE.rounds 4 ?_
 refine RN.one (CE.seq (CE.seq (CE.region ?_)))
 iterate 2 refine WD (op_move rfl) rfl ?_
 refine WD (op_len rfl Try.runUnderlying36) rfl ?_
 refine WD (op_lti rfl rfl) rfl ?_
 refine WD (op_move rfl) rfl ?_
 refine WL.yes rfl rfl rfl (ltb rfl) rfl rfl ?_
 refine WD (op_move rfl) rfl ?_
 refine WD (op_pick_t rfl rfl rfl) rfl ?_
 refine WL.end (NE.code ?_)
 refine CE.cond_t rfl (and_r8 hl) ?_
 refine CE.skip' (NE.code (CE.seq (CE.block (CE.region ?_))))
 iterate 2 refine WD (op_move rfl) rfl ?_
 refine WD (op_indexSl (off' := 0) rfl rfl rfl Try.runUnderlying36 Try.sizeOf2 (by omega) (by omega) rfl) rfl ?_
 refine WD (op_load1 (i := 0) rfl Try.isAgg2 (rl.ext m1) rfl rfl) rfl ?_
 refine WL.call (oc_call (vs := [vI ((ka : Nat) : Int), vI 1, vI 1024]) (cap := []) rfl rfl rfl Try.call55 (c_l00In ((ka : Nat) : Int) (1 : Int) (1024 : Int) w1)) rfl rfl (ltb rfl) ?_
 rintro _ _ ⟨rfl, rfl⟩
 refine WD (op_assign rfl) rfl ?_
 refine WL.end (NE.blk (NE.code (CE.region ?_)))
 refine WD (op_move rfl) rfl ?_
 refine WD (op_add (r := 1) rfl rfl (by decide)) rfl ?_
 refine WD (op_assign rfl) rfl ?_
 refine WL.end (NE.round (RN.one (CE.seq (CE.seq (CE.region ?_)))))
 iterate 2 refine WD (op_move rfl) rfl ?_
 refine WD (op_len rfl Try.runUnderlying36) rfl ?_
 refine WD (op_lti rfl rfl) rfl ?_
 refine WD (op_move rfl) rfl ?_
 refine WL.yes rfl rfl rfl (ltb rfl) rfl rfl ?_
 refine WD (op_move rfl) rfl ?_
 refine WD (op_pick_t rfl rfl rfl) rfl ?_
 refine WL.end (NE.code ?_)
 refine CE.cond_t rfl ((vIn_t _ _ _).2 ⟨by omega, by omega⟩) ?_
 refine CE.skip' (NE.code (CE.seq (CE.block (CE.region ?_))))
 iterate 2 refine WD (op_move rfl) rfl ?_
 refine WD (op_indexSl (off' := 1) rfl rfl rfl Try.runUnderlying36 Try.sizeOf2 (by omega) (by omega) rfl) rfl ?_
 refine WD (op_load1 (i := 1) rfl Try.isAgg2 (rl.ext m1) rfl rfl) rfl ?_
 refine WL.call (oc_call (vs := [vI ((kb : Nat) : Int), vI 1, vI 1024]) (cap := []) rfl rfl rfl Try.call55 (c_l00In ((kb : Nat) : Int) (1 : Int) (1024 : Int) w1)) rfl rfl (ltb rfl) ?_
 rintro _ _ ⟨rfl, rfl⟩
 refine WD (op_assign rfl) rfl ?_
 refine WL.end (NE.blk (NE.code (CE.region ?_)))
 refine WD (op_move rfl) rfl ?_
 refine WD (op_add (r := 2) rfl rfl (by decide)) rfl ?_
 refine WD (op_assign rfl) rfl ?_
 refine WL.end (NE.round (RN.one (CE.seq (CE.seq (CE.region ?_)))))
 iterate 2 refine WD (op_move rfl) rfl ?_
 refine WD (op_len rfl Try.runUnderlying36) rfl ?_
 refine WD (op_lti rfl rfl) rfl ?_
 refine WD (op_move rfl) rfl ?_
 refine WL.yes rfl rfl rfl (ltb rfl) rfl rfl ?_
 refine WD (op_move rfl) rfl ?_
 refine WD (op_pick_t rfl rfl rfl) rfl ?_
 refine WL.end (NE.code ?_)
 refine CE.cond_t rfl ((vIn_t _ _ _).2 ⟨by omega, by omega⟩) ?_
 refine CE.skip' (NE.code (CE.seq (CE.block (CE.region ?_))))
 iterate 2 refine WD (op_move rfl) rfl ?_
 refine WD (op_indexSl (off' := 2) rfl rfl rfl Try.runUnderlying36 Try.sizeOf2 (by omega) (by omega) rfl) rfl ?_
 refine WD (op_load1 (i := 2) rfl Try.isAgg2 (rl.ext m1) rfl rfl) rfl ?_
 refine WL.call (oc_call (vs := [vI ((kd : Nat) : Int), vI 1, vI 1024]) (cap := []) rfl rfl rfl Try.call55 (c_l00In ((kd : Nat) : Int) (1 : Int) (1024 : Int) w1)) rfl rfl (ltb rfl) ?_
 rintro _ _ ⟨rfl, rfl⟩
 refine WD (op_assign rfl) rfl ?_
 refine WL.end (NE.blk (NE.code (CE.region ?_)))
 refine WD (op_move rfl) rfl ?_
 refine WD (op_add (r := 3) rfl rfl (by decide)) rfl ?_
 refine WD (op_assign rfl) rfl ?_
 refine WL.end (NE.round (RN.one (CE.seq (CE.seq (CE.region ?_)))))
 iterate 2 refine WD (op_move rfl) rfl ?_
 refine WD (op_len rfl Try.runUnderlying36) rfl ?_
 refine WD (op_lti rfl rfl) rfl ?_
 refine WD (op_move rfl) rfl ?_
 refine WL.no rfl rfl rfl (ltb rfl) rfl rfl rfl (ltb rfl) ?_
 refine WD (op_pick_f rfl rfl rfl) rfl ?_
 refine WL.end (NE.code ?_)
 refine CE.cond_f rfl rfl ?_
 refine CE.exit' (XE.exit_then (XE.exit_then (XE.exit_here (NE.code (CE.seq (CE.seq (CE.region ?_)))))))
 refine WD (op_assign rfl) rfl ?_
 refine WL.end (NE.code (CE.block ?_))
 refine CE.rounds 3 ?_
 refine RN.one (CE.seq (CE.seq (CE.region ?_)))
 iterate 2 refine WD (op_move rfl) rfl ?_
 refine WD (op_len rfl Try.runUnderlying26) rfl ?_
 refine WD (op_lti rfl rfl) rfl ?_
 refine WD (op_move rfl) rfl ?_
 refine WL.yes rfl rfl rfl (ltb rfl) rfl rfl ?_
 refine WD (op_move rfl) rfl ?_
 refine WD (op_pick_t rfl rfl rfl) rfl ?_
 refine WL.end (NE.code ?_)
 refine CE.cond_t rfl ((vIn_t _ _ _).2 ⟨by omega, by omega⟩) ?_
 refine CE.skip' (NE.code (CE.seq (CE.block (CE.region ?_))))
 iterate 2 refine WD (op_move rfl) rfl ?_
 refine WD (op_indexSl (off' := 0) rfl rfl rfl Try.runUnderlying26 Try.sizeOf27 (by omega) (by omega) rfl) rfl ?_
 refine WD (op_load1 (i := 0) rfl Try.isAgg27 (rs.ext m1) rfl (fl_get (by have eL : List.length xS = 2 := lnS; omega))) rfl ?_
 refine WD (op_fge (c := fGe .f32 (xS.getD 0 0) 3212836864) rfl rfl rfl rfl rfl) rfl ?_
 refine WD (op_move rfl) rfl ?_
 refine WL.yes rfl rfl rfl (ltb rfl) rfl (vSc_get hsc (i := 0) (by omega)).1 ?_
 refine WD (op_move rfl) rfl ?_
 refine WL.yes rfl rfl rfl (ltb rfl) rfl (vSc_get hsc (i := 0) (by omega)).1 ?_
 refine WD (op_move rfl) rfl ?_
 refine WL.yes rfl rfl rfl (ltb rfl) rfl (vSc_get hsc (i := 0) (by omega)).1 ?_
 refine WD (op_indexSl (off' := 0) rfl rfl rfl Try.runUnderlying26 Try.sizeOf27 (by omega) (by omega) rfl) rfl ?_
 refine WL.yes rfl rfl rfl (ltb rfl) rfl (vSc_get hsc (i := 0) (by omega)).1 ?_
 refine WD (op_load1 (i := 0) rfl Try.isAgg27 (rs.ext m1) rfl (fl_get (by have eL : List.length xS = 2 := lnS; omega))) rfl ?_
 refine WL.yes rfl rfl rfl (ltb rfl) rfl (vSc_get hsc (i := 0) (by omega)).1 ?_
 refine WD (op_fle (c := fLe .f32 (xS.getD 0 0) 1065353216) rfl rfl rfl rfl rfl) rfl ?_
 refine WD (op_pick_t rfl (vSc_get hsc (i := 0) (by omega)).1 rfl) rfl ?_
 refine WD (op_assign rfl) rfl ?_
 refine WL.end (NE.blk (NE.code (CE.region ?_)))
 refine WD (op_move rfl) rfl ?_
 refine WD (op_add (r := 1) rfl rfl (by decide)) rfl ?_
 refine WD (op_assign rfl) rfl ?_
 refine WL.end (NE.round (RN.one (CE.seq (CE.seq (CE.region ?_)))))
 iterate 2 refine WD (op_move rfl) rfl ?_
 refine WD (op_len rfl Try.runUnderlying26) rfl ?_
 refine WD (op_lti rfl rfl) rfl ?_
 refine WD (op_move rfl) rfl ?_
 refine WL.yes rfl rfl rfl (ltb rfl) rfl rfl ?_
 refine WD (op_move rfl) rfl ?_
 refine WD (op_pick_t rfl rfl rfl) rfl ?_
 refine WL.end (NE.code ?_)
 refine CE.cond_t rfl (vSc_get hsc (i := 0) (by omega)).2 ?_
 refine CE.skip' (NE.code (CE.seq (CE.block (CE.region ?_))))
 iterate 2 refine WD (op_move rfl) rfl ?_
 refine WD (op_indexSl (off' := 1) rfl rfl rfl Try.runUnderlying26 Try.sizeOf27 (by omega) (by omega) rfl) rfl ?_
 refine WD (op_load1 (i := 1) rfl Try.isAgg27 (rs.ext m1) rfl (fl_get (by have eL : List.length xS = 2 := lnS; omega))) rfl ?_
 refine WD (op_fge (c := fGe .f32 (xS.getD 1 0) 3212836864) rfl rfl rfl rfl rfl) rfl ?_
 refine WD (op_move rfl) rfl ?_
 refine WL.yes rfl rfl rfl (ltb rfl) rfl (vSc_get hsc (i := 1) (by omega)).1 ?_
 refine WD (op_move rfl) rfl ?_
 refine WL.yes rfl rfl rfl (ltb rfl) rfl (vSc_get hsc (i := 1) (by omega)).1 ?_
 refine WD (op_move rfl) rfl ?_
 refine WL.yes rfl rfl rfl (ltb rfl) rfl (vSc_get hsc (i := 1) (by omega)).1 ?_
 refine WD (op_indexSl (off' := 1) rfl rfl rfl Try.runUnderlying26 Try.sizeOf27 (by omega) (by omega) rfl) rfl ?_
 refine WL.yes rfl rfl rfl (ltb rfl) rfl (vSc_get hsc (i := 1) (by omega)).1 ?_
 refine WD (op_load1 (i := 1) rfl Try.isAgg27 (rs.ext m1) rfl (fl_get (by have eL : List.length xS = 2 := lnS; omega))) rfl ?_
 refine WL.yes rfl rfl rfl (ltb rfl) rfl (vSc_get hsc (i := 1) (by omega)).1 ?_
 refine WD (op_fle (c := fLe .f32 (xS.getD 1 0) 1065353216) rfl rfl rfl rfl rfl) rfl ?_
 refine WD (op_pick_t rfl (vSc_get hsc (i := 1) (by omega)).1 rfl) rfl ?_
 refine WD (op_assign rfl) rfl ?_
 refine WL.end (NE.blk (NE.code (CE.region ?_)))
 refine WD (op_move rfl) rfl ?_
 refine WD (op_add (r := 2) rfl rfl (by decide)) rfl ?_
 refine WD (op_assign rfl) rfl ?_
 refine WL.end (NE.round (RN.one (CE.seq (CE.seq (CE.region ?_)))))
 iterate 2 refine WD (op_move rfl) rfl ?_
 refine WD (op_len rfl Try.runUnderlying26) rfl ?_
 refine WD (op_lti rfl rfl) rfl ?_
 refine WD (op_move rfl) rfl ?_
 refine WL.no rfl rfl rfl (ltb rfl) rfl rfl rfl (ltb rfl) ?_
 refine WD (op_pick_f rfl rfl rfl) rfl ?_
 refine WL.end (NE.code ?_)
 refine CE.cond_f rfl rfl ?_
 refine CE.exit' (XE.exit_then (XE.exit_then (XE.exit_here (NE.code (CE.seq (CE.seq (CE.region ?_)))))))
 refine WD (op_move rfl) rfl ?_
 refine WD (op_not rfl) rfl ?_
 refine WL.end (NE.code ?_)
 refine CE.cond_f rfl (bnot_t (vSc_get hsc (i := 1) (by omega)).2) ?_
 refine CE.skip' (NE.code (CE.seq (CE.region ?_)))
 refine WL.op (op_emptySl rfl Try.runUnderlying26 Try.sizeOf27) rfl rfl (ltb rfl) ?_
 rintro _ w2 ⟨rfl, r2, m2, z2⟩
 refine WD (op_move rfl) rfl ?_
 refine WL.op (op_appendF (i := Try.t27) rfl rfl Try.underlying26 rfl rfl rfl rfl ((rs.ext m1).ext m2) lnS (by omega) (by omega)) rfl rfl (ltb rfl) ?_
 rintro _ w3 ⟨b1, c1, rfl, ge1, r3, m3⟩
 refine WD (op_move rfl) rfl ?_
 refine WL.call (oc_call (vs := [vF kw]) (cap := []) rfl rfl rfl Try.call56 (c_sOnePoleP kw lkw w3)) rfl rfl (ltb rfl) ?_
 rintro _ w4 ⟨r_1, rfl, h1, h2, m4⟩
 iterate 2 refine WD (op_move rfl) rfl ?_
 refine WD (op_build (qs := [(2, vS b1 0 2 c1), (3, .agg #[vI 1, vF r_1, vF kw, vF 0, vF 0, vF 0]), (4, .bool op), (5, vF lw), (6, vF 1061158912), (7, vF 3200253952)]) (cells := #[.slice none 0 0, .slice none 0 0, vS b1 0 2 c1, vI 1, vF r_1, vF kw, vF 0, vF 0, vF 0, .bool op, vF lw, vF 1061158912, vF 3200253952]) rfl (by kernel_rfl)) rfl ?_
 refine WL.op (op_alloc (cs := [.slice none 0 0, .slice none 0 0, .slice none 0 0, vI 0, vF 0, vF 0, vF 0, vF 0, vF 0, .bool false, vF 0, vF 0, vF 0]) Try.zeroValue33 rfl) rfl rfl (ltb rfl) ?_
 rintro _ w5 ⟨rfl, r4, m5, z3⟩
 refine WL.op0 (op_store (i := 0) (cs := [.slice none 0 0, .slice none 0 0, vS b1 0 2 c1, vI 1, vF r_1, vF kw, vF 0, vF 0, vF 0, .bool op, vF lw, vF 1061158912, vF 3200253952]) rfl rfl rfl Try.sizeOf33 rfl r4 rfl (lB rfl) rfl) rfl rfl ?_
 rintro _ w6 ⟨r5, m6, z4⟩
 have r6 : Row w6 w4.heap.size 0 [.slice none 0 0, .slice none 0 0, vS b1 0 2 c1, vI 1, vF r_1, vF kw, vF 0, vF 0, vF 0, .bool op, vF lw, vF 1061158912, vF 3200253952] := Row.congr r5 rfl
 refine WL.end (NE.code (CE.seq (CE.seq (CE.region ?_))))
 refine WD (op_assign rfl) rfl ?_
 refine WL.end (NE.code (CE.block ?_))
 refine CE.rounds 4 ?_
 refine RN.one (CE.seq (CE.seq (CE.region ?_)))
 iterate 2 refine WD (op_move rfl) rfl ?_
 refine WD (op_len rfl Try.runUnderlying36) rfl ?_
 refine WD (op_lti rfl rfl) rfl ?_
 refine WL.end (NE.code ?_)
 refine CE.cond_t rfl rfl ?_
 refine CE.skip' (NE.code (CE.seq (CE.block (CE.seq ?_))))
 refine CE.draw (fun _ => none) [0, 1, 2, 3, 4, 5, 6, 7, 8] [9, 10, 11] [] (by kernel_rfl) (by kernel_rfl) ?_
 have md1 : Mod [] w6 w6.drew := (Mod.refl _ _).drew
 generalize w6.drew = w7 at md1 ⊢
 refine DD 0 rfl (by kernel_rfl) rfl (fun wD mD => op_fieldAddr (off' := 0) rfl Try.runUnderlying33 rfl rfl Try.sizeOf25 rfl) ?_
 refine DD 1 rfl (by kernel_rfl) rfl (fun wD mD => op_load1 (i := 0) rfl Try.isAgg25 ((r6.ext md1).ext mD).rng rfl rfl) ?_
 refine DD 2 rfl (by kernel_rfl) rfl (fun wD mD => op_move rfl) ?_
 refine DD 3 rfl (by kernel_rfl) rfl (fun wD mD => op_move rfl) ?_
 refine DD 4 rfl (by kernel_rfl) rfl (fun wD mD => op_indexSl (off' := 0) rfl rfl rfl Try.runUnderlying36 Try.sizeOf2 (by omega) (by omega) rfl) ?_
 refine DD 5 rfl (by kernel_rfl) rfl (fun wD mD => op_load1 (i := 0) rfl Try.isAgg2 (((Rng.youngS rl (((((rl.ext m1).ext m2).ext m3).ext m4).ext m5) m6 (allge_cons (lT (lT (lT (lT m1.size m2.size) m3.size) m4.size) lR) allge_nil)).ext md1).ext mD) rfl rfl) ?_
 refine DR.one1 (i := 6) rfl rfl (by kernel_rfl) (.free rfl) rfl (ltb rfl) ?_
 intro w8 m7
 refine Op1.mono (op_makeF (i := Try.t27) rfl rfl rfl rfl Try.underlying26 rfl rfl rfl rfl (by first | omega | decide)) ?_
 rintro _ w9 ⟨rfl, r7, m8, z5⟩
 refine ⟨(((Mod.refl [] w7).nt m7).nt m8), ?_⟩
 refine DR.rebase ?_
 refine DD 7 rfl (by kernel_rfl) rfl (fun wD mD => op_build (qs := [(0, vS w8.heap.size 0 ka ka)]) (cells := #[vS w8.heap.size 0 ka ka, vI 0]) rfl (by kernel_rfl)) ?_
 refine DR.one1 (i := 8) rfl rfl (by kernel_rfl) (.free rfl) rfl (ltb rfl) ?_
 intro w10 m9
 refine Op1.mono (op_buildSl (qs := [(0, .agg #[vS w8.heap.size 0 ka ka, vI 0])]) (cells := #[vS w8.heap.size 0 ka ka, vI 0]) rfl Try.runUnderlying25 Try.sizeOf60 Try.zeroValue60 (by decide) (by decide) (by kernel_rfl)) ?_
 rintro _ w11 ⟨rfl, r8, m10, z6⟩
 refine ⟨(((Mod.refl [] w9).nt m9).nt m10), ?_⟩
 refine DR.done rfl ?_
 intro w12 m11
 refine WO.op rfl (.free rfl) rfl (ltb rfl) (op_app0 (i := Try.t60) (m := 2) (bt := 32) (news := [vS w8.heap.size 0 ka ka, vI 0]) (q := 0) (.inl rfl) rfl rfl Try.underlying25 rfl rfl rfl rfl rfl (by decide) (r8.ext m11).rng rfl rfl (by omega) (by decide)) ?_
 rintro _ w13 ⟨b2, c2, rfl, ow1, ge2, m12⟩
 have r9 : Row w13 b2 0 [vS w8.heap.size 0 ka ka, vI 0] := (Own.row1 ow1).1
 refine WO.det (op_fieldAddr (off' := 0) rfl Try.runUnderlying33 rfl rfl Try.sizeOf25 rfl) rfl (.free rfl) rfl rfl ?_
 have r10 := (((((((r6.ext md1).ext m7).ext m8).ext m9).ext m10).ext m11).ext m12)
 refine WO.op0 rfl (.free rfl) rfl (op_store (i := 0) (cs := [vS b2 0 1 c2]) rfl rfl rfl Try.sizeOf25 rfl r10 rfl (lB rfl) rfl) ?_
 rintro _ w14 ⟨r11, m13, z7⟩
 have r12 : Row w14 w4.heap.size 0 [vS b2 0 1 c2, .slice none 0 0, vS b1 0 2 c1, vI 1, vF r_1, vF kw, vF 0, vF 0, vF 0, .bool op, vF lw, vF 1061158912, vF 3200253952] := Row.congr r11 rfl
 refine WO.end (NE.code ?_)
 refine CE.draw (fun _ => none) [0, 1, 2, 3, 4, 5, 6, 7, 8] [9, 10, 11] [] (by kernel_rfl) (by kernel_rfl) ?_
 have md2 : Mod [] w14 w14.drew := (Mod.refl _ _).drew
 generalize w14.drew = w15 at md2 ⊢
 refine DD 0 rfl (by kernel_rfl) rfl (fun wD mD => op_fieldAddr (off' := 1) rfl Try.runUnderlying33 rfl rfl Try.sizeOf25 rfl) ?_
 refine DD 1 rfl (by kernel_rfl) rfl (fun wD mD => op_load1 (i := 1) rfl Try.isAgg25 ((r12.ext md2).ext mD).rng rfl rfl) ?_
 refine DD 2 rfl (by kernel_rfl) rfl (fun wD mD => op_move rfl) ?_
 refine DD 3 rfl (by kernel_rfl) rfl (fun wD mD => op_move rfl) ?_
 refine DD 4 rfl (by kernel_rfl) rfl (fun wD mD => op_indexSl (off' := 0) rfl rfl rfl Try.runUnderlying36 Try.sizeOf2 (by omega) (by omega) rfl) ?_
 refine DD 5 rfl (by kernel_rfl) rfl (fun wD mD => op_load1 (i := 0) rfl Try.isAgg2 (((Rng.youngS rl ((((((((Rng.youngS rl (((((rl.ext m1).ext m2).ext m3).ext m4).ext m5) m6 (allge_cons (lT (lT (lT (lT m1.size m2.size) m3.size) m4.size) lR) allge_nil)).ext md1).ext m7).ext m8).ext m9).ext m10).ext m11).ext m12) m13 (allge_cons (lT (lT (lT (lT m1.size m2.size) m3.size) m4.size) lR) allge_nil)).ext md2).ext mD) rfl rfl) ?_
 refine DR.one1 (i := 6) rfl rfl (by kernel_rfl) (.free rfl) rfl (ltb rfl) ?_
 intro w16 m14
 refine Op1.mono (op_makeF (i := Try.t27) rfl rfl rfl rfl Try.underlying26 rfl rfl rfl rfl (by first | omega | decide)) ?_
 rintro _ w17 ⟨rfl, r13, m15, z8⟩
 refine ⟨(((Mod.refl [] w15).nt m14).nt m15), ?_⟩
 refine DR.rebase ?_
 refine DD 7 rfl (by kernel_rfl) rfl (fun wD mD => op_build (qs := [(0, vS w16.heap.size 0 ka ka)]) (cells := #[vS w16.heap.size 0 ka ka, vI 0]) rfl (by kernel_rfl)) ?_
 refine DR.one1 (i := 8) rfl rfl (by kernel_rfl) (.free rfl) rfl (ltb rfl) ?_
 intro w18 m16
 refine Op1.mono (op_buildSl (qs := [(0, .agg #[vS w16.heap.size 0 ka ka, vI 0])]) (cells := #[vS w16.heap.size 0 ka ka, vI 0]) rfl Try.runUnderlying25 Try.sizeOf60 Try.zeroValue60 (by decide) (by decide) (by kernel_rfl)) ?_
 rintro _ w19 ⟨rfl, r14, m17, z9⟩
 refine ⟨(((Mod.refl [] w17).nt m16).nt m17), ?_⟩
 refine DR.done rfl ?_
 intro w20 m18
 refine WO.op rfl (.free rfl) rfl (ltb rfl) (op_app0 (i := Try.t60) (m := 2) (bt := 32) (news := [vS w16.heap.size 0 ka ka, vI 0]) (q := 0) (.inl rfl) rfl rfl Try.underlying25 rfl rfl rfl rfl rfl (by decide) (r14.ext m18).rng rfl rfl (by omega) (by decide)) ?_
 rintro _ w21 ⟨b3, c3, rfl, ow2, ge3, m19⟩
 have r15 : Row w21 b3 0 [vS w16.heap.size 0 ka ka, vI 0] := (Own.row1 ow2).1
 refine WO.det (op_fieldAddr (off' := 1) rfl Try.runUnderlying33 rfl rfl Try.sizeOf25 rfl) rfl (.free rfl) rfl rfl ?_
 have r16 := (((((((r12.ext md2).ext m14).ext m15).ext m16).ext m17).ext m18).ext m19)
 refine WO.op0 rfl (.free rfl) rfl (op_store (i := 1) (cs := [vS b3 0 1 c3]) rfl rfl rfl Try.sizeOf25 rfl r16 rfl (lB rfl) rfl) ?_
 rintro _ w22 ⟨r17, m20, z10⟩
 have r18 : Row w22 w4.heap.size 0 [vS b2 0 1 c2, vS b3 0 1 c3, vS b1 0 2 c1, vI 1, vF r_1, vF kw, vF 0, vF 0, vF 0, .bool op, vF lw, vF 1061158912, vF 3200253952] := Row.congr r17 rfl
 refine WO.end (NE.blk (NE.code (CE.region ?_)))
 refine WD (op_move rfl) rfl ?_
 refine WD (op_add (r := 1) rfl rfl (by decide)) rfl ?_
 refine WD (op_assign rfl) rfl ?_
 refine WL.end (NE.round (RN.one (CE.seq (CE.seq (CE.region ?_)))))
 iterate 2 refine WD (op_move rfl) rfl ?_
 refine WD (op_len rfl Try.runUnderlying36) rfl ?_
 refine WD (op_lti rfl rfl) rfl ?_
 refine WL.end (NE.code ?_)
 refine CE.cond_t rfl rfl ?_
 refine CE.skip' (NE.code (CE.seq (CE.block (CE.seq ?_))))
 refine CE.draw (fun _ => none) [0, 1, 2, 3, 4, 5, 6, 7, 8] [9, 10, 11] [] (by kernel_rfl) (by kernel_rfl) ?_
 have md3 : Mod [] w22 w22.drew := (Mod.refl _ _).drew
 generalize w22.drew = w23 at md3 ⊢
 refine DD 0 rfl (by kernel_rfl) rfl (fun wD mD => op_fieldAddr (off' := 0) rfl Try.runUnderlying33 rfl rfl Try.sizeOf25 rfl) ?_
 refine DD 1 rfl (by kernel_rfl) rfl (fun wD mD => op_load1 (i := 0) rfl Try.isAgg25 ((r18.ext md3).ext mD).rng rfl rfl) ?_
 refine DD 2 rfl (by kernel_rfl) rfl (fun wD mD => op_move rfl) ?_
 refine DD 3 rfl (by kernel_rfl) rfl (fun wD mD => op_move rfl) ?_
 refine DD 4 rfl (by kernel_rfl) rfl (fun wD mD => op_indexSl (off' := 1) rfl rfl rfl Try.runUnderlying36 Try.sizeOf2 (by omega) (by omega) rfl) ?_
 refine DD 5 rfl (by kernel_rfl) rfl (fun wD mD => op_load1 (i := 1) rfl Try.isAgg2 (((Rng.youngS rl ((((((((Rng.youngS rl ((((((((Rng.youngS rl (((((rl.ext m1).ext m2).ext m3).ext m4).ext m5) m6 (allge_cons (lT (lT (lT (lT m1.size m2.size) m3.size) m4.size) lR) allge_nil)).ext md1).ext m7).ext m8).ext m9).ext m10).ext m11).ext m12) m13 (allge_cons (lT (lT (lT (lT m1.size m2.size) m3.size) m4.size) lR) allge_nil)).ext md2).ext m14).ext m15).ext m16).ext m17).ext m18).ext m19) m20 (allge_cons (lT (lT (lT (lT m1.size m2.size) m3.size) m4.size) lR) allge_nil)).ext md3).ext mD) rfl rfl) ?_
 refine DR.one1 (i := 6) rfl rfl (by kernel_rfl) (.free rfl) rfl (ltb rfl) ?_
 intro w24 m21
 refine Op1.mono (op_makeF (i := Try.t27) rfl rfl rfl rfl Try.underlying26 rfl rfl rfl rfl (by first | omega | decide)) ?_
 rintro _ w25 ⟨rfl, r19, m22, z11⟩
 refine ⟨(((Mod.refl [] w23).nt m21).nt m22), ?_⟩
 refine DR.rebase ?_
 refine DD 7 rfl (by kernel_rfl) rfl (fun wD mD => op_build (qs := [(0, vS w24.heap.size 0 kb kb)]) (cells := #[vS w24.heap.size 0 kb kb, vI 0]) rfl (by kernel_rfl)) ?_
 refine DR.one1 (i := 8) rfl rfl (by kernel_rfl) (.free rfl) rfl (ltb rfl) ?_
 intro w26 m23
 refine Op1.mono (op_buildSl (qs := [(0, .agg #[vS w24.heap.size 0 kb kb, vI 0])]) (cells := #[vS w24.heap.size 0 kb kb, vI 0]) rfl Try.runUnderlying25 Try.sizeOf60 Try.zeroValue60 (by decide) (by decide) (by kernel_rfl)) ?_
 rintro _ w27 ⟨rfl, r20, m24, z12⟩
 refine ⟨(((Mod.refl [] w25).nt m23).nt m24), ?_⟩
 refine DR.done rfl ?_
 intro w28 m25
 have sz1 := (lT (lT (lT (lT (lT (lT m6.size md1.size) m7.size) m8.size) m9.size) m10.size) m11.size)
 have sz2 := (lT (lT (lT (lT (lT (lT (lT (lT (lT (lT (lT (lT (lT (lT (lT m12.size m13.size) md2.size) m14.size) m15.size) m16.size) m17.size) m18.size) m19.size) m20.size) md3.size) m21.size) m22.size) m23.size) m24.size) m25.size)
 refine WO.op rfl (.free rfl) rfl (ltb rfl) (op_appk (i := Try.t60) (m := 2) (bt := 32) (news := [vS w24.heap.size 0 kb kb, vI 0]) (q := 0) rfl rfl Try.underlying25 rfl rfl rfl rfl rfl (by decide) (r20.ext m25).rng rfl rfl (Own.modb (Own.modb (Own.modb (Own.modb (Own.modb (Own.modb (Own.modb (Own.modb (Own.modb (Own.modb (Own.modb (Own.modb (Own.modb (Own.modb (Own.modb ow1 m13 (nC (lG (lL (lL r4.lt sz1) ge2)) nN)) md2 nN) m14 nN) m15 nN) m16 nN) m17 nN) m18 nN) m19 nN) m20 (nC (lG (lL (lL r4.lt sz1) ge2)) nN)) md3 nN) m21 nN) m22 nN) m23 nN) m24 nN) m25 nN) sz2 (by omega) (by omega) (by decide)) ?_
 have sz3 := (lT (lT (lT (lT (lT (lT (lT (lT (lT (lT (lT m1.size m2.size) m3.size) m4.size) m5.size) m6.size) md1.size) m7.size) m8.size) m9.size) m10.size) m11.size)
 have sz4 := (lT (lT (lT (lT (lT (lT (lT (lT (lT (lT (lT (lT (lT (lT (lT (lT sz3 m12.size) m13.size) md2.size) m14.size) m15.size) m16.size) m17.size) m18.size) m19.size) m20.size) md3.size) m21.size) m22.size) m23.size) m24.size) m25.size)
 have sz5 := (lT (lT (lT (lT (lT (lT (lT (lT (lT (lT m2.size m3.size) m4.size) m5.size) m6.size) md1.size) m7.size) m8.size) m9.size) m10.size) m11.size)
 have sz6 := (lT (lT (lT (lT (lT (lT (lT (lT (lT (lT (lT (lT (lT (lT (lT (lT sz5 m12.size) m13.size) md2.size) m14.size) m15.size) m16.size) m17.size) m18.size) m19.size) m20.size) md3.size) m21.size) m22.size) m23.size) m24.size) m25.size)
 have sz7 := (lT (lT (lT (lT (lT (lT (lT (lT (lT m3.size m4.size) m5.size) m6.size) md1.size) m7.size) m8.size) m9.size) m10.size) m11.size)
 have sz8 := (lT (lT (lT (lT (lT (lT (lT (lT (lT (lT (lT (lT (lT (lT (lT (lT sz7 m12.size) m13.size) md2.size) m14.size) m15.size) m16.size) m17.size) m18.size) m19.size) m20.size) md3.size) m21.size) m22.size) m23.size) m24.size) m25.size)
 have sz9 := (lT (lT (lT (lT (lT (lT (lT (lT m4.size m5.size) m6.size) md1.size) m7.size) m8.size) m9.size) m10.size) m11.size)
 have sz10 := (lT (lT (lT (lT (lT (lT (lT (lT (lT (lT (lT (lT (lT (lT (lT (lT sz9 m12.size) m13.size) md2.size) m14.size) m15.size) m16.size) m17.size) m18.size) m19.size) m20.size) md3.size) m21.size) m22.size) m23.size) m24.size) m25.size)
 have sz11 := (lT (lT (lT (lT (lT (lT (lT (lT (lT (lT (lT (lT (lT (lT (lT (lT sz1 m12.size) m13.size) md2.size) m14.size) m15.size) m16.size) m17.size) m18.size) m19.size) m20.size) md3.size) m21.size) m22.size) m23.size) m24.size) m25.size)
 have sz12 := (lT (lT m9.size m10.size) m11.size)
 have sz13 := (lT (lT (lT (lT (lT (lT (lT (lT (lT (lT (lT (lT (lT (lT (lT (lT sz12 m12.size) m13.size) md2.size) m14.size) m15.size) m16.size) m17.size) m18.size) m19.size) m20.size) md3.size) m21.size) m22.size) m23.size) m24.size) m25.size)
 have sz14 := (lT (lT (lT (lT (lT (lT (lT (lT (lT (lT (lT (lT (lT (lT (lT (lT m11.size m12.size) m13.size) md2.size) m14.size) m15.size) m16.size) m17.size) m18.size) m19.size) m20.size) md3.size) m21.size) m22.size) m23.size) m24.size) m25.size)
 have sz15 := (lT (lT m13.size md2.size) m14.size)
 have sz16 := (lT (lT (lT (lT (lT (lT (lT (lT (lT (lT m16.size m17.size) m18.size) m19.size) m20.size) md3.size) m21.size) m22.size) m23.size) m24.size) m25.size)
 have sz17 := (lT (lT sz15 m15.size) m16.size)
 have sz18 := (lT (lT (lT (lT (lT (lT (lT (lT m18.size m19.size) m20.size) md3.size) m21.size) m22.size) m23.size) m24.size) m25.size)
 have sz19 := (lT (lT sz17 m17.size) m18.size)
 have sz20 := (lT (lT (lT (lT (lT (lT m20.size md3.size) m21.size) m22.size) m23.size) m24.size) m25.size)
 have sz21 := (lT (lT (lT (lT sz19 m19.size) m20.size) md3.size) m21.size)
 have sz22 := (lT (lT m23.size m24.size) m25.size)
 have sz23 := (lT (lT sz21 m22.size) m23.size)
 rintro _ w29 ⟨b4, c4, rfl, ow3, hb1, m26⟩
 have r21 : Row w29 b4 0 [vS w8.heap.size 0 ka ka, vI 0, vS w24.heap.size 0 kb kb, vI 0] := (Own.row1 ow3).1
 refine WO.det (op_fieldAddr (off' := 0) rfl Try.runUnderlying33 rfl rfl Try.sizeOf25 rfl) rfl (.free rfl) rfl rfl ?_
 have r22 := (((((((r18.ext md3).ext m21).ext m22).ext m23).ext m24).ext m25).mod m26 (nC (lE (lL (lL r4.lt sz1) ge2)) nN))
 refine WO.op0 rfl (.free rfl) rfl (op_store (i := 0) (cs := [vS b4 0 2 c4]) rfl rfl rfl Try.sizeOf25 rfl r22 rfl (lB rfl) rfl) ?_
 rintro _ w30 ⟨r23, m27, z13⟩
 have r24 : Row w30 w4.heap.size 0 [vS b4 0 2 c4, vS b3 0 1 c3, vS b1 0 2 c1, vI 1, vF r_1, vF kw, vF 0, vF 0, vF 0, .bool op, vF lw, vF 1061158912, vF 3200253952] := Row.congr r23 rfl
 refine WO.end (NE.code ?_)
 refine CE.draw (fun _ => none) [0, 1, 2, 3, 4, 5, 6, 7, 8] [9, 10, 11] [] (by kernel_rfl) (by kernel_rfl) ?_
 have md4 : Mod [] w30 w30.drew := (Mod.refl _ _).drew
 generalize w30.drew = w31 at md4 ⊢
 refine DD 0 rfl (by kernel_rfl) rfl (fun wD mD => op_fieldAddr (off' := 1) rfl Try.runUnderlying33 rfl rfl Try.sizeOf25 rfl) ?_
 refine DD 1 rfl (by kernel_rfl) rfl (fun wD mD => op_load1 (i := 1) rfl Try.isAgg25 ((r24.ext md4).ext mD).rng rfl rfl) ?_
 refine DD 2 rfl (by kernel_rfl) rfl (fun wD mD => op_move rfl) ?_
 refine DD 3 rfl (by kernel_rfl) rfl (fun wD mD => op_move rfl) ?_
 refine DD 4 rfl (by kernel_rfl) rfl (fun wD mD => op_indexSl (off' := 1) rfl rfl rfl Try.runUnderlying36 Try.sizeOf2 (by omega) (by omega) rfl) ?_
 refine DD 5 rfl (by kernel_rfl) rfl (fun wD mD => op_load1 (i := 1) rfl Try.isAgg2 (((Rng.youngS rl (Rng.youngS rl (((((((Rng.youngS rl ((((((((Rng.youngS rl ((((((((Rng.youngS rl (((((rl.ext m1).ext m2).ext m3).ext m4).ext m5) m6 (allge_cons (lT (lT (lT (lT m1.size m2.size) m3.size) m4.size) lR) allge_nil)).ext md1).ext m7).ext m8).ext m9).ext m10).ext m11).ext m12) m13 (allge_cons (lT (lT (lT (lT m1.size m2.size) m3.size) m4.size) lR) allge_nil)).ext md2).ext m14).ext m15).ext m16).ext m17).ext m18).ext m19) m20 (allge_cons (lT (lT (lT (lT m1.size m2.size) m3.size) m4.size) lR) allge_nil)).ext md3).ext m21).ext m22).ext m23).ext m24).ext m25) m26 (allge_cons (lT sz3 ge2) allge_nil)) m27 (allge_cons (lT (lT (lT (lT m1.size m2.size) m3.size) m4.size) lR) allge_nil)).ext md4).ext mD) rfl rfl) ?_
 refine DR.one1 (i := 6) rfl rfl (by kernel_rfl) (.free rfl) rfl (ltb rfl) ?_
 intro w32 m28
 refine Op1.mono (op_makeF (i := Try.t27) rfl rfl rfl rfl Try.underlying26 rfl rfl rfl rfl (by first | omega | decide)) ?_
 rintro _ w33 ⟨rfl, r25, m29, z14⟩
 refine ⟨(((Mod.refl [] w31).nt m28).nt m29), ?_⟩
 refine DR.rebase ?_
 refine DD 7 rfl (by kernel_rfl) rfl (fun wD mD => op_build (qs := [(0, vS w32.heap.size 0 kb kb)]) (cells := #[vS w32.heap.size 0 kb kb, vI 0]) rfl (by kernel_rfl)) ?_
 refine DR.one1 (i := 8) rfl rfl (by kernel_rfl) (.free rfl) rfl (ltb rfl) ?_
 intro w34 m30
 refine Op1.mono (op_buildSl (qs := [(0, .agg #[vS w32.heap.size 0 kb kb, vI 0])]) (cells := #[vS w32.heap.size 0 kb kb, vI 0]) rfl Try.runUnderlying25 Try.sizeOf60 Try.zeroValue60 (by decide) (by decide) (by kernel_rfl)) ?_
 rintro _ w35 ⟨rfl, r26, m31, z15⟩
 refine ⟨(((Mod.refl [] w33).nt m30).nt m31), ?_⟩
 refine DR.done rfl ?_
 intro w36 m32
 have sz24 := (lT (lT (lT (lT (lT (lT (lT (lT sz1 m12.size) m13.size) md2.size) m14.size) m15.size) m16.size) m17.size) m18.size)
 have sz25 := (lT (lT (lT (lT (lT (lT (lT (lT (lT (lT (lT (lT (lT (lT (lT m19.size m20.size) md3.size) m21.size) m22.size) m23.size) m24.size) m25.size) m26.size) m27.size) md4.size) m28.size) m29.size) m30.size) m31.size) m32.size)
 refine WO.op rfl (.free rfl) rfl (ltb rfl) (op_appk (i := Try.t60) (m := 2) (bt := 32) (news := [vS w32.heap.size 0 kb kb, vI 0]) (q := 0) rfl rfl Try.underlying25 rfl rfl rfl rfl rfl (by decide) (r26.ext m32).rng rfl rfl (Own.modb (Own.modb (Own.modb (Own.modb (Own.modb (Own.modb (Own.modb (Own.modb (Own.modb (Own.modb (Own.modb (Own.modb (Own.modb (Own.modb (Own.modb ow2 m20 (nC (lG (lL (lL r4.lt sz24) ge3)) nN)) md3 nN) m21 nN) m22 nN) m23 nN) m24 nN) m25 nN) m26 (nC (lG (lL (lL r9.lt sz19) ge3)) nN)) m27 (nC (lG (lL (lL r4.lt sz24) ge3)) nN)) md4 nN) m28 nN) m29 nN) m30 nN) m31 nN) m32 nN) sz25 (by omega) (by omega) (by decide)) ?_
 have sz26 := (lT (lT (lT (lT (lT (lT (lT (lT sz3 m12.size) m13.size) md2.size) m14.size) m15.size) m16.size) m17.size) m18.size)
 have sz27 := (lT (lT (lT (lT (lT (lT (lT (lT sz4 m26.size) m27.size) md4.size) m28.size) m29.size) m30.size) m31.size) m32.size)
 have sz28 := (lT (lT (lT (lT (lT (lT (lT (lT sz5 m12.size) m13.size) md2.size) m14.size) m15.size) m16.size) m17.size) m18.size)
 have sz29 := (lT (lT (lT (lT (lT (lT (lT (lT sz6 m26.size) m27.size) md4.size) m28.size) m29.size) m30.size) m31.size) m32.size)
 have sz30 := (lT (lT (lT (lT (lT (lT (lT (lT sz7 m12.size) m13.size) md2.size) m14.size) m15.size) m16.size) m17.size) m18.size)
 have sz31 := (lT (lT (lT (lT (lT (lT (lT (lT sz8 m26.size) m27.size) md4.size) m28.size) m29.size) m30.size) m31.size) m32.size)
 have sz32 := (lT (lT (lT (lT (lT (lT (lT (lT sz9 m12.size) m13.size) md2.size) m14.size) m15.size) m16.size) m17.size) m18.size)
 have sz33 := (lT (lT (lT (lT (lT (lT (lT (lT sz10 m26.size) m27.size) md4.size) m28.size) m29.size) m30.size) m31.size) m32.size)
 have sz34 := (lT (lT (lT (lT (lT (lT (lT (lT sz11 m26.size) m27.size) md4.size) m28.size) m29.size) m30.size) m31.size) m32.size)
 have sz35 := (lT (lT (lT (lT (lT (lT (lT (lT sz12 m12.size) m13.size) md2.size) m14.size) m15.size) m16.size) m17.size) m18.size)
 have sz36 := (lT (lT (lT (lT (lT (lT (lT (lT sz13 m26.size) m27.size) md4.size) m28.size) m29.size) m30.size) m31.size) m32.size)
 have sz37 := (lT (lT (lT (lT (lT (lT (lT (lT m11.size m12.size) m13.size) md2.size) m14.size) m15.size) m16.size) m17.size) m18.size)
 have sz38 := (lT (lT (lT (lT (lT (lT (lT (lT sz14 m26.size) m27.size) md4.size) m28.size) m29.size) m30.size) m31.size) m32.size)
 have sz39 := (lT (lT (lT (lT (lT (lT (lT (lT (lT (lT sz23 m24.size) m25.size) m26.size) m27.size) md4.size) m28.size) m29.size) m30.size) m31.size) m32.size)
 have sz40 := (lT (lT m16.size m17.size) m18.size)
 have sz41 := (lT (lT (lT (lT (lT (lT (lT (lT sz16 m26.size) m27.size) md4.size) m28.size) m29.size) m30.size) m31.size) m32.size)
 have sz42 := (lT (lT (lT (lT (lT (lT (lT (lT sz18 m26.size) m27.size) md4.size) m28.size) m29.size) m30.size) m31.size) m32.size)
 have sz43 := (lT (lT m20.size md3.size) m21.size)
 have sz44 := (lT (lT (lT (lT (lT (lT (lT (lT sz22 m26.size) m27.size) md4.size) m28.size) m29.size) m30.size) m31.size) m32.size)
 have sz45 := (lT (lT sz43 m22.size) m23.size)
 have sz46 := (lT (lT (lT (lT (lT (lT (lT (lT m25.size m26.size) m27.size) md4.size) m28.size) m29.size) m30.size) m31.size) m32.size)
 have sz47 := (lT (lT (lT (lT (lT (lT m27.size md4.size) m28.size) m29.size) m30.size) m31.size) m32.size)
 have sz48 := (lT (lT (lT (lT sz20 m26.size) m27.size) md4.size) m28.size)
 have sz49 := (lT (lT m30.size m31.size) m32.size)
 have sz50 := (lT (lT sz48 m29.size) m30.size)
 rintro _ w37 ⟨b5, c5, rfl, ow4, hb2, m33⟩
 have r27 : Row w37 b5 0 [vS w16.heap.size 0 ka ka, vI 0, vS w32.heap.size 0 kb kb, vI 0] := (Own.row1 ow4).1
 refine WO.det (op_fieldAddr (off' := 1) rfl Try.runUnderlying33 rfl rfl Try.sizeOf25 rfl) rfl (.free rfl) rfl rfl ?_
 have r28 := (((((((r24.ext md4).ext m28).ext m29).ext m30).ext m31).ext m32).mod m33 (nC (lE (lL (lL r4.lt sz24) ge3)) nN))
 refine WO.op0 rfl (.free rfl) rfl (op_store (i := 1) (cs := [vS b5 0 2 c5]) rfl rfl rfl Try.sizeOf25 rfl r28 rfl (lB rfl) rfl) ?_
 rintro _ w38 ⟨r29, m34, z16⟩
 have r30 : Row w38 w4.heap.size 0 [vS b4 0 2 c4, vS b5 0 2 c5, vS b1 0 2 c1, vI 1, vF r_1, vF kw, vF 0, vF 0, vF 0, .bool op, vF lw, vF 1061158912, vF 3200253952] := Row.congr r29 rfl
 refine WO.end (NE.blk (NE.code (CE.region ?_)))
 refine WD (op_move rfl) rfl ?_
 refine WD (op_add (r := 2) rfl rfl (by decide)) rfl ?_
 refine WD (op_assign rfl) rfl ?_
 refine WL.end (NE.round (RN.one (CE.seq (CE.seq (CE.region ?_)))))
 iterate 2 refine WD (op_move rfl) rfl ?_
 refine WD (op_len rfl Try.runUnderlying36) rfl ?_
 refine WD (op_lti rfl rfl) rfl ?_
 refine WL.end (NE.code ?_)
 refine CE.cond_t rfl rfl ?_
 refine CE.skip' (NE.code (CE.seq (CE.block (CE.seq ?_))))
 refine CE.draw (fun _ => none) [0, 1, 2, 3, 4, 5, 6, 7, 8] [9, 10, 11] [] (by kernel_rfl) (by kernel_rfl) ?_
 have md5 : Mod [] w38 w38.drew := (Mod.refl _ _).drew
 generalize w38.drew = w39 at md5 ⊢
 refine DD 0 rfl (by kernel_rfl) rfl (fun wD mD => op_fieldAddr (off' := 0) rfl Try.runUnderlying33 rfl rfl Try.sizeOf25 rfl) ?_
 refine DD 1 rfl (by kernel_rfl) rfl (fun wD mD => op_load1 (i := 0) rfl Try.isAgg25 ((r30.ext md5).ext mD).rng rfl rfl) ?_
 refine DD 2 rfl (by kernel_rfl) rfl (fun wD mD => op_move rfl) ?_
 refine DD 3 rfl (by kernel_rfl) rfl (fun wD mD => op_move rfl) ?_
 refine DD 4 rfl (by kernel_rfl) rfl (fun wD mD => op_indexSl (off' := 2) rfl rfl rfl Try.runUnderlying36 Try.sizeOf2 (by omega) (by omega) rfl) ?_
 refine DD 5 rfl (by kernel_rfl) rfl (fun wD mD => op_load1 (i := 2) rfl Try.isAgg2 (((Rng.youngS rl (Rng.youngS rl (((((((Rng.youngS rl (Rng.youngS rl (((((((Rng.youngS rl ((((((((Rng.youngS rl ((((((((Rng.youngS rl (((((rl.ext m1).ext m2).ext m3).ext m4).ext m5) m6 (allge_cons (lT (lT (lT (lT m1.size m2.size) m3.size) m4.size) lR) allge_nil)).ext md1).ext m7).ext m8).ext m9).ext m10).ext m11).ext m12) m13 (allge_cons (lT (lT (lT (lT m1.size m2.size) m3.size) m4.size) lR) allge_nil)).ext md2).ext m14).ext m15).ext m16).ext m17).ext m18).ext m19) m20 (allge_cons (lT (lT (lT (lT m1.size m2.size) m3.size) m4.size) lR) allge_nil)).ext md3).ext m21).ext m22).ext m23).ext m24).ext m25) m26 (allge_cons (lT sz3 ge2) allge_nil)) m27 (allge_cons (lT (lT (lT (lT m1.size m2.size) m3.size) m4.size) lR) allge_nil)).ext md4).ext m28).ext m29).ext m30).ext m31).ext m32) m33 (allge_cons (lT sz26 ge3) allge_nil)) m34 (allge_cons (lT (lT (lT (lT m1.size m2.size) m3.size) m4.size) lR) allge_nil)).ext md5).ext mD) rfl rfl) ?_
 refine DR.one1 (i := 6) rfl rfl (by kernel_rfl) (.free rfl) rfl (ltb rfl) ?_
 intro w40 m35
 refine Op1.mono (op_makeF (i := Try.t27) rfl rfl rfl rfl Try.underlying26 rfl rfl rfl rfl (by first | omega | decide)) ?_
 rintro _ w41 ⟨rfl, r31, m36, z17⟩
 refine ⟨(((Mod.refl [] w39).nt m35).nt m36), ?_⟩
 refine DR.rebase ?_
 refine DD 7 rfl (by kernel_rfl) rfl (fun wD mD => op_build (qs := [(0, vS w40.heap.size 0 kd kd)]) (cells := #[vS w40.heap.size 0 kd kd, vI 0]) rfl (by kernel_rfl)) ?_
 refine DR.one1 (i := 8) rfl rfl (by kernel_rfl) (.free rfl) rfl (ltb rfl) ?_
 intro w42 m37
 refine Op1.mono (op_buildSl (qs := [(0, .agg #[vS w40.heap.size 0 kd kd, vI 0])]) (cells := #[vS w40.heap.size 0 kd kd, vI 0]) rfl Try.runUnderlying25 Try.sizeOf60 Try.zeroValue60 (by decide) (by decide) (by kernel_rfl)) ?_
 rintro _ w43 ⟨rfl, r32, m38, z18⟩
 refine ⟨(((Mod.refl [] w41).nt m37).nt m38), ?_⟩
 refine DR.done rfl ?_
 intro w44 m39
 have sz51 := (lT (lT (lT (lT (lT (lT (lT (lT (lT (lT (lT (lT (lT (lT (lT (lT sz2 m26.size) m27.size) md4.size) m28.size) m29.size) m30.size) m31.size) m32.size) m33.size) m34.size) md5.size) m35.size) m36.size) m37.size) m38.size) m39.size)
 refine WO.op rfl (.free rfl) rfl (ltb rfl) (op_appk (i := Try.t60) (m := 2) (bt := 32) (news := [vS w40.heap.size 0 kd kd, vI 0]) (q := 0) rfl rfl Try.underlying25 rfl rfl rfl rfl rfl (by decide) (r32.ext m39).rng rfl rfl (Own.modb (Own.modb (Own.modb (Own.modb (Own.modb (Own.modb (Own.modb (Own.modb (Own.modb (Own.modb (Own.modb (Own.modb (Own.modb (Own.modb (Own.modb ow3 m27 (nC (Ne.symm (own_ne hb1 (lE (lL (lL r4.lt sz1) ge2)) (lL r4.lt sz11))) nN)) md4 nN) m28 nN) m29 nN) m30 nN) m31 nN) m32 nN) m33 (nC (Ne.symm (own_ne hb1 (lG (lL (lL r9.lt sz19) ge3)) (lL r15.lt sz20))) nN)) m34 (nC (Ne.symm (own_ne hb1 (lE (lL (lL r4.lt sz1) ge2)) (lL r4.lt sz11))) nN)) md5 nN) m35 nN) m36 nN) m37 nN) m38 nN) m39 nN) sz51 (by omega) (by omega) (by decide)) ?_
 have sz52 := (lT (lT (lT (lT (lT (lT (lT (lT sz27 m33.size) m34.size) md5.size) m35.size) m36.size) m37.size) m38.size) m39.size)
 have sz53 := (lT (lT (lT (lT (lT (lT (lT (lT sz29 m33.size) m34.size) md5.size) m35.size) m36.size) m37.size) m38.size) m39.size)
 have sz54 := (lT (lT (lT (lT (lT (lT (lT (lT sz31 m33.size) m34.size) md5.size) m35.size) m36.size) m37.size) m38.size) m39.size)
 have sz55 := (lT (lT (lT (lT (lT (lT (lT (lT sz33 m33.size) m34.size) md5.size) m35.size) m36.size) m37.size) m38.size) m39.size)
 have sz56 := (lT (lT (lT (lT (lT (lT (lT (lT sz34 m33.size) m34.size) md5.size) m35.size) m36.size) m37.size) m38.size) m39.size)
 have sz57 := (lT (lT (lT (lT (lT (lT (lT (lT sz36 m33.size) m34.size) md5.size) m35.size) m36.size) m37.size) m38.size) m39.size)
 have sz58 := (lT (lT (lT (lT (lT (lT (lT (lT sz38 m33.size) m34.size) md5.size) m35.size) m36.size) m37.size) m38.size) m39.size)
 have sz59 := (lT (lT (lT (lT (lT (lT (lT (lT sz41 m33.size) m34.size) md5.size) m35.size) m36.size) m37.size) m38.size) m39.size)
 have sz60 := (lT (lT (lT (lT (lT (lT (lT (lT sz42 m33.size) m34.size) md5.size) m35.size) m36.size) m37.size) m38.size) m39.size)
 have sz61 := (lT (lT (lT (lT (lT (lT (lT (lT (lT (lT sz50 m31.size) m32.size) m33.size) m34.size) md5.size) m35.size) m36.size) m37.size) m38.size) m39.size)
 have sz62 := (lT (lT (lT (lT (lT (lT (lT (lT sz44 m33.size) m34.size) md5.size) m35.size) m36.size) m37.size) m38.size) m39.size)
 have sz63 := (lT (lT (lT (lT (lT (lT (lT (lT sz46 m33.size) m34.size) md5.size) m35.size) m36.size) m37.size) m38.size) m39.size)
 have sz64 := (lT (lT m27.size md4.size) m28.size)
 have sz65 := (lT (lT (lT (lT (lT (lT (lT (lT sz49 m33.size) m34.size) md5.size) m35.size) m36.size) m37.size) m38.size) m39.size)
 have sz66 := (lT (lT sz64 m29.size) m30.size)
 have sz67 := (lT (lT (lT (lT (lT (lT (lT (lT m32.size m33.size) m34.size) md5.size) m35.size) m36.size) m37.size) m38.size) m39.size)
 have sz68 := (lT (lT (lT (lT (lT (lT m34.size md5.size) m35.size) m36.size) m37.size) m38.size) m39.size)
 have sz69 := (lT (lT (lT (lT sz47 m33.size) m34.size) md5.size) m35.size)
 have sz70 := (lT (lT m37.size m38.size) m39.size)
 have sz71 := (lT (lT sz69 m36.size) m37.size)
 rintro _ w45 ⟨b6, c6, rfl, ow5, hb3, m40⟩
 have r33 : Row w45 b6 0 [vS w8.heap.size 0 ka ka, vI 0, vS w24.heap.size 0 kb kb, vI 0, vS w40.heap.size 0 kd kd, vI 0] := (Own.row1 ow5).1
 refine WO.det (op_fieldAddr (off' := 0) rfl Try.runUnderlying33 rfl rfl Try.sizeOf25 rfl) rfl (.free rfl) rfl rfl ?_
 have r34 := (((((((r30.ext md5).ext m35).ext m36).ext m37).ext m38).ext m39).mod m40 (nC (own_ne hb1 (lE (lL (lL r4.lt sz1) ge2)) (lL r4.lt sz11)) nN))
 refine WO.op0 rfl (.free rfl) rfl (op_store (i := 0) (cs := [vS b6 0 3 c6]) rfl rfl rfl Try.sizeOf25 rfl r34 rfl (lB rfl) rfl) ?_
 rintro _ w46 ⟨r35, m41, z19⟩
 have r36 : Row w46 w4.heap.size 0 [vS b6 0 3 c6, vS b5 0 2 c5, vS b1 0 2 c1, vI 1, vF r_1, vF kw, vF 0, vF 0, vF 0, .bool op, vF lw, vF 1061158912, vF 3200253952] := Row.congr r35 rfl
 refine WO.end (NE.code ?_)
 refine CE.draw (fun _ => none) [0, 1, 2, 3, 4, 5, 6, 7, 8] [9, 10, 11] [] (by kernel_rfl) (by kernel_rfl) ?_
 have md6 : Mod [] w46 w46.drew := (Mod.refl _ _).drew
 generalize w46.drew = w47 at md6 ⊢
 refine DD 0 rfl (by kernel_rfl) rfl (fun wD mD => op_fieldAddr (off' := 1) rfl Try.runUnderlying33 rfl rfl Try.sizeOf25 rfl) ?_
 refine DD 1 rfl (by kernel_rfl) rfl (fun wD mD => op_load1 (i := 1) rfl Try.isAgg25 ((r36.ext md6).ext mD).rng rfl rfl) ?_
 refine DD 2 rfl (by kernel_rfl) rfl (fun wD mD => op_move rfl) ?_
 refine DD 3 rfl (by kernel_rfl) rfl (fun wD mD => op_move rfl) ?_
 refine DD 4 rfl (by kernel_rfl) rfl (fun wD mD => op_indexSl (off' := 2) rfl rfl rfl Try.runUnderlying36 Try.sizeOf2 (by omega) (by omega) rfl) ?_
 refine DD 5 rfl (by kernel_rfl) rfl (fun wD mD => op_load1 (i := 2) rfl Try.isAgg2 (((Rng.youngS rl (Rng.youngS rl (((((((Rng.youngS rl (Rng.youngS rl (((((((Rng.youngS rl (Rng.youngS rl (((((((Rng.youngS rl ((((((((Rng.youngS rl ((((((((Rng.youngS rl (((((rl.ext m1).ext m2).ext m3).ext m4).ext m5) m6 (allge_cons (lT (lT (lT (lT m1.size m2.size) m3.size) m4.size) lR) allge_nil)).ext md1).ext m7).ext m8).ext m9).ext m10).ext m11).ext m12) m13 (allge_cons (lT (lT (lT (lT m1.size m2.size) m3.size) m4.size) lR) allge_nil)).ext md2).ext m14).ext m15).ext m16).ext m17).ext m18).ext m19) m20 (allge_cons (lT (lT (lT (lT m1.size m2.size) m3.size) m4.size) lR) allge_nil)).ext md3).ext m21).ext m22).ext m23).ext m24).ext m25) m26 (allge_cons (lT sz3 ge2) allge_nil)) m27 (allge_cons (lT (lT (lT (lT m1.size m2.size) m3.size) m4.size) lR) allge_nil)).ext md4).ext m28).ext m29).ext m30).ext m31).ext m32) m33 (allge_cons (lT sz26 ge3) allge_nil)) m34 (allge_cons (lT (lT (lT (lT m1.size m2.size) m3.size) m4.size) lR) allge_nil)).ext md5).ext m35).ext m36).ext m37).ext m38).ext m39) m40 (allge_cons (lT sz3 (Own.row1 ow3).2) allge_nil)) m41 (allge_cons (lT (lT (lT (lT m1.size m2.size) m3.size) m4.size) lR) allge_nil)).ext md6).ext mD) rfl rfl) ?_
 refine DR.one1 (i := 6) rfl rfl (by kernel_rfl) (.free rfl) rfl (ltb rfl) ?_
 intro w48 m42
 refine Op1.mono (op_makeF (i := Try.t27) rfl rfl rfl rfl Try.underlying26 rfl rfl rfl rfl (by first | omega | decide)) ?_
 rintro _ w49 ⟨rfl, r37, m43, z20⟩
 refine ⟨(((Mod.refl [] w47).nt m42).nt m43), ?_⟩
 refine DR.rebase ?_
 refine DD 7 rfl (by kernel_rfl) rfl (fun wD mD => op_build (qs := [(0, vS w48.heap.size 0 kd kd)]) (cells := #[vS w48.heap.size 0 kd kd, vI 0]) rfl (by kernel_rfl)) ?_
 refine DR.one1 (i := 8) rfl rfl (by kernel_rfl) (.free rfl) rfl (ltb rfl) ?_
 intro w50 m44
 refine Op1.mono (op_buildSl (qs := [(0, .agg #[vS w48.heap.size 0 kd kd, vI 0])]) (cells := #[vS w48.heap.size 0 kd kd, vI 0]) rfl Try.runUnderlying25 Try.sizeOf60 Try.zeroValue60 (by decide) (by decide) (by kernel_rfl)) ?_
 rintro _ w51 ⟨rfl, r38, m45, z21⟩
 refine ⟨(((Mod.refl [] w49).nt m44).nt m45), ?_⟩
 refine DR.done rfl ?_
 intro w52 m46
 have sz72 := (lT (lT (lT (lT (lT (lT (lT (lT (lT (lT (lT (lT (lT (lT (lT (lT sz25 m33.size) m34.size) md5.size) m35.size) m36.size) m37.size) m38.size) m39.size) m40.size) m41.size) md6.size) m42.size) m43.size) m44.size) m45.size) m46.size)
 refine WO.op rfl (.free rfl) rfl (ltb rfl) (op_appk (i := Try.t60) (m := 2) (bt := 32) (news := [vS w48.heap.size 0 kd kd, vI 0]) (q := 0) rfl rfl Try.underlying25 rfl rfl rfl rfl rfl (by decide) (r38.ext m46).rng rfl rfl (Own.modb (Own.modb (Own.modb (Own.modb (Own.modb (Own.modb (Own.modb (Own.modb (Own.modb (Own.modb (Own.modb (Own.modb (Own.modb (Own.modb (Own.modb ow4 m34 (nC (Ne.symm (own_ne hb2 (lE (lL (lL r4.lt sz24) ge3)) (lL r4.lt sz34))) nN)) md5 nN) m35 nN) m36 nN) m37 nN) m38 nN) m39 nN) m40 (nC (Ne.symm (own_ne hb2 (Ne.symm (own_ne hb1 (lG (lL (lL r9.lt sz19) ge3)) (lL r15.lt sz20))) (lL r21.lt sz47))) nN)) m41 (nC (Ne.symm (own_ne hb2 (lE (lL (lL r4.lt sz24) ge3)) (lL r4.lt sz34))) nN)) md6 nN) m42 nN) m43 nN) m44 nN) m45 nN) m46 nN) sz72 (by omega) (by omega) (by decide)) ?_
 have sz73 := (lT (lT (lT (lT (lT (lT (lT (lT sz52 m40.size) m41.size) md6.size) m42.size) m43.size) m44.size) m45.size) m46.size)
 have sz74 := (lT (lT (lT (lT (lT (lT (lT (lT sz53 m40.size) m41.size) md6.size) m42.size) m43.size) m44.size) m45.size) m46.size)
 have sz75 := (lT (lT (lT (lT (lT (lT (lT (lT sz54 m40.size) m41.size) md6.size) m42.size) m43.size) m44.size) m45.size) m46.size)
 have sz76 := (lT (lT (lT (lT (lT (lT (lT (lT sz55 m40.size) m41.size) md6.size) m42.size) m43.size) m44.size) m45.size) m46.size)
 have sz77 := (lT (lT (lT (lT (lT (lT (lT (lT sz56 m40.size) m41.size) md6.size) m42.size) m43.size) m44.size) m45.size) m46.size)
 have sz78 := (lT (lT (lT (lT (lT (lT (lT (lT sz57 m40.size) m41.size) md6.size) m42.size) m43.size) m44.size) m45.size) m46.size)
 have sz79 := (lT (lT (lT (lT (lT (lT (lT (lT sz58 m40.size) m41.size) md6.size) m42.size) m43.size) m44.size) m45.size) m46.size)
 have sz80 := (lT (lT (lT (lT (lT (lT (lT (lT (lT (lT (lT (lT (lT (lT (lT (lT sz39 m33.size) m34.size) md5.size) m35.size) m36.size) m37.size) m38.size) m39.size) m40.size) m41.size) md6.size) m42.size) m43.size) m44.size) m45.size) m46.size)
 have sz81 := (lT (lT (lT (lT (lT (lT (lT (lT sz59 m40.size) m41.size) md6.size) m42.size) m43.size) m44.size) m45.size) m46.size)
 have sz82 := (lT (lT (lT (lT (lT (lT (lT (lT sz60 m40.size) m41.size) md6.size) m42.size) m43.size) m44.size) m45.size) m46.size)
 have sz83 := (lT (lT (lT (lT (lT (lT (lT (lT sz62 m40.size) m41.size) md6.size) m42.size) m43.size) m44.size) m45.size) m46.size)
 have sz84 := (lT (lT (lT (lT (lT (lT (lT (lT sz63 m40.size) m41.size) md6.size) m42.size) m43.size) m44.size) m45.size) m46.size)
 have sz85 := (lT (lT (lT (lT (lT (lT (lT (lT (lT (lT sz71 m38.size) m39.size) m40.size) m41.size) md6.size) m42.size) m43.size) m44.size) m45.size) m46.size)
 have sz86 := (lT (lT (lT (lT (lT (lT (lT (lT sz65 m40.size) m41.size) md6.size) m42.size) m43.size) m44.size) m45.size) m46.size)
 have sz87 := (lT (lT (lT (lT (lT (lT (lT (lT sz67 m40.size) m41.size) md6.size) m42.size) m43.size) m44.size) m45.size) m46.size)
 have sz88 := (lT (lT m34.size md5.size) m35.size)
 have sz89 := (lT (lT (lT (lT (lT (lT (lT (lT sz70 m40.size) m41.size) md6.size) m42.size) m43.size) m44.size) m45.size) m46.size)
 have sz90 := (lT (lT sz88 m36.size) m37.size)
 have sz91 := (lT (lT (lT (lT (lT (lT (lT (lT m39.size m40.size) m41.size) md6.size) m42.size) m43.size) m44.size) m45.size) m46.size)
 have sz92 := (lT (lT (lT (lT (lT (lT m41.size md6.size) m42.size) m43.size) m44.size) m45.size) m46.size)
 have sz93 := (lT (lT (lT (lT sz68 m40.size) m41.size) md6.size) m42.size)
 have sz94 := (lT (lT m44.size m45.size) m46.size)
 have sz95 := (lT (lT sz93 m43.size) m44.size)
 rintro _ w53 ⟨b7, c7, rfl, ow6, hb4, m47⟩
 have r39 : Row w53 b7 0 [vS w16.heap.size 0 ka ka, vI 0, vS w32.heap.size 0 kb kb, vI 0, vS w48.heap.size 0 kd kd, vI 0] := (Own.row1 ow6).1
 refine WO.det (op_fieldAddr (off' := 1) rfl Try.runUnderlying33 rfl rfl Try.sizeOf25 rfl) rfl (.free rfl) rfl rfl ?_
 have r40 := (((((((r36.ext md6).ext m42).ext m43).ext m44).ext m45).ext m46).mod m47 (nC (own_ne hb2 (lE (lL (lL r4.lt sz24) ge3)) (lL r4.lt sz34)) nN))
 refine WO.op0 rfl (.free rfl) rfl (op_store (i := 1) (cs := [vS b7 0 3 c7]) rfl rfl rfl Try.sizeOf25 rfl r40 rfl (lB rfl) rfl) ?_
 rintro _ w54 ⟨r41, m48, z22⟩
 have r42 : Row w54 w4.heap.size 0 [vS b6 0 3 c6, vS b7 0 3 c7, vS b1 0 2 c1, vI 1, vF r_1, vF kw, vF 0, vF 0, vF 0, .bool op, vF lw, vF 1061158912, vF 3200253952] := Row.congr r41 rfl
 refine WO.end (NE.blk (NE.code (CE.region ?_)))
 refine WD (op_move rfl) rfl ?_
 refine WD (op_add (r := 3) rfl rfl (by decide)) rfl ?_
 refine WD (op_assign rfl) rfl ?_
 refine WL.end (NE.round (RN.one (CE.seq (CE.seq (CE.region ?_)))))
 iterate 2 refine WD (op_move rfl) rfl ?_
 refine WD (op_len rfl Try.runUnderlying36) rfl ?_
 refine WD (op_lti rfl rfl) rfl ?_
 refine WL.end (NE.code ?_)
 refine CE.cond_f rfl rfl ?_
 refine CE.exit' (XE.exit_then (XE.exit_then (XE.exit_here (NE.code (CE.seq (CE.region ?_))))))
 refine WD (op_loadA (i := 0) (cs := [vS b6 0 3 c6, vS b7 0 3 c7, vS b1 0 2 c1, vI 1, vF r_1, vF kw, vF 0, vF 0, vF 0, .bool op, vF lw, vF 1061158912, vF 3200253952]) rfl Try.isAgg33 Try.sizeOf33 r42.rng rfl rfl rfl) rfl ?_
 have sz96 := (lT (lT m2.size m3.size) m4.size)
 have r43 := (((((((((((((((((((((((((((((((((((((((((((((((((((((r1.ext m2).ext m3).ext m4).ext m5).mod m6 (nC (lE (lL (lL r1.lt sz96) lR)) nN)).ext md1).ext m7).ext m8).ext m9).ext m10).ext m11).ext m12).mod m13 (nC (lE (lL (lL r1.lt sz96) lR)) nN)).ext md2).ext m14).ext m15).ext m16).ext m17).ext m18).ext m19).mod m20 (nC (lE (lL (lL r1.lt sz96) lR)) nN)).ext md3).ext m21).ext m22).ext m23).ext m24).ext m25).mod m26 (nC (lE (lL (lL r1.lt sz5) ge2)) nN)).mod m27 (nC (lE (lL (lL r1.lt sz96) lR)) nN)).ext md4).ext m28).ext m29).ext m30).ext m31).ext m32).mod m33 (nC (lE (lL (lL r1.lt sz28) ge3)) nN)).mod m34 (nC (lE (lL (lL r1.lt sz96) lR)) nN)).ext md5).ext m35).ext m36).ext m37).ext m38).ext m39).mod m40 (nC (own_ne hb1 (lE (lL (lL r1.lt sz5) ge2)) (lL r1.lt sz6)) nN)).mod m41 (nC (lE (lL (lL r1.lt sz96) lR)) nN)).ext md6).ext m42).ext m43).ext m44).ext m45).ext m46).mod m47 (nC (own_ne hb2 (lE (lL (lL r1.lt sz28) ge3)) (lL r1.lt sz29)) nN)).mod m48 (nC (lE (lL (lL r1.lt sz96) lR)) nN))
 refine WL.op0 (op_store (i := 0) (cs := [vS b6 0 3 c6, vS b7 0 3 c7, vS b1 0 2 c1, vI 1, vF r_1, vF kw, vF 0, vF 0, vF 0, .bool op, vF lw, vF 1061158912, vF 3200253952]) rfl rfl rfl Try.sizeOf33 rfl r43 rfl (lB rfl) rfl) rfl rfl ?_
 rintro _ w55 ⟨r44, m49, z23⟩
 have r45 : Row w55 w.heap.size 0 [vS b6 0 3 c6, vS b7 0 3 c7, vS b1 0 2 c1, vI 1, vF r_1, vF kw, vF 0, vF 0, vF 0, .bool op, vF lw, vF 1061158912, vF 3200253952] := Row.congr r44 rfl
 refine WD (op_assign rfl) rfl ?_
 refine WL.end (NE.code (CE.ret' ?_))
 refine XE.leaveT Try.results15 (res_agg (cs := [vS b6 0 3 c6, vS b7 0 3 c7, vS b1 0 2 c1, vI 1, vF r_1, vF kw, vF 0, vF 0, vF 0, .bool op, vF lw, vF 1061158912, vF 3200253952]) rfl Try.isAgg33 Try.sizeOf33 r45.rng rfl (res_tmp rfl res_nil)) ?_
 have r46 := ((((((((((r33.mod m41 (nC (Ne.symm (own_ne hb3 (own_ne hb1 (lE (lL (lL r4.lt sz1) ge2)) (lL r4.lt sz11)) (lL r4.lt sz56))) nN)).ext md6).ext m42).ext m43).ext m44).ext m45).ext m46).mod m47 (nC (Ne.symm (own_ne hb3 (Ne.symm (own_ne hb2 (Ne.symm (own_ne hb1 (lG (lL (lL r9.lt sz19) ge3)) (lL r15.lt sz20))) (lL r21.lt sz47))) (lL r27.lt sz68))) nN)).mod m48 (nC (Ne.symm (own_ne hb3 (own_ne hb1 (lE (lL (lL r4.lt sz1) ge2)) (lL r4.lt sz11)) (lL r4.lt sz56))) nN)).mod m49 (nC (Ne.symm (own_ne hb3 (own_ne hb1 (lE (lL (lL r1.lt sz5) ge2)) (lL r1.lt sz6)) (lL r1.lt sz53))) nN))
 have r47 := ((r39.mod m48 (nC (Ne.symm (own_ne hb4 (own_ne hb2 (lE (lL (lL r4.lt sz24) ge3)) (lL r4.lt sz34)) (lL r4.lt sz77))) nN)).mod m49 (nC (Ne.symm (own_ne hb4 (own_ne hb2 (lE (lL (lL r1.lt sz28) ge3)) (lL r1.lt sz29)) (lL r1.lt sz74))) nN))
 have r48 := ((((((((((((((((((((((((((((((((((((((((((((((((((((r3.ext m4).ext m5).mod m6 (nC (lE (lL (lL r3.lt m4.size) lR)) nN)).ext md1).ext m7).ext m8).ext m9).ext m10).ext m11).ext m12).mod m13 (nC (lE (lL (lL r3.lt m4.size) lR)) nN)).ext md2).ext m14).ext m15).ext m16).ext m17).ext m18).ext m19).mod m20 (nC (lE (lL (lL r3.lt m4.size) lR)) nN)).ext md3).ext m21).ext m22).ext m23).ext m24).ext m25).mod m26 (nC (lE (lL (lL r3.lt sz9) ge2)) nN)).mod m27 (nC (lE (lL (lL r3.lt m4.size) lR)) nN)).ext md4).ext m28).ext m29).ext m30).ext m31).ext m32).mod m33 (nC (lE (lL (lL r3.lt sz32) ge3)) nN)).mod m34 (nC (lE (lL (lL r3.lt m4.size) lR)) nN)).ext md5).ext m35).ext m36).ext m37).ext m38).ext m39).mod m40 (nC (own_ne hb1 (lE (lL (lL r3.lt sz9) ge2)) (lL r3.lt sz10)) nN)).mod m41 (nC (lE (lL (lL r3.lt m4.size) lR)) nN)).ext md6).ext m42).ext m43).ext m44).ext m45).ext m46).mod m47 (nC (own_ne hb2 (lE (lL (lL r3.lt sz32) ge3)) (lL r3.lt sz33)) nN)).mod m48 (nC (lE (lL (lL r3.lt m4.size) lR)) nN)).mod m49 (nC (lG (lL (lL r1.lt m2.size) ge1)) nN))
 have sz97 := (lT (lT m6.size md1.size) m7.size)
 have sz98 := (lT (lT (lT (lT sz96 m5.size) m6.size) md1.size) m7.size)
 have r49 := ((((((((((((((((((((((((((((((((((((((((((((((r7.ext m9).ext m10).ext m11).ext m12).mod m13 (nC (lG (lL (lL r4.lt sz97) lR)) nN)).ext md2).ext m14).ext m15).ext m16).ext m17).ext m18).ext m19).mod m20 (nC (lG (lL (lL r4.lt sz97) lR)) nN)).ext md3).ext m21).ext m22).ext m23).ext m24).ext m25).mod m26 (nC (lE (lL (lL r7.lt sz12) ge2)) nN)).mod m27 (nC (lG (lL (lL r4.lt sz97) lR)) nN)).ext md4).ext m28).ext m29).ext m30).ext m31).ext m32).mod m33 (nC (lE (lL (lL r7.lt sz35) ge3)) nN)).mod m34 (nC (lG (lL (lL r4.lt sz97) lR)) nN)).ext md5).ext m35).ext m36).ext m37).ext m38).ext m39).mod m40 (nC (own_ne hb1 (lE (lL (lL r7.lt sz12) ge2)) (lL r7.lt sz13)) nN)).mod m41 (nC (lG (lL (lL r4.lt sz97) lR)) nN)).ext md6).ext m42).ext m43).ext m44).ext m45).ext m46).mod m47 (nC (own_ne hb2 (lE (lL (lL r7.lt sz35) ge3)) (lL r7.lt sz36)) nN)).mod m48 (nC (lG (lL (lL r4.lt sz97) lR)) nN)).mod m49 (nC (lG (lL (lL r1.lt sz98) lR)) nN))
 have sz99 := (lT (lT (lT (lT sz24 m19.size) m20.size) md3.size) m21.size)
 have sz100 := (lT (lT (lT (lT sz28 m19.size) m20.size) md3.size) m21.size)
 have r50 := ((((((((((((((((((((((((((((((r19.ext m23).ext m24).ext m25).mod m26 (nC (lG (lL (lL r9.lt sz21) lR)) nN)).mod m27 (nC (lG (lL (lL r4.lt sz99) lR)) nN)).ext md4).ext m28).ext m29).ext m30).ext m31).ext m32).mod m33 (nC (lG (lL (lL r15.lt sz43) lR)) nN)).mod m34 (nC (lG (lL (lL r4.lt sz99) lR)) nN)).ext md5).ext m35).ext m36).ext m37).ext m38).ext m39).mod m40 (nC (own_ne hb1 (lG (lL (lL r9.lt sz21) lR)) (lL r19.lt sz22)) nN)).mod m41 (nC (lG (lL (lL r4.lt sz99) lR)) nN)).ext md6).ext m42).ext m43).ext m44).ext m45).ext m46).mod m47 (nC (own_ne hb2 (lG (lL (lL r15.lt sz43) lR)) (lL r19.lt sz44)) nN)).mod m48 (nC (lG (lL (lL r4.lt sz99) lR)) nN)).mod m49 (nC (lG (lL (lL r1.lt sz100) lR)) nN))
 have sz101 := (lT (lT (lT (lT sz34 m33.size) m34.size) md5.size) m35.size)
 have sz102 := (lT (lT (lT (lT sz29 m33.size) m34.size) md5.size) m35.size)
 have r51 := ((((((((((((((r31.ext m37).ext m38).ext m39).mod m40 (nC (lG (lL (lL r21.lt sz69) lR)) nN)).mod m41 (nC (lG (lL (lL r4.lt sz101) lR)) nN)).ext md6).ext m42).ext m43).ext m44).ext m45).ext m46).mod m47 (nC (lG (lL (lL r27.lt sz88) lR)) nN)).mod m48 (nC (lG (lL (lL r4.lt sz101) lR)) nN)).mod m49 (nC (lG (lL (lL r1.lt sz102) lR)) nN))
 have sz103 := (lT (lT (lT (lT sz1 m12.size) m13.size) md2.size) m14.size)
 have sz104 := (lT (lT (lT (lT sz5 m12.size) m13.size) md2.size) m14.size)
 have r52 := ((((((((((((((((((((((((((((((((((((((r13.ext m16).ext m17).ext m18).ext m19).mod m20 (nC (lG (lL (lL r4.lt sz103) lR)) nN)).ext md3).ext m21).ext m22).ext m23).ext m24).ext m25).mod m26 (nC (lG (lL (lL r9.lt sz15) lR)) nN)).mod m27 (nC (lG (lL (lL r4.lt sz103) lR)) nN)).ext md4).ext m28).ext m29).ext m30).ext m31).ext m32).mod m33 (nC (lE (lL (lL r13.lt sz40) ge3)) nN)).mod m34 (nC (lG (lL (lL r4.lt sz103) lR)) nN)).ext md5).ext m35).ext m36).ext m37).ext m38).ext m39).mod m40 (nC (own_ne hb1 (lG (lL (lL r9.lt sz15) lR)) (lL r13.lt sz16)) nN)).mod m41 (nC (lG (lL (lL r4.lt sz103) lR)) nN)).ext md6).ext m42).ext m43).ext m44).ext m45).ext m46).mod m47 (nC (own_ne hb2 (lE (lL (lL r13.lt sz40) ge3)) (lL r13.lt sz41)) nN)).mod m48 (nC (lG (lL (lL r4.lt sz103) lR)) nN)).mod m49 (nC (lG (lL (lL r1.lt sz104) lR)) nN))
 have sz105 := (lT (lT (lT (lT sz11 m26.size) m27.size) md4.size) m28.size)
 have sz106 := (lT (lT (lT (lT sz6 m26.size) m27.size) md4.size) m28.size)
 have r53 := ((((((((((((((((((((((r25.ext m30).ext m31).ext m32).mod m33 (nC (lG (lL (lL r15.lt sz48) lR)) nN)).mod m34 (nC (lG (lL (lL r4.lt sz105) lR)) nN)).ext md5).ext m35).ext m36).ext m37).ext m38).ext m39).mod m40 (nC (lG (lL (lL r21.lt sz64) lR)) nN)).mod m41 (nC (lG (lL (lL r4.lt sz105) lR)) nN)).ext md6).ext m42).ext m43).ext m44).ext m45).ext m46).mod m47 (nC (own_ne hb2 (lG (lL (lL r15.lt sz48) lR)) (lL r25.lt sz49)) nN)).mod m48 (nC (lG (lL (lL r4.lt sz105) lR)) nN)).mod m49 (nC (lG (lL (lL r1.lt sz106) lR)) nN))
 have sz107 := (lT (lT (lT (lT sz56 m40.size) m41.size) md6.size) m42.size)
 have sz108 := (lT (lT (lT (lT sz53 m40.size) m41.size) md6.size) m42.size)
 have r54 := ((((((r37.ext m44).ext m45).ext m46).mod m47 (nC (lG (lL (lL r27.lt sz93) lR)) nN)).mod m48 (nC (lG (lL (lL r4.lt sz107) lR)) nN)).mod m49 (nC (lG (lL (lL r1.lt sz108) lR)) nN))
 have sz109 := (lT (lT (lT (lT (lT (lT (lT m1.size m2.size) m3.size) m4.size) m5.size) m6.size) md1.size) m7.size)
 have sz110 := (lT (lT (lT (lT sz26 m19.size) m20.size) md3.size) m21.size)
 have sz111 := (lT (lT (lT (lT sz27 m33.size) m34.size) md5.size) m35.size)
 have sz112 := (lT (lT (lT (lT sz3 m12.size) m13.size) md2.size) m14.size)
 have sz113 := (lT (lT (lT (lT sz4 m26.size) m27.size) md4.size) m28.size)
 have sz114 := (lT (lT (lT (lT sz52 m40.size) m41.size) md6.size) m42.size)
 have sz115 := (lT (lT (lT (lT m4.size m5.size) m6.size) md1.size) m7.size)
 have sz116 := (lT (lT (lT (lT sz32 m19.size) m20.size) md3.size) m21.size)
 have sz117 := (lT (lT (lT (lT sz33 m33.size) m34.size) md5.size) m35.size)
 have sz118 := (lT (lT (lT (lT sz9 m12.size) m13.size) md2.size) m14.size)
 have sz119 := (lT (lT (lT (lT sz10 m26.size) m27.size) md4.size) m28.size)
 have sz120 := (lT (lT m41.size md6.size) m42.size)
 have sz121 := (lT (lT (lT (lT sz55 m40.size) m41.size) md6.size) m42.size)
 have sz122 := (lT (lT (lT (lT sz12 m12.size) m13.size) md2.size) m14.size)
 have sz123 := (lT (lT (lT (lT sz13 m26.size) m27.size) md4.size) m28.size)
 have sz124 := (lT (lT (lT (lT sz57 m40.size) m41.size) md6.size) m42.size)
 have sz125 := (lT (lT (lT (lT sz40 m19.size) m20.size) md3.size) m21.size)
 have sz126 := (lT (lT (lT (lT sz22 m26.size) m27.size) md4.size) m28.size)
 have sz127 := (lT (lT (lT (lT sz62 m40.size) m41.size) md6.size) m42.size)
 have sz128 := (lT (lT (lT (lT sz41 m33.size) m34.size) md5.size) m35.size)
 have sz129 := (lT (lT (lT (lT sz49 m33.size) m34.size) md5.size) m35.size)
 have sz130 := (lT (lT (lT (lT sz70 m40.size) m41.size) md6.size) m42.size)
 have sz131 := (lT (lT (lT (lT sz35 m19.size) m20.size) md3.size) m21.size)
 have sz132 := (lT (lT (lT (lT sz36 m33.size) m34.size) md5.size) m35.size)
 have sz133 := (lT (lT (lT (lT sz44 m33.size) m34.size) md5.size) m35.size)
 have sz134 := (lT (lT (lT (lT sz16 m26.size) m27.size) md4.size) m28.size)
 have sz135 := (lT (lT (lT (lT sz59 m40.size) m41.size) md6.size) m42.size)
 have sz136 := (lT (lT (lT (lT sz65 m40.size) m41.size) md6.size) m42.size)
 have sz137 := (lT (lT (lT m1.size m2.size) m3.size) m4.size)
 refine ⟨b6, c6, b7, c7, b1, c1, r_1, w8.heap.size, w24.heap.size, w40.heap.size, w16.heap.size, w32.heap.size, w48.heap.size, rfl, ?_, h2, r46, r47, r48, r49, r50, r51, r52, r53, r54, (lT sz3 (Own.row1 ow5).2), (lT sz26 (Own.row1 ow6).2), (lT (lT m1.size m2.size) ge1), (lT sz109 lR), (lT sz110 lR), (lT sz111 lR), (lT sz112 lR), (lT sz113 lR), (lT sz114 lR), (own_ne hb4 (Ne.symm (own_ne hb3 (Ne.symm (own_ne hb2 (Ne.symm (own_ne hb1 (lG (lL (lL r9.lt sz19) ge3)) (lL r15.lt sz20))) (lL r21.lt sz47))) (lL r27.lt sz68))) (lL r33.lt sz92)), (Ne.symm (own_ne hb3 (own_ne hb1 (lE (lL (lL r3.lt sz9) ge2)) (lL r3.lt sz10)) (lL r3.lt sz55))), (Ne.symm (own_ne hb4 (own_ne hb2 (lE (lL (lL r3.lt sz32) ge3)) (lL r3.lt sz33)) (lL r3.lt sz76))), (own_ne hb3 (own_ne hb1 (lE (lL (lL r7.lt sz12) ge2)) (lL r7.lt sz13)) (lL r7.lt sz57)), (own_ne hb4 (own_ne hb2 (lE (lL (lL r7.lt sz35) ge3)) (lL r7.lt sz36)) (lL r7.lt sz78)), (lG (lL (lL r3.lt sz115) lR)), (own_ne hb3 (own_ne hb1 (lG (lL (lL r9.lt sz21) lR)) (lL r19.lt sz22)) (lL r19.lt sz62)), (own_ne hb4 (own_ne hb2 (lG (lL (lL r15.lt sz43) lR)) (lL r19.lt sz44)) (lL r19.lt sz83)), (lG (lL (lL r3.lt sz116) lR)), (own_ne hb3 (lG (lL (lL r21.lt sz69) lR)) (lL r31.lt sz70)), (own_ne hb4 (lG (lL (lL r27.lt sz88) lR)) (lL r31.lt sz89)), (lG (lL (lL r3.lt sz117) lR)), (own_ne hb3 (own_ne hb1 (lG (lL (lL r9.lt sz15) lR)) (lL r13.lt sz16)) (lL r13.lt sz59)), (own_ne hb4 (own_ne hb2 (lE (lL (lL r13.lt sz40) ge3)) (lL r13.lt sz41)) (lL r13.lt sz81)), (lG (lL (lL r3.lt sz118) lR)), (own_ne hb3 (lG (lL (lL r21.lt sz64) lR)) (lL r25.lt sz65)), (own_ne hb4 (own_ne hb2 (lG (lL (lL r15.lt sz48) lR)) (lL r25.lt sz49)) (lL r25.lt sz86)), (lG (lL (lL r3.lt sz119) lR)), (lG (lL (lL r33.lt sz120) lR)), (own_ne hb4 (lG (lL (lL r27.lt sz93) lR)) (lL r37.lt sz94)), (lG (lL (lL r3.lt sz121) lR)), (lE (lL (lL r7.lt sz122) lR)), (lE (lL (lL r7.lt sz123) lR)), (lE (lL (lL r7.lt sz124) lR)), (lG (lL (lL r13.lt sz125) lR)), (lE (lL (lL r19.lt sz126) lR)), (lE (lL (lL r19.lt sz127) lR)), (lG (lL (lL r13.lt sz128) lR)), (lG (lL (lL r25.lt sz129) lR)), (lE (lL (lL r31.lt sz130) lR)), (lE (lL (lL r7.lt sz131) lR)), (lE (lL (lL r7.lt sz132) lR)), (lE (lL (lL r19.lt sz133) lR)), (lE (lL (lL r13.lt sz134) lR)), (lE (lL (lL r13.lt sz135) lR)), (lE (lL (lL r25.lt sz136) lR)), ((((((((((((((((((((((((((((((((((((((((((((((((((((((((Mod.refl [] w).nt m1).nt m2).nt m3).nt m4).nt m5).then m6 ((aC (.inr (lT sz137 lR)) aN))).nt md1).nt m7).nt m8).nt m9).nt m10).nt m11).nt m12).then m13 ((aC (.inr (lT sz137 lR)) aN))).nt md2).nt m14).nt m15).nt m16).nt m17).nt m18).nt m19).then m20 ((aC (.inr (lT sz137 lR)) aN))).nt md3).nt m21).nt m22).nt m23).nt m24).nt m25).then m26 ((aC (.inr (lT sz3 ge2)) aN))).then m27 ((aC (.inr (lT sz137 lR)) aN))).nt md4).nt m28).nt m29).nt m30).nt m31).nt m32).then m33 ((aC (.inr (lT sz26 ge3)) aN))).then m34 ((aC (.inr (lT sz137 lR)) aN))).nt md5).nt m35).nt m36).nt m37).nt m38).nt m39).then m40 ((aC (.inr (lT sz3 (Own.row1 ow3).2)) aN))).then m41 ((aC (.inr (lT sz137 lR)) aN))).nt md6).nt m42).nt m43).nt m44).nt m45).nt m46).then m47 ((aC (.inr (lT sz26 (Own.row1 ow4).2)) aN))).then m48 ((aC (.inr (lT sz137 lR)) aN))).then m49 ((aC (.inr lR) aN)))⟩
 all_goals first | assumption | rfl

end Go.Proofs.Ytnahhdnkbbdceaa
