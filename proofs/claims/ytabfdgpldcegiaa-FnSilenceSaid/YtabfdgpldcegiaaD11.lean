/- The strings of the law on silence. -/
import Derived.Test.YtabfdgpldcegiaaD10
set_option linter.unusedVariables false
set_option linter.unusedSimpArgs false
namespace Go.Proofs.Ytabfdgpldcegiaa

/-- the law's string behind `k` steps in which nothing comes -/
def zL (n ta da mw lw : Nat) (zs : List Nat) (k : Nat) : StrSt := strAt n 3 ta 0 0 2 da mw 0 lw zs 0 0 0 0 0 (fun _ => 0) k
structure LawS (n ta da mw lw : Nat) : Prop where
  n1 : 1 ≤ n
  n2 : n ≤ 1024
  f1 : finF ta = true
  f2 : finF da = true
  f3 : finF mw = true
  f4 : finF lw = true
section
variable {n ta da mw lw : Nat} {zs : List Nat} {z : StrSt}
theorem fz9 : finF 0 = true := by decide +kernel
theorem zw9 : (0 : Nat) < wid .f32 := by decide +kernel
theorem Way.start (h : LawS n ta da mw lw) (hl : zs.length = n) (hw : W32 zs) : Way n ⟨zs, 0, 0, 0, 0, 0⟩ := ⟨h.n1, hl, hw, fz9, fz9, fz9, rfl, zw9, zw9, zw9⟩
theorem Way.valid (h : LawS n ta da mw lw) (w : Way n z) : vStr n ((z.i : Nat) : Int) 3 ta 0 0 z.t0 z.t1 2 da mw 0 z.d0 z.d1 lw = true := by
  rw [w.e]; exact vStr_law h.n1 h.n2 w.i h.f1 h.f2 h.f3 h.f4 w.f0 w.f1 w.f2
theorem new_valid (h : LawS n ta da mw lw) : vStr n (0 : Int) 3 ta 0 0 0 0 2 da mw 0 0 0 lw = true := vStr_law (i := 0) h.n1 h.n2 h.n1 h.f1 h.f2 h.f3 h.f4 fz9 fz9 fz9
theorem zL_way (h : LawS n ta da mw lw) (hl : zs.length = n) (hw : W32 zs) (k : Nat) : Way n (zL n ta da mw lw zs k) := (Way.start h hl hw).at k
theorem zL_more {k m : Nat} (e : zL n ta da mw lw zs k = z) : strAt n 3 ta 0 0 2 da mw 0 lw z.xs z.i z.t0 z.t1 z.d0 z.d1 (fun _ => 0) m = zL n ta da mw lw zs (k + m) := by
  rw [← e]; exact strAt_more
theorem noise_wit (n fo s : Nat) : ∃ zs : List Nat, zs.length = n ∧ W32 zs ∧ Cn zs (chg (noiseG fo s) n 0 (List.replicate n 0) n) := by
  have key : ∀ m, (chg (noiseG fo s) n 0 (List.replicate n 0) m).length = n ∧ W32 (chg (noiseG fo s) n 0 (List.replicate n 0) m) := by
    intro m
    induction m with
    | zero => exact ⟨List.length_replicate, W32.zeros _⟩
    | succ m ih => rw [chg_succ]; exact ⟨(List.length_set).trans ih.1, W32.set ih.2 (fop_lt _ _ _ _)⟩
  exact ⟨_, (key n).1, (key n).2, Cn.refl _⟩
theorem newOk_of {p q pw mw : Nat} (hp : p < 40) (hq : q < 17) (h1 : cn .f32 pw = cn .f32 (fop .add .f32 1077936128 (fop .quo .f32 (FloatKind.f32.nearest ((p : Nat) : Int)) 1090519040))) (h2 : cn .f32 mw = cn .f32 (fop .quo .f32 (FloatKind.f32.nearest ((q : Nat) : Int)) 1115684864)) : NewOk pw mw := by
  have e1 : pw = perW p := eq_of_cn h1 (new_ok hp hq).2
  have e2 : mw = sixW q := eq_of_cn h2 (six_ok (by omega)).1
  rw [e1, e2]; exact (new_ok hp hq).1
theorem sixOk_of {q lw : Nat} (hq : q < 48) (h2 : cn .f32 lw = cn .f32 (fop .quo .f32 (FloatKind.f32.nearest ((q : Nat) : Int)) 1115684864)) : (fGe .f32 lw 0 && fLe .f32 lw 1065353216) = true ∧ finF lw = true := by
  have e2 : lw = sixW q := eq_of_cn h2 (six_ok (by omega)).1
  rw [e2]; exact ⟨(six_ok (by omega)).2.2, (six_ok (by omega)).2.1⟩
theorem lawS_of (p q l : Nat) {n ta da mw lw pw : Nat} (n1 : 1 ≤ n) (n2 : n ≤ 1024) (f1 : finF ta = true) (f2 : finF da = true) (hp : p < 40) (hq : q < 17) (hl : l < 48) (h1 : cn .f32 pw = cn .f32 (fop .add .f32 1077936128 (fop .quo .f32 (FloatKind.f32.nearest ((p : Nat) : Int)) 1090519040))) (h2 : cn .f32 mw = cn .f32 (fop .quo .f32 (FloatKind.f32.nearest ((q : Nat) : Int)) 1115684864)) (h3 : cn .f32 lw = cn .f32 (fop .quo .f32 (FloatKind.f32.nearest ((l : Nat) : Int)) 1115684864)) : LawS n ta da mw lw :=
  ⟨n1, n2, f1, f2, (newOk_of hp hq h1 h2).g, (sixOk_of hl h3).2⟩
theorem still_over2 {n1 n2 : Nat} (h : 3000 < n1 ∨ 3000 < n2) : (decide ((3000 : Int) < ((n1 : Nat) : Int)) || decide ((3000 : Int) < ((n2 : Nat) : Int))) = true := by
  simp; omega
theorem still_in2 {n1 n2 : Nat} (h : n1 ≤ 3000) (h2 : n2 ≤ 3000) : (decide ((3000 : Int) < ((n1 : Nat) : Int)) || decide ((3000 : Int) < ((n2 : Nat) : Int))) = false := by
  simp; omega
/-- behind how many steps it is silent, and the code of the answer -/
def silN (n ta da mw lw : Nat) (zs : List Nat) : Nat := (silF n (fun ii => zL n ta da mw lw zs ii) (20000 + 1) 0).1.toNat
def silC (n ta da mw lw : Nat) (zs : List Nat) : Int := (silF n (fun ii => zL n ta da mw lw zs ii) (20000 + 1) 0).2
theorem sil_eq : silF n (fun ii => zL n ta da mw lw zs ii) (20000 + 1) 0 = (((silN n ta da mw lw zs : Nat) : Int), silC n ta da mw lw zs) := by
  obtain ⟨m, hm⟩ := silF_nat (n := n) (Z := fun ii => zL n ta da mw lw zs ii) (20000 + 1) 0
  apply Prod.ext
  · show _ = ((silN n ta da mw lw zs : Nat) : Int)
    unfold silN; rw [hm]; simp
  · rfl
theorem silC_code : silC n ta da mw lw zs = 0 ∨ silC n ta da mw lw zs = 7 := silF_code _ _
theorem silN_ok (h : silC n ta da mw lw zs = 0) (l : LawS n ta da mw lw) (hl : zs.length = n) (hw : W32 zs) : silN n ta da mw lw zs ≤ 20000 ∧ SilZ n (zL n ta da mw lw zs (silN n ta da mw lw zs)) := by
  have e := sil_eq (n := n) (ta := ta) (da := da) (mw := mw) (lw := lw) (zs := zs)
  rw [h] at e
  obtain ⟨_, h2, h3⟩ := silF_ok _ _ _ e
  have w := zL_way l hl hw (silN n ta da mw lw zs)
  refine ⟨by omega, SilZ.of w.i w.l w.w w.b0 w.b1 w.b2 (by rw [w.e]; decide +kernel) h3⟩
theorem sil_later (l : LawS n ta da mw lw) {k : Nat} (h : SilZ n (zL n ta da mw lw zs k)) (m : Nat) : SilZ n (zL n ta da mw lw zs (k + m)) := SilZ.at (f := fun _ => 0) l.f1 l.f2 l.f3 l.f4 (fun _ => (show Z0 0 from rfl)) h m
theorem out_zero (l : LawS n ta da mw lw) {k q j : Nat} (h : SilZ n (zL n ta da mw lw zs k)) (e : zL n ta da mw lw zs k = z) (hj : j < q) : fEq .f32 ((outs (strOut n 3 ta 0 0 2 da mw 0 lw z.xs z.i z.t0 z.t1 z.d0 z.d1 (fun _ => 0)) q).getD j 0) 0 = true := by
  have hg : (outs (strOut n 3 ta 0 0 2 da mw 0 lw z.xs z.i z.t0 z.t1 z.d0 z.d1 (fun _ => 0)) q).getD j 0 = strOut n 3 ta 0 0 2 da mw 0 lw z.xs z.i z.t0 z.t1 z.d0 z.d1 (fun _ => 0) j := by simp [outs, hj]
  rw [hg]
  unfold strOut
  rw [zL_more e]
  have s := sil_later l h j
  exact (s.xs _ s.i).eq
theorem way_next {k N q : Nat} {zz : StrSt} (hz : zL n ta da mw lw zs (min k N) = z) (e : zz = strAt n 3 ta 0 0 2 da mw 0 lw z.xs z.i z.t0 z.t1 z.d0 z.d1 (fun _ => 0) q) (hq : min k N + q = min (k + 1000) N) : zL n ta da mw lw zs (min (k + 1000) N) = zz := by
  rw [e, zL_more hz, hq]
theorem sil_now {N : Nat} (h : SilZ n (zL n ta da mw lw zs N)) (hz : zL n ta da mw lw zs N = z) : strSilent n z.xs z.t0 z.t1 z.d0 z.d1 = true := by
  rw [← hz]; exact h.silent
theorem sil_after {N q : Nat} {zz : StrSt} (l : LawS n ta da mw lw) (h : SilZ n (zL n ta da mw lw zs N)) (hz : zL n ta da mw lw zs N = z) (e : zz = strAt n 3 ta 0 0 2 da mw 0 lw z.xs z.i z.t0 z.t1 z.d0 z.d1 (fun _ => 0) q) : strSilent n zz.xs zz.t0 zz.t1 zz.d0 zz.d1 = true := by
  rw [e, zL_more hz]; exact (sil_later l h q).silent
theorem sil_outz {N q j : Nat} {oo : List Nat} (l : LawS n ta da mw lw) (h : SilZ n (zL n ta da mw lw zs N)) (hz : zL n ta da mw lw zs N = z) (e : oo = outs (strOut n 3 ta 0 0 2 da mw 0 lw z.xs z.i z.t0 z.t1 z.d0 z.d1 (fun _ => 0)) q) (hj : j < q) : fEq .f32 (oo.getD j 0) 0 = true := by
  rw [e]; exact out_zero l h hz hj
end

set_option maxRecDepth 100000 in
set_option maxHeartbeats 2000000 in
theorem c_a2Long (n1 : Nat) (c1 : Nat) (A1 : Option Addr) (n2 : Nat) (c2 : Nat) (A2 : Option Addr) (w : World) : Cl Try.prog 14 #[.slice A1 n1 c1, .slice A2 n2 c2] w fun v w' => v = .bool (decide ((3000 : Int) < ((n1 : Nat) : Int)) || decide ((3000 : Int) < ((n2 : Nat) : Int))) ∧ w = w' := by
  refine Cl.of Try.func14 Try.ntmps14 rfl rfl (ρ := [(0, .slice A1 n1 c1), (1, .slice A2 n2 c2)]) rfl ?_
  refine CE.seq ?_
  refine CE.region ?_
  refine WL.det (op_assign rfl) rfl rfl rfl ?_
  refine WL.end ?_
  refine NE.code ?_
  refine CE.seq ?_
  refine CE.region ?_
  refine WL.det (op_move rfl) rfl rfl rfl ?_
  refine WL.det (op_len rfl Try.runUnderlying22) rfl rfl rfl ?_
  refine WL.det (op_gti rfl rfl) rfl rfl rfl ?_
  refine WL.det (op_move rfl) rfl rfl rfl ?_
  rcases Bool.eq_false_or_eq_true (decide ((3000 : Int) < ((n1 : Nat) : Int))) with hb1 | hb1
  · have hp1 := of_decide_eq_true hb1
    refine WL.no rfl rfl rfl (ltb rfl) rfl hb1 rfl (ltb rfl) ?_
    refine WL.no rfl rfl rfl (ltb rfl) rfl hb1 rfl (ltb rfl) ?_
    refine WL.no rfl rfl rfl (ltb rfl) rfl hb1 rfl (ltb rfl) ?_
    refine WL.det (op_pick_t rfl hb1 rfl) rfl rfl rfl ?_
    refine WL.det (op_assign rfl) rfl rfl rfl ?_
    refine WL.end ?_
    refine NE.code ?_
    refine CE.ret' ?_
    refine XE.leave1 Try.results14 rfl ?_
    refine ⟨?_, rfl⟩
    all_goals first | (simp_all; done) | (simp_all; intros; omega)
  · have hp1 := of_decide_eq_false hb1
    refine WL.yes rfl rfl rfl (ltb rfl) rfl hb1 ?_
    refine WL.det (op_move rfl) rfl rfl rfl ?_
    refine WL.yes rfl rfl rfl (ltb rfl) rfl hb1 ?_
    refine WL.det (op_len rfl Try.runUnderlying22) rfl rfl rfl ?_
    refine WL.yes rfl rfl rfl (ltb rfl) rfl hb1 ?_
    refine WL.det (op_gti rfl rfl) rfl rfl rfl ?_
    refine WL.det (op_pick_f rfl hb1 rfl) rfl rfl rfl ?_
    refine WL.det (op_assign rfl) rfl rfl rfl ?_
    refine WL.end ?_
    refine NE.code ?_
    refine CE.ret' ?_
    refine XE.leave1 Try.results14 rfl ?_
    refine ⟨?_, rfl⟩
    all_goals first | (simp_all; done) | (simp_all; intros; omega)

theorem c_iSilZ (n : Nat) (c : Nat) (b : Nat) (ta : Nat) (da : Nat) (mw : Nat) (lw : Nat) (zs : List Nat) (ho : LawS n ta da mw lw) (hl : zs.length = n) (hw : W32 zs) (w : World) (r : Rng w b 0 (fl zs)) : Cl Try.prog 21 #[.agg #[vS b 0 n c, vI 0, vI 3, vF ta, vF 0, vF 0, vF 0, vF 0, vI 2, vF da, vF mw, vF 0, vF 0, vF 0, vF lw], vI 20000] w fun v w' => v = .tuple #[vI (((silN n ta da mw lw zs) : Nat) : Int), vI (silC n ta da mw lw zs)] ∧ Mod [] w w' := by
  refine (c_iSil n c b zs 0 3 ta 0 0 0 0 2 da mw 0 0 0 lw 20000 hl ho.n1 ho.n2 hw (by decide +kernel) (by decide +kernel) (by decide +kernel) (by decide +kernel) (by omega) (vStr_law (i := 0) ho.n1 ho.n2 ho.n1 ho.f1 ho.f2 ho.f3 ho.f4 fz9 fz9 fz9) w r).mono ?_
  rintro v w' ⟨hv, m⟩
  have e := sil_eq (n := n) (ta := ta) (da := da) (mw := mw) (lw := lw) (zs := zs)
  unfold zL at e
  rw [e] at hv
  exact ⟨hv, m⟩

theorem c_sSilZ (n : Nat) (c : Nat) (b : Nat) (ta : Nat) (da : Nat) (mw : Nat) (lw : Nat) (zs : List Nat) (ho : LawS n ta da mw lw) (hl : zs.length = n) (hw : W32 zs) (w : World) (r : Rng w b 0 (fl zs)) : Cl Try.prog 22 #[.agg #[vS b 0 n c, vI 0, vI 3, vF ta, vF 0, vF 0, vF 0, vF 0, vI 2, vF da, vF mw, vF 0, vF 0, vF 0, vF lw], vI 20000] w fun v w' => v = .tuple #[vI (((silN n ta da mw lw zs) : Nat) : Int), vI (silC n ta da mw lw zs)] ∧ Mod [] w w' := by
  refine (c_sSil n c b zs 0 3 ta 0 0 0 0 2 da mw 0 0 0 lw 20000 hl ho.n1 ho.n2 hw (by decide +kernel) (by decide +kernel) (by decide +kernel) (by decide +kernel) (by omega) (vStr_law (i := 0) ho.n1 ho.n2 ho.n1 ho.f1 ho.f2 ho.f3 ho.f4 fz9 fz9 fz9) w r).mono ?_
  rintro v w' ⟨hv, m⟩
  have e := sil_eq (n := n) (ta := ta) (da := da) (mw := mw) (lw := lw) (zs := zs)
  unfold zL at e
  rw [e] at hv
  exact ⟨hv, m⟩

theorem c_iNoiseZ (n : Nat) (c : Nat) (b : Nat) (ta : Nat) (da : Nat) (mw : Nat) (lw : Nat) (fo : Nat) (s : Nat) (ho : LawS n ta da mw lw) (lfo : fo < wid .f32) (hf : finF fo = true) (w : World) (r : Rng w b 0 (fl (List.replicate n 0))) : Cl Try.prog 17 #[.agg #[vS b 0 n c, vI 0, vI 3, vF ta, vF 0, vF 0, vF 0, vF 0, vI 2, vF da, vF mw, vF 0, vF 0, vF 0, vF lw], vF fo, .int .u32 ((s : Nat) : Int)] w fun v w' => ∃ (b' : Nat) (c' : Nat) (zs : List Nat), v = .tuple #[.agg #[vS b' 0 n c', vI 0, vI 3, vF ta, vF 0, vF 0, vF 0, vF 0, vI 2, vF da, vF mw, vF 0, vF 0, vF 0, vF lw], .int .u32 ((sdAt s n : Nat) : Int), vI 0] ∧ (zs.length = n) ∧ (W32 zs) ∧ (Cn zs (chg (noiseG fo s) n 0 (List.replicate n 0) n)) ∧ Row w' b' 0 (fl zs) ∧ w.heap.size ≤ b' ∧ Mod [] w w' := by
  exact c_iNoise n c b (List.replicate n 0) 0 3 ta 0 0 0 0 2 da mw 0 0 0 lw fo s List.length_replicate ho.n1 ho.n2 (W32.zeros _) ho.n1 (by decide +kernel) (by decide +kernel) (by decide +kernel) (by decide +kernel) lfo (vStr_law (i := 0) ho.n1 ho.n2 ho.n1 ho.f1 ho.f2 ho.f3 ho.f4 fz9 fz9 fz9) hf w r

theorem c_sNoiseZ (n : Nat) (c : Nat) (b : Nat) (ta : Nat) (da : Nat) (mw : Nat) (lw : Nat) (fo : Nat) (s : Nat) (ho : LawS n ta da mw lw) (lfo : fo < wid .f32) (hf : finF fo = true) (w : World) (r : Rng w b 0 (fl (List.replicate n 0))) : Cl Try.prog 19 #[.agg #[vS b 0 n c, vI 0, vI 3, vF ta, vF 0, vF 0, vF 0, vF 0, vI 2, vF da, vF mw, vF 0, vF 0, vF 0, vF lw], vF fo, .int .u32 ((s : Nat) : Int)] w fun v w' => ∃ (b' : Nat) (c' : Nat) (zs : List Nat), v = .tuple #[.agg #[vS b' 0 n c', vI 0, vI 3, vF ta, vF 0, vF 0, vF 0, vF 0, vI 2, vF da, vF mw, vF 0, vF 0, vF 0, vF lw], .int .u32 ((sdAt s n : Nat) : Int), vI 0] ∧ (zs.length = n) ∧ (W32 zs) ∧ (Cn zs (chg (noiseG fo s) n 0 (List.replicate n 0) n)) ∧ Row w' b' 0 (fl zs) ∧ w.heap.size ≤ b' ∧ Mod [] w w' := by
  exact c_sNoise n c b (List.replicate n 0) 0 3 ta 0 0 0 0 2 da mw 0 0 0 lw fo s List.length_replicate ho.n1 ho.n2 (W32.zeros _) ho.n1 (by decide +kernel) (by decide +kernel) (by decide +kernel) (by decide +kernel) lfo (vStr_law (i := 0) ho.n1 ho.n2 ho.n1 ho.f1 ho.f2 ho.f3 ho.f4 fz9 fz9 fz9) hf w r

theorem c_iPlayZ (n : Nat) (c : Nat) (b : Nat) (ta : Nat) (da : Nat) (mw : Nat) (lw : Nat) (z : StrSt) (q : Nat) (ho : LawS n ta da mw lw) (hw : Way n z) (hq : q ≤ 4096) (w : World) (r : Rng w b 0 (fl z.xs)) : Cl Try.prog 23 #[.agg #[vS b 0 n c, vI ((z.i : Nat) : Int), vI 3, vF ta, vF 0, vF 0, vF (z.t0), vF (z.t1), vI 2, vF da, vF mw, vF 0, vF (z.d0), vF (z.d1), vF lw], vI ((q : Nat) : Int)] w fun v w' => ∃ (zz : StrSt) (oo : List Nat) (b' : Nat) (c' : Nat) (e' : Nat) (c3' : Nat) (A' : Option Addr), v = .tuple #[.agg #[vS b' 0 n c', vI ((zz.i : Nat) : Int), vI 3, vF ta, vF 0, vF 0, vF (zz.t0), vF (zz.t1), vI 2, vF da, vF mw, vF 0, vF (zz.d0), vF (zz.d1), vF lw], .slice A' q c3', vI 0] ∧ (zz.xs.length = n) ∧ (oo.length = q) ∧ (0 < q → A' = some ⟨e', 0, none⟩) ∧ (zz = strAt n 3 ta 0 0 2 da mw 0 lw z.xs z.i z.t0 z.t1 z.d0 z.d1 (fun _ => 0) q) ∧ (oo = outs (strOut n 3 ta 0 0 2 da mw 0 lw z.xs z.i z.t0 z.t1 z.d0 z.d1 (fun _ => 0)) q) ∧ (Way n zz) ∧ Row w' b' 0 (fl zz.xs) ∧ Row w' e' 0 (fl oo) ∧ w.heap.size ≤ b' ∧ w.heap.size ≤ e' ∧ b' ≠ e' ∧ Mod [] w w' := by
  refine (c_iPlayStr n c b z.xs z.i 3 ta 0 0 z.t0 z.t1 2 da mw 0 z.d0 z.d1 lw q _ _ hw.l hw.i ho.n2 hw.w hw.b0 hw.b1 hw.b2 (by rw [hw.e]; decide +kernel) rfl rfl hq (hw.valid ho) w r).mono ?_
  rintro v w' ⟨b', c', e', c3', A', hv, p0, p1, p2, rest⟩
  exact ⟨_, _, b', c', e', c3', A', hv, p0, p1, p2, rfl, rfl, hw.at q, rest⟩

theorem c_IsSilZ (n : Nat) (c : Nat) (b : Nat) (ta : Nat) (da : Nat) (mw : Nat) (lw : Nat) (z : StrSt) (ho : LawS n ta da mw lw) (hw : Way n z) (w : World) (r : Rng w b 0 (fl z.xs)) : Cl Try.prog 24 #[.agg #[vS b 0 n c, vI ((z.i : Nat) : Int), vI 3, vF ta, vF 0, vF 0, vF (z.t0), vF (z.t1), vI 2, vF da, vF mw, vF 0, vF (z.d0), vF (z.d1), vF lw]] w fun v w' => v = .tuple #[.bool (strSilent n z.xs z.t0 z.t1 z.d0 z.d1), vI 0] ∧ Mod [] w w' := by
  exact c_IsSilentStr n c b z.xs z.i 3 ta 0 0 z.t0 z.t1 2 da mw 0 z.d0 z.d1 lw hw.l hw.i (by have := ho.n2; omega) (hw.valid ho) w r

end Go.Proofs.Ytabfdgpldcegiaa
