/- Drawn pipes with bounds. -/
import Derived.Test.YtnahhdnkbbdceaaN13
import Derived.Test.YtnahhdnkbbdceaaN9
set_option linter.unusedVariables false
set_option linter.unusedSimpArgs false
set_option maxRecDepth 100000
set_option maxHeartbeats 8000000
namespace Go.Proofs.Ytnahhdnkbbdceaa

theorem plain_bd1_t : (List.range 257).all (fun j => decide (fop .quo .f32 (FloatKind.f32.nearest (((j : Nat) : Int) - (128 : Int))) 1115684864 % 2147483648 ≤ (127 + 1) * 8388608)) = true := by decide +kernel
theorem plain_bd1 {u r : Nat} (hu : u < 257) (h : cn .f32 r = cn .f32 (fop .quo .f32 (FloatKind.f32.nearest (((u : Nat) : Int) - (128 : Int))) 1115684864)) : Bd r 1 := by
  have a : Bd (fop .quo .f32 (FloatKind.f32.nearest (((u : Nat) : Int) - (128 : Int))) 1115684864) 1 := by
    unfold Bd
    exact of_decide_eq_true (List.all_eq_true.1 plain_bd1_t u (List.mem_range.2 hu))
  have hn : isNaN .f32 (fop .quo .f32 (FloatKind.f32.nearest (((u : Nat) : Int) - (128 : Int))) 1115684864) = false := by
    have := a.fin (by omega)
    rw [isNaN32]; simp; omega
  rw [eq_of_cn h hn]; exact a
/-- the samples of a pipe are at most 3100 -/
def ZI (z : PipeSt) : Prop := (∀ i j, IB ((z.R.getD i RD.d).xs.getD j 0) 3100) ∧ ∀ i j, IB ((z.L.getD i RD.d).xs.getD j 0) 3100
theorem DPi.zi {nR nS c0 c1 lo re sl t : Nat} {xS : List Nat} {z : PipeSt} (h : DPi nR nS xS c0 c1 lo re sl z t) (ht : t ≤ 11) : ZI z := by
  have h := h.mono (u := 11) ht (Nat.le_refl _)
  have k := row_ok (sgI xS 0) (sgI xS 1) h.dz.n1 h.dz.n3 (t := 10) (by omega)
  exact ⟨fun i j => (h.r i j).mono (k.hi _), fun i j => (h.l i j).mono (k.hi _)⟩

theorem c_sNewI1 (ka : Nat) (cl : Nat) (lb : Nat) (cs : Nat) (sb : Nat) (xS : List Nat) (op : Bool) (kw : Nat) (lw : Nat) (h1ka : 1 ≤ ka) (h2ka : ka ≤ 5) (lkw : kw < wid .f32) (llw : lw < wid .f32) (lnS : xS.length = 0) (hS : ScL xS) (hd : ∃ d, d < 8 ∧ cn .f32 kw = cn .f32 (fop .quo .f32 (FloatKind.f32.nearest ((d : Nat) : Int)) 1090519040)) (hu : ∃ u, u < 17 ∧ cn .f32 lw = cn .f32 (fop .quo .f32 (FloatKind.f32.nearest ((u : Nat) : Int)) 1098907648)) (w : World) (rl : Rng w lb 0 [vI ((ka : Nat) : Int)]) (rs : Rng w sb 0 (fl xS)) : Cl Try.prog 15 #[vS lb 0 1 cl, vS sb 0 0 cs, .bool op, vF kw, vF lw] w fun v w' => ∃ (bR' : Nat) (cR' : Nat) (PR' : List BC) (bL' : Nat) (cL' : Nat) (PL' : List BC) (bS' : Nat) (cS' : Nat) (r_ : Nat) (zz : PipeSt), v = .tuple #[.agg #[vS bR' 0 1 cR', vS bL' 0 1 cL', vS bS' 0 0 cS', vI 1, vF r_, vF kw, vF 0, vF 0, vF 0, .bool op, vF lw, vF 1061158912, vF 3200253952], vI 0] ∧ (PR'.length = 1) ∧ (PL'.length = 1) ∧ (DPz 1 0 xS r_ kw lw 1061158912 3200253952 zz 3) ∧ (zz.R.length = 1) ∧ (zz.L.length = 1) ∧ (zz.s0 = 0) ∧ (zz.s1 = 0) ∧ (DPi 1 0 xS r_ kw lw 1061158912 3200253952 zz 0) ∧ Row w' bR' 0 (olc zz.R PR') ∧ Row w' bL' 0 (olc zz.L PL') ∧ Row w' bS' 0 (fl xS) ∧ w.heap.size ≤ bR' ∧ w.heap.size ≤ bL' ∧ w.heap.size ≤ bS' ∧ bR' ≠ bL' ∧ bR' ≠ bS' ∧ bL' ≠ bS' ∧ OF w.heap.size w' zz.R PR' ∧ (∀ i, i < 1 → (PR'.getD i BC.d).b ≠ bR') ∧ (∀ i, i < 1 → (PR'.getD i BC.d).b ≠ bL') ∧ (∀ i, i < 1 → (PR'.getD i BC.d).b ≠ bS') ∧ (∀ i j, i < 1 → j < 1 → (PR'.getD i BC.d).b ≠ (PL'.getD j BC.d).b) ∧ OF w.heap.size w' zz.L PL' ∧ (∀ i, i < 1 → (PL'.getD i BC.d).b ≠ bR') ∧ (∀ i, i < 1 → (PL'.getD i BC.d).b ≠ bL') ∧ (∀ i, i < 1 → (PL'.getD i BC.d).b ≠ bS') ∧ Mod [] w w' := by
  obtain ⟨d, hd, hc⟩ := hd
  obtain ⟨u, hu, hlc⟩ := hu
  obtain rfl : xS = [] := List.eq_nil_of_length_eq_zero lnS
  refine (c_sNewQ1 ka cl lb cs sb op kw lw h1ka h2ka lkw llw (keep8_of hd hc) (loss_of hu hlc) w rl rs).mono ?_
  rintro v w' ⟨bR', cR', bL', cL', bS', cS', r_, d0, e0, hv, p1, p2, rR, rL, rS, rd0, re0, g1, g2, g3, gd0, ge0, n1, n2, n3, nd0R, nd0L, nd0S, ne0R, ne0L, ne0S, nd0e0, md⟩
  have ol : ∀ b0, olc [ringN ka] [⟨b0, ka⟩] = [vS b0 0 ka ka, vI 0] := fun b0 => by
    show [vS b0 0 (List.replicate ka 0).length ka, vI 0] = _
    rw [List.length_replicate]
  rw [← ol d0] at rR
  rw [← ol e0] at rL
  have fR : OF w.heap.size w' (zNewL [ka]).R [⟨d0, ka⟩] := ⟨fun i hi => by
      obtain rfl : i = 0 := by have hi' : i < 1 := hi; omega
      exact gd0, fun i hi => by
      obtain rfl : i = 0 := by have hi' : i < 1 := hi; omega
      exact rd0, fun i j hi hj hij => by have hi' : i < 1 := hi; have hj' : j < 1 := hj; omega⟩
  have fL : OF w.heap.size w' (zNewL [ka]).L [⟨e0, ka⟩] := ⟨fun i hi => by
      obtain rfl : i = 0 := by have hi' : i < 1 := hi; omega
      exact ge0, fun i hi => by
      obtain rfl : i = 0 := by have hi' : i < 1 := hi; omega
      exact re0, fun i j hi hj hij => by have hi' : i < 1 := hi; have hj' : j < 1 := hj; omega⟩
  have nx := NX.of hd hc p1 hu hlc
  have dp : DPz 1 0 [] r_ kw lw 1061158912 3200253952 (zNewL [ka]) 3 := by
    have h := DPz.new (ns := [ka]) (xS := []) (re := 1061158912) (sl := 3200253952) (lo := lw) (c0 := r_) (c1 := kw) (by show 1 ≤ 1; omega) (by show 1 ≤ 3; omega) (by rw [lnS]; rfl) (fun i hi => by
      match i, hi with
      | 0, _ => exact ⟨h1ka, h2ka⟩) ⟨nx.b.re, nx.b.sl, nx.b.lo, nx.b.c0, nx.b.c1, hS.bd⟩ (hS.sc _ (Nat.le_refl _))
    rw [lnS] at h
    exact h
  have di : DPi 1 0 [] r_ kw lw 1061158912 3200253952 (zNewL [ka]) 0 := by
    have h := DPi.new (ns := [ka]) (xS := []) (re := 1061158912) (sl := 3200253952) (lo := lw) (c0 := r_) (c1 := kw) (by show 1 ≤ 1; omega) (by show 1 ≤ 3; omega) (by rw [lnS]; rfl) (fun i hi => by
      match i, hi with
      | 0, _ => exact ⟨h1ka, h2ka⟩) ⟨nx.b.re, nx.b.sl, nx.b.lo, nx.b.c0, nx.b.c1, hS.bd⟩ (hS.sc _ (Nat.le_refl _))
    rw [lnS] at h
    exact h
  exact ⟨bR', cR', [⟨d0, ka⟩], bL', cL', [⟨e0, ka⟩], bS', cS', r_, zNewL [ka], hv, rfl, rfl, dp, rfl, rfl, rfl, rfl, di, rR, rL, rS, g1, g2, g3, n1, n2, n3, fR, fun i hi => by
      obtain rfl : i = 0 := by omega
      exact nd0R, fun i hi => by
      obtain rfl : i = 0 := by omega
      exact nd0L, fun i hi => by
      obtain rfl : i = 0 := by omega
      exact nd0S, fun i j hi hj => by
      obtain rfl : i = 0 := by omega
      obtain rfl : j = 0 := by omega
      exact nd0e0, fL, fun i hi => by
      obtain rfl : i = 0 := by omega
      exact ne0R, fun i hi => by
      obtain rfl : i = 0 := by omega
      exact ne0L, fun i hi => by
      obtain rfl : i = 0 := by omega
      exact ne0S, md⟩

theorem c_sNewI2 (ka : Nat) (kb : Nat) (cl : Nat) (lb : Nat) (cs : Nat) (sb : Nat) (xS : List Nat) (op : Bool) (kw : Nat) (lw : Nat) (h1ka : 1 ≤ ka) (h2ka : ka ≤ 5) (h1kb : 1 ≤ kb) (h2kb : kb ≤ 5) (lkw : kw < wid .f32) (llw : lw < wid .f32) (lnS : xS.length = 1) (hS : ScL xS) (hd : ∃ d, d < 8 ∧ cn .f32 kw = cn .f32 (fop .quo .f32 (FloatKind.f32.nearest ((d : Nat) : Int)) 1090519040)) (hu : ∃ u, u < 17 ∧ cn .f32 lw = cn .f32 (fop .quo .f32 (FloatKind.f32.nearest ((u : Nat) : Int)) 1098907648)) (w : World) (rl : Rng w lb 0 [vI ((ka : Nat) : Int), vI ((kb : Nat) : Int)]) (rs : Rng w sb 0 (fl xS)) : Cl Try.prog 15 #[vS lb 0 2 cl, vS sb 0 1 cs, .bool op, vF kw, vF lw] w fun v w' => ∃ (bR' : Nat) (cR' : Nat) (PR' : List BC) (bL' : Nat) (cL' : Nat) (PL' : List BC) (bS' : Nat) (cS' : Nat) (r_ : Nat) (zz : PipeSt), v = .tuple #[.agg #[vS bR' 0 2 cR', vS bL' 0 2 cL', vS bS' 0 1 cS', vI 1, vF r_, vF kw, vF 0, vF 0, vF 0, .bool op, vF lw, vF 1061158912, vF 3200253952], vI 0] ∧ (PR'.length = 2) ∧ (PL'.length = 2) ∧ (DPz 2 1 xS r_ kw lw 1061158912 3200253952 zz 3) ∧ (zz.R.length = 2) ∧ (zz.L.length = 2) ∧ (zz.s0 = 0) ∧ (zz.s1 = 0) ∧ (DPi 2 1 xS r_ kw lw 1061158912 3200253952 zz 0) ∧ Row w' bR' 0 (olc zz.R PR') ∧ Row w' bL' 0 (olc zz.L PL') ∧ Row w' bS' 0 (fl xS) ∧ w.heap.size ≤ bR' ∧ w.heap.size ≤ bL' ∧ w.heap.size ≤ bS' ∧ bR' ≠ bL' ∧ bR' ≠ bS' ∧ bL' ≠ bS' ∧ OF w.heap.size w' zz.R PR' ∧ (∀ i, i < 2 → (PR'.getD i BC.d).b ≠ bR') ∧ (∀ i, i < 2 → (PR'.getD i BC.d).b ≠ bL') ∧ (∀ i, i < 2 → (PR'.getD i BC.d).b ≠ bS') ∧ (∀ i j, i < 2 → j < 2 → (PR'.getD i BC.d).b ≠ (PL'.getD j BC.d).b) ∧ OF w.heap.size w' zz.L PL' ∧ (∀ i, i < 2 → (PL'.getD i BC.d).b ≠ bR') ∧ (∀ i, i < 2 → (PL'.getD i BC.d).b ≠ bL') ∧ (∀ i, i < 2 → (PL'.getD i BC.d).b ≠ bS') ∧ Mod [] w w' := by
  obtain ⟨d, hd, hc⟩ := hd
  obtain ⟨u, hu, hlc⟩ := hu
  refine (c_sNewQ2 ka kb cl lb cs sb xS op kw lw h1ka h2ka h1kb h2kb lkw llw lnS (hS.sc _ (by omega)) (keep8_of hd hc) (loss_of hu hlc) w rl rs).mono ?_
  rintro v w' ⟨bR', cR', bL', cL', bS', cS', r_, d0, d1, e0, e1, hv, p1, p2, rR, rL, rS, rd0, rd1, re0, re1, g1, g2, g3, gd0, gd1, ge0, ge1, n1, n2, n3, nd0R, nd0L, nd0S, nd1R, nd1L, nd1S, ne0R, ne0L, ne0S, ne1R, ne1L, ne1S, nd0e0, nd0e1, nd1e0, nd1e1, nd0d1, ne0e1, md⟩
  have ol : ∀ b0 b1, olc [ringN ka, ringN kb] [⟨b0, ka⟩, ⟨b1, kb⟩] = [vS b0 0 ka ka, vI 0, vS b1 0 kb kb, vI 0] := fun b0 b1 => by
    show [vS b0 0 (List.replicate ka 0).length ka, vI 0, vS b1 0 (List.replicate kb 0).length kb, vI 0] = _
    rw [List.length_replicate, List.length_replicate]
  rw [← ol d0 d1] at rR
  rw [← ol e0 e1] at rL
  have fR : OF w.heap.size w' (zNewL [ka, kb]).R [⟨d0, ka⟩, ⟨d1, kb⟩] := ⟨fun i hi => by
      match i, hi with
      | 0, _ => exact gd0
      | 1, _ => exact gd1, fun i hi => by
      match i, hi with
      | 0, _ => exact rd0
      | 1, _ => exact rd1, fun i j hi hj hij => by
      match i, j, hi, hj, hij with
      | 0, 0, _, _, h => exact absurd rfl h
      | 0, 1, _, _, h => exact nd0d1
      | 1, 0, _, _, h => exact Ne.symm nd0d1
      | 1, 1, _, _, h => exact absurd rfl h⟩
  have fL : OF w.heap.size w' (zNewL [ka, kb]).L [⟨e0, ka⟩, ⟨e1, kb⟩] := ⟨fun i hi => by
      match i, hi with
      | 0, _ => exact ge0
      | 1, _ => exact ge1, fun i hi => by
      match i, hi with
      | 0, _ => exact re0
      | 1, _ => exact re1, fun i j hi hj hij => by
      match i, j, hi, hj, hij with
      | 0, 0, _, _, h => exact absurd rfl h
      | 0, 1, _, _, h => exact ne0e1
      | 1, 0, _, _, h => exact Ne.symm ne0e1
      | 1, 1, _, _, h => exact absurd rfl h⟩
  have nx := NX.of hd hc p1 hu hlc
  have dp : DPz 2 1 xS r_ kw lw 1061158912 3200253952 (zNewL [ka, kb]) 3 := by
    have h := DPz.new (ns := [ka, kb]) (xS := xS) (re := 1061158912) (sl := 3200253952) (lo := lw) (c0 := r_) (c1 := kw) (by show 1 ≤ 2; omega) (by show 2 ≤ 3; omega) (by rw [lnS]; rfl) (fun i hi => by
      match i, hi with
      | 0, _ => exact ⟨h1ka, h2ka⟩
      | 1, _ => exact ⟨h1kb, h2kb⟩) ⟨nx.b.re, nx.b.sl, nx.b.lo, nx.b.c0, nx.b.c1, hS.bd⟩ (hS.sc _ (Nat.le_refl _))
    rw [lnS] at h
    exact h
  have di : DPi 2 1 xS r_ kw lw 1061158912 3200253952 (zNewL [ka, kb]) 0 := by
    have h := DPi.new (ns := [ka, kb]) (xS := xS) (re := 1061158912) (sl := 3200253952) (lo := lw) (c0 := r_) (c1 := kw) (by show 1 ≤ 2; omega) (by show 2 ≤ 3; omega) (by rw [lnS]; rfl) (fun i hi => by
      match i, hi with
      | 0, _ => exact ⟨h1ka, h2ka⟩
      | 1, _ => exact ⟨h1kb, h2kb⟩) ⟨nx.b.re, nx.b.sl, nx.b.lo, nx.b.c0, nx.b.c1, hS.bd⟩ (hS.sc _ (Nat.le_refl _))
    rw [lnS] at h
    exact h
  exact ⟨bR', cR', [⟨d0, ka⟩, ⟨d1, kb⟩], bL', cL', [⟨e0, ka⟩, ⟨e1, kb⟩], bS', cS', r_, zNewL [ka, kb], hv, rfl, rfl, dp, rfl, rfl, rfl, rfl, di, rR, rL, rS, g1, g2, g3, n1, n2, n3, fR, fun i hi => by
      match i, hi with
      | 0, _ => exact nd0R
      | 1, _ => exact nd1R, fun i hi => by
      match i, hi with
      | 0, _ => exact nd0L
      | 1, _ => exact nd1L, fun i hi => by
      match i, hi with
      | 0, _ => exact nd0S
      | 1, _ => exact nd1S, fun i j hi hj => by
      match i, j, hi, hj with
      | 0, 0, _, _ => exact nd0e0
      | 0, 1, _, _ => exact nd0e1
      | 1, 0, _, _ => exact nd1e0
      | 1, 1, _, _ => exact nd1e1, fL, fun i hi => by
      match i, hi with
      | 0, _ => exact ne0R
      | 1, _ => exact ne1R, fun i hi => by
      match i, hi with
      | 0, _ => exact ne0L
      | 1, _ => exact ne1L, fun i hi => by
      match i, hi with
      | 0, _ => exact ne0S
      | 1, _ => exact ne1S, md⟩

theorem c_sNewI3 (ka : Nat) (kb : Nat) (kd : Nat) (cl : Nat) (lb : Nat) (cs : Nat) (sb : Nat) (xS : List Nat) (op : Bool) (kw : Nat) (lw : Nat) (h1ka : 1 ≤ ka) (h2ka : ka ≤ 5) (h1kb : 1 ≤ kb) (h2kb : kb ≤ 5) (h1kd : 1 ≤ kd) (h2kd : kd ≤ 5) (lkw : kw < wid .f32) (llw : lw < wid .f32) (lnS : xS.length = 2) (hS : ScL xS) (hd : ∃ d, d < 8 ∧ cn .f32 kw = cn .f32 (fop .quo .f32 (FloatKind.f32.nearest ((d : Nat) : Int)) 1090519040)) (hu : ∃ u, u < 17 ∧ cn .f32 lw = cn .f32 (fop .quo .f32 (FloatKind.f32.nearest ((u : Nat) : Int)) 1098907648)) (w : World) (rl : Rng w lb 0 [vI ((ka : Nat) : Int), vI ((kb : Nat) : Int), vI ((kd : Nat) : Int)]) (rs : Rng w sb 0 (fl xS)) : Cl Try.prog 15 #[vS lb 0 3 cl, vS sb 0 2 cs, .bool op, vF kw, vF lw] w fun v w' => ∃ (bR' : Nat) (cR' : Nat) (PR' : List BC) (bL' : Nat) (cL' : Nat) (PL' : List BC) (bS' : Nat) (cS' : Nat) (r_ : Nat) (zz : PipeSt), v = .tuple #[.agg #[vS bR' 0 3 cR', vS bL' 0 3 cL', vS bS' 0 2 cS', vI 1, vF r_, vF kw, vF 0, vF 0, vF 0, .bool op, vF lw, vF 1061158912, vF 3200253952], vI 0] ∧ (PR'.length = 3) ∧ (PL'.length = 3) ∧ (DPz 3 2 xS r_ kw lw 1061158912 3200253952 zz 3) ∧ (zz.R.length = 3) ∧ (zz.L.length = 3) ∧ (zz.s0 = 0) ∧ (zz.s1 = 0) ∧ (DPi 3 2 xS r_ kw lw 1061158912 3200253952 zz 0) ∧ Row w' bR' 0 (olc zz.R PR') ∧ Row w' bL' 0 (olc zz.L PL') ∧ Row w' bS' 0 (fl xS) ∧ w.heap.size ≤ bR' ∧ w.heap.size ≤ bL' ∧ w.heap.size ≤ bS' ∧ bR' ≠ bL' ∧ bR' ≠ bS' ∧ bL' ≠ bS' ∧ OF w.heap.size w' zz.R PR' ∧ (∀ i, i < 3 → (PR'.getD i BC.d).b ≠ bR') ∧ (∀ i, i < 3 → (PR'.getD i BC.d).b ≠ bL') ∧ (∀ i, i < 3 → (PR'.getD i BC.d).b ≠ bS') ∧ (∀ i j, i < 3 → j < 3 → (PR'.getD i BC.d).b ≠ (PL'.getD j BC.d).b) ∧ OF w.heap.size w' zz.L PL' ∧ (∀ i, i < 3 → (PL'.getD i BC.d).b ≠ bR') ∧ (∀ i, i < 3 → (PL'.getD i BC.d).b ≠ bL') ∧ (∀ i, i < 3 → (PL'.getD i BC.d).b ≠ bS') ∧ Mod [] w w' := by
  obtain ⟨d, hd, hc⟩ := hd
  obtain ⟨u, hu, hlc⟩ := hu
  refine (c_sNewQ3 ka kb kd cl lb cs sb xS op kw lw h1ka h2ka h1kb h2kb h1kd h2kd lkw llw lnS (hS.sc _ (by omega)) (keep8_of hd hc) (loss_of hu hlc) w rl rs).mono ?_
  rintro v w' ⟨bR', cR', bL', cL', bS', cS', r_, d0, d1, d2, e0, e1, e2, hv, p1, p2, rR, rL, rS, rd0, rd1, rd2, re0, re1, re2, g1, g2, g3, gd0, gd1, gd2, ge0, ge1, ge2, n1, n2, n3, nd0R, nd0L, nd0S, nd1R, nd1L, nd1S, nd2R, nd2L, nd2S, ne0R, ne0L, ne0S, ne1R, ne1L, ne1S, ne2R, ne2L, ne2S, nd0e0, nd0e1, nd0e2, nd1e0, nd1e1, nd1e2, nd2e0, nd2e1, nd2e2, nd0d1, nd0d2, nd1d2, ne0e1, ne0e2, ne1e2, md⟩
  have ol : ∀ b0 b1 b2, olc [ringN ka, ringN kb, ringN kd] [⟨b0, ka⟩, ⟨b1, kb⟩, ⟨b2, kd⟩] = [vS b0 0 ka ka, vI 0, vS b1 0 kb kb, vI 0, vS b2 0 kd kd, vI 0] := fun b0 b1 b2 => by
    show [vS b0 0 (List.replicate ka 0).length ka, vI 0, vS b1 0 (List.replicate kb 0).length kb, vI 0, vS b2 0 (List.replicate kd 0).length kd, vI 0] = _
    rw [List.length_replicate, List.length_replicate, List.length_replicate]
  rw [← ol d0 d1 d2] at rR
  rw [← ol e0 e1 e2] at rL
  have fR : OF w.heap.size w' (zNewL [ka, kb, kd]).R [⟨d0, ka⟩, ⟨d1, kb⟩, ⟨d2, kd⟩] := ⟨fun i hi => by
      match i, hi with
      | 0, _ => exact gd0
      | 1, _ => exact gd1
      | 2, _ => exact gd2, fun i hi => by
      match i, hi with
      | 0, _ => exact rd0
      | 1, _ => exact rd1
      | 2, _ => exact rd2, fun i j hi hj hij => by
      match i, j, hi, hj, hij with
      | 0, 0, _, _, h => exact absurd rfl h
      | 0, 1, _, _, h => exact nd0d1
      | 0, 2, _, _, h => exact nd0d2
      | 1, 0, _, _, h => exact Ne.symm nd0d1
      | 1, 1, _, _, h => exact absurd rfl h
      | 1, 2, _, _, h => exact nd1d2
      | 2, 0, _, _, h => exact Ne.symm nd0d2
      | 2, 1, _, _, h => exact Ne.symm nd1d2
      | 2, 2, _, _, h => exact absurd rfl h⟩
  have fL : OF w.heap.size w' (zNewL [ka, kb, kd]).L [⟨e0, ka⟩, ⟨e1, kb⟩, ⟨e2, kd⟩] := ⟨fun i hi => by
      match i, hi with
      | 0, _ => exact ge0
      | 1, _ => exact ge1
      | 2, _ => exact ge2, fun i hi => by
      match i, hi with
      | 0, _ => exact re0
      | 1, _ => exact re1
      | 2, _ => exact re2, fun i j hi hj hij => by
      match i, j, hi, hj, hij with
      | 0, 0, _, _, h => exact absurd rfl h
      | 0, 1, _, _, h => exact ne0e1
      | 0, 2, _, _, h => exact ne0e2
      | 1, 0, _, _, h => exact Ne.symm ne0e1
      | 1, 1, _, _, h => exact absurd rfl h
      | 1, 2, _, _, h => exact ne1e2
      | 2, 0, _, _, h => exact Ne.symm ne0e2
      | 2, 1, _, _, h => exact Ne.symm ne1e2
      | 2, 2, _, _, h => exact absurd rfl h⟩
  have nx := NX.of hd hc p1 hu hlc
  have dp : DPz 3 2 xS r_ kw lw 1061158912 3200253952 (zNewL [ka, kb, kd]) 3 := by
    have h := DPz.new (ns := [ka, kb, kd]) (xS := xS) (re := 1061158912) (sl := 3200253952) (lo := lw) (c0 := r_) (c1 := kw) (by show 1 ≤ 3; omega) (by show 3 ≤ 3; omega) (by rw [lnS]; rfl) (fun i hi => by
      match i, hi with
      | 0, _ => exact ⟨h1ka, h2ka⟩
      | 1, _ => exact ⟨h1kb, h2kb⟩
      | 2, _ => exact ⟨h1kd, h2kd⟩) ⟨nx.b.re, nx.b.sl, nx.b.lo, nx.b.c0, nx.b.c1, hS.bd⟩ (hS.sc _ (Nat.le_refl _))
    rw [lnS] at h
    exact h
  have di : DPi 3 2 xS r_ kw lw 1061158912 3200253952 (zNewL [ka, kb, kd]) 0 := by
    have h := DPi.new (ns := [ka, kb, kd]) (xS := xS) (re := 1061158912) (sl := 3200253952) (lo := lw) (c0 := r_) (c1 := kw) (by show 1 ≤ 3; omega) (by show 3 ≤ 3; omega) (by rw [lnS]; rfl) (fun i hi => by
      match i, hi with
      | 0, _ => exact ⟨h1ka, h2ka⟩
      | 1, _ => exact ⟨h1kb, h2kb⟩
      | 2, _ => exact ⟨h1kd, h2kd⟩) ⟨nx.b.re, nx.b.sl, nx.b.lo, nx.b.c0, nx.b.c1, hS.bd⟩ (hS.sc _ (Nat.le_refl _))
    rw [lnS] at h
    exact h
  exact ⟨bR', cR', [⟨d0, ka⟩, ⟨d1, kb⟩, ⟨d2, kd⟩], bL', cL', [⟨e0, ka⟩, ⟨e1, kb⟩, ⟨e2, kd⟩], bS', cS', r_, zNewL [ka, kb, kd], hv, rfl, rfl, dp, rfl, rfl, rfl, rfl, di, rR, rL, rS, g1, g2, g3, n1, n2, n3, fR, fun i hi => by
      match i, hi with
      | 0, _ => exact nd0R
      | 1, _ => exact nd1R
      | 2, _ => exact nd2R, fun i hi => by
      match i, hi with
      | 0, _ => exact nd0L
      | 1, _ => exact nd1L
      | 2, _ => exact nd2L, fun i hi => by
      match i, hi with
      | 0, _ => exact nd0S
      | 1, _ => exact nd1S
      | 2, _ => exact nd2S, fun i j hi hj => by
      match i, j, hi, hj with
      | 0, 0, _, _ => exact nd0e0
      | 0, 1, _, _ => exact nd0e1
      | 0, 2, _, _ => exact nd0e2
      | 1, 0, _, _ => exact nd1e0
      | 1, 1, _, _ => exact nd1e1
      | 1, 2, _, _ => exact nd1e2
      | 2, 0, _, _ => exact nd2e0
      | 2, 1, _, _ => exact nd2e1
      | 2, 2, _, _ => exact nd2e2, fL, fun i hi => by
      match i, hi with
      | 0, _ => exact ne0R
      | 1, _ => exact ne1R
      | 2, _ => exact ne2R, fun i hi => by
      match i, hi with
      | 0, _ => exact ne0L
      | 1, _ => exact ne1L
      | 2, _ => exact ne2L, fun i hi => by
      match i, hi with
      | 0, _ => exact ne0S
      | 1, _ => exact ne1S
      | 2, _ => exact ne2S, md⟩

theorem c_l01PlainT (n : Nat) (c : Nat) (A : Option Addr) (b : Nat) (o : Nat) (xs : List Nat) (at_ : Nat) (s : Nat) (p : Nat) (ln : xs.length = n) (hA : 0 < n → A = some ⟨b, o, none⟩) (hB : ∀ i, xs.getD i 0 < 256) (hn : n ≤ 4611686018427387904) (ha : at_ ≤ 4611686018427387000) (hs : s < 18446744073709551616) (nbp : 0 < n → b ≠ p) (w : World) (q : Row w p 0 [.slice A n c, vI ((at_ : Nat) : Int), .int .u64 ((s : Nat) : Int)]) (r : Rng w b o (bys xs)) : Cl Try.prog 61 #[vP p 0] w fun v w' => ∃ (r_ : Nat) (a2 : Nat) (s2 : Nat), v = vF r_ ∧ (r_ < wid .f32) ∧ (a2 ≤ at_ + 8) ∧ (s2 < 18446744073709551616) ∧ (Bd r_ 1) ∧ Row w' p 0 [.slice A n c, vI ((a2 : Nat) : Int), .int .u64 ((s2 : Nat) : Int)] ∧ Mod [p] w w' := by
 refine Cl.of Try.func61 Try.ntmps61 rfl rfl (ρ := [(0, vP p 0)]) rfl ?_
 refine CE.seq (CE.region ?_)
 refine WD (op_assign rfl) rfl ?_
 refine WL.end (NE.code (CE.seq (CE.region ?_)))
 refine WD (op_move rfl) rfl ?_
 refine WL.call (oc_call (vs := [vP p 0, vI 257]) (cap := []) rfl rfl rfl Try.call54 (c_pickB n c A b o xs at_ s p 257 ln hA hB (by omega) (by omega) (by omega) (by omega) (by omega) (by first | assumption | (intro h0; have hlt := Rng.lt r (by rw [bys_len, ln]; exact h0); omega)) w q r)) rfl rfl (ltb rfl) ?_
 rintro _ w1 ⟨u1, s1, rfl, h1, h2, r1, m1⟩
 refine WD (op_sub (r := (((u1 : Nat) : Int) - (128 : Int))) rfl rfl (w_i64 (by omega) (by omega))) rfl ?_
 refine WD (op_cvt_if rfl Try.runUnderlying2 Try.runUnderlying27) rfl ?_
 refine WL.op (op_farith (e := (fop .quo .f32 (FloatKind.f32.nearest (((u1 : Nat) : Int) - (128 : Int))) 1115684864)) (.inr (.inr (.inr rfl))) rfl rfl rfl rfl rfl) rfl rfl (ltb rfl) ?_
 rintro _ w2 ⟨⟨f1, rfl, hf1, lf1⟩, m2⟩
 refine WD (op_assign rfl) rfl ?_
 refine WL.end (NE.code (CE.ret' ?_))
 refine XE.leave1 Try.results61 rfl ?_
 refine ⟨f1, (at_ + 1 + 1), s1, rfl, lf1, ?_, ?_, ?_, (Row.congr (r1.ext m2) ?_), (((Mod.refl [p] w).then m1 ((aC (.inl (by simp)) aN))).nt m2)⟩
 all_goals first | assumption | rfl | omega | exact plain_bd1 (by assumption) (by assumption)

theorem c_l04DrawnI (n : Nat) (c : Nat) (A : Option Addr) (b : Nat) (o : Nat) (xs : List Nat) (at_ : Nat) (s : Nat) (p : Nat) (ln : xs.length = n) (hA : 0 < n → A = some ⟨b, o, none⟩) (hB : ∀ i, xs.getD i 0 < 256) (hn : n ≤ 4611686018427387904) (ha : at_ ≤ 100) (hs : s < 18446744073709551616) (nbp : 0 < n → b ≠ p) (w : World) (q : Row w p 0 [.slice A n c, vI ((at_ : Nat) : Int), .int .u64 ((s : Nat) : Int)]) (r : Rng w b o (bys xs)) : Cl Try.prog 90 #[vP p 0] w fun v w' => ∃ (bR' : Nat) (cR' : Nat) (PR' : List BC) (bL' : Nat) (cL' : Nat) (PL' : List BC) (bS' : Nat) (cS' : Nat) (nR : Nat) (nS : Nat) (xS : List Nat) (kc0 : Nat) (kc1 : Nat) (op : Bool) (lo : Nat) (re : Nat) (sl : Nat) (zz : PipeSt), v = .agg #[vS bR' 0 nR cR', vS bL' 0 nR cL', vS bS' 0 nS cS', vI 1, vF kc0, vF kc1, vF 0, vF (zz.s0), vF (zz.s1), .bool op, vF lo, vF re, vF sl] ∧ (PR'.length = nR) ∧ (PL'.length = nR) ∧ (DPz nR nS xS kc0 kc1 lo re sl zz 25) ∧ (zz.R.length = nR) ∧ (zz.L.length = nR) ∧ (xS.length = nS) ∧ (ZI zz) ∧ Row w' bR' 0 (olc zz.R PR') ∧ Row w' bL' 0 (olc zz.L PL') ∧ Row w' bS' 0 (fl xS) ∧ w.heap.size ≤ bR' ∧ w.heap.size ≤ bL' ∧ w.heap.size ≤ bS' ∧ bR' ≠ bL' ∧ bR' ≠ bS' ∧ bL' ≠ bS' ∧ OF w.heap.size w' zz.R PR' ∧ (∀ i, i < nR → (PR'.getD i BC.d).b ≠ bR') ∧ (∀ i, i < nR → (PR'.getD i BC.d).b ≠ bL') ∧ (∀ i, i < nR → (PR'.getD i BC.d).b ≠ bS') ∧ (∀ i j, i < nR → j < nR → (PR'.getD i BC.d).b ≠ (PL'.getD j BC.d).b) ∧ OF w.heap.size w' zz.L PL' ∧ (∀ i, i < nR → (PL'.getD i BC.d).b ≠ bR') ∧ (∀ i, i < nR → (PL'.getD i BC.d).b ≠ bL') ∧ (∀ i, i < nR → (PL'.getD i BC.d).b ≠ bS') ∧ Mod [p] w w' := by
 refine Cl.of Try.func90 Try.ntmps90 rfl rfl (ρ := [(0, vP p 0)]) rfl ?_
 refine CE.seq (CE.region ?_)
 refine WL.op (op_alloc (cs := [.slice none 0 0, .slice none 0 0, .slice none 0 0, vI 0, vF 0, vF 0, vF 0, vF 0, vF 0, .bool false, vF 0, vF 0, vF 0]) Try.zeroValue33 rfl) rfl rfl (ltb rfl) ?_
 rintro _ w1 ⟨rfl, r1, m1, z1⟩
 refine WL.end (NE.code (CE.seq (CE.region ?_)))
 refine WL.op (op_emptySl rfl Try.runUnderlying36 Try.sizeOf2) rfl rfl (ltb rfl) ?_
 rintro _ w2 ⟨rfl, r2, m2, z2⟩
 refine WD (op_assign rfl) rfl ?_
 refine WL.end (NE.code (CE.seq (CE.region ?_)))
 refine WL.op (op_emptySl rfl Try.runUnderlying26 Try.sizeOf27) rfl rfl (ltb rfl) ?_
 rintro _ w3 ⟨rfl, r3, m3, z3⟩
 refine WD (op_assign rfl) rfl ?_
 refine WL.end (NE.code (CE.seq (CE.seq (CE.region ?_))))
 refine WD (op_move rfl) rfl ?_
 have r4 := (((q.ext m1).ext m2).ext m3)
 have r5 := (((r.ext m1).ext m2).ext m3)
 refine WL.call (oc_call (vs := [vP p 0, vI 3]) (cap := []) rfl rfl rfl Try.call54 (c_pick n c A b o xs at_ s p 3 ln hA hB (by omega) (by omega) (by omega) (by omega) (by omega) w3 r4 r5)) rfl rfl (ltb rfl) ?_
 rintro _ w4 ⟨u1, s1, rfl, h1, h2, r6, m4⟩
 refine WD (op_add (r := ((1 + u1 : Nat) : Int)) rfl rfl (w_i64 (by omega) (by omega))) rfl ?_
 refine WD (op_assign rfl) rfl ?_
 refine WL.end (NE.code (CE.block ?_))
 refine CE.rounds 4 ?_
 refine RN.one (CE.seq (CE.seq (CE.region ?_)))
 refine WD (op_move rfl) rfl ?_
 refine WD (op_gti rfl rfl) rfl ?_
 refine WL.end (NE.code ?_)
 refine CE.cond_t rfl (decide_eq_true (by omega)) ?_
 refine CE.skip' (NE.code (CE.seq (CE.block (CE.seq (CE.region ?_)))))
 iterate 2 refine WD (op_move rfl) rfl ?_
 refine WL.call (oc_call (vs := [vP p 0, vI 5]) (cap := []) rfl rfl rfl Try.call54 (c_pick n c A b o xs (at_ + 1) s1 p 5 ln hA hB (by omega) (by omega) (by omega) (by omega) (by omega) w4 r6 (rng0 ln nbp r5 m4))) rfl rfl (ltb rfl) ?_
 rintro _ w5 ⟨u2, s2, rfl, h3, h4, r7, m5⟩
 refine WD (op_add (r := ((1 + u2 : Nat) : Int)) rfl rfl (w_i64 (by omega) (by omega))) rfl ?_
 refine WL.op (op_buildSl (qs := [(0, vI ((1 + u2 : Nat) : Int))]) (cells := #[vI ((1 + u2 : Nat) : Int)]) rfl Try.runUnderlying36 Try.sizeOf2 Try.zeroValue2 (by decide) (by decide) (by kernel_rfl)) rfl rfl (ltb rfl) ?_
 rintro _ w6 ⟨rfl, r8, m6, z4⟩
 refine WL.op (op_app0 (i := Try.t2) (m := 1) (bt := 8) (news := [vI ((1 + u2 : Nat) : Int)]) (q := 0) (.inr ⟨_, rfl⟩) rfl rfl Try.underlying36 rfl rfl rfl rfl rfl (by decide) r8.rng rfl rfl (by omega) (by decide)) rfl rfl (ltb rfl) ?_
 rintro _ w7 ⟨b1, c1, rfl, ow1, ge1, m7⟩
 have r9 : Row w7 b1 0 [vI ((1 + u2 : Nat) : Int)] := (Own.row1 ow1).1
 refine WD (op_assign rfl) rfl ?_
 refine WL.end (NE.code (CE.seq (CE.region ?_)))
 refine WD (op_move rfl) rfl ?_
 refine WD (op_len rfl Try.runUnderlying36) rfl ?_
 refine WD (op_gti rfl rfl) rfl ?_
 refine WL.end (NE.code ?_)
 refine CE.cond_f rfl rfl ?_
 refine CE.skip' (NE.blk (NE.code (CE.region ?_)))
 refine WD (op_move rfl) rfl ?_
 refine WD (op_sub (r := ((1 + u1 - 1 : Nat) : Int)) rfl rfl (w_nsub (l := 1 + u1) (n := 1) (by omega) (by omega))) rfl ?_
 refine WD (op_assign rfl) rfl ?_
 refine WL.end (NE.round (RN.one (CE.seq (CE.seq (CE.region ?_)))))
 refine WD (op_move rfl) rfl ?_
 refine WD (op_gti rfl rfl) rfl ?_
 refine WL.end (NE.code ?_)
 rcases Bool.eq_false_or_eq_true (decide ((0 : Int) < ((1 + u1 - 1 : Nat) : Int))) with hb1 | hb1
 ·have hp1 := of_decide_eq_true hb1
  refine CE.cond_t rfl hb1 ?_
  refine CE.skip' (NE.code (CE.seq (CE.block (CE.seq (CE.region ?_)))))
  iterate 2 refine WD (op_move rfl) rfl ?_
  have r10 := (((rng0 ln nbp (rng0 ln nbp r5 m4) m5).ext m6).ext m7)
  refine WL.call (oc_call (vs := [vP p 0, vI 5]) (cap := []) rfl rfl rfl Try.call54 (c_pick n c A b o xs ((at_ + 1) + 1) s2 p 5 ln hA hB (by omega) (by omega) (by omega) (by omega) (by omega) w7 ((r7.ext m6).ext m7) r10)) rfl rfl (ltb rfl) ?_
  rintro _ w8 ⟨u3, s3, rfl, h5, h6, r11, m8⟩
  refine WD (op_add (r := ((1 + u3 : Nat) : Int)) rfl rfl (w_i64 (by omega) (by omega))) rfl ?_
  refine WL.op (op_buildSl (qs := [(0, vI ((1 + u3 : Nat) : Int))]) (cells := #[vI ((1 + u3 : Nat) : Int)]) rfl Try.runUnderlying36 Try.sizeOf2 Try.zeroValue2 (by decide) (by decide) (by kernel_rfl)) rfl rfl (ltb rfl) ?_
  rintro _ w9 ⟨rfl, r12, m9, z5⟩
  have sz1 := SzLe.mk (lT (lT (lT (lT (lT m1.size m2.size) m3.size) m4.size) m5.size) m6.size)
  have sz2 := SzLe.mk (lT (lT m7.size m8.size) m9.size)
  refine WL.op (op_appk (i := Try.t2) (m := 1) (bt := 8) (news := [vI ((1 + u3 : Nat) : Int)]) (q := 0) rfl rfl Try.underlying36 rfl rfl rfl rfl rfl (by decide) r12.rng rfl rfl (Own.modb (Own.modb ow1 m8 (nC (lG (lL (lL q.lt sz1) ge1)) nN)) m9 nN) sz2 (by omega) (by omega) (by decide)) rfl rfl (ltb rfl) ?_
  have sz3 := SzLe.mk (lT (lT (lT sz1 m7.size) m8.size) m9.size)
  have sz4 := SzLe.mk (lT (lT (lT (lT m2.size m3.size) m4.size) m5.size) m6.size)
  have sz5 := SzLe.mk (lT (lT (lT sz4 m7.size) m8.size) m9.size)
  have sz6 := SzLe.mk (lT (lT (lT m3.size m4.size) m5.size) m6.size)
  have sz7 := SzLe.mk (lT (lT (lT sz6 m7.size) m8.size) m9.size)
  have sz8 := SzLe.mk (lT (lT m4.size m5.size) m6.size)
  have sz9 := SzLe.mk (lT (lT (lT sz8 m7.size) m8.size) m9.size)
  rintro _ w10 ⟨b2, c2, rfl, ow2, hb2, m10⟩
  have r13 : Row w10 b2 0 [vI ((1 + u2 : Nat) : Int), vI ((1 + u3 : Nat) : Int)] := (Own.row1 ow2).1
  refine WD (op_assign rfl) rfl ?_
  refine WL.end (NE.code (CE.seq (CE.region ?_)))
  refine WD (op_move rfl) rfl ?_
  refine WD (op_len rfl Try.runUnderlying36) rfl ?_
  refine WD (op_gti rfl rfl) rfl ?_
  refine WL.end (NE.code ?_)
  refine CE.cond_t rfl rfl ?_
  refine CE.region ?_
  iterate 2 refine WD (op_move rfl) rfl ?_
  have r14 := (Rng.youngS r ((rng0 ln nbp r10 m8).ext m9) m10 (allge_cons (lT sz1 ge1) allge_nil))
  refine WL.call (oc_call (vs := [vP p 0, vI 17]) (cap := []) rfl rfl rfl Try.call54 (c_pick n c A b o xs (((at_ + 1) + 1) + 1) s3 p 17 ln hA hB (by omega) (by omega) (by omega) (by omega) (by omega) w10 ((r11.ext m9).mod m10 (nC (lE (lL (lL q.lt sz1) ge1)) nN)) r14)) rfl rfl (ltb rfl) ?_
  rintro _ w11 ⟨u4, s4, rfl, h7, h8, r15, m11⟩
  refine WD (op_sub (r := (((u4 : Nat) : Int) - (8 : Int))) rfl rfl (w_i64 (by omega) (by omega))) rfl ?_
  refine WD (op_cvt_if rfl Try.runUnderlying2 Try.runUnderlying27) rfl ?_
  refine WL.op (op_farith (e := (fop .quo .f32 (FloatKind.f32.nearest (((u4 : Nat) : Int) - (8 : Int))) 1090519040)) (.inr (.inr (.inr rfl))) rfl rfl rfl rfl rfl) rfl rfl (ltb rfl) ?_
  rintro _ w12 ⟨⟨f1, rfl, hf1, lf1⟩, m12⟩
  refine WL.op (op_buildSl (qs := [(0, vF f1)]) (cells := #[vF f1]) rfl Try.runUnderlying26 Try.sizeOf27 Try.zeroValue27 (by decide) (by decide) (by kernel_rfl)) rfl rfl (ltb rfl) ?_
  rintro _ w13 ⟨rfl, r16, m13, z6⟩
  refine WL.op (op_app0 (i := Try.t27) (m := 1) (bt := 4) (news := [vF f1]) (q := 0) (.inr ⟨_, rfl⟩) rfl rfl Try.underlying26 rfl rfl rfl rfl rfl (by decide) r16.rng rfl rfl (by omega) (by decide)) rfl rfl (ltb rfl) ?_
  rintro _ w14 ⟨b3, c3, rfl, ow3, ge2, m14⟩
  have r17 : Row w14 b3 0 [vF f1] := (Own.row1 ow3).1
  refine WD (op_assign rfl) rfl ?_
  refine WL.end (NE.blk (NE.code (CE.region ?_)))
  refine WD (op_move rfl) rfl ?_
  refine WD (op_sub (r := ((1 + u1 - 1 - 1 : Nat) : Int)) rfl rfl (w_nsub (l := 1 + u1 - 1) (n := 1) (by omega) (by omega))) rfl ?_
  refine WD (op_assign rfl) rfl ?_
  refine WL.end (NE.round (RN.one (CE.seq (CE.seq (CE.region ?_)))))
  refine WD (op_move rfl) rfl ?_
  refine WD (op_gti rfl rfl) rfl ?_
  refine WL.end (NE.code ?_)
  rcases Bool.eq_false_or_eq_true (decide ((0 : Int) < ((1 + u1 - 1 - 1 : Nat) : Int))) with hb3 | hb3
  ·have hp3 := of_decide_eq_true hb3
   refine CE.cond_t rfl hb3 ?_
   refine CE.skip' (NE.code (CE.seq (CE.block (CE.seq (CE.region ?_)))))
   iterate 2 refine WD (op_move rfl) rfl ?_
   have r18 := (((r15.ext m12).ext m13).ext m14)
   have r19 := ((((rng0 ln nbp r14 m11).ext m12).ext m13).ext m14)
   refine WL.call (oc_call (vs := [vP p 0, vI 5]) (cap := []) rfl rfl rfl Try.call54 (c_pick n c A b o xs ((((at_ + 1) + 1) + 1) + 1) s4 p 5 ln hA hB (by omega) (by omega) (by omega) (by omega) (by omega) w14 r18 r19)) rfl rfl (ltb rfl) ?_
   rintro _ w15 ⟨u5, s5, rfl, h9, h10, r20, m15⟩
   refine WD (op_add (r := ((1 + u5 : Nat) : Int)) rfl rfl (w_i64 (by omega) (by omega))) rfl ?_
   refine WL.op (op_buildSl (qs := [(0, vI ((1 + u5 : Nat) : Int))]) (cells := #[vI ((1 + u5 : Nat) : Int)]) rfl Try.runUnderlying36 Try.sizeOf2 Try.zeroValue2 (by decide) (by decide) (by kernel_rfl)) rfl rfl (ltb rfl) ?_
   rintro _ w16 ⟨rfl, r21, m16, z7⟩
   have sz10 := SzLe.mk (lT (lT (lT (lT (lT (lT (lT sz2 m10.size) m11.size) m12.size) m13.size) m14.size) m15.size) m16.size)
   refine WL.op (op_appk (i := Try.t2) (m := 1) (bt := 8) (news := [vI ((1 + u5 : Nat) : Int)]) (q := 0) rfl rfl Try.underlying36 rfl rfl rfl rfl rfl (by decide) r21.rng rfl rfl (Own.modb (Own.modb (Own.modb (Own.modb (Own.modb (Own.modb ow2 m11 (nC (Ne.symm (own_ne hb2 (lE (lL (lL q.lt sz1) ge1)) (lL q.lt sz3))) nN)) m12 nN) m13 nN) m14 nN) m15 (nC (Ne.symm (own_ne hb2 (lE (lL (lL q.lt sz1) ge1)) (lL q.lt sz3))) nN)) m16 nN) sz10 (by omega) (by omega) (by decide)) rfl rfl (ltb rfl) ?_
   have sz11 := SzLe.mk (lT (lT (lT (lT (lT (lT (lT sz3 m10.size) m11.size) m12.size) m13.size) m14.size) m15.size) m16.size)
   have sz12 := SzLe.mk (lT (lT (lT (lT (lT (lT (lT sz5 m10.size) m11.size) m12.size) m13.size) m14.size) m15.size) m16.size)
   have sz13 := SzLe.mk (lT (lT (lT (lT (lT (lT (lT sz7 m10.size) m11.size) m12.size) m13.size) m14.size) m15.size) m16.size)
   have sz14 := SzLe.mk (lT (lT (lT (lT (lT (lT (lT sz9 m10.size) m11.size) m12.size) m13.size) m14.size) m15.size) m16.size)
   have sz15 := SzLe.mk (lT (lT (lT (lT (lT (lT m10.size m11.size) m12.size) m13.size) m14.size) m15.size) m16.size)
   have sz16 := SzLe.mk (lT (lT m14.size m15.size) m16.size)
   have sz17 := SzLe.mk (lT (lT m11.size m12.size) m13.size)
   have sz18 := SzLe.mk (lT (lT sz17 m14.size) m15.size)
   rintro _ w17 ⟨b4, c4, rfl, ow4, hb4, m17⟩
   have r22 : Row w17 b4 0 [vI ((1 + u2 : Nat) : Int), vI ((1 + u3 : Nat) : Int), vI ((1 + u5 : Nat) : Int)] := (Own.row1 ow4).1
   refine WD (op_assign rfl) rfl ?_
   refine WL.end (NE.code (CE.seq (CE.region ?_)))
   refine WD (op_move rfl) rfl ?_
   refine WD (op_len rfl Try.runUnderlying36) rfl ?_
   refine WD (op_gti rfl rfl) rfl ?_
   refine WL.end (NE.code ?_)
   refine CE.cond_t rfl rfl ?_
   refine CE.region ?_
   iterate 2 refine WD (op_move rfl) rfl ?_
   have r23 := ((r20.ext m16).mod m17 (nC (own_ne hb2 (lE (lL (lL q.lt sz1) ge1)) (lL q.lt sz3)) nN))
   have r24 := (Rng.youngS r ((rng0 ln nbp r19 m15).ext m16) m17 (allge_cons (lT sz1 (Own.row1 ow2).2) allge_nil))
   refine WL.call (oc_call (vs := [vP p 0, vI 17]) (cap := []) rfl rfl rfl Try.call54 (c_pick n c A b o xs (((((at_ + 1) + 1) + 1) + 1) + 1) s5 p 17 ln hA hB (by omega) (by omega) (by omega) (by omega) (by omega) w17 r23 r24)) rfl rfl (ltb rfl) ?_
   rintro _ w18 ⟨u6, s6, rfl, h11, h12, r25, m18⟩
   refine WD (op_sub (r := (((u6 : Nat) : Int) - (8 : Int))) rfl rfl (w_i64 (by omega) (by omega))) rfl ?_
   refine WD (op_cvt_if rfl Try.runUnderlying2 Try.runUnderlying27) rfl ?_
   refine WL.op (op_farith (e := (fop .quo .f32 (FloatKind.f32.nearest (((u6 : Nat) : Int) - (8 : Int))) 1090519040)) (.inr (.inr (.inr rfl))) rfl rfl rfl rfl rfl) rfl rfl (ltb rfl) ?_
   rintro _ w19 ⟨⟨f2, rfl, hf2, lf2⟩, m19⟩
   refine WL.op (op_buildSl (qs := [(0, vF f2)]) (cells := #[vF f2]) rfl Try.runUnderlying26 Try.sizeOf27 Try.zeroValue27 (by decide) (by decide) (by kernel_rfl)) rfl rfl (ltb rfl) ?_
   rintro _ w20 ⟨rfl, r26, m20, z8⟩
   have sz19 := SzLe.mk (lT (lT (lT (lT sz3 m10.size) m11.size) m12.size) m13.size)
   have sz20 := SzLe.mk (lT (lT (lT (lT sz16 m17.size) m18.size) m19.size) m20.size)
   refine WL.op (op_appk (i := Try.t27) (m := 1) (bt := 4) (news := [vF f2]) (q := 0) rfl rfl Try.underlying26 rfl rfl rfl rfl rfl (by decide) r26.rng rfl rfl (Own.modb (Own.modb (Own.modb (Own.modb (Own.modb (Own.modb ow3 m15 (nC (lG (lL (lL q.lt sz19) ge2)) nN)) m16 nN) m17 (nC (lG (lL (lL r13.lt sz17) ge2)) nN)) m18 (nC (lG (lL (lL q.lt sz19) ge2)) nN)) m19 nN) m20 nN) sz20 (by omega) (by omega) (by decide)) rfl rfl (ltb rfl) ?_
   have sz21 := SzLe.mk (lT (lT (lT (lT sz11 m17.size) m18.size) m19.size) m20.size)
   have sz22 := SzLe.mk (lT (lT (lT (lT sz5 m10.size) m11.size) m12.size) m13.size)
   have sz23 := SzLe.mk (lT (lT (lT (lT sz12 m17.size) m18.size) m19.size) m20.size)
   have sz24 := SzLe.mk (lT (lT (lT (lT sz7 m10.size) m11.size) m12.size) m13.size)
   have sz25 := SzLe.mk (lT (lT (lT (lT sz13 m17.size) m18.size) m19.size) m20.size)
   have sz26 := SzLe.mk (lT (lT (lT (lT sz9 m10.size) m11.size) m12.size) m13.size)
   have sz27 := SzLe.mk (lT (lT (lT (lT sz14 m17.size) m18.size) m19.size) m20.size)
   have sz28 := SzLe.mk (lT (lT (lT (lT sz2 m10.size) m11.size) m12.size) m13.size)
   have sz29 := SzLe.mk (lT (lT (lT (lT sz10 m17.size) m18.size) m19.size) m20.size)
   have sz30 := SzLe.mk (lT (lT (lT (lT (lT m8.size m9.size) m10.size) m11.size) m12.size) m13.size)
   have sz31 := SzLe.mk (lT (lT (lT (lT (lT (lT (lT sz30 m14.size) m15.size) m16.size) m17.size) m18.size) m19.size) m20.size)
   have sz32 := SzLe.mk (lT (lT (lT m10.size m11.size) m12.size) m13.size)
   have sz33 := SzLe.mk (lT (lT (lT (lT sz15 m17.size) m18.size) m19.size) m20.size)
   have sz34 := SzLe.mk (lT (lT (lT (lT (lT sz18 m16.size) m17.size) m18.size) m19.size) m20.size)
   have sz35 := SzLe.mk (lT (lT (lT m17.size m18.size) m19.size) m20.size)
   have sz36 := SzLe.mk (lT (lT m18.size m19.size) m20.size)
   have sz37 := SzLe.mk (lT (lT (lT (lT m15.size m16.size) m17.size) m18.size) m19.size)
   rintro _ w21 ⟨b5, c5, rfl, ow5, hb5, m21⟩
   have r27 : Row w21 b5 0 [vF f1, vF f2] := (Own.row1 ow5).1
   refine WD (op_assign rfl) rfl ?_
   refine WL.end (NE.blk (NE.code (CE.region ?_)))
   refine WD (op_move rfl) rfl ?_
   refine WD (op_sub (r := ((1 + u1 - 1 - 1 - 1 : Nat) : Int)) rfl rfl (w_nsub (l := 1 + u1 - 1 - 1) (n := 1) (by omega) (by omega))) rfl ?_
   refine WD (op_assign rfl) rfl ?_
   refine WL.end (NE.round (RN.one (CE.seq (CE.seq (CE.region ?_)))))
   refine WD (op_move rfl) rfl ?_
   refine WD (op_gti rfl rfl) rfl ?_
   refine WL.end (NE.code ?_)
   refine CE.cond_f rfl (decide_eq_false (by omega)) ?_
   refine CE.exit' (XE.exit_then (XE.exit_then (XE.exit_here (NE.code (CE.seq (CE.region ?_))))))
   refine WD (op_move rfl) rfl ?_
   have r28 := (((r25.ext m19).ext m20).mod m21 (nC (lE (lL (lL q.lt sz19) ge2)) nN))
   have r29 := (Rng.youngS r (((rng0 ln nbp r24 m18).ext m19).ext m20) m21 (allge_cons (lT sz19 ge2) allge_nil))
   refine WL.call (oc_call (vs := [vP p 0, vI 2]) (cap := []) rfl rfl rfl Try.call137 (c_oneB n c A b o xs ((((((at_ + 1) + 1) + 1) + 1) + 1) + 1) s6 p 2 ln hA hB (by omega) (by omega) (by omega) (by omega) (by omega) (by first | assumption | (intro h0; have hlt := Rng.lt r (by rw [bys_len, ln]; exact h0); omega)) w21 r28 r29)) rfl rfl (ltb rfl) ?_
   rintro _ w22 ⟨ub1, s7, rfl, h13, r30, m22⟩
   refine WD (op_assign rfl) rfl ?_
   refine WL.end (NE.code (CE.seq (CE.region ?_)))
   refine WD (op_move rfl) rfl ?_
   refine WL.call (oc_call (vs := [vP p 0, vI 8]) (cap := []) rfl rfl rfl Try.call54 (c_pick n c A b o xs (((((((at_ + 1) + 1) + 1) + 1) + 1) + 1) + 1) s7 p 8 ln hA hB (by omega) (by omega) (by omega) (by omega) (by omega) w22 r30 (rng0 ln nbp r29 m22))) rfl rfl (ltb rfl) ?_
   rintro _ w23 ⟨u7, s8, rfl, h14, h15, r31, m23⟩
   refine WD (op_cvt_if rfl Try.runUnderlying2 Try.runUnderlying27) rfl ?_
   refine WL.op (op_farith (e := (fop .quo .f32 (FloatKind.f32.nearest ((u7 : Nat) : Int)) 1090519040)) (.inr (.inr (.inr rfl))) rfl rfl rfl rfl rfl) rfl rfl (ltb rfl) ?_
   rintro _ w24 ⟨⟨f3, rfl, hf3, lf3⟩, m24⟩
   refine WD (op_assign rfl) rfl ?_
   refine WL.end (NE.code (CE.seq (CE.region ?_)))
   iterate 5 refine WD (op_move rfl) rfl ?_
   have r32 := ((rng0 ln nbp (rng0 ln nbp r29 m22) m23).ext m24)
   refine WL.call (oc_call (vs := [vP p 0, vI 17]) (cap := []) rfl rfl rfl Try.call54 (c_pick n c A b o xs ((((((((at_ + 1) + 1) + 1) + 1) + 1) + 1) + 1) + 1) s8 p 17 ln hA hB (by omega) (by omega) (by omega) (by omega) (by omega) w24 (r31.ext m24) r32)) rfl rfl (ltb rfl) ?_
   rintro _ w25 ⟨u8, s9, rfl, h16, h17, r33, m25⟩
   refine WD (op_cvt_if rfl Try.runUnderlying2 Try.runUnderlying27) rfl ?_
   refine WL.op (op_farith (e := (fop .quo .f32 (FloatKind.f32.nearest ((u8 : Nat) : Int)) 1098907648)) (.inr (.inr (.inr rfl))) rfl rfl rfl rfl rfl) rfl rfl (ltb rfl) ?_
   rintro _ w26 ⟨⟨f4, rfl, hf4, lf4⟩, m26⟩
   have r34 := (((((((((r22.mod m18 (nC (Ne.symm (own_ne hb4 (own_ne hb2 (lE (lL (lL q.lt sz1) ge1)) (lL q.lt sz3)) (lL q.lt sz11))) nN)).ext m19).ext m20).mod m21 (nC (Ne.symm (own_ne hb4 (lG (lL (lL r13.lt sz17) ge2)) (lL r17.lt (lT m15.size m16.size)))) nN)).mod m22 (nC (Ne.symm (own_ne hb4 (own_ne hb2 (lE (lL (lL q.lt sz1) ge1)) (lL q.lt sz3)) (lL q.lt sz11))) nN)).mod m23 (nC (Ne.symm (own_ne hb4 (own_ne hb2 (lE (lL (lL q.lt sz1) ge1)) (lL q.lt sz3)) (lL q.lt sz11))) nN)).ext m24).mod m25 (nC (Ne.symm (own_ne hb4 (own_ne hb2 (lE (lL (lL q.lt sz1) ge1)) (lL q.lt sz3)) (lL q.lt sz11))) nN)).ext m26)
   have r35 := (((((r27.mod m22 (nC (Ne.symm (own_ne hb5 (lE (lL (lL q.lt sz19) ge2)) (lL q.lt sz21))) nN)).mod m23 (nC (Ne.symm (own_ne hb5 (lE (lL (lL q.lt sz19) ge2)) (lL q.lt sz21))) nN)).ext m24).mod m25 (nC (Ne.symm (own_ne hb5 (lE (lL (lL q.lt sz19) ge2)) (lL q.lt sz21))) nN)).ext m26)
   refine WL.call (oc_call (vs := [vS b4 0 3 c4, vS b5 0 2 c5, .bool ub1, vF f3, vF f4]) (cap := []) rfl rfl rfl Try.call15 (c_sNewI3 (1 + u2) (1 + u3) (1 + u5) c4 b4 c5 b5 [f1, f2] ub1 f3 f4 (by omega) (by omega) (by omega) (by omega) (by omega) (by omega) lf3 lf4 rfl (by with_reducible first | exact scl0 | exact scl1 (scE_of (by assumption) (by assumption)) | exact scl2 (scE_of (by assumption) (by assumption)) (scE_of (by assumption) (by assumption))) (by with_reducible exact keepE_of (by assumption) (by assumption)) (by with_reducible exact lossE_of (by assumption) (by assumption)) w26 r34.rng r35.rng)) rfl rfl (ltb rfl) ?_
   rintro _ w27 ⟨bR'1, cR'1, PR'1, bL'1, cL'1, PL'1, bS'1, cS'1, r_1, zz1, rfl, h18, h19, h20, h21, h22, h23, h24, h25, r36, r37, r38, ge3, ge4, ge5, ne1, ne2, ne3, fm1, fn1, fn2, fn3, fn4, fm2, fn5, fn6, fn7, m27⟩
   refine WD (op_move rfl) rfl ?_
   iterate 2 refine WD (op_extract rfl rfl) rfl ?_
   refine WL.op (op_alloc (cs := [.slice none 0 0, .slice none 0 0, .slice none 0 0, vI 0, vF 0, vF 0, vF 0, vF 0, vF 0, .bool false, vF 0, vF 0, vF 0]) Try.zeroValue33 rfl) rfl rfl (ltb rfl) ?_
   rintro _ w28 ⟨rfl, r39, m28, z9⟩
   refine WL.op0 (op_store (i := 0) (cs := [vS bR'1 0 3 cR'1, vS bL'1 0 3 cL'1, vS bS'1 0 2 cS'1, vI 1, vF r_1, vF f3, vF 0, vF 0, vF 0, .bool ub1, vF f4, vF 1061158912, vF 3200253952]) rfl rfl rfl Try.sizeOf33 rfl r39 rfl (lB rfl) rfl) rfl rfl ?_
   rintro _ w29 ⟨r40, m29, z10⟩
   have r41 : Row w29 w27.heap.size 0 [vS bR'1 0 3 cR'1, vS bL'1 0 3 cL'1, vS bS'1 0 2 cS'1, vI 1, vF r_1, vF f3, vF 0, vF 0, vF 0, .bool ub1, vF f4, vF 1061158912, vF 3200253952] := Row.congr r40 rfl
   refine WD (op_assign rfl) rfl ?_
   refine WL.end (NE.code (CE.seq (CE.seq (CE.region ?_))))
   refine WD (op_move rfl) rfl ?_
   have sz38 := SzLe.mk (lT (lT (lT (lT (lT (lT (lT sz21 m21.size) m22.size) m23.size) m24.size) m25.size) m26.size) m27.size)
   have r42 := ((((r33.ext m26).ext m27).ext m28).mod m29 (nC (lE (lL (lL q.lt sz38) lR)) nN))
   have r43 := (Rng.youngS r ((((rng0 ln nbp r32 m25).ext m26).ext m27).ext m28) m29 (allge_cons (lT sz38 lR) allge_nil))
   refine WL.call (oc_call (vs := [vP p 0, vI 2]) (cap := []) rfl rfl rfl Try.call137 (c_oneB n c A b o xs (((((((((at_ + 1) + 1) + 1) + 1) + 1) + 1) + 1) + 1) + 1) s9 p 2 ln hA hB (by omega) (by omega) (by omega) (by omega) (by omega) (by first | assumption | (intro h0; have hlt := Rng.lt r (by rw [bys_len, ln]; exact h0); omega)) w29 r42 r43)) rfl rfl (ltb rfl) ?_
   rintro _ w30 ⟨ub2, s10, rfl, h26, r44, m30⟩
   refine WL.end (NE.code ?_)
   rcases Bool.eq_false_or_eq_true (ub2) with hb6 | hb6
   ·refine CE.cond_t rfl hb6 ?_
    refine CE.seq (CE.region ?_)
    refine WD (op_move rfl) rfl ?_
    refine WL.call (oc_call (vs := [vP p 0]) (cap := []) rfl rfl rfl Try.call61 (c_l01PlainT n c A b o xs ((((((((((at_ + 1) + 1) + 1) + 1) + 1) + 1) + 1) + 1) + 1) + 1) s10 p ln hA hB (by omega) (by omega) (by omega) (by first | assumption | (intro h0; have hlt := Rng.lt r (by rw [bys_len, ln]; exact h0); omega)) w30 r44 (rng0 ln nbp r43 m30))) rfl rfl (ltb rfl) ?_
    rintro _ w31 ⟨r_2, a1, s11, rfl, h27, h28, h29, h30, r45, m31⟩
    refine WD (op_fieldAddr (off' := 11) rfl Try.runUnderlying33 rfl rfl Try.sizeOf27 rfl) rfl ?_
    have r46 := ((r41.mod m30 (nC (lG (lL (lL q.lt sz38) lR)) nN)).mod m31 (nC (lG (lL (lL q.lt sz38) lR)) nN))
    refine WL.op0 (op_store (i := 11) (cs := [vF r_2]) rfl rfl rfl Try.sizeOf27 rfl r46 rfl (lB rfl) rfl) rfl rfl ?_
    rintro _ w32 ⟨r47, m32, z11⟩
    have r48 : Row w32 w27.heap.size 0 [vS bR'1 0 3 cR'1, vS bL'1 0 3 cL'1, vS bS'1 0 2 cS'1, vI 1, vF r_1, vF f3, vF 0, vF 0, vF 0, .bool ub1, vF f4, vF r_2, vF 3200253952] := Row.congr r47 rfl
    refine WL.end (NE.code (CE.region ?_))
    refine WD (op_move rfl) rfl ?_
    have r49 := (Rng.youngS r (rng0 ln nbp (rng0 ln nbp r43 m30) m31) m32 (allge_cons (lT sz38 lR) allge_nil))
    refine WL.call (oc_call (vs := [vP p 0]) (cap := []) rfl rfl rfl Try.call61 (c_l01PlainT n c A b o xs a1 s11 p ln hA hB (by omega) (by omega) (by omega) (by first | assumption | (intro h0; have hlt := Rng.lt r (by rw [bys_len, ln]; exact h0); omega)) w32 (r45.mod m32 (nC (lE (lL (lL q.lt sz38) lR)) nN)) r49)) rfl rfl (ltb rfl) ?_
    rintro _ w33 ⟨r_3, a2, s12, rfl, h31, h32, h33, h34, r50, m33⟩
    refine WD (op_fieldAddr (off' := 12) rfl Try.runUnderlying33 rfl rfl Try.sizeOf27 rfl) rfl ?_
    refine WL.op0 (op_store (i := 12) (cs := [vF r_3]) rfl rfl rfl Try.sizeOf27 rfl (r48.mod m33 (nC (lG (lL (lL q.lt sz38) lR)) nN)) rfl (lB rfl) rfl) rfl rfl ?_
    rintro _ w34 ⟨r51, m34, z12⟩
    have r52 : Row w34 w27.heap.size 0 [vS bR'1 0 3 cR'1, vS bL'1 0 3 cL'1, vS bS'1 0 2 cS'1, vI 1, vF r_1, vF f3, vF 0, vF 0, vF 0, .bool ub1, vF f4, vF r_2, vF r_3] := Row.congr r51 rfl
    refine WL.end (NE.code (CE.seq (CE.seq (CE.region ?_))))
    refine WD (op_move rfl) rfl ?_
    have r53 := (Rng.youngS r (rng0 ln nbp r49 m33) m34 (allge_cons (lT sz38 lR) allge_nil))
    refine WL.call (oc_call (vs := [vP p 0, vI 12]) (cap := []) rfl rfl rfl Try.call54 (c_pick n c A b o xs a2 s12 p 12 ln hA hB (by omega) (by omega) (by omega) (by omega) (by omega) w34 (r50.mod m34 (nC (lE (lL (lL q.lt sz38) lR)) nN)) r53)) rfl rfl (ltb rfl) ?_
    rintro _ w35 ⟨u9, s13, rfl, h35, h36, r54, m35⟩
    refine WD (op_assign rfl) rfl ?_
    refine WL.end (NE.code (CE.block ?_))
    have sz39 := SzLe.mk (lT (lT (lT (lT (lT (lT sz21 m21.size) m22.size) m23.size) m24.size) m25.size) m26.size)
    have r55 := ((((((((r36.ext m28).mod m29 (nC (lE (lL r36.lt lR)) nN)).mod m30 (nC (lG (lL (lL q.lt sz39) ge3)) nN)).mod m31 (nC (lG (lL (lL q.lt sz39) ge3)) nN)).mod m32 (nC (lE (lL r36.lt lR)) nN)).mod m33 (nC (lG (lL (lL q.lt sz39) ge3)) nN)).mod m34 (nC (lE (lL r36.lt lR)) nN)).mod m35 (nC (lG (lL (lL q.lt sz39) ge3)) nN))
    have r56 := ((((((((r37.ext m28).mod m29 (nC (lE (lL r37.lt lR)) nN)).mod m30 (nC (lG (lL (lL q.lt sz39) ge4)) nN)).mod m31 (nC (lG (lL (lL q.lt sz39) ge4)) nN)).mod m32 (nC (lE (lL r37.lt lR)) nN)).mod m33 (nC (lG (lL (lL q.lt sz39) ge4)) nN)).mod m34 (nC (lE (lL r37.lt lR)) nN)).mod m35 (nC (lG (lL (lL q.lt sz39) ge4)) nN))
    refine CE.loop (fun (z : Nat × PipeSt × Nat × Nat) => [(10, vI ((z.1 : Nat) : Int)), (0, vP p 0), (2, vP w.heap.size 0), (8, vP w27.heap.size 0)]) (fun (z : Nat × PipeSt × Nat × Nat) => fun W => (z.1 ≤ 11) ∧ (DPi 3 2 [f1, f2] r_1 f3 f4 r_2 r_3 z.2.1 (11 - z.1)) ∧ (z.2.2.1 ≤ 1000 - 20 * z.1) ∧ (z.2.2.2 < 18446744073709551616) ∧ Row W w27.heap.size 0 [vS bR'1 0 3 cR'1, vS bL'1 0 3 cL'1, vS bS'1 0 2 cS'1, vI 1, vF r_1, vF f3, vF 0, vF (z.2.1.s0), vF (z.2.1.s1), .bool ub1, vF f4, vF r_2, vF r_3] ∧ Row W bR'1 0 (olc z.2.1.R PR'1) ∧ Row W bL'1 0 (olc z.2.1.L PL'1) ∧ Row W p 0 [.slice A n c, vI ((z.2.2.1 : Nat) : Int), .int .u64 ((z.2.2.2 : Nat) : Int)] ∧ OF w26.heap.size W z.2.1.R PR'1 ∧ OF w26.heap.size W z.2.1.L PL'1 ∧ Mod (p :: w27.heap.size :: bR'1 :: bL'1 :: (PR'1.map BC.b ++ (PL'1.map BC.b ++ []))) w35 W) (fun (z : Nat × PipeSt × Nat × Nat) => z.1) (u9, zz1, (a2 + 1), s13) (⟨rfl, rfl, rfl, rfl, trivial⟩) ⟨(by dsimp only; omega), (by first | exact DPi.mono (by assumption) (by omega) (by omega) | exact DPi.mono (DPi.reed (by assumption) (Bd.mono (by assumption) (by omega)) (Bd.mono (by assumption) (by omega))) (by omega) (by omega)), (by dsimp only; omega), (by dsimp only; assumption), (Row.congr (r52.mod m35 (nC (lG (lL (lL q.lt sz38) lR)) nN)) (by simp only [*])), (Row.congr r55 rfl), (Row.congr r56 rfl), (Row.congr r54 rfl), ((((((((fm1.ext m28).mod m29 (fun j hj => (nC (lE (lL (OF.lt fm1 (lQ (lQ hj h21) h21.symm)) lR)) nN))).mod m30 (fun j hj => (nC (lG (lL (lL q.lt sz39) (fm1.ge j (lQ (lQ hj h21) h21.symm)))) nN))).mod m31 (fun j hj => (nC (lG (lL (lL q.lt sz39) (fm1.ge j (lQ (lQ hj h21) h21.symm)))) nN))).mod m32 (fun j hj => (nC (lE (lL (OF.lt fm1 (lQ (lQ hj h21) h21.symm)) lR)) nN))).mod m33 (fun j hj => (nC (lG (lL (lL q.lt sz39) (fm1.ge j (lQ (lQ hj h21) h21.symm)))) nN))).mod m34 (fun j hj => (nC (lE (lL (OF.lt fm1 (lQ (lQ hj h21) h21.symm)) lR)) nN))).mod m35 (fun j hj => (nC (lG (lL (lL q.lt sz39) (fm1.ge j (lQ (lQ hj h21) h21.symm)))) nN))), ((((((((fm2.ext m28).mod m29 (fun j hj => (nC (lE (lL (OF.lt fm2 (lQ (lQ hj h22) h22.symm)) lR)) nN))).mod m30 (fun j hj => (nC (lG (lL (lL q.lt sz39) (fm2.ge j (lQ (lQ hj h22) h22.symm)))) nN))).mod m31 (fun j hj => (nC (lG (lL (lL q.lt sz39) (fm2.ge j (lQ (lQ hj h22) h22.symm)))) nN))).mod m32 (fun j hj => (nC (lE (lL (OF.lt fm2 (lQ (lQ hj h22) h22.symm)) lR)) nN))).mod m33 (fun j hj => (nC (lG (lL (lL q.lt sz39) (fm2.ge j (lQ (lQ hj h22) h22.symm)))) nN))).mod m34 (fun j hj => (nC (lE (lL (OF.lt fm2 (lQ (lQ hj h22) h22.symm)) lR)) nN))).mod m35 (fun j hj => (nC (lG (lL (lL q.lt sz39) (fm2.ge j (lQ (lQ hj h22) h22.symm)))) nN))), Mod.refl _ _⟩ ?_
    rintro ⟨kk, z, at_, s⟩ w36 ⟨hkk, hdz, hat, hs, r57, r58, r59, r60, fm3, fm4, m36⟩
    replace hkk : kk ≤ 11 := hkk
    replace hdz : DPi 3 2 [f1, f2] r_1 f3 f4 r_2 r_3 z (11 - kk) := hdz
    replace hat : at_ ≤ 1000 - 20 * kk := hat
    replace hs : s < 18446744073709551616 := hs
    replace r57 : Row w36 w27.heap.size 0 [vS bR'1 0 3 cR'1, vS bL'1 0 3 cL'1, vS bS'1 0 2 cS'1, vI 1, vF r_1, vF f3, vF 0, vF (z.s0), vF (z.s1), .bool ub1, vF f4, vF r_2, vF r_3] := r57
    replace r58 : Row w36 bR'1 0 (olc z.R PR'1) := r58
    replace r59 : Row w36 bL'1 0 (olc z.L PL'1) := r59
    replace r60 : Row w36 p 0 [.slice A n c, vI ((at_ : Nat) : Int), .int .u64 ((s : Nat) : Int)] := r60
    replace fm3 : OF w26.heap.size w36 z.R PR'1 := fm3
    replace fm4 : OF w26.heap.size w36 z.L PL'1 := fm4
    have hg1 := hdz.dz.gR
    have hg2 := hdz.dz.gL
    have hg3 := hdz.dz.small.1
    have hg4 := hdz.dz.small.2
    have hs9 : z.s1 < wid .f32 := by rw [hdz.dz.w1, wid32]; omega
    show CE _ _ _ _ [(10, vI ((kk : Nat) : Int)), (0, vP p 0), (2, vP w.heap.size 0), (8, vP w27.heap.size 0)] _
    refine CE.seq (CE.seq (CE.region ?_))
    refine WD (op_move rfl) rfl ?_
    refine WD (op_gti rfl rfl) rfl ?_
    refine WL.end (NE.code ?_)
    rcases Bool.eq_false_or_eq_true (decide ((0 : Int) < ((kk : Nat) : Int))) with hb7 | hb7
    ·have hp7 := of_decide_eq_true hb7
     refine CE.cond_t rfl hb7 ?_
     refine CE.skip' (NE.code (CE.seq (CE.block (CE.region ?_))))
     refine WD (op_move rfl) rfl ?_
     have r61 := (rng0S ln nbp r (rng0 ln nbp r53 m35) m36 (allge_cons (lT sz38 lR) (allge_cons (lT sz39 ge3) (allge_cons (lT sz39 ge4) (gA h18 (fun j hj => (lT sz39 (fm3.ge j (lQ hj (hdz.dz.lR).symm)))) (gA h19 (fun j hj => (lT sz39 (fm4.ge j (lQ hj (hdz.dz.lL).symm)))) allge_nil))))))
     refine WL.call (oc_call (vs := [vP p 0]) (cap := []) rfl rfl rfl Try.call61 (c_l01PlainT n c A b o xs at_ s p ln hA hB (by omega) (by omega) (by omega) (by first | assumption | (intro h0; have hlt := Rng.lt r (by rw [bys_len, ln]; exact h0); omega)) w36 r60 r61)) rfl rfl (ltb rfl) ?_
     rintro _ w37 ⟨r_4, a3, s14, rfl, h37, h38, h39, h40, r62, m37⟩
     have r63 := ((((((((((r38.ext m28).mod m29 (nC (lE (lL r38.lt lR)) nN)).mod m30 (nC (lG (lL (lL q.lt sz39) ge5)) nN)).mod m31 (nC (lG (lL (lL q.lt sz39) ge5)) nN)).mod m32 (nC (lE (lL r38.lt lR)) nN)).mod m33 (nC (lG (lL (lL q.lt sz39) ge5)) nN)).mod m34 (nC (lE (lL r38.lt lR)) nN)).mod m35 (nC (lG (lL (lL q.lt sz39) ge5)) nN)).mod m36 (nC (lG (lL (lL q.lt sz39) ge5)) (nC (lE (lL r38.lt lR)) (nC (Ne.symm ne2) (nC (Ne.symm ne3) (nA h18 (fun j hj => (fn3 j hj)) (nA h19 (fun j hj => (fn7 j hj)) nN))))))).mod m37 (nC (lG (lL (lL q.lt sz39) ge5)) nN))
     refine WL.call (oc_call (vs := [vP w27.heap.size 0, vF r_4]) (cap := []) rfl rfl rfl Try.call60 (c_l04Step 3 z.R 3 z.L 2 [f1, f2] cR'1 bR'1 PR'1 w26.heap.size cL'1 bL'1 PL'1 w26.heap.size cS'1 bS'1 (1 : Int) r_1 f3 0 (z.s0) (z.s1) ub1 f4 r_2 r_3 w27.heap.size r_4 r_4 (hdz.dz.lR) (hdz.dz.lL) rfl (by first | assumption | exact rd_small (by assumption) (by assumption) | exact markD_small (by first | assumption | exact rd_small (by assumption) (by assumption)) _) (by first | assumption | exact rd_small (by assumption) (by assumption) | exact markD_small (by first | assumption | exact rd_small (by assumption) (by assumption)) _) h18 h19 (by first | assumption | omega) (by first | assumption | omega) (by first | assumption | omega) (by first | assumption | omega) (by assumption) (by assumption) (hdz.dz.w0) hs9 rfl h37 w37 (r57.mod m37 (nC (lG (lL (lL q.lt sz38) lR)) nN)) (r58.mod m37 (nC (lG (lL (lL q.lt sz39) ge3)) nN)) (r59.mod m37 (nC (lG (lL (lL q.lt sz39) ge4)) nN)) r63.rng (lG (lL r36.lt lR)) (lG (lL r37.lt lR)) (lG (lL r38.lt lR)) ne1 ne2 ne3 (fm3.mod m37 (fun j hj => (nC (lG (lL (lL q.lt sz39) (fm3.ge j (lQ (lQ hj (hdz.dz.lR)) (hdz.dz.lR).symm)))) nN))) (fun j hj => (lE (lL (OF.lt fm1 (lQ hj h21.symm)) lR))) (fun j hj => (fn1 j hj)) (fun j hj => (fn2 j hj)) (fun j hj => (fn3 j hj)) (fun j q hj hq => (fn4 j q hj hq)) (fm4.mod m37 (fun j hj => (nC (lG (lL (lL q.lt sz39) (fm4.ge j (lQ (lQ hj (hdz.dz.lL)) (hdz.dz.lL).symm)))) nN))) (fun j hj => (lE (lL (OF.lt fm2 (lQ hj h22.symm)) lR))) (fun j hj => (fn5 j hj)) (fun j hj => (fn6 j hj)) (fun j hj => (fn7 j hj)))) rfl rfl (ltb rfl) ?_
     rintro _ w38 ⟨y1, rfl, h41, h42, h43, h44, h45, h46, r64, r65, r66, fm5, fm6, m38⟩
     refine WL.end (NE.blk (NE.code (CE.region ?_)))
     refine WD (op_move rfl) rfl ?_
     refine WD (op_sub (r := ((kk - 1 : Nat) : Int)) rfl rfl (w_nsub (l := kk) (n := 1) (by omega) (by omega))) rfl ?_
     refine WD (op_assign rfl) rfl ?_
     refine WL.end ?_
     have r67 := (r62.mod m38 (nC (lE (lL (lL q.lt sz38) lR)) (nC (lE (lL (lL q.lt sz39) ge3)) (nC (lE (lL (lL q.lt sz39) ge4)) (nA h18 (fun j hj => (lG (lL (lL q.lt sz39) (fm5.ge j (lQ hj (stR_len (hdz.dz.lR) _).symm))))) (nA h19 (fun j hj => (lG (lL (lL q.lt sz39) (fm6.ge j (lQ hj (endL_len (hdz.dz.lL)).symm))))) nN))))))
     exact NE.again ((kk - 1), (pipeNext 3 2 [f1, f2] 1 r_1 f3 0 ub1 f4 r_2 r_3 z r_4), a3, s14) (⟨rfl, rfl, rfl, rfl, trivial⟩) ⟨(by dsimp only; omega), (by exact DPi.mono (hdz.next (by assumption) (by omega)) (by omega) (by omega)), (by dsimp only; omega), (by assumption), (Row.congr r64 rfl), (Row.congr r65 rfl), (Row.congr r66 rfl), (Row.congr r67 rfl), (OF.congr fm5 rfl), (OF.congr fm6 rfl), ((m36.then m37 ((aC (.inl (by simp)) aN))).then m38 ((aC (.inl (by simp)) (aC (.inl (by simp)) (aC (.inl (by simp)) (aI (fun x hx => by simp only [List.mem_cons, List.mem_append, hx, true_or, or_true]) (aI (fun x hx => by simp only [List.mem_cons, List.mem_append, hx, true_or, or_true]) aN)))))))⟩ (by first | (dsimp only; omega) | omega)
    ·have hp7 := of_decide_eq_false hb7
     refine CE.cond_f rfl hb7 ?_
     refine CE.exit' (XE.exit_then (XE.exit_then (XE.exit_here (NE.code (CE.seq (CE.region ?_))))))
     refine WD (op_loadA (i := 0) (cs := [vS bR'1 0 3 cR'1, vS bL'1 0 3 cL'1, vS bS'1 0 2 cS'1, vI 1, vF r_1, vF f3, vF 0, vF (z.s0), vF (z.s1), .bool ub1, vF f4, vF r_2, vF r_3]) rfl Try.isAgg33 Try.sizeOf33 r57.rng rfl rfl rfl) rfl ?_
     have sz40 := SzLe.mk (lT (lT (lT (lT (lT (lT (lT sz23 m21.size) m22.size) m23.size) m24.size) m25.size) m26.size) m27.size)
     have sz41 := SzLe.mk (lT (lT (lT (lT (lT (lT sz23 m21.size) m22.size) m23.size) m24.size) m25.size) m26.size)
     have r68 := (((((((((((((((((((((((((((((((((((r1.ext m2).ext m3).mod m4 (nC (lG (lL q.lt lR)) nN)).mod m5 (nC (lG (lL q.lt lR)) nN)).ext m6).ext m7).mod m8 (nC (lG (lL q.lt lR)) nN)).ext m9).mod m10 (nC (lE (lL (lL r1.lt sz4) ge1)) nN)).mod m11 (nC (lG (lL q.lt lR)) nN)).ext m12).ext m13).ext m14).mod m15 (nC (lG (lL q.lt lR)) nN)).ext m16).mod m17 (nC (own_ne hb2 (lE (lL (lL r1.lt sz4) ge1)) (lL r1.lt sz5)) nN)).mod m18 (nC (lG (lL q.lt lR)) nN)).ext m19).ext m20).mod m21 (nC (lE (lL (lL r1.lt sz22) ge2)) nN)).mod m22 (nC (lG (lL q.lt lR)) nN)).mod m23 (nC (lG (lL q.lt lR)) nN)).ext m24).mod m25 (nC (lG (lL q.lt lR)) nN)).ext m26).ext m27).ext m28).mod m29 (nC (lE (lL (lL r1.lt sz40) lR)) nN)).mod m30 (nC (lG (lL q.lt lR)) nN)).mod m31 (nC (lG (lL q.lt lR)) nN)).mod m32 (nC (lE (lL (lL r1.lt sz40) lR)) nN)).mod m33 (nC (lG (lL q.lt lR)) nN)).mod m34 (nC (lE (lL (lL r1.lt sz40) lR)) nN)).mod m35 (nC (lG (lL q.lt lR)) nN)).mod m36 (nC (lG (lL q.lt lR)) (nC (lE (lL (lL r1.lt sz40) lR)) (nC (lE (lL (lL r1.lt sz41) ge3)) (nC (lE (lL (lL r1.lt sz41) ge4)) (nA h18 (fun j hj => (lG (lL (lL r1.lt sz41) (fm3.ge j (lQ hj (hdz.dz.lR).symm))))) (nA h19 (fun j hj => (lG (lL (lL r1.lt sz41) (fm4.ge j (lQ hj (hdz.dz.lL).symm))))) nN)))))))
     refine WL.op0 (op_store (i := 0) (cs := [vS bR'1 0 3 cR'1, vS bL'1 0 3 cL'1, vS bS'1 0 2 cS'1, vI 1, vF r_1, vF f3, vF 0, vF (z.s0), vF (z.s1), .bool ub1, vF f4, vF r_2, vF r_3]) rfl rfl rfl Try.sizeOf33 rfl r68 rfl (lB rfl) rfl) rfl rfl ?_
     rintro _ w39 ⟨r69, m39, z13⟩
     have r70 : Row w39 w.heap.size 0 [vS bR'1 0 3 cR'1, vS bL'1 0 3 cL'1, vS bS'1 0 2 cS'1, vI 1, vF r_1, vF f3, vF 0, vF (z.s0), vF (z.s1), .bool ub1, vF f4, vF r_2, vF r_3] := Row.congr r69 rfl
     refine WL.end (NE.code (CE.ret' ?_))
     refine XE.leaveC Try.results90 (res_agg (cs := [vS bR'1 0 3 cR'1, vS bL'1 0 3 cL'1, vS bS'1 0 2 cS'1, vI 1, vF r_1, vF f3, vF 0, vF (z.s0), vF (z.s1), .bool ub1, vF f4, vF r_2, vF r_3]) rfl Try.isAgg33 Try.sizeOf33 r70.rng rfl res_nil) ?_
     have r71 := ((((((((((r38.ext m28).mod m29 (nC (lE (lL r38.lt lR)) nN)).mod m30 (nC (lG (lL (lL q.lt sz39) ge5)) nN)).mod m31 (nC (lG (lL (lL q.lt sz39) ge5)) nN)).mod m32 (nC (lE (lL r38.lt lR)) nN)).mod m33 (nC (lG (lL (lL q.lt sz39) ge5)) nN)).mod m34 (nC (lE (lL r38.lt lR)) nN)).mod m35 (nC (lG (lL (lL q.lt sz39) ge5)) nN)).mod m36 (nC (lG (lL (lL q.lt sz39) ge5)) (nC (lE (lL r38.lt lR)) (nC (Ne.symm ne2) (nC (Ne.symm ne3) (nA h18 (fun j hj => (fn3 j hj)) (nA h19 (fun j hj => (fn7 j hj)) nN))))))).mod m39 (nC (lG (lL (lL r1.lt sz41) ge5)) nN))
     refine ⟨bR'1, cR'1, PR'1, bL'1, cL'1, PL'1, bS'1, cS'1, 3, 2, [f1, f2], r_1, f3, ub1, f4, r_2, r_3, z, ?_, ?_, ?_, ?_, ?_, ?_, ?_, ?_, (r58.mod m39 (nC (lG (lL (lL r1.lt sz41) ge3)) nN)), (r59.mod m39 (nC (lG (lL (lL r1.lt sz41) ge4)) nN)), r71, (lT sz39 ge3), (lT sz39 ge4), (lT sz39 ge5), ne1, ne2, ne3, (OF.low (fm3.mod m39 (fun j hj => (nC (lG (lL (lL r1.lt sz41) (fm3.ge j (lQ (lQ hj (hdz.dz.lR)) (hdz.dz.lR).symm)))) nN))) sz39), (fun j hj => (fn1 j (show j < 3 by omega))), (fun j hj => (fn2 j (show j < 3 by omega))), (fun j hj => (fn3 j (show j < 3 by omega))), (fun j q hj hq => (fn4 j q (show j < 3 by omega) (show q < 3 by omega))), (OF.low (fm4.mod m39 (fun j hj => (nC (lG (lL (lL r1.lt sz41) (fm4.ge j (lQ (lQ hj (hdz.dz.lL)) (hdz.dz.lL).symm)))) nN))) sz39), (fun j hj => (fn5 j (show j < 3 by omega))), (fun j hj => (fn6 j (show j < 3 by omega))), (fun j hj => (fn7 j (show j < 3 by omega))), ((((((((((((((((((((((((((((((((((((((Mod.refl [p] w).nt m1).nt m2).nt m3).then m4 ((aC (.inl (by simp)) aN))).then m5 ((aC (.inl (by simp)) aN))).nt m6).nt m7).then m8 ((aC (.inl (by simp)) aN))).nt m9).then m10 ((aC (.inr (lT sz1 ge1)) aN))).then m11 ((aC (.inl (by simp)) aN))).nt m12).nt m13).nt m14).then m15 ((aC (.inl (by simp)) aN))).nt m16).then m17 ((aC (.inr (lT sz1 (Own.row1 ow2).2)) aN))).then m18 ((aC (.inl (by simp)) aN))).nt m19).nt m20).then m21 ((aC (.inr (lT sz19 ge2)) aN))).then m22 ((aC (.inl (by simp)) aN))).then m23 ((aC (.inl (by simp)) aN))).nt m24).then m25 ((aC (.inl (by simp)) aN))).nt m26).nt m27).nt m28).then m29 ((aC (.inr (lT sz38 lR)) aN))).then m30 ((aC (.inl (by simp)) aN))).then m31 ((aC (.inl (by simp)) aN))).then m32 ((aC (.inr (lT sz38 lR)) aN))).then m33 ((aC (.inl (by simp)) aN))).then m34 ((aC (.inr (lT sz38 lR)) aN))).then m35 ((aC (.inl (by simp)) aN))).then m36 ((aC (.inl (by simp)) (aC (.inr (lT sz38 lR)) (aC (.inr (lT sz39 ge3)) (aC (.inr (lT sz39 ge4)) (aA h18 (fun j hj => (lT sz39 (fm3.ge j (lQ hj (hdz.dz.lR).symm)))) (aA h19 (fun j hj => (lT sz39 (fm4.ge j (lQ hj (hdz.dz.lL).symm)))) aN)))))))).then m39 ((aC (.inr lR) aN)))⟩
     all_goals first | assumption | rfl | exact hdz.dz.lR | exact hdz.dz.lL | exact hdz.dz.lS | omega | (have e9 : kk = 0 := (by omega); rw [e9] at hdz; exact hdz.dz) | exact hdz.zi (by omega)
   ·refine CE.cond_f rfl hb6 ?_
    refine CE.skip' (NE.code (CE.seq (CE.seq (CE.region ?_))))
    refine WD (op_move rfl) rfl ?_
    refine WL.call (oc_call (vs := [vP p 0, vI 12]) (cap := []) rfl rfl rfl Try.call54 (c_pick n c A b o xs ((((((((((at_ + 1) + 1) + 1) + 1) + 1) + 1) + 1) + 1) + 1) + 1) s10 p 12 ln hA hB (by omega) (by omega) (by omega) (by omega) (by omega) w30 r44 (rng0 ln nbp r43 m30))) rfl rfl (ltb rfl) ?_
    rintro _ w40 ⟨u10, s15, rfl, h47, h48, r72, m40⟩
    refine WD (op_assign rfl) rfl ?_
    refine WL.end (NE.code (CE.block ?_))
    have r73 := ((r41.mod m30 (nC (lG (lL (lL q.lt sz38) lR)) nN)).mod m40 (nC (lG (lL (lL q.lt sz38) lR)) nN))
    have sz42 := SzLe.mk (lT (lT (lT (lT (lT (lT sz21 m21.size) m22.size) m23.size) m24.size) m25.size) m26.size)
    have r74 := ((((r36.ext m28).mod m29 (nC (lE (lL r36.lt lR)) nN)).mod m30 (nC (lG (lL (lL q.lt sz42) ge3)) nN)).mod m40 (nC (lG (lL (lL q.lt sz42) ge3)) nN))
    have r75 := ((((r37.ext m28).mod m29 (nC (lE (lL r37.lt lR)) nN)).mod m30 (nC (lG (lL (lL q.lt sz42) ge4)) nN)).mod m40 (nC (lG (lL (lL q.lt sz42) ge4)) nN))
    refine CE.loop (fun (z : Nat × PipeSt × Nat × Nat) => [(10, vI ((z.1 : Nat) : Int)), (0, vP p 0), (2, vP w.heap.size 0), (8, vP w27.heap.size 0)]) (fun (z : Nat × PipeSt × Nat × Nat) => fun W => (z.1 ≤ 11) ∧ (DPi 3 2 [f1, f2] r_1 f3 f4 1061158912 3200253952 z.2.1 (11 - z.1)) ∧ (z.2.2.1 ≤ 1000 - 20 * z.1) ∧ (z.2.2.2 < 18446744073709551616) ∧ Row W w27.heap.size 0 [vS bR'1 0 3 cR'1, vS bL'1 0 3 cL'1, vS bS'1 0 2 cS'1, vI 1, vF r_1, vF f3, vF 0, vF (z.2.1.s0), vF (z.2.1.s1), .bool ub1, vF f4, vF 1061158912, vF 3200253952] ∧ Row W bR'1 0 (olc z.2.1.R PR'1) ∧ Row W bL'1 0 (olc z.2.1.L PL'1) ∧ Row W p 0 [.slice A n c, vI ((z.2.2.1 : Nat) : Int), .int .u64 ((z.2.2.2 : Nat) : Int)] ∧ OF w26.heap.size W z.2.1.R PR'1 ∧ OF w26.heap.size W z.2.1.L PL'1 ∧ Mod (p :: w27.heap.size :: bR'1 :: bL'1 :: (PR'1.map BC.b ++ (PL'1.map BC.b ++ []))) w40 W) (fun (z : Nat × PipeSt × Nat × Nat) => z.1) (u10, zz1, (((((((((((at_ + 1) + 1) + 1) + 1) + 1) + 1) + 1) + 1) + 1) + 1) + 1), s15) (⟨rfl, rfl, rfl, rfl, trivial⟩) ⟨(by dsimp only; omega), (by first | exact DPi.mono (by assumption) (by omega) (by omega) | exact DPi.mono (DPi.reed (by assumption) (Bd.mono (by assumption) (by omega)) (Bd.mono (by assumption) (by omega))) (by omega) (by omega)), (by dsimp only; omega), (by dsimp only; assumption), (Row.congr r73 (by simp only [*])), (Row.congr r74 rfl), (Row.congr r75 rfl), (Row.congr r72 rfl), ((((fm1.ext m28).mod m29 (fun j hj => (nC (lE (lL (OF.lt fm1 (lQ (lQ hj h21) h21.symm)) lR)) nN))).mod m30 (fun j hj => (nC (lG (lL (lL q.lt sz42) (fm1.ge j (lQ (lQ hj h21) h21.symm)))) nN))).mod m40 (fun j hj => (nC (lG (lL (lL q.lt sz42) (fm1.ge j (lQ (lQ hj h21) h21.symm)))) nN))), ((((fm2.ext m28).mod m29 (fun j hj => (nC (lE (lL (OF.lt fm2 (lQ (lQ hj h22) h22.symm)) lR)) nN))).mod m30 (fun j hj => (nC (lG (lL (lL q.lt sz42) (fm2.ge j (lQ (lQ hj h22) h22.symm)))) nN))).mod m40 (fun j hj => (nC (lG (lL (lL q.lt sz42) (fm2.ge j (lQ (lQ hj h22) h22.symm)))) nN))), Mod.refl _ _⟩ ?_
    rintro ⟨kk, z, at_, s⟩ w41 ⟨hkk, hdz, hat, hs, r76, r77, r78, r79, fm7, fm8, m41⟩
    replace hkk : kk ≤ 11 := hkk
    replace hdz : DPi 3 2 [f1, f2] r_1 f3 f4 1061158912 3200253952 z (11 - kk) := hdz
    replace hat : at_ ≤ 1000 - 20 * kk := hat
    replace hs : s < 18446744073709551616 := hs
    replace r76 : Row w41 w27.heap.size 0 [vS bR'1 0 3 cR'1, vS bL'1 0 3 cL'1, vS bS'1 0 2 cS'1, vI 1, vF r_1, vF f3, vF 0, vF (z.s0), vF (z.s1), .bool ub1, vF f4, vF 1061158912, vF 3200253952] := r76
    replace r77 : Row w41 bR'1 0 (olc z.R PR'1) := r77
    replace r78 : Row w41 bL'1 0 (olc z.L PL'1) := r78
    replace r79 : Row w41 p 0 [.slice A n c, vI ((at_ : Nat) : Int), .int .u64 ((s : Nat) : Int)] := r79
    replace fm7 : OF w26.heap.size w41 z.R PR'1 := fm7
    replace fm8 : OF w26.heap.size w41 z.L PL'1 := fm8
    have hg1 := hdz.dz.gR
    have hg2 := hdz.dz.gL
    have hg3 := hdz.dz.small.1
    have hg4 := hdz.dz.small.2
    have hs9 : z.s1 < wid .f32 := by rw [hdz.dz.w1, wid32]; omega
    show CE _ _ _ _ [(10, vI ((kk : Nat) : Int)), (0, vP p 0), (2, vP w.heap.size 0), (8, vP w27.heap.size 0)] _
    refine CE.seq (CE.seq (CE.region ?_))
    refine WD (op_move rfl) rfl ?_
    refine WD (op_gti rfl rfl) rfl ?_
    refine WL.end (NE.code ?_)
    rcases Bool.eq_false_or_eq_true (decide ((0 : Int) < ((kk : Nat) : Int))) with hb8 | hb8
    ·have hp8 := of_decide_eq_true hb8
     refine CE.cond_t rfl hb8 ?_
     refine CE.skip' (NE.code (CE.seq (CE.block (CE.region ?_))))
     refine WD (op_move rfl) rfl ?_
     have r80 := (rng0S ln nbp r (rng0 ln nbp (rng0 ln nbp r43 m30) m40) m41 (allge_cons (lT sz38 lR) (allge_cons (lT sz42 ge3) (allge_cons (lT sz42 ge4) (gA h18 (fun j hj => (lT sz42 (fm7.ge j (lQ hj (hdz.dz.lR).symm)))) (gA h19 (fun j hj => (lT sz42 (fm8.ge j (lQ hj (hdz.dz.lL).symm)))) allge_nil))))))
     refine WL.call (oc_call (vs := [vP p 0]) (cap := []) rfl rfl rfl Try.call61 (c_l01PlainT n c A b o xs at_ s p ln hA hB (by omega) (by omega) (by omega) (by first | assumption | (intro h0; have hlt := Rng.lt r (by rw [bys_len, ln]; exact h0); omega)) w41 r79 r80)) rfl rfl (ltb rfl) ?_
     rintro _ w42 ⟨r_5, a4, s16, rfl, h49, h50, h51, h52, r81, m42⟩
     have r82 := ((((((r38.ext m28).mod m29 (nC (lE (lL r38.lt lR)) nN)).mod m30 (nC (lG (lL (lL q.lt sz42) ge5)) nN)).mod m40 (nC (lG (lL (lL q.lt sz42) ge5)) nN)).mod m41 (nC (lG (lL (lL q.lt sz42) ge5)) (nC (lE (lL r38.lt lR)) (nC (Ne.symm ne2) (nC (Ne.symm ne3) (nA h18 (fun j hj => (fn3 j hj)) (nA h19 (fun j hj => (fn7 j hj)) nN))))))).mod m42 (nC (lG (lL (lL q.lt sz42) ge5)) nN))
     refine WL.call (oc_call (vs := [vP w27.heap.size 0, vF r_5]) (cap := []) rfl rfl rfl Try.call60 (c_l04Step 3 z.R 3 z.L 2 [f1, f2] cR'1 bR'1 PR'1 w26.heap.size cL'1 bL'1 PL'1 w26.heap.size cS'1 bS'1 (1 : Int) r_1 f3 0 (z.s0) (z.s1) ub1 f4 1061158912 3200253952 w27.heap.size r_5 r_5 (hdz.dz.lR) (hdz.dz.lL) rfl (by first | assumption | exact rd_small (by assumption) (by assumption) | exact markD_small (by first | assumption | exact rd_small (by assumption) (by assumption)) _) (by first | assumption | exact rd_small (by assumption) (by assumption) | exact markD_small (by first | assumption | exact rd_small (by assumption) (by assumption)) _) h18 h19 (by first | assumption | omega) (by first | assumption | omega) (by first | assumption | omega) (by first | assumption | omega) (by assumption) (by assumption) (hdz.dz.w0) hs9 rfl h49 w42 (r76.mod m42 (nC (lG (lL (lL q.lt sz38) lR)) nN)) (r77.mod m42 (nC (lG (lL (lL q.lt sz42) ge3)) nN)) (r78.mod m42 (nC (lG (lL (lL q.lt sz42) ge4)) nN)) r82.rng (lG (lL r36.lt lR)) (lG (lL r37.lt lR)) (lG (lL r38.lt lR)) ne1 ne2 ne3 (fm7.mod m42 (fun j hj => (nC (lG (lL (lL q.lt sz42) (fm7.ge j (lQ (lQ hj (hdz.dz.lR)) (hdz.dz.lR).symm)))) nN))) (fun j hj => (lE (lL (OF.lt fm1 (lQ hj h21.symm)) lR))) (fun j hj => (fn1 j hj)) (fun j hj => (fn2 j hj)) (fun j hj => (fn3 j hj)) (fun j q hj hq => (fn4 j q hj hq)) (fm8.mod m42 (fun j hj => (nC (lG (lL (lL q.lt sz42) (fm8.ge j (lQ (lQ hj (hdz.dz.lL)) (hdz.dz.lL).symm)))) nN))) (fun j hj => (lE (lL (OF.lt fm2 (lQ hj h22.symm)) lR))) (fun j hj => (fn5 j hj)) (fun j hj => (fn6 j hj)) (fun j hj => (fn7 j hj)))) rfl rfl (ltb rfl) ?_
     rintro _ w43 ⟨y2, rfl, h53, h54, h55, h56, h57, h58, r83, r84, r85, fm9, fm10, m43⟩
     refine WL.end (NE.blk (NE.code (CE.region ?_)))
     refine WD (op_move rfl) rfl ?_
     refine WD (op_sub (r := ((kk - 1 : Nat) : Int)) rfl rfl (w_nsub (l := kk) (n := 1) (by omega) (by omega))) rfl ?_
     refine WD (op_assign rfl) rfl ?_
     refine WL.end ?_
     have r86 := (r81.mod m43 (nC (lE (lL (lL q.lt sz38) lR)) (nC (lE (lL (lL q.lt sz42) ge3)) (nC (lE (lL (lL q.lt sz42) ge4)) (nA h18 (fun j hj => (lG (lL (lL q.lt sz42) (fm9.ge j (lQ hj (stR_len (hdz.dz.lR) _).symm))))) (nA h19 (fun j hj => (lG (lL (lL q.lt sz42) (fm10.ge j (lQ hj (endL_len (hdz.dz.lL)).symm))))) nN))))))
     exact NE.again ((kk - 1), (pipeNext 3 2 [f1, f2] 1 r_1 f3 0 ub1 f4 1061158912 3200253952 z r_5), a4, s16) (⟨rfl, rfl, rfl, rfl, trivial⟩) ⟨(by dsimp only; omega), (by exact DPi.mono (hdz.next (by assumption) (by omega)) (by omega) (by omega)), (by dsimp only; omega), (by assumption), (Row.congr r83 rfl), (Row.congr r84 rfl), (Row.congr r85 rfl), (Row.congr r86 rfl), (OF.congr fm9 rfl), (OF.congr fm10 rfl), ((m41.then m42 ((aC (.inl (by simp)) aN))).then m43 ((aC (.inl (by simp)) (aC (.inl (by simp)) (aC (.inl (by simp)) (aI (fun x hx => by simp only [List.mem_cons, List.mem_append, hx, true_or, or_true]) (aI (fun x hx => by simp only [List.mem_cons, List.mem_append, hx, true_or, or_true]) aN)))))))⟩ (by first | (dsimp only; omega) | omega)
    ·have hp8 := of_decide_eq_false hb8
     refine CE.cond_f rfl hb8 ?_
     refine CE.exit' (XE.exit_then (XE.exit_then (XE.exit_here (NE.code (CE.seq (CE.region ?_))))))
     refine WD (op_loadA (i := 0) (cs := [vS bR'1 0 3 cR'1, vS bL'1 0 3 cL'1, vS bS'1 0 2 cS'1, vI 1, vF r_1, vF f3, vF 0, vF (z.s0), vF (z.s1), .bool ub1, vF f4, vF 1061158912, vF 3200253952]) rfl Try.isAgg33 Try.sizeOf33 r76.rng rfl rfl rfl) rfl ?_
     have sz43 := SzLe.mk (lT (lT (lT (lT (lT (lT (lT sz23 m21.size) m22.size) m23.size) m24.size) m25.size) m26.size) m27.size)
     have sz44 := SzLe.mk (lT (lT (lT (lT (lT (lT sz23 m21.size) m22.size) m23.size) m24.size) m25.size) m26.size)
     have r87 := (((((((((((((((((((((((((((((((r1.ext m2).ext m3).mod m4 (nC (lG (lL q.lt lR)) nN)).mod m5 (nC (lG (lL q.lt lR)) nN)).ext m6).ext m7).mod m8 (nC (lG (lL q.lt lR)) nN)).ext m9).mod m10 (nC (lE (lL (lL r1.lt sz4) ge1)) nN)).mod m11 (nC (lG (lL q.lt lR)) nN)).ext m12).ext m13).ext m14).mod m15 (nC (lG (lL q.lt lR)) nN)).ext m16).mod m17 (nC (own_ne hb2 (lE (lL (lL r1.lt sz4) ge1)) (lL r1.lt sz5)) nN)).mod m18 (nC (lG (lL q.lt lR)) nN)).ext m19).ext m20).mod m21 (nC (lE (lL (lL r1.lt sz22) ge2)) nN)).mod m22 (nC (lG (lL q.lt lR)) nN)).mod m23 (nC (lG (lL q.lt lR)) nN)).ext m24).mod m25 (nC (lG (lL q.lt lR)) nN)).ext m26).ext m27).ext m28).mod m29 (nC (lE (lL (lL r1.lt sz43) lR)) nN)).mod m30 (nC (lG (lL q.lt lR)) nN)).mod m40 (nC (lG (lL q.lt lR)) nN)).mod m41 (nC (lG (lL q.lt lR)) (nC (lE (lL (lL r1.lt sz43) lR)) (nC (lE (lL (lL r1.lt sz44) ge3)) (nC (lE (lL (lL r1.lt sz44) ge4)) (nA h18 (fun j hj => (lG (lL (lL r1.lt sz44) (fm7.ge j (lQ hj (hdz.dz.lR).symm))))) (nA h19 (fun j hj => (lG (lL (lL r1.lt sz44) (fm8.ge j (lQ hj (hdz.dz.lL).symm))))) nN)))))))
     refine WL.op0 (op_store (i := 0) (cs := [vS bR'1 0 3 cR'1, vS bL'1 0 3 cL'1, vS bS'1 0 2 cS'1, vI 1, vF r_1, vF f3, vF 0, vF (z.s0), vF (z.s1), .bool ub1, vF f4, vF 1061158912, vF 3200253952]) rfl rfl rfl Try.sizeOf33 rfl r87 rfl (lB rfl) rfl) rfl rfl ?_
     rintro _ w44 ⟨r88, m44, z14⟩
     have r89 : Row w44 w.heap.size 0 [vS bR'1 0 3 cR'1, vS bL'1 0 3 cL'1, vS bS'1 0 2 cS'1, vI 1, vF r_1, vF f3, vF 0, vF (z.s0), vF (z.s1), .bool ub1, vF f4, vF 1061158912, vF 3200253952] := Row.congr r88 rfl
     refine WL.end (NE.code (CE.ret' ?_))
     refine XE.leaveC Try.results90 (res_agg (cs := [vS bR'1 0 3 cR'1, vS bL'1 0 3 cL'1, vS bS'1 0 2 cS'1, vI 1, vF r_1, vF f3, vF 0, vF (z.s0), vF (z.s1), .bool ub1, vF f4, vF 1061158912, vF 3200253952]) rfl Try.isAgg33 Try.sizeOf33 r89.rng rfl res_nil) ?_
     have r90 := ((((((r38.ext m28).mod m29 (nC (lE (lL r38.lt lR)) nN)).mod m30 (nC (lG (lL (lL q.lt sz42) ge5)) nN)).mod m40 (nC (lG (lL (lL q.lt sz42) ge5)) nN)).mod m41 (nC (lG (lL (lL q.lt sz42) ge5)) (nC (lE (lL r38.lt lR)) (nC (Ne.symm ne2) (nC (Ne.symm ne3) (nA h18 (fun j hj => (fn3 j hj)) (nA h19 (fun j hj => (fn7 j hj)) nN))))))).mod m44 (nC (lG (lL (lL r1.lt sz44) ge5)) nN))
     refine ⟨bR'1, cR'1, PR'1, bL'1, cL'1, PL'1, bS'1, cS'1, 3, 2, [f1, f2], r_1, f3, ub1, f4, 1061158912, 3200253952, z, ?_, ?_, ?_, ?_, ?_, ?_, ?_, ?_, (r77.mod m44 (nC (lG (lL (lL r1.lt sz44) ge3)) nN)), (r78.mod m44 (nC (lG (lL (lL r1.lt sz44) ge4)) nN)), r90, (lT sz42 ge3), (lT sz42 ge4), (lT sz42 ge5), ne1, ne2, ne3, (OF.low (fm7.mod m44 (fun j hj => (nC (lG (lL (lL r1.lt sz44) (fm7.ge j (lQ (lQ hj (hdz.dz.lR)) (hdz.dz.lR).symm)))) nN))) sz42), (fun j hj => (fn1 j (show j < 3 by omega))), (fun j hj => (fn2 j (show j < 3 by omega))), (fun j hj => (fn3 j (show j < 3 by omega))), (fun j q hj hq => (fn4 j q (show j < 3 by omega) (show q < 3 by omega))), (OF.low (fm8.mod m44 (fun j hj => (nC (lG (lL (lL r1.lt sz44) (fm8.ge j (lQ (lQ hj (hdz.dz.lL)) (hdz.dz.lL).symm)))) nN))) sz42), (fun j hj => (fn5 j (show j < 3 by omega))), (fun j hj => (fn6 j (show j < 3 by omega))), (fun j hj => (fn7 j (show j < 3 by omega))), ((((((((((((((((((((((((((((((((((Mod.refl [p] w).nt m1).nt m2).nt m3).then m4 ((aC (.inl (by simp)) aN))).then m5 ((aC (.inl (by simp)) aN))).nt m6).nt m7).then m8 ((aC (.inl (by simp)) aN))).nt m9).then m10 ((aC (.inr (lT sz1 ge1)) aN))).then m11 ((aC (.inl (by simp)) aN))).nt m12).nt m13).nt m14).then m15 ((aC (.inl (by simp)) aN))).nt m16).then m17 ((aC (.inr (lT sz1 (Own.row1 ow2).2)) aN))).then m18 ((aC (.inl (by simp)) aN))).nt m19).nt m20).then m21 ((aC (.inr (lT sz19 ge2)) aN))).then m22 ((aC (.inl (by simp)) aN))).then m23 ((aC (.inl (by simp)) aN))).nt m24).then m25 ((aC (.inl (by simp)) aN))).nt m26).nt m27).nt m28).then m29 ((aC (.inr (lT sz38 lR)) aN))).then m30 ((aC (.inl (by simp)) aN))).then m40 ((aC (.inl (by simp)) aN))).then m41 ((aC (.inl (by simp)) (aC (.inr (lT sz38 lR)) (aC (.inr (lT sz42 ge3)) (aC (.inr (lT sz42 ge4)) (aA h18 (fun j hj => (lT sz42 (fm7.ge j (lQ hj (hdz.dz.lR).symm)))) (aA h19 (fun j hj => (lT sz42 (fm8.ge j (lQ hj (hdz.dz.lL).symm)))) aN)))))))).then m44 ((aC (.inr lR) aN)))⟩
     all_goals first | assumption | rfl | exact hdz.dz.lR | exact hdz.dz.lL | exact hdz.dz.lS | omega | (have e9 : kk = 0 := (by omega); rw [e9] at hdz; exact hdz.dz) | exact hdz.zi (by omega)
  ·have hp3 := of_decide_eq_false hb3
   refine CE.cond_f rfl hb3 ?_
   refine CE.exit' (XE.exit_then (XE.exit_then (XE.exit_here (NE.code (CE.seq (CE.region ?_))))))
   refine WD (op_move rfl) rfl ?_
   have r91 := (((r15.ext m12).ext m13).ext m14)
   have r92 := ((((rng0 ln nbp r14 m11).ext m12).ext m13).ext m14)
   refine WL.call (oc_call (vs := [vP p 0, vI 2]) (cap := []) rfl rfl rfl Try.call137 (c_oneB n c A b o xs ((((at_ + 1) + 1) + 1) + 1) s4 p 2 ln hA hB (by omega) (by omega) (by omega) (by omega) (by omega) (by first | assumption | (intro h0; have hlt := Rng.lt r (by rw [bys_len, ln]; exact h0); omega)) w14 r91 r92)) rfl rfl (ltb rfl) ?_
   rintro _ w45 ⟨ub3, s17, rfl, h59, r93, m45⟩
   refine WD (op_assign rfl) rfl ?_
   refine WL.end (NE.code (CE.seq (CE.region ?_)))
   refine WD (op_move rfl) rfl ?_
   refine WL.call (oc_call (vs := [vP p 0, vI 8]) (cap := []) rfl rfl rfl Try.call54 (c_pick n c A b o xs (((((at_ + 1) + 1) + 1) + 1) + 1) s17 p 8 ln hA hB (by omega) (by omega) (by omega) (by omega) (by omega) w45 r93 (rng0 ln nbp r92 m45))) rfl rfl (ltb rfl) ?_
   rintro _ w46 ⟨u11, s18, rfl, h60, h61, r94, m46⟩
   refine WD (op_cvt_if rfl Try.runUnderlying2 Try.runUnderlying27) rfl ?_
   refine WL.op (op_farith (e := (fop .quo .f32 (FloatKind.f32.nearest ((u11 : Nat) : Int)) 1090519040)) (.inr (.inr (.inr rfl))) rfl rfl rfl rfl rfl) rfl rfl (ltb rfl) ?_
   rintro _ w47 ⟨⟨f5, rfl, hf5, lf5⟩, m47⟩
   refine WD (op_assign rfl) rfl ?_
   refine WL.end (NE.code (CE.seq (CE.region ?_)))
   iterate 5 refine WD (op_move rfl) rfl ?_
   have r95 := ((rng0 ln nbp (rng0 ln nbp r92 m45) m46).ext m47)
   refine WL.call (oc_call (vs := [vP p 0, vI 17]) (cap := []) rfl rfl rfl Try.call54 (c_pick n c A b o xs ((((((at_ + 1) + 1) + 1) + 1) + 1) + 1) s18 p 17 ln hA hB (by omega) (by omega) (by omega) (by omega) (by omega) w47 (r94.ext m47) r95)) rfl rfl (ltb rfl) ?_
   rintro _ w48 ⟨u12, s19, rfl, h62, h63, r96, m48⟩
   refine WD (op_cvt_if rfl Try.runUnderlying2 Try.runUnderlying27) rfl ?_
   refine WL.op (op_farith (e := (fop .quo .f32 (FloatKind.f32.nearest ((u12 : Nat) : Int)) 1098907648)) (.inr (.inr (.inr rfl))) rfl rfl rfl rfl rfl) rfl rfl (ltb rfl) ?_
   rintro _ w49 ⟨⟨f6, rfl, hf6, lf6⟩, m49⟩
   have r97 := (((((((((r13.mod m11 (nC (Ne.symm (own_ne hb2 (lE (lL (lL q.lt sz1) ge1)) (lL q.lt sz3))) nN)).ext m12).ext m13).ext m14).mod m45 (nC (Ne.symm (own_ne hb2 (lE (lL (lL q.lt sz1) ge1)) (lL q.lt sz3))) nN)).mod m46 (nC (Ne.symm (own_ne hb2 (lE (lL (lL q.lt sz1) ge1)) (lL q.lt sz3))) nN)).ext m47).mod m48 (nC (Ne.symm (own_ne hb2 (lE (lL (lL q.lt sz1) ge1)) (lL q.lt sz3))) nN)).ext m49)
   have sz45 := SzLe.mk (lT (lT (lT (lT sz3 m10.size) m11.size) m12.size) m13.size)
   have r98 := (((((r17.mod m45 (nC (lG (lL (lL q.lt sz45) ge2)) nN)).mod m46 (nC (lG (lL (lL q.lt sz45) ge2)) nN)).ext m47).mod m48 (nC (lG (lL (lL q.lt sz45) ge2)) nN)).ext m49)
   refine WL.call (oc_call (vs := [vS b2 0 2 c2, vS b3 0 1 c3, .bool ub3, vF f5, vF f6]) (cap := []) rfl rfl rfl Try.call15 (c_sNewI2 (1 + u2) (1 + u3) c2 b2 c3 b3 [f1] ub3 f5 f6 (by omega) (by omega) (by omega) (by omega) lf5 lf6 rfl (by with_reducible first | exact scl0 | exact scl1 (scE_of (by assumption) (by assumption)) | exact scl2 (scE_of (by assumption) (by assumption)) (scE_of (by assumption) (by assumption))) (by with_reducible exact keepE_of (by assumption) (by assumption)) (by with_reducible exact lossE_of (by assumption) (by assumption)) w49 r97.rng r98.rng)) rfl rfl (ltb rfl) ?_
   rintro _ w50 ⟨bR'2, cR'2, PR'2, bL'2, cL'2, PL'2, bS'2, cS'2, r_6, zz2, rfl, h64, h65, h66, h67, h68, h69, h70, h71, r99, r100, r101, ge6, ge7, ge8, ne4, ne5, ne6, fm11, fn8, fn9, fn10, fn11, fm12, fn12, fn13, fn14, m50⟩
   refine WD (op_move rfl) rfl ?_
   iterate 2 refine WD (op_extract rfl rfl) rfl ?_
   refine WL.op (op_alloc (cs := [.slice none 0 0, .slice none 0 0, .slice none 0 0, vI 0, vF 0, vF 0, vF 0, vF 0, vF 0, .bool false, vF 0, vF 0, vF 0]) Try.zeroValue33 rfl) rfl rfl (ltb rfl) ?_
   rintro _ w51 ⟨rfl, r102, m51, z15⟩
   refine WL.op0 (op_store (i := 0) (cs := [vS bR'2 0 2 cR'2, vS bL'2 0 2 cL'2, vS bS'2 0 1 cS'2, vI 1, vF r_6, vF f5, vF 0, vF 0, vF 0, .bool ub3, vF f6, vF 1061158912, vF 3200253952]) rfl rfl rfl Try.sizeOf33 rfl r102 rfl (lB rfl) rfl) rfl rfl ?_
   rintro _ w52 ⟨r103, m52, z16⟩
   have r104 : Row w52 w50.heap.size 0 [vS bR'2 0 2 cR'2, vS bL'2 0 2 cL'2, vS bS'2 0 1 cS'2, vI 1, vF r_6, vF f5, vF 0, vF 0, vF 0, .bool ub3, vF f6, vF 1061158912, vF 3200253952] := Row.congr r103 rfl
   refine WD (op_assign rfl) rfl ?_
   refine WL.end (NE.code (CE.seq (CE.seq (CE.region ?_))))
   refine WD (op_move rfl) rfl ?_
   have sz46 := SzLe.mk (lT (lT (lT (lT (lT (lT (lT sz45 m14.size) m45.size) m46.size) m47.size) m48.size) m49.size) m50.size)
   have r105 := ((((r96.ext m49).ext m50).ext m51).mod m52 (nC (lE (lL (lL q.lt sz46) lR)) nN))
   have r106 := (Rng.youngS r ((((rng0 ln nbp r95 m48).ext m49).ext m50).ext m51) m52 (allge_cons (lT sz46 lR) allge_nil))
   refine WL.call (oc_call (vs := [vP p 0, vI 2]) (cap := []) rfl rfl rfl Try.call137 (c_oneB n c A b o xs (((((((at_ + 1) + 1) + 1) + 1) + 1) + 1) + 1) s19 p 2 ln hA hB (by omega) (by omega) (by omega) (by omega) (by omega) (by first | assumption | (intro h0; have hlt := Rng.lt r (by rw [bys_len, ln]; exact h0); omega)) w52 r105 r106)) rfl rfl (ltb rfl) ?_
   rintro _ w53 ⟨ub4, s20, rfl, h72, r107, m53⟩
   refine WL.end (NE.code ?_)
   rcases Bool.eq_false_or_eq_true (ub4) with hb9 | hb9
   ·refine CE.cond_t rfl hb9 ?_
    refine CE.seq (CE.region ?_)
    refine WD (op_move rfl) rfl ?_
    refine WL.call (oc_call (vs := [vP p 0]) (cap := []) rfl rfl rfl Try.call61 (c_l01PlainT n c A b o xs ((((((((at_ + 1) + 1) + 1) + 1) + 1) + 1) + 1) + 1) s20 p ln hA hB (by omega) (by omega) (by omega) (by first | assumption | (intro h0; have hlt := Rng.lt r (by rw [bys_len, ln]; exact h0); omega)) w53 r107 (rng0 ln nbp r106 m53))) rfl rfl (ltb rfl) ?_
    rintro _ w54 ⟨r_7, a5, s21, rfl, h73, h74, h75, h76, r108, m54⟩
    refine WD (op_fieldAddr (off' := 11) rfl Try.runUnderlying33 rfl rfl Try.sizeOf27 rfl) rfl ?_
    have r109 := ((r104.mod m53 (nC (lG (lL (lL q.lt sz46) lR)) nN)).mod m54 (nC (lG (lL (lL q.lt sz46) lR)) nN))
    refine WL.op0 (op_store (i := 11) (cs := [vF r_7]) rfl rfl rfl Try.sizeOf27 rfl r109 rfl (lB rfl) rfl) rfl rfl ?_
    rintro _ w55 ⟨r110, m55, z17⟩
    have r111 : Row w55 w50.heap.size 0 [vS bR'2 0 2 cR'2, vS bL'2 0 2 cL'2, vS bS'2 0 1 cS'2, vI 1, vF r_6, vF f5, vF 0, vF 0, vF 0, .bool ub3, vF f6, vF r_7, vF 3200253952] := Row.congr r110 rfl
    refine WL.end (NE.code (CE.region ?_))
    refine WD (op_move rfl) rfl ?_
    have r112 := (Rng.youngS r (rng0 ln nbp (rng0 ln nbp r106 m53) m54) m55 (allge_cons (lT sz46 lR) allge_nil))
    refine WL.call (oc_call (vs := [vP p 0]) (cap := []) rfl rfl rfl Try.call61 (c_l01PlainT n c A b o xs a5 s21 p ln hA hB (by omega) (by omega) (by omega) (by first | assumption | (intro h0; have hlt := Rng.lt r (by rw [bys_len, ln]; exact h0); omega)) w55 (r108.mod m55 (nC (lE (lL (lL q.lt sz46) lR)) nN)) r112)) rfl rfl (ltb rfl) ?_
    rintro _ w56 ⟨r_8, a6, s22, rfl, h77, h78, h79, h80, r113, m56⟩
    refine WD (op_fieldAddr (off' := 12) rfl Try.runUnderlying33 rfl rfl Try.sizeOf27 rfl) rfl ?_
    refine WL.op0 (op_store (i := 12) (cs := [vF r_8]) rfl rfl rfl Try.sizeOf27 rfl (r111.mod m56 (nC (lG (lL (lL q.lt sz46) lR)) nN)) rfl (lB rfl) rfl) rfl rfl ?_
    rintro _ w57 ⟨r114, m57, z18⟩
    have r115 : Row w57 w50.heap.size 0 [vS bR'2 0 2 cR'2, vS bL'2 0 2 cL'2, vS bS'2 0 1 cS'2, vI 1, vF r_6, vF f5, vF 0, vF 0, vF 0, .bool ub3, vF f6, vF r_7, vF r_8] := Row.congr r114 rfl
    refine WL.end (NE.code (CE.seq (CE.seq (CE.region ?_))))
    refine WD (op_move rfl) rfl ?_
    have r116 := (Rng.youngS r (rng0 ln nbp r112 m56) m57 (allge_cons (lT sz46 lR) allge_nil))
    refine WL.call (oc_call (vs := [vP p 0, vI 12]) (cap := []) rfl rfl rfl Try.call54 (c_pick n c A b o xs a6 s22 p 12 ln hA hB (by omega) (by omega) (by omega) (by omega) (by omega) w57 (r113.mod m57 (nC (lE (lL (lL q.lt sz46) lR)) nN)) r116)) rfl rfl (ltb rfl) ?_
    rintro _ w58 ⟨u13, s23, rfl, h81, h82, r117, m58⟩
    refine WD (op_assign rfl) rfl ?_
    refine WL.end (NE.code (CE.block ?_))
    have sz47 := SzLe.mk (lT (lT (lT (lT (lT (lT sz45 m14.size) m45.size) m46.size) m47.size) m48.size) m49.size)
    have r118 := ((((((((r99.ext m51).mod m52 (nC (lE (lL r99.lt lR)) nN)).mod m53 (nC (lG (lL (lL q.lt sz47) ge6)) nN)).mod m54 (nC (lG (lL (lL q.lt sz47) ge6)) nN)).mod m55 (nC (lE (lL r99.lt lR)) nN)).mod m56 (nC (lG (lL (lL q.lt sz47) ge6)) nN)).mod m57 (nC (lE (lL r99.lt lR)) nN)).mod m58 (nC (lG (lL (lL q.lt sz47) ge6)) nN))
    have r119 := ((((((((r100.ext m51).mod m52 (nC (lE (lL r100.lt lR)) nN)).mod m53 (nC (lG (lL (lL q.lt sz47) ge7)) nN)).mod m54 (nC (lG (lL (lL q.lt sz47) ge7)) nN)).mod m55 (nC (lE (lL r100.lt lR)) nN)).mod m56 (nC (lG (lL (lL q.lt sz47) ge7)) nN)).mod m57 (nC (lE (lL r100.lt lR)) nN)).mod m58 (nC (lG (lL (lL q.lt sz47) ge7)) nN))
    refine CE.loop (fun (z : Nat × PipeSt × Nat × Nat) => [(10, vI ((z.1 : Nat) : Int)), (0, vP p 0), (2, vP w.heap.size 0), (8, vP w50.heap.size 0)]) (fun (z : Nat × PipeSt × Nat × Nat) => fun W => (z.1 ≤ 11) ∧ (DPi 2 1 [f1] r_6 f5 f6 r_7 r_8 z.2.1 (11 - z.1)) ∧ (z.2.2.1 ≤ 1000 - 20 * z.1) ∧ (z.2.2.2 < 18446744073709551616) ∧ Row W w50.heap.size 0 [vS bR'2 0 2 cR'2, vS bL'2 0 2 cL'2, vS bS'2 0 1 cS'2, vI 1, vF r_6, vF f5, vF 0, vF (z.2.1.s0), vF (z.2.1.s1), .bool ub3, vF f6, vF r_7, vF r_8] ∧ Row W bR'2 0 (olc z.2.1.R PR'2) ∧ Row W bL'2 0 (olc z.2.1.L PL'2) ∧ Row W p 0 [.slice A n c, vI ((z.2.2.1 : Nat) : Int), .int .u64 ((z.2.2.2 : Nat) : Int)] ∧ OF w49.heap.size W z.2.1.R PR'2 ∧ OF w49.heap.size W z.2.1.L PL'2 ∧ Mod (p :: w50.heap.size :: bR'2 :: bL'2 :: (PR'2.map BC.b ++ (PL'2.map BC.b ++ []))) w58 W) (fun (z : Nat × PipeSt × Nat × Nat) => z.1) (u13, zz2, (a6 + 1), s23) (⟨rfl, rfl, rfl, rfl, trivial⟩) ⟨(by dsimp only; omega), (by first | exact DPi.mono (by assumption) (by omega) (by omega) | exact DPi.mono (DPi.reed (by assumption) (Bd.mono (by assumption) (by omega)) (Bd.mono (by assumption) (by omega))) (by omega) (by omega)), (by dsimp only; omega), (by dsimp only; assumption), (Row.congr (r115.mod m58 (nC (lG (lL (lL q.lt sz46) lR)) nN)) (by simp only [*])), (Row.congr r118 rfl), (Row.congr r119 rfl), (Row.congr r117 rfl), ((((((((fm11.ext m51).mod m52 (fun j hj => (nC (lE (lL (OF.lt fm11 (lQ (lQ hj h67) h67.symm)) lR)) nN))).mod m53 (fun j hj => (nC (lG (lL (lL q.lt sz47) (fm11.ge j (lQ (lQ hj h67) h67.symm)))) nN))).mod m54 (fun j hj => (nC (lG (lL (lL q.lt sz47) (fm11.ge j (lQ (lQ hj h67) h67.symm)))) nN))).mod m55 (fun j hj => (nC (lE (lL (OF.lt fm11 (lQ (lQ hj h67) h67.symm)) lR)) nN))).mod m56 (fun j hj => (nC (lG (lL (lL q.lt sz47) (fm11.ge j (lQ (lQ hj h67) h67.symm)))) nN))).mod m57 (fun j hj => (nC (lE (lL (OF.lt fm11 (lQ (lQ hj h67) h67.symm)) lR)) nN))).mod m58 (fun j hj => (nC (lG (lL (lL q.lt sz47) (fm11.ge j (lQ (lQ hj h67) h67.symm)))) nN))), ((((((((fm12.ext m51).mod m52 (fun j hj => (nC (lE (lL (OF.lt fm12 (lQ (lQ hj h68) h68.symm)) lR)) nN))).mod m53 (fun j hj => (nC (lG (lL (lL q.lt sz47) (fm12.ge j (lQ (lQ hj h68) h68.symm)))) nN))).mod m54 (fun j hj => (nC (lG (lL (lL q.lt sz47) (fm12.ge j (lQ (lQ hj h68) h68.symm)))) nN))).mod m55 (fun j hj => (nC (lE (lL (OF.lt fm12 (lQ (lQ hj h68) h68.symm)) lR)) nN))).mod m56 (fun j hj => (nC (lG (lL (lL q.lt sz47) (fm12.ge j (lQ (lQ hj h68) h68.symm)))) nN))).mod m57 (fun j hj => (nC (lE (lL (OF.lt fm12 (lQ (lQ hj h68) h68.symm)) lR)) nN))).mod m58 (fun j hj => (nC (lG (lL (lL q.lt sz47) (fm12.ge j (lQ (lQ hj h68) h68.symm)))) nN))), Mod.refl _ _⟩ ?_
    rintro ⟨kk, z, at_, s⟩ w59 ⟨hkk, hdz, hat, hs, r120, r121, r122, r123, fm13, fm14, m59⟩
    replace hkk : kk ≤ 11 := hkk
    replace hdz : DPi 2 1 [f1] r_6 f5 f6 r_7 r_8 z (11 - kk) := hdz
    replace hat : at_ ≤ 1000 - 20 * kk := hat
    replace hs : s < 18446744073709551616 := hs
    replace r120 : Row w59 w50.heap.size 0 [vS bR'2 0 2 cR'2, vS bL'2 0 2 cL'2, vS bS'2 0 1 cS'2, vI 1, vF r_6, vF f5, vF 0, vF (z.s0), vF (z.s1), .bool ub3, vF f6, vF r_7, vF r_8] := r120
    replace r121 : Row w59 bR'2 0 (olc z.R PR'2) := r121
    replace r122 : Row w59 bL'2 0 (olc z.L PL'2) := r122
    replace r123 : Row w59 p 0 [.slice A n c, vI ((at_ : Nat) : Int), .int .u64 ((s : Nat) : Int)] := r123
    replace fm13 : OF w49.heap.size w59 z.R PR'2 := fm13
    replace fm14 : OF w49.heap.size w59 z.L PL'2 := fm14
    have hg1 := hdz.dz.gR
    have hg2 := hdz.dz.gL
    have hg3 := hdz.dz.small.1
    have hg4 := hdz.dz.small.2
    have hs9 : z.s1 < wid .f32 := by rw [hdz.dz.w1, wid32]; omega
    show CE _ _ _ _ [(10, vI ((kk : Nat) : Int)), (0, vP p 0), (2, vP w.heap.size 0), (8, vP w50.heap.size 0)] _
    refine CE.seq (CE.seq (CE.region ?_))
    refine WD (op_move rfl) rfl ?_
    refine WD (op_gti rfl rfl) rfl ?_
    refine WL.end (NE.code ?_)
    rcases Bool.eq_false_or_eq_true (decide ((0 : Int) < ((kk : Nat) : Int))) with hb10 | hb10
    ·have hp10 := of_decide_eq_true hb10
     refine CE.cond_t rfl hb10 ?_
     refine CE.skip' (NE.code (CE.seq (CE.block (CE.region ?_))))
     refine WD (op_move rfl) rfl ?_
     have r124 := (rng0S ln nbp r (rng0 ln nbp r116 m58) m59 (allge_cons (lT sz46 lR) (allge_cons (lT sz47 ge6) (allge_cons (lT sz47 ge7) (gA h64 (fun j hj => (lT sz47 (fm13.ge j (lQ hj (hdz.dz.lR).symm)))) (gA h65 (fun j hj => (lT sz47 (fm14.ge j (lQ hj (hdz.dz.lL).symm)))) allge_nil))))))
     refine WL.call (oc_call (vs := [vP p 0]) (cap := []) rfl rfl rfl Try.call61 (c_l01PlainT n c A b o xs at_ s p ln hA hB (by omega) (by omega) (by omega) (by first | assumption | (intro h0; have hlt := Rng.lt r (by rw [bys_len, ln]; exact h0); omega)) w59 r123 r124)) rfl rfl (ltb rfl) ?_
     rintro _ w60 ⟨r_9, a7, s24, rfl, h83, h84, h85, h86, r125, m60⟩
     have r126 := ((((((((((r101.ext m51).mod m52 (nC (lE (lL r101.lt lR)) nN)).mod m53 (nC (lG (lL (lL q.lt sz47) ge8)) nN)).mod m54 (nC (lG (lL (lL q.lt sz47) ge8)) nN)).mod m55 (nC (lE (lL r101.lt lR)) nN)).mod m56 (nC (lG (lL (lL q.lt sz47) ge8)) nN)).mod m57 (nC (lE (lL r101.lt lR)) nN)).mod m58 (nC (lG (lL (lL q.lt sz47) ge8)) nN)).mod m59 (nC (lG (lL (lL q.lt sz47) ge8)) (nC (lE (lL r101.lt lR)) (nC (Ne.symm ne5) (nC (Ne.symm ne6) (nA h64 (fun j hj => (fn10 j hj)) (nA h65 (fun j hj => (fn14 j hj)) nN))))))).mod m60 (nC (lG (lL (lL q.lt sz47) ge8)) nN))
     refine WL.call (oc_call (vs := [vP w50.heap.size 0, vF r_9]) (cap := []) rfl rfl rfl Try.call60 (c_l04Step 2 z.R 2 z.L 1 [f1] cR'2 bR'2 PR'2 w49.heap.size cL'2 bL'2 PL'2 w49.heap.size cS'2 bS'2 (1 : Int) r_6 f5 0 (z.s0) (z.s1) ub3 f6 r_7 r_8 w50.heap.size r_9 r_9 (hdz.dz.lR) (hdz.dz.lL) rfl (by first | assumption | exact rd_small (by assumption) (by assumption) | exact markD_small (by first | assumption | exact rd_small (by assumption) (by assumption)) _) (by first | assumption | exact rd_small (by assumption) (by assumption) | exact markD_small (by first | assumption | exact rd_small (by assumption) (by assumption)) _) h64 h65 (by first | assumption | omega) (by first | assumption | omega) (by first | assumption | omega) (by first | assumption | omega) (by assumption) (by assumption) (hdz.dz.w0) hs9 rfl h83 w60 (r120.mod m60 (nC (lG (lL (lL q.lt sz46) lR)) nN)) (r121.mod m60 (nC (lG (lL (lL q.lt sz47) ge6)) nN)) (r122.mod m60 (nC (lG (lL (lL q.lt sz47) ge7)) nN)) r126.rng (lG (lL r99.lt lR)) (lG (lL r100.lt lR)) (lG (lL r101.lt lR)) ne4 ne5 ne6 (fm13.mod m60 (fun j hj => (nC (lG (lL (lL q.lt sz47) (fm13.ge j (lQ (lQ hj (hdz.dz.lR)) (hdz.dz.lR).symm)))) nN))) (fun j hj => (lE (lL (OF.lt fm11 (lQ hj h67.symm)) lR))) (fun j hj => (fn8 j hj)) (fun j hj => (fn9 j hj)) (fun j hj => (fn10 j hj)) (fun j q hj hq => (fn11 j q hj hq)) (fm14.mod m60 (fun j hj => (nC (lG (lL (lL q.lt sz47) (fm14.ge j (lQ (lQ hj (hdz.dz.lL)) (hdz.dz.lL).symm)))) nN))) (fun j hj => (lE (lL (OF.lt fm12 (lQ hj h68.symm)) lR))) (fun j hj => (fn12 j hj)) (fun j hj => (fn13 j hj)) (fun j hj => (fn14 j hj)))) rfl rfl (ltb rfl) ?_
     rintro _ w61 ⟨y3, rfl, h87, h88, h89, h90, h91, h92, r127, r128, r129, fm15, fm16, m61⟩
     refine WL.end (NE.blk (NE.code (CE.region ?_)))
     refine WD (op_move rfl) rfl ?_
     refine WD (op_sub (r := ((kk - 1 : Nat) : Int)) rfl rfl (w_nsub (l := kk) (n := 1) (by omega) (by omega))) rfl ?_
     refine WD (op_assign rfl) rfl ?_
     refine WL.end ?_
     have r130 := (r125.mod m61 (nC (lE (lL (lL q.lt sz46) lR)) (nC (lE (lL (lL q.lt sz47) ge6)) (nC (lE (lL (lL q.lt sz47) ge7)) (nA h64 (fun j hj => (lG (lL (lL q.lt sz47) (fm15.ge j (lQ hj (stR_len (hdz.dz.lR) _).symm))))) (nA h65 (fun j hj => (lG (lL (lL q.lt sz47) (fm16.ge j (lQ hj (endL_len (hdz.dz.lL)).symm))))) nN))))))
     exact NE.again ((kk - 1), (pipeNext 2 1 [f1] 1 r_6 f5 0 ub3 f6 r_7 r_8 z r_9), a7, s24) (⟨rfl, rfl, rfl, rfl, trivial⟩) ⟨(by dsimp only; omega), (by exact DPi.mono (hdz.next (by assumption) (by omega)) (by omega) (by omega)), (by dsimp only; omega), (by assumption), (Row.congr r127 rfl), (Row.congr r128 rfl), (Row.congr r129 rfl), (Row.congr r130 rfl), (OF.congr fm15 rfl), (OF.congr fm16 rfl), ((m59.then m60 ((aC (.inl (by simp)) aN))).then m61 ((aC (.inl (by simp)) (aC (.inl (by simp)) (aC (.inl (by simp)) (aI (fun x hx => by simp only [List.mem_cons, List.mem_append, hx, true_or, or_true]) (aI (fun x hx => by simp only [List.mem_cons, List.mem_append, hx, true_or, or_true]) aN)))))))⟩ (by first | (dsimp only; omega) | omega)
    ·have hp10 := of_decide_eq_false hb10
     refine CE.cond_f rfl hb10 ?_
     refine CE.exit' (XE.exit_then (XE.exit_then (XE.exit_here (NE.code (CE.seq (CE.region ?_))))))
     refine WD (op_loadA (i := 0) (cs := [vS bR'2 0 2 cR'2, vS bL'2 0 2 cL'2, vS bS'2 0 1 cS'2, vI 1, vF r_6, vF f5, vF 0, vF (z.s0), vF (z.s1), .bool ub3, vF f6, vF r_7, vF r_8]) rfl Try.isAgg33 Try.sizeOf33 r120.rng rfl rfl rfl) rfl ?_
     have sz48 := SzLe.mk (lT (lT (lT (lT (lT (lT (lT (lT (lT (lT (lT sz5 m10.size) m11.size) m12.size) m13.size) m14.size) m45.size) m46.size) m47.size) m48.size) m49.size) m50.size)
     have sz49 := SzLe.mk (lT (lT (lT (lT (lT (lT (lT (lT (lT (lT sz5 m10.size) m11.size) m12.size) m13.size) m14.size) m45.size) m46.size) m47.size) m48.size) m49.size)
     have r131 := ((((((((((((((((((((((((((((r1.ext m2).ext m3).mod m4 (nC (lG (lL q.lt lR)) nN)).mod m5 (nC (lG (lL q.lt lR)) nN)).ext m6).ext m7).mod m8 (nC (lG (lL q.lt lR)) nN)).ext m9).mod m10 (nC (lE (lL (lL r1.lt sz4) ge1)) nN)).mod m11 (nC (lG (lL q.lt lR)) nN)).ext m12).ext m13).ext m14).mod m45 (nC (lG (lL q.lt lR)) nN)).mod m46 (nC (lG (lL q.lt lR)) nN)).ext m47).mod m48 (nC (lG (lL q.lt lR)) nN)).ext m49).ext m50).ext m51).mod m52 (nC (lE (lL (lL r1.lt sz48) lR)) nN)).mod m53 (nC (lG (lL q.lt lR)) nN)).mod m54 (nC (lG (lL q.lt lR)) nN)).mod m55 (nC (lE (lL (lL r1.lt sz48) lR)) nN)).mod m56 (nC (lG (lL q.lt lR)) nN)).mod m57 (nC (lE (lL (lL r1.lt sz48) lR)) nN)).mod m58 (nC (lG (lL q.lt lR)) nN)).mod m59 (nC (lG (lL q.lt lR)) (nC (lE (lL (lL r1.lt sz48) lR)) (nC (lE (lL (lL r1.lt sz49) ge6)) (nC (lE (lL (lL r1.lt sz49) ge7)) (nA h64 (fun j hj => (lG (lL (lL r1.lt sz49) (fm13.ge j (lQ hj (hdz.dz.lR).symm))))) (nA h65 (fun j hj => (lG (lL (lL r1.lt sz49) (fm14.ge j (lQ hj (hdz.dz.lL).symm))))) nN)))))))
     refine WL.op0 (op_store (i := 0) (cs := [vS bR'2 0 2 cR'2, vS bL'2 0 2 cL'2, vS bS'2 0 1 cS'2, vI 1, vF r_6, vF f5, vF 0, vF (z.s0), vF (z.s1), .bool ub3, vF f6, vF r_7, vF r_8]) rfl rfl rfl Try.sizeOf33 rfl r131 rfl (lB rfl) rfl) rfl rfl ?_
     rintro _ w62 ⟨r132, m62, z19⟩
     have r133 : Row w62 w.heap.size 0 [vS bR'2 0 2 cR'2, vS bL'2 0 2 cL'2, vS bS'2 0 1 cS'2, vI 1, vF r_6, vF f5, vF 0, vF (z.s0), vF (z.s1), .bool ub3, vF f6, vF r_7, vF r_8] := Row.congr r132 rfl
     refine WL.end (NE.code (CE.ret' ?_))
     refine XE.leaveC Try.results90 (res_agg (cs := [vS bR'2 0 2 cR'2, vS bL'2 0 2 cL'2, vS bS'2 0 1 cS'2, vI 1, vF r_6, vF f5, vF 0, vF (z.s0), vF (z.s1), .bool ub3, vF f6, vF r_7, vF r_8]) rfl Try.isAgg33 Try.sizeOf33 r133.rng rfl res_nil) ?_
     have r134 := ((((((((((r101.ext m51).mod m52 (nC (lE (lL r101.lt lR)) nN)).mod m53 (nC (lG (lL (lL q.lt sz47) ge8)) nN)).mod m54 (nC (lG (lL (lL q.lt sz47) ge8)) nN)).mod m55 (nC (lE (lL r101.lt lR)) nN)).mod m56 (nC (lG (lL (lL q.lt sz47) ge8)) nN)).mod m57 (nC (lE (lL r101.lt lR)) nN)).mod m58 (nC (lG (lL (lL q.lt sz47) ge8)) nN)).mod m59 (nC (lG (lL (lL q.lt sz47) ge8)) (nC (lE (lL r101.lt lR)) (nC (Ne.symm ne5) (nC (Ne.symm ne6) (nA h64 (fun j hj => (fn10 j hj)) (nA h65 (fun j hj => (fn14 j hj)) nN))))))).mod m62 (nC (lG (lL (lL r1.lt sz49) ge8)) nN))
     refine ⟨bR'2, cR'2, PR'2, bL'2, cL'2, PL'2, bS'2, cS'2, 2, 1, [f1], r_6, f5, ub3, f6, r_7, r_8, z, ?_, ?_, ?_, ?_, ?_, ?_, ?_, ?_, (r121.mod m62 (nC (lG (lL (lL r1.lt sz49) ge6)) nN)), (r122.mod m62 (nC (lG (lL (lL r1.lt sz49) ge7)) nN)), r134, (lT sz47 ge6), (lT sz47 ge7), (lT sz47 ge8), ne4, ne5, ne6, (OF.low (fm13.mod m62 (fun j hj => (nC (lG (lL (lL r1.lt sz49) (fm13.ge j (lQ (lQ hj (hdz.dz.lR)) (hdz.dz.lR).symm)))) nN))) sz47), (fun j hj => (fn8 j (show j < 2 by omega))), (fun j hj => (fn9 j (show j < 2 by omega))), (fun j hj => (fn10 j (show j < 2 by omega))), (fun j q hj hq => (fn11 j q (show j < 2 by omega) (show q < 2 by omega))), (OF.low (fm14.mod m62 (fun j hj => (nC (lG (lL (lL r1.lt sz49) (fm14.ge j (lQ (lQ hj (hdz.dz.lL)) (hdz.dz.lL).symm)))) nN))) sz47), (fun j hj => (fn12 j (show j < 2 by omega))), (fun j hj => (fn13 j (show j < 2 by omega))), (fun j hj => (fn14 j (show j < 2 by omega))), (((((((((((((((((((((((((((((((Mod.refl [p] w).nt m1).nt m2).nt m3).then m4 ((aC (.inl (by simp)) aN))).then m5 ((aC (.inl (by simp)) aN))).nt m6).nt m7).then m8 ((aC (.inl (by simp)) aN))).nt m9).then m10 ((aC (.inr (lT sz1 ge1)) aN))).then m11 ((aC (.inl (by simp)) aN))).nt m12).nt m13).nt m14).then m45 ((aC (.inl (by simp)) aN))).then m46 ((aC (.inl (by simp)) aN))).nt m47).then m48 ((aC (.inl (by simp)) aN))).nt m49).nt m50).nt m51).then m52 ((aC (.inr (lT sz46 lR)) aN))).then m53 ((aC (.inl (by simp)) aN))).then m54 ((aC (.inl (by simp)) aN))).then m55 ((aC (.inr (lT sz46 lR)) aN))).then m56 ((aC (.inl (by simp)) aN))).then m57 ((aC (.inr (lT sz46 lR)) aN))).then m58 ((aC (.inl (by simp)) aN))).then m59 ((aC (.inl (by simp)) (aC (.inr (lT sz46 lR)) (aC (.inr (lT sz47 ge6)) (aC (.inr (lT sz47 ge7)) (aA h64 (fun j hj => (lT sz47 (fm13.ge j (lQ hj (hdz.dz.lR).symm)))) (aA h65 (fun j hj => (lT sz47 (fm14.ge j (lQ hj (hdz.dz.lL).symm)))) aN)))))))).then m62 ((aC (.inr lR) aN)))⟩
     all_goals first | assumption | rfl | exact hdz.dz.lR | exact hdz.dz.lL | exact hdz.dz.lS | omega | (have e9 : kk = 0 := (by omega); rw [e9] at hdz; exact hdz.dz) | exact hdz.zi (by omega)
   ·refine CE.cond_f rfl hb9 ?_
    refine CE.skip' (NE.code (CE.seq (CE.seq (CE.region ?_))))
    refine WD (op_move rfl) rfl ?_
    refine WL.call (oc_call (vs := [vP p 0, vI 12]) (cap := []) rfl rfl rfl Try.call54 (c_pick n c A b o xs ((((((((at_ + 1) + 1) + 1) + 1) + 1) + 1) + 1) + 1) s20 p 12 ln hA hB (by omega) (by omega) (by omega) (by omega) (by omega) w53 r107 (rng0 ln nbp r106 m53))) rfl rfl (ltb rfl) ?_
    rintro _ w63 ⟨u14, s25, rfl, h93, h94, r135, m63⟩
    refine WD (op_assign rfl) rfl ?_
    refine WL.end (NE.code (CE.block ?_))
    have r136 := ((r104.mod m53 (nC (lG (lL (lL q.lt sz46) lR)) nN)).mod m63 (nC (lG (lL (lL q.lt sz46) lR)) nN))
    have sz50 := SzLe.mk (lT (lT (lT (lT (lT (lT sz45 m14.size) m45.size) m46.size) m47.size) m48.size) m49.size)
    have r137 := ((((r99.ext m51).mod m52 (nC (lE (lL r99.lt lR)) nN)).mod m53 (nC (lG (lL (lL q.lt sz50) ge6)) nN)).mod m63 (nC (lG (lL (lL q.lt sz50) ge6)) nN))
    have r138 := ((((r100.ext m51).mod m52 (nC (lE (lL r100.lt lR)) nN)).mod m53 (nC (lG (lL (lL q.lt sz50) ge7)) nN)).mod m63 (nC (lG (lL (lL q.lt sz50) ge7)) nN))
    refine CE.loop (fun (z : Nat × PipeSt × Nat × Nat) => [(10, vI ((z.1 : Nat) : Int)), (0, vP p 0), (2, vP w.heap.size 0), (8, vP w50.heap.size 0)]) (fun (z : Nat × PipeSt × Nat × Nat) => fun W => (z.1 ≤ 11) ∧ (DPi 2 1 [f1] r_6 f5 f6 1061158912 3200253952 z.2.1 (11 - z.1)) ∧ (z.2.2.1 ≤ 1000 - 20 * z.1) ∧ (z.2.2.2 < 18446744073709551616) ∧ Row W w50.heap.size 0 [vS bR'2 0 2 cR'2, vS bL'2 0 2 cL'2, vS bS'2 0 1 cS'2, vI 1, vF r_6, vF f5, vF 0, vF (z.2.1.s0), vF (z.2.1.s1), .bool ub3, vF f6, vF 1061158912, vF 3200253952] ∧ Row W bR'2 0 (olc z.2.1.R PR'2) ∧ Row W bL'2 0 (olc z.2.1.L PL'2) ∧ Row W p 0 [.slice A n c, vI ((z.2.2.1 : Nat) : Int), .int .u64 ((z.2.2.2 : Nat) : Int)] ∧ OF w49.heap.size W z.2.1.R PR'2 ∧ OF w49.heap.size W z.2.1.L PL'2 ∧ Mod (p :: w50.heap.size :: bR'2 :: bL'2 :: (PR'2.map BC.b ++ (PL'2.map BC.b ++ []))) w63 W) (fun (z : Nat × PipeSt × Nat × Nat) => z.1) (u14, zz2, (((((((((at_ + 1) + 1) + 1) + 1) + 1) + 1) + 1) + 1) + 1), s25) (⟨rfl, rfl, rfl, rfl, trivial⟩) ⟨(by dsimp only; omega), (by first | exact DPi.mono (by assumption) (by omega) (by omega) | exact DPi.mono (DPi.reed (by assumption) (Bd.mono (by assumption) (by omega)) (Bd.mono (by assumption) (by omega))) (by omega) (by omega)), (by dsimp only; omega), (by dsimp only; assumption), (Row.congr r136 (by simp only [*])), (Row.congr r137 rfl), (Row.congr r138 rfl), (Row.congr r135 rfl), ((((fm11.ext m51).mod m52 (fun j hj => (nC (lE (lL (OF.lt fm11 (lQ (lQ hj h67) h67.symm)) lR)) nN))).mod m53 (fun j hj => (nC (lG (lL (lL q.lt sz50) (fm11.ge j (lQ (lQ hj h67) h67.symm)))) nN))).mod m63 (fun j hj => (nC (lG (lL (lL q.lt sz50) (fm11.ge j (lQ (lQ hj h67) h67.symm)))) nN))), ((((fm12.ext m51).mod m52 (fun j hj => (nC (lE (lL (OF.lt fm12 (lQ (lQ hj h68) h68.symm)) lR)) nN))).mod m53 (fun j hj => (nC (lG (lL (lL q.lt sz50) (fm12.ge j (lQ (lQ hj h68) h68.symm)))) nN))).mod m63 (fun j hj => (nC (lG (lL (lL q.lt sz50) (fm12.ge j (lQ (lQ hj h68) h68.symm)))) nN))), Mod.refl _ _⟩ ?_
    rintro ⟨kk, z, at_, s⟩ w64 ⟨hkk, hdz, hat, hs, r139, r140, r141, r142, fm17, fm18, m64⟩
    replace hkk : kk ≤ 11 := hkk
    replace hdz : DPi 2 1 [f1] r_6 f5 f6 1061158912 3200253952 z (11 - kk) := hdz
    replace hat : at_ ≤ 1000 - 20 * kk := hat
    replace hs : s < 18446744073709551616 := hs
    replace r139 : Row w64 w50.heap.size 0 [vS bR'2 0 2 cR'2, vS bL'2 0 2 cL'2, vS bS'2 0 1 cS'2, vI 1, vF r_6, vF f5, vF 0, vF (z.s0), vF (z.s1), .bool ub3, vF f6, vF 1061158912, vF 3200253952] := r139
    replace r140 : Row w64 bR'2 0 (olc z.R PR'2) := r140
    replace r141 : Row w64 bL'2 0 (olc z.L PL'2) := r141
    replace r142 : Row w64 p 0 [.slice A n c, vI ((at_ : Nat) : Int), .int .u64 ((s : Nat) : Int)] := r142
    replace fm17 : OF w49.heap.size w64 z.R PR'2 := fm17
    replace fm18 : OF w49.heap.size w64 z.L PL'2 := fm18
    have hg1 := hdz.dz.gR
    have hg2 := hdz.dz.gL
    have hg3 := hdz.dz.small.1
    have hg4 := hdz.dz.small.2
    have hs9 : z.s1 < wid .f32 := by rw [hdz.dz.w1, wid32]; omega
    show CE _ _ _ _ [(10, vI ((kk : Nat) : Int)), (0, vP p 0), (2, vP w.heap.size 0), (8, vP w50.heap.size 0)] _
    refine CE.seq (CE.seq (CE.region ?_))
    refine WD (op_move rfl) rfl ?_
    refine WD (op_gti rfl rfl) rfl ?_
    refine WL.end (NE.code ?_)
    rcases Bool.eq_false_or_eq_true (decide ((0 : Int) < ((kk : Nat) : Int))) with hb11 | hb11
    ·have hp11 := of_decide_eq_true hb11
     refine CE.cond_t rfl hb11 ?_
     refine CE.skip' (NE.code (CE.seq (CE.block (CE.region ?_))))
     refine WD (op_move rfl) rfl ?_
     have r143 := (rng0S ln nbp r (rng0 ln nbp (rng0 ln nbp r106 m53) m63) m64 (allge_cons (lT sz46 lR) (allge_cons (lT sz50 ge6) (allge_cons (lT sz50 ge7) (gA h64 (fun j hj => (lT sz50 (fm17.ge j (lQ hj (hdz.dz.lR).symm)))) (gA h65 (fun j hj => (lT sz50 (fm18.ge j (lQ hj (hdz.dz.lL).symm)))) allge_nil))))))
     refine WL.call (oc_call (vs := [vP p 0]) (cap := []) rfl rfl rfl Try.call61 (c_l01PlainT n c A b o xs at_ s p ln hA hB (by omega) (by omega) (by omega) (by first | assumption | (intro h0; have hlt := Rng.lt r (by rw [bys_len, ln]; exact h0); omega)) w64 r142 r143)) rfl rfl (ltb rfl) ?_
     rintro _ w65 ⟨r_10, a8, s26, rfl, h95, h96, h97, h98, r144, m65⟩
     have r145 := ((((((r101.ext m51).mod m52 (nC (lE (lL r101.lt lR)) nN)).mod m53 (nC (lG (lL (lL q.lt sz50) ge8)) nN)).mod m63 (nC (lG (lL (lL q.lt sz50) ge8)) nN)).mod m64 (nC (lG (lL (lL q.lt sz50) ge8)) (nC (lE (lL r101.lt lR)) (nC (Ne.symm ne5) (nC (Ne.symm ne6) (nA h64 (fun j hj => (fn10 j hj)) (nA h65 (fun j hj => (fn14 j hj)) nN))))))).mod m65 (nC (lG (lL (lL q.lt sz50) ge8)) nN))
     refine WL.call (oc_call (vs := [vP w50.heap.size 0, vF r_10]) (cap := []) rfl rfl rfl Try.call60 (c_l04Step 2 z.R 2 z.L 1 [f1] cR'2 bR'2 PR'2 w49.heap.size cL'2 bL'2 PL'2 w49.heap.size cS'2 bS'2 (1 : Int) r_6 f5 0 (z.s0) (z.s1) ub3 f6 1061158912 3200253952 w50.heap.size r_10 r_10 (hdz.dz.lR) (hdz.dz.lL) rfl (by first | assumption | exact rd_small (by assumption) (by assumption) | exact markD_small (by first | assumption | exact rd_small (by assumption) (by assumption)) _) (by first | assumption | exact rd_small (by assumption) (by assumption) | exact markD_small (by first | assumption | exact rd_small (by assumption) (by assumption)) _) h64 h65 (by first | assumption | omega) (by first | assumption | omega) (by first | assumption | omega) (by first | assumption | omega) (by assumption) (by assumption) (hdz.dz.w0) hs9 rfl h95 w65 (r139.mod m65 (nC (lG (lL (lL q.lt sz46) lR)) nN)) (r140.mod m65 (nC (lG (lL (lL q.lt sz50) ge6)) nN)) (r141.mod m65 (nC (lG (lL (lL q.lt sz50) ge7)) nN)) r145.rng (lG (lL r99.lt lR)) (lG (lL r100.lt lR)) (lG (lL r101.lt lR)) ne4 ne5 ne6 (fm17.mod m65 (fun j hj => (nC (lG (lL (lL q.lt sz50) (fm17.ge j (lQ (lQ hj (hdz.dz.lR)) (hdz.dz.lR).symm)))) nN))) (fun j hj => (lE (lL (OF.lt fm11 (lQ hj h67.symm)) lR))) (fun j hj => (fn8 j hj)) (fun j hj => (fn9 j hj)) (fun j hj => (fn10 j hj)) (fun j q hj hq => (fn11 j q hj hq)) (fm18.mod m65 (fun j hj => (nC (lG (lL (lL q.lt sz50) (fm18.ge j (lQ (lQ hj (hdz.dz.lL)) (hdz.dz.lL).symm)))) nN))) (fun j hj => (lE (lL (OF.lt fm12 (lQ hj h68.symm)) lR))) (fun j hj => (fn12 j hj)) (fun j hj => (fn13 j hj)) (fun j hj => (fn14 j hj)))) rfl rfl (ltb rfl) ?_
     rintro _ w66 ⟨y4, rfl, h99, h100, h101, h102, h103, h104, r146, r147, r148, fm19, fm20, m66⟩
     refine WL.end (NE.blk (NE.code (CE.region ?_)))
     refine WD (op_move rfl) rfl ?_
     refine WD (op_sub (r := ((kk - 1 : Nat) : Int)) rfl rfl (w_nsub (l := kk) (n := 1) (by omega) (by omega))) rfl ?_
     refine WD (op_assign rfl) rfl ?_
     refine WL.end ?_
     have r149 := (r144.mod m66 (nC (lE (lL (lL q.lt sz46) lR)) (nC (lE (lL (lL q.lt sz50) ge6)) (nC (lE (lL (lL q.lt sz50) ge7)) (nA h64 (fun j hj => (lG (lL (lL q.lt sz50) (fm19.ge j (lQ hj (stR_len (hdz.dz.lR) _).symm))))) (nA h65 (fun j hj => (lG (lL (lL q.lt sz50) (fm20.ge j (lQ hj (endL_len (hdz.dz.lL)).symm))))) nN))))))
     exact NE.again ((kk - 1), (pipeNext 2 1 [f1] 1 r_6 f5 0 ub3 f6 1061158912 3200253952 z r_10), a8, s26) (⟨rfl, rfl, rfl, rfl, trivial⟩) ⟨(by dsimp only; omega), (by exact DPi.mono (hdz.next (by assumption) (by omega)) (by omega) (by omega)), (by dsimp only; omega), (by assumption), (Row.congr r146 rfl), (Row.congr r147 rfl), (Row.congr r148 rfl), (Row.congr r149 rfl), (OF.congr fm19 rfl), (OF.congr fm20 rfl), ((m64.then m65 ((aC (.inl (by simp)) aN))).then m66 ((aC (.inl (by simp)) (aC (.inl (by simp)) (aC (.inl (by simp)) (aI (fun x hx => by simp only [List.mem_cons, List.mem_append, hx, true_or, or_true]) (aI (fun x hx => by simp only [List.mem_cons, List.mem_append, hx, true_or, or_true]) aN)))))))⟩ (by first | (dsimp only; omega) | omega)
    ·have hp11 := of_decide_eq_false hb11
     refine CE.cond_f rfl hb11 ?_
     refine CE.exit' (XE.exit_then (XE.exit_then (XE.exit_here (NE.code (CE.seq (CE.region ?_))))))
     refine WD (op_loadA (i := 0) (cs := [vS bR'2 0 2 cR'2, vS bL'2 0 2 cL'2, vS bS'2 0 1 cS'2, vI 1, vF r_6, vF f5, vF 0, vF (z.s0), vF (z.s1), .bool ub3, vF f6, vF 1061158912, vF 3200253952]) rfl Try.isAgg33 Try.sizeOf33 r139.rng rfl rfl rfl) rfl ?_
     have sz51 := SzLe.mk (lT (lT (lT (lT (lT (lT (lT (lT (lT (lT (lT sz5 m10.size) m11.size) m12.size) m13.size) m14.size) m45.size) m46.size) m47.size) m48.size) m49.size) m50.size)
     have sz52 := SzLe.mk (lT (lT (lT (lT (lT (lT (lT (lT (lT (lT sz5 m10.size) m11.size) m12.size) m13.size) m14.size) m45.size) m46.size) m47.size) m48.size) m49.size)
     have r150 := ((((((((((((((((((((((((r1.ext m2).ext m3).mod m4 (nC (lG (lL q.lt lR)) nN)).mod m5 (nC (lG (lL q.lt lR)) nN)).ext m6).ext m7).mod m8 (nC (lG (lL q.lt lR)) nN)).ext m9).mod m10 (nC (lE (lL (lL r1.lt sz4) ge1)) nN)).mod m11 (nC (lG (lL q.lt lR)) nN)).ext m12).ext m13).ext m14).mod m45 (nC (lG (lL q.lt lR)) nN)).mod m46 (nC (lG (lL q.lt lR)) nN)).ext m47).mod m48 (nC (lG (lL q.lt lR)) nN)).ext m49).ext m50).ext m51).mod m52 (nC (lE (lL (lL r1.lt sz51) lR)) nN)).mod m53 (nC (lG (lL q.lt lR)) nN)).mod m63 (nC (lG (lL q.lt lR)) nN)).mod m64 (nC (lG (lL q.lt lR)) (nC (lE (lL (lL r1.lt sz51) lR)) (nC (lE (lL (lL r1.lt sz52) ge6)) (nC (lE (lL (lL r1.lt sz52) ge7)) (nA h64 (fun j hj => (lG (lL (lL r1.lt sz52) (fm17.ge j (lQ hj (hdz.dz.lR).symm))))) (nA h65 (fun j hj => (lG (lL (lL r1.lt sz52) (fm18.ge j (lQ hj (hdz.dz.lL).symm))))) nN)))))))
     refine WL.op0 (op_store (i := 0) (cs := [vS bR'2 0 2 cR'2, vS bL'2 0 2 cL'2, vS bS'2 0 1 cS'2, vI 1, vF r_6, vF f5, vF 0, vF (z.s0), vF (z.s1), .bool ub3, vF f6, vF 1061158912, vF 3200253952]) rfl rfl rfl Try.sizeOf33 rfl r150 rfl (lB rfl) rfl) rfl rfl ?_
     rintro _ w67 ⟨r151, m67, z20⟩
     have r152 : Row w67 w.heap.size 0 [vS bR'2 0 2 cR'2, vS bL'2 0 2 cL'2, vS bS'2 0 1 cS'2, vI 1, vF r_6, vF f5, vF 0, vF (z.s0), vF (z.s1), .bool ub3, vF f6, vF 1061158912, vF 3200253952] := Row.congr r151 rfl
     refine WL.end (NE.code (CE.ret' ?_))
     refine XE.leaveC Try.results90 (res_agg (cs := [vS bR'2 0 2 cR'2, vS bL'2 0 2 cL'2, vS bS'2 0 1 cS'2, vI 1, vF r_6, vF f5, vF 0, vF (z.s0), vF (z.s1), .bool ub3, vF f6, vF 1061158912, vF 3200253952]) rfl Try.isAgg33 Try.sizeOf33 r152.rng rfl res_nil) ?_
     have r153 := ((((((r101.ext m51).mod m52 (nC (lE (lL r101.lt lR)) nN)).mod m53 (nC (lG (lL (lL q.lt sz50) ge8)) nN)).mod m63 (nC (lG (lL (lL q.lt sz50) ge8)) nN)).mod m64 (nC (lG (lL (lL q.lt sz50) ge8)) (nC (lE (lL r101.lt lR)) (nC (Ne.symm ne5) (nC (Ne.symm ne6) (nA h64 (fun j hj => (fn10 j hj)) (nA h65 (fun j hj => (fn14 j hj)) nN))))))).mod m67 (nC (lG (lL (lL r1.lt sz52) ge8)) nN))
     refine ⟨bR'2, cR'2, PR'2, bL'2, cL'2, PL'2, bS'2, cS'2, 2, 1, [f1], r_6, f5, ub3, f6, 1061158912, 3200253952, z, ?_, ?_, ?_, ?_, ?_, ?_, ?_, ?_, (r140.mod m67 (nC (lG (lL (lL r1.lt sz52) ge6)) nN)), (r141.mod m67 (nC (lG (lL (lL r1.lt sz52) ge7)) nN)), r153, (lT sz50 ge6), (lT sz50 ge7), (lT sz50 ge8), ne4, ne5, ne6, (OF.low (fm17.mod m67 (fun j hj => (nC (lG (lL (lL r1.lt sz52) (fm17.ge j (lQ (lQ hj (hdz.dz.lR)) (hdz.dz.lR).symm)))) nN))) sz50), (fun j hj => (fn8 j (show j < 2 by omega))), (fun j hj => (fn9 j (show j < 2 by omega))), (fun j hj => (fn10 j (show j < 2 by omega))), (fun j q hj hq => (fn11 j q (show j < 2 by omega) (show q < 2 by omega))), (OF.low (fm18.mod m67 (fun j hj => (nC (lG (lL (lL r1.lt sz52) (fm18.ge j (lQ (lQ hj (hdz.dz.lL)) (hdz.dz.lL).symm)))) nN))) sz50), (fun j hj => (fn12 j (show j < 2 by omega))), (fun j hj => (fn13 j (show j < 2 by omega))), (fun j hj => (fn14 j (show j < 2 by omega))), (((((((((((((((((((((((((((Mod.refl [p] w).nt m1).nt m2).nt m3).then m4 ((aC (.inl (by simp)) aN))).then m5 ((aC (.inl (by simp)) aN))).nt m6).nt m7).then m8 ((aC (.inl (by simp)) aN))).nt m9).then m10 ((aC (.inr (lT sz1 ge1)) aN))).then m11 ((aC (.inl (by simp)) aN))).nt m12).nt m13).nt m14).then m45 ((aC (.inl (by simp)) aN))).then m46 ((aC (.inl (by simp)) aN))).nt m47).then m48 ((aC (.inl (by simp)) aN))).nt m49).nt m50).nt m51).then m52 ((aC (.inr (lT sz46 lR)) aN))).then m53 ((aC (.inl (by simp)) aN))).then m63 ((aC (.inl (by simp)) aN))).then m64 ((aC (.inl (by simp)) (aC (.inr (lT sz46 lR)) (aC (.inr (lT sz50 ge6)) (aC (.inr (lT sz50 ge7)) (aA h64 (fun j hj => (lT sz50 (fm17.ge j (lQ hj (hdz.dz.lR).symm)))) (aA h65 (fun j hj => (lT sz50 (fm18.ge j (lQ hj (hdz.dz.lL).symm)))) aN)))))))).then m67 ((aC (.inr lR) aN)))⟩
     all_goals first | assumption | rfl | exact hdz.dz.lR | exact hdz.dz.lL | exact hdz.dz.lS | omega | (have e9 : kk = 0 := (by omega); rw [e9] at hdz; exact hdz.dz) | exact hdz.zi (by omega)
 ·have hp1 := of_decide_eq_false hb1
  refine CE.cond_f rfl hb1 ?_
  refine CE.exit' (XE.exit_then (XE.exit_then (XE.exit_here (NE.code (CE.seq (CE.region ?_))))))
  refine WD (op_move rfl) rfl ?_
  have r154 := (((rng0 ln nbp (rng0 ln nbp r5 m4) m5).ext m6).ext m7)
  refine WL.call (oc_call (vs := [vP p 0, vI 2]) (cap := []) rfl rfl rfl Try.call137 (c_oneB n c A b o xs ((at_ + 1) + 1) s2 p 2 ln hA hB (by omega) (by omega) (by omega) (by omega) (by omega) (by first | assumption | (intro h0; have hlt := Rng.lt r (by rw [bys_len, ln]; exact h0); omega)) w7 ((r7.ext m6).ext m7) r154)) rfl rfl (ltb rfl) ?_
  rintro _ w68 ⟨ub5, s27, rfl, h105, r155, m68⟩
  refine WD (op_assign rfl) rfl ?_
  refine WL.end (NE.code (CE.seq (CE.region ?_)))
  refine WD (op_move rfl) rfl ?_
  refine WL.call (oc_call (vs := [vP p 0, vI 8]) (cap := []) rfl rfl rfl Try.call54 (c_pick n c A b o xs (((at_ + 1) + 1) + 1) s27 p 8 ln hA hB (by omega) (by omega) (by omega) (by omega) (by omega) w68 r155 (rng0 ln nbp r154 m68))) rfl rfl (ltb rfl) ?_
  rintro _ w69 ⟨u15, s28, rfl, h106, h107, r156, m69⟩
  refine WD (op_cvt_if rfl Try.runUnderlying2 Try.runUnderlying27) rfl ?_
  refine WL.op (op_farith (e := (fop .quo .f32 (FloatKind.f32.nearest ((u15 : Nat) : Int)) 1090519040)) (.inr (.inr (.inr rfl))) rfl rfl rfl rfl rfl) rfl rfl (ltb rfl) ?_
  rintro _ w70 ⟨⟨f7, rfl, hf7, lf7⟩, m70⟩
  refine WD (op_assign rfl) rfl ?_
  refine WL.end (NE.code (CE.seq (CE.region ?_)))
  iterate 5 refine WD (op_move rfl) rfl ?_
  have r157 := ((rng0 ln nbp (rng0 ln nbp r154 m68) m69).ext m70)
  refine WL.call (oc_call (vs := [vP p 0, vI 17]) (cap := []) rfl rfl rfl Try.call54 (c_pick n c A b o xs ((((at_ + 1) + 1) + 1) + 1) s28 p 17 ln hA hB (by omega) (by omega) (by omega) (by omega) (by omega) w70 (r156.ext m70) r157)) rfl rfl (ltb rfl) ?_
  rintro _ w71 ⟨u16, s29, rfl, h108, h109, r158, m71⟩
  refine WD (op_cvt_if rfl Try.runUnderlying2 Try.runUnderlying27) rfl ?_
  refine WL.op (op_farith (e := (fop .quo .f32 (FloatKind.f32.nearest ((u16 : Nat) : Int)) 1098907648)) (.inr (.inr (.inr rfl))) rfl rfl rfl rfl rfl) rfl rfl (ltb rfl) ?_
  rintro _ w72 ⟨⟨f8, rfl, hf8, lf8⟩, m72⟩
  have sz53 := SzLe.mk (lT (lT (lT (lT (lT m1.size m2.size) m3.size) m4.size) m5.size) m6.size)
  have r159 := (((((r9.mod m68 (nC (lG (lL (lL q.lt sz53) ge1)) nN)).mod m69 (nC (lG (lL (lL q.lt sz53) ge1)) nN)).ext m70).mod m71 (nC (lG (lL (lL q.lt sz53) ge1)) nN)).ext m72)
  have r160 := (((((((((r3.mod m4 (nC (lG (lL (lL q.lt (lT m1.size m2.size)) lR)) nN)).mod m5 (nC (lG (lL (lL q.lt (lT m1.size m2.size)) lR)) nN)).ext m6).ext m7).mod m68 (nC (lG (lL (lL q.lt (lT m1.size m2.size)) lR)) nN)).mod m69 (nC (lG (lL (lL q.lt (lT m1.size m2.size)) lR)) nN)).ext m70).mod m71 (nC (lG (lL (lL q.lt (lT m1.size m2.size)) lR)) nN)).ext m72)
  refine WL.call (oc_call (vs := [vS b1 0 1 c1, vS w2.heap.size 0 0 0, .bool ub5, vF f7, vF f8]) (cap := []) rfl rfl rfl Try.call15 (c_sNewI1 (1 + u2) c1 b1 0 w2.heap.size [] ub5 f7 f8 (by omega) (by omega) lf7 lf8 rfl (by with_reducible first | exact scl0 | exact scl1 (scE_of (by assumption) (by assumption)) | exact scl2 (scE_of (by assumption) (by assumption)) (scE_of (by assumption) (by assumption))) (by with_reducible exact keepE_of (by assumption) (by assumption)) (by with_reducible exact lossE_of (by assumption) (by assumption)) w72 r159.rng r160.rng)) rfl rfl (ltb rfl) ?_
  rintro _ w73 ⟨bR'3, cR'3, PR'3, bL'3, cL'3, PL'3, bS'3, cS'3, r_11, zz3, rfl, h110, h111, h112, h113, h114, h115, h116, h117, r161, r162, r163, ge9, ge10, ge11, ne7, ne8, ne9, fm21, fn15, fn16, fn17, fn18, fm22, fn19, fn20, fn21, m73⟩
  refine WD (op_move rfl) rfl ?_
  iterate 2 refine WD (op_extract rfl rfl) rfl ?_
  refine WL.op (op_alloc (cs := [.slice none 0 0, .slice none 0 0, .slice none 0 0, vI 0, vF 0, vF 0, vF 0, vF 0, vF 0, .bool false, vF 0, vF 0, vF 0]) Try.zeroValue33 rfl) rfl rfl (ltb rfl) ?_
  rintro _ w74 ⟨rfl, r164, m74, z21⟩
  refine WL.op0 (op_store (i := 0) (cs := [vS bR'3 0 1 cR'3, vS bL'3 0 1 cL'3, vS bS'3 0 0 cS'3, vI 1, vF r_11, vF f7, vF 0, vF 0, vF 0, .bool ub5, vF f8, vF 1061158912, vF 3200253952]) rfl rfl rfl Try.sizeOf33 rfl r164 rfl (lB rfl) rfl) rfl rfl ?_
  rintro _ w75 ⟨r165, m75, z22⟩
  have r166 : Row w75 w73.heap.size 0 [vS bR'3 0 1 cR'3, vS bL'3 0 1 cL'3, vS bS'3 0 0 cS'3, vI 1, vF r_11, vF f7, vF 0, vF 0, vF 0, .bool ub5, vF f8, vF 1061158912, vF 3200253952] := Row.congr r165 rfl
  refine WD (op_assign rfl) rfl ?_
  refine WL.end (NE.code (CE.seq (CE.seq (CE.region ?_))))
  refine WD (op_move rfl) rfl ?_
  have sz54 := SzLe.mk (lT (lT (lT (lT (lT (lT (lT sz53 m7.size) m68.size) m69.size) m70.size) m71.size) m72.size) m73.size)
  have r167 := ((((r158.ext m72).ext m73).ext m74).mod m75 (nC (lE (lL (lL q.lt sz54) lR)) nN))
  have r168 := (Rng.youngS r ((((rng0 ln nbp r157 m71).ext m72).ext m73).ext m74) m75 (allge_cons (lT sz54 lR) allge_nil))
  refine WL.call (oc_call (vs := [vP p 0, vI 2]) (cap := []) rfl rfl rfl Try.call137 (c_oneB n c A b o xs (((((at_ + 1) + 1) + 1) + 1) + 1) s29 p 2 ln hA hB (by omega) (by omega) (by omega) (by omega) (by omega) (by first | assumption | (intro h0; have hlt := Rng.lt r (by rw [bys_len, ln]; exact h0); omega)) w75 r167 r168)) rfl rfl (ltb rfl) ?_
  rintro _ w76 ⟨ub6, s30, rfl, h118, r169, m76⟩
  refine WL.end (NE.code ?_)
  rcases Bool.eq_false_or_eq_true (ub6) with hb12 | hb12
  ·refine CE.cond_t rfl hb12 ?_
   refine CE.seq (CE.region ?_)
   refine WD (op_move rfl) rfl ?_
   refine WL.call (oc_call (vs := [vP p 0]) (cap := []) rfl rfl rfl Try.call61 (c_l01PlainT n c A b o xs ((((((at_ + 1) + 1) + 1) + 1) + 1) + 1) s30 p ln hA hB (by omega) (by omega) (by omega) (by first | assumption | (intro h0; have hlt := Rng.lt r (by rw [bys_len, ln]; exact h0); omega)) w76 r169 (rng0 ln nbp r168 m76))) rfl rfl (ltb rfl) ?_
   rintro _ w77 ⟨r_12, a9, s31, rfl, h119, h120, h121, h122, r170, m77⟩
   refine WD (op_fieldAddr (off' := 11) rfl Try.runUnderlying33 rfl rfl Try.sizeOf27 rfl) rfl ?_
   have r171 := ((r166.mod m76 (nC (lG (lL (lL q.lt sz54) lR)) nN)).mod m77 (nC (lG (lL (lL q.lt sz54) lR)) nN))
   refine WL.op0 (op_store (i := 11) (cs := [vF r_12]) rfl rfl rfl Try.sizeOf27 rfl r171 rfl (lB rfl) rfl) rfl rfl ?_
   rintro _ w78 ⟨r172, m78, z23⟩
   have r173 : Row w78 w73.heap.size 0 [vS bR'3 0 1 cR'3, vS bL'3 0 1 cL'3, vS bS'3 0 0 cS'3, vI 1, vF r_11, vF f7, vF 0, vF 0, vF 0, .bool ub5, vF f8, vF r_12, vF 3200253952] := Row.congr r172 rfl
   refine WL.end (NE.code (CE.region ?_))
   refine WD (op_move rfl) rfl ?_
   have r174 := (Rng.youngS r (rng0 ln nbp (rng0 ln nbp r168 m76) m77) m78 (allge_cons (lT sz54 lR) allge_nil))
   refine WL.call (oc_call (vs := [vP p 0]) (cap := []) rfl rfl rfl Try.call61 (c_l01PlainT n c A b o xs a9 s31 p ln hA hB (by omega) (by omega) (by omega) (by first | assumption | (intro h0; have hlt := Rng.lt r (by rw [bys_len, ln]; exact h0); omega)) w78 (r170.mod m78 (nC (lE (lL (lL q.lt sz54) lR)) nN)) r174)) rfl rfl (ltb rfl) ?_
   rintro _ w79 ⟨r_13, a10, s32, rfl, h123, h124, h125, h126, r175, m79⟩
   refine WD (op_fieldAddr (off' := 12) rfl Try.runUnderlying33 rfl rfl Try.sizeOf27 rfl) rfl ?_
   refine WL.op0 (op_store (i := 12) (cs := [vF r_13]) rfl rfl rfl Try.sizeOf27 rfl (r173.mod m79 (nC (lG (lL (lL q.lt sz54) lR)) nN)) rfl (lB rfl) rfl) rfl rfl ?_
   rintro _ w80 ⟨r176, m80, z24⟩
   have r177 : Row w80 w73.heap.size 0 [vS bR'3 0 1 cR'3, vS bL'3 0 1 cL'3, vS bS'3 0 0 cS'3, vI 1, vF r_11, vF f7, vF 0, vF 0, vF 0, .bool ub5, vF f8, vF r_12, vF r_13] := Row.congr r176 rfl
   refine WL.end (NE.code (CE.seq (CE.seq (CE.region ?_))))
   refine WD (op_move rfl) rfl ?_
   have r178 := (Rng.youngS r (rng0 ln nbp r174 m79) m80 (allge_cons (lT sz54 lR) allge_nil))
   refine WL.call (oc_call (vs := [vP p 0, vI 12]) (cap := []) rfl rfl rfl Try.call54 (c_pick n c A b o xs a10 s32 p 12 ln hA hB (by omega) (by omega) (by omega) (by omega) (by omega) w80 (r175.mod m80 (nC (lE (lL (lL q.lt sz54) lR)) nN)) r178)) rfl rfl (ltb rfl) ?_
   rintro _ w81 ⟨u17, s33, rfl, h127, h128, r179, m81⟩
   refine WD (op_assign rfl) rfl ?_
   refine WL.end (NE.code (CE.block ?_))
   have sz55 := SzLe.mk (lT (lT (lT (lT (lT (lT sz53 m7.size) m68.size) m69.size) m70.size) m71.size) m72.size)
   have r180 := ((((((((r161.ext m74).mod m75 (nC (lE (lL r161.lt lR)) nN)).mod m76 (nC (lG (lL (lL q.lt sz55) ge9)) nN)).mod m77 (nC (lG (lL (lL q.lt sz55) ge9)) nN)).mod m78 (nC (lE (lL r161.lt lR)) nN)).mod m79 (nC (lG (lL (lL q.lt sz55) ge9)) nN)).mod m80 (nC (lE (lL r161.lt lR)) nN)).mod m81 (nC (lG (lL (lL q.lt sz55) ge9)) nN))
   have r181 := ((((((((r162.ext m74).mod m75 (nC (lE (lL r162.lt lR)) nN)).mod m76 (nC (lG (lL (lL q.lt sz55) ge10)) nN)).mod m77 (nC (lG (lL (lL q.lt sz55) ge10)) nN)).mod m78 (nC (lE (lL r162.lt lR)) nN)).mod m79 (nC (lG (lL (lL q.lt sz55) ge10)) nN)).mod m80 (nC (lE (lL r162.lt lR)) nN)).mod m81 (nC (lG (lL (lL q.lt sz55) ge10)) nN))
   refine CE.loop (fun (z : Nat × PipeSt × Nat × Nat) => [(10, vI ((z.1 : Nat) : Int)), (0, vP p 0), (2, vP w.heap.size 0), (8, vP w73.heap.size 0)]) (fun (z : Nat × PipeSt × Nat × Nat) => fun W => (z.1 ≤ 11) ∧ (DPi 1 0 [] r_11 f7 f8 r_12 r_13 z.2.1 (11 - z.1)) ∧ (z.2.2.1 ≤ 1000 - 20 * z.1) ∧ (z.2.2.2 < 18446744073709551616) ∧ Row W w73.heap.size 0 [vS bR'3 0 1 cR'3, vS bL'3 0 1 cL'3, vS bS'3 0 0 cS'3, vI 1, vF r_11, vF f7, vF 0, vF (z.2.1.s0), vF (z.2.1.s1), .bool ub5, vF f8, vF r_12, vF r_13] ∧ Row W bR'3 0 (olc z.2.1.R PR'3) ∧ Row W bL'3 0 (olc z.2.1.L PL'3) ∧ Row W p 0 [.slice A n c, vI ((z.2.2.1 : Nat) : Int), .int .u64 ((z.2.2.2 : Nat) : Int)] ∧ OF w72.heap.size W z.2.1.R PR'3 ∧ OF w72.heap.size W z.2.1.L PL'3 ∧ Mod (p :: w73.heap.size :: bR'3 :: bL'3 :: (PR'3.map BC.b ++ (PL'3.map BC.b ++ []))) w81 W) (fun (z : Nat × PipeSt × Nat × Nat) => z.1) (u17, zz3, (a10 + 1), s33) (⟨rfl, rfl, rfl, rfl, trivial⟩) ⟨(by dsimp only; omega), (by first | exact DPi.mono (by assumption) (by omega) (by omega) | exact DPi.mono (DPi.reed (by assumption) (Bd.mono (by assumption) (by omega)) (Bd.mono (by assumption) (by omega))) (by omega) (by omega)), (by dsimp only; omega), (by dsimp only; assumption), (Row.congr (r177.mod m81 (nC (lG (lL (lL q.lt sz54) lR)) nN)) (by simp only [*])), (Row.congr r180 rfl), (Row.congr r181 rfl), (Row.congr r179 rfl), ((((((((fm21.ext m74).mod m75 (fun j hj => (nC (lE (lL (OF.lt fm21 (lQ (lQ hj h113) h113.symm)) lR)) nN))).mod m76 (fun j hj => (nC (lG (lL (lL q.lt sz55) (fm21.ge j (lQ (lQ hj h113) h113.symm)))) nN))).mod m77 (fun j hj => (nC (lG (lL (lL q.lt sz55) (fm21.ge j (lQ (lQ hj h113) h113.symm)))) nN))).mod m78 (fun j hj => (nC (lE (lL (OF.lt fm21 (lQ (lQ hj h113) h113.symm)) lR)) nN))).mod m79 (fun j hj => (nC (lG (lL (lL q.lt sz55) (fm21.ge j (lQ (lQ hj h113) h113.symm)))) nN))).mod m80 (fun j hj => (nC (lE (lL (OF.lt fm21 (lQ (lQ hj h113) h113.symm)) lR)) nN))).mod m81 (fun j hj => (nC (lG (lL (lL q.lt sz55) (fm21.ge j (lQ (lQ hj h113) h113.symm)))) nN))), ((((((((fm22.ext m74).mod m75 (fun j hj => (nC (lE (lL (OF.lt fm22 (lQ (lQ hj h114) h114.symm)) lR)) nN))).mod m76 (fun j hj => (nC (lG (lL (lL q.lt sz55) (fm22.ge j (lQ (lQ hj h114) h114.symm)))) nN))).mod m77 (fun j hj => (nC (lG (lL (lL q.lt sz55) (fm22.ge j (lQ (lQ hj h114) h114.symm)))) nN))).mod m78 (fun j hj => (nC (lE (lL (OF.lt fm22 (lQ (lQ hj h114) h114.symm)) lR)) nN))).mod m79 (fun j hj => (nC (lG (lL (lL q.lt sz55) (fm22.ge j (lQ (lQ hj h114) h114.symm)))) nN))).mod m80 (fun j hj => (nC (lE (lL (OF.lt fm22 (lQ (lQ hj h114) h114.symm)) lR)) nN))).mod m81 (fun j hj => (nC (lG (lL (lL q.lt sz55) (fm22.ge j (lQ (lQ hj h114) h114.symm)))) nN))), Mod.refl _ _⟩ ?_
   rintro ⟨kk, z, at_, s⟩ w82 ⟨hkk, hdz, hat, hs, r182, r183, r184, r185, fm23, fm24, m82⟩
   replace hkk : kk ≤ 11 := hkk
   replace hdz : DPi 1 0 [] r_11 f7 f8 r_12 r_13 z (11 - kk) := hdz
   replace hat : at_ ≤ 1000 - 20 * kk := hat
   replace hs : s < 18446744073709551616 := hs
   replace r182 : Row w82 w73.heap.size 0 [vS bR'3 0 1 cR'3, vS bL'3 0 1 cL'3, vS bS'3 0 0 cS'3, vI 1, vF r_11, vF f7, vF 0, vF (z.s0), vF (z.s1), .bool ub5, vF f8, vF r_12, vF r_13] := r182
   replace r183 : Row w82 bR'3 0 (olc z.R PR'3) := r183
   replace r184 : Row w82 bL'3 0 (olc z.L PL'3) := r184
   replace r185 : Row w82 p 0 [.slice A n c, vI ((at_ : Nat) : Int), .int .u64 ((s : Nat) : Int)] := r185
   replace fm23 : OF w72.heap.size w82 z.R PR'3 := fm23
   replace fm24 : OF w72.heap.size w82 z.L PL'3 := fm24
   have hg1 := hdz.dz.gR
   have hg2 := hdz.dz.gL
   have hg3 := hdz.dz.small.1
   have hg4 := hdz.dz.small.2
   have hs9 : z.s1 < wid .f32 := by rw [hdz.dz.w1, wid32]; omega
   show CE _ _ _ _ [(10, vI ((kk : Nat) : Int)), (0, vP p 0), (2, vP w.heap.size 0), (8, vP w73.heap.size 0)] _
   refine CE.seq (CE.seq (CE.region ?_))
   refine WD (op_move rfl) rfl ?_
   refine WD (op_gti rfl rfl) rfl ?_
   refine WL.end (NE.code ?_)
   rcases Bool.eq_false_or_eq_true (decide ((0 : Int) < ((kk : Nat) : Int))) with hb13 | hb13
   ·have hp13 := of_decide_eq_true hb13
    refine CE.cond_t rfl hb13 ?_
    refine CE.skip' (NE.code (CE.seq (CE.block (CE.region ?_))))
    refine WD (op_move rfl) rfl ?_
    have r186 := (rng0S ln nbp r (rng0 ln nbp r178 m81) m82 (allge_cons (lT sz54 lR) (allge_cons (lT sz55 ge9) (allge_cons (lT sz55 ge10) (gA h110 (fun j hj => (lT sz55 (fm23.ge j (lQ hj (hdz.dz.lR).symm)))) (gA h111 (fun j hj => (lT sz55 (fm24.ge j (lQ hj (hdz.dz.lL).symm)))) allge_nil))))))
    refine WL.call (oc_call (vs := [vP p 0]) (cap := []) rfl rfl rfl Try.call61 (c_l01PlainT n c A b o xs at_ s p ln hA hB (by omega) (by omega) (by omega) (by first | assumption | (intro h0; have hlt := Rng.lt r (by rw [bys_len, ln]; exact h0); omega)) w82 r185 r186)) rfl rfl (ltb rfl) ?_
    rintro _ w83 ⟨r_14, a11, s34, rfl, h129, h130, h131, h132, r187, m83⟩
    have r188 := ((((((((((r163.ext m74).mod m75 (nC (lE (lL r163.lt lR)) nN)).mod m76 (nC (lG (lL (lL q.lt sz55) ge11)) nN)).mod m77 (nC (lG (lL (lL q.lt sz55) ge11)) nN)).mod m78 (nC (lE (lL r163.lt lR)) nN)).mod m79 (nC (lG (lL (lL q.lt sz55) ge11)) nN)).mod m80 (nC (lE (lL r163.lt lR)) nN)).mod m81 (nC (lG (lL (lL q.lt sz55) ge11)) nN)).mod m82 (nC (lG (lL (lL q.lt sz55) ge11)) (nC (lE (lL r163.lt lR)) (nC (Ne.symm ne8) (nC (Ne.symm ne9) (nA h110 (fun j hj => (fn17 j hj)) (nA h111 (fun j hj => (fn21 j hj)) nN))))))).mod m83 (nC (lG (lL (lL q.lt sz55) ge11)) nN))
    refine WL.call (oc_call (vs := [vP w73.heap.size 0, vF r_14]) (cap := []) rfl rfl rfl Try.call60 (c_l04Step 1 z.R 1 z.L 0 [] cR'3 bR'3 PR'3 w72.heap.size cL'3 bL'3 PL'3 w72.heap.size cS'3 bS'3 (1 : Int) r_11 f7 0 (z.s0) (z.s1) ub5 f8 r_12 r_13 w73.heap.size r_14 r_14 (hdz.dz.lR) (hdz.dz.lL) rfl (by first | assumption | exact rd_small (by assumption) (by assumption) | exact markD_small (by first | assumption | exact rd_small (by assumption) (by assumption)) _) (by first | assumption | exact rd_small (by assumption) (by assumption) | exact markD_small (by first | assumption | exact rd_small (by assumption) (by assumption)) _) h110 h111 (by first | assumption | omega) (by first | assumption | omega) (by first | assumption | omega) (by first | assumption | omega) (by assumption) (by assumption) (hdz.dz.w0) hs9 rfl h129 w83 (r182.mod m83 (nC (lG (lL (lL q.lt sz54) lR)) nN)) (r183.mod m83 (nC (lG (lL (lL q.lt sz55) ge9)) nN)) (r184.mod m83 (nC (lG (lL (lL q.lt sz55) ge10)) nN)) r188.rng (lG (lL r161.lt lR)) (lG (lL r162.lt lR)) (lG (lL r163.lt lR)) ne7 ne8 ne9 (fm23.mod m83 (fun j hj => (nC (lG (lL (lL q.lt sz55) (fm23.ge j (lQ (lQ hj (hdz.dz.lR)) (hdz.dz.lR).symm)))) nN))) (fun j hj => (lE (lL (OF.lt fm21 (lQ hj h113.symm)) lR))) (fun j hj => (fn15 j hj)) (fun j hj => (fn16 j hj)) (fun j hj => (fn17 j hj)) (fun j q hj hq => (fn18 j q hj hq)) (fm24.mod m83 (fun j hj => (nC (lG (lL (lL q.lt sz55) (fm24.ge j (lQ (lQ hj (hdz.dz.lL)) (hdz.dz.lL).symm)))) nN))) (fun j hj => (lE (lL (OF.lt fm22 (lQ hj h114.symm)) lR))) (fun j hj => (fn19 j hj)) (fun j hj => (fn20 j hj)) (fun j hj => (fn21 j hj)))) rfl rfl (ltb rfl) ?_
    rintro _ w84 ⟨y5, rfl, h133, h134, h135, h136, h137, h138, r189, r190, r191, fm25, fm26, m84⟩
    refine WL.end (NE.blk (NE.code (CE.region ?_)))
    refine WD (op_move rfl) rfl ?_
    refine WD (op_sub (r := ((kk - 1 : Nat) : Int)) rfl rfl (w_nsub (l := kk) (n := 1) (by omega) (by omega))) rfl ?_
    refine WD (op_assign rfl) rfl ?_
    refine WL.end ?_
    have r192 := (r187.mod m84 (nC (lE (lL (lL q.lt sz54) lR)) (nC (lE (lL (lL q.lt sz55) ge9)) (nC (lE (lL (lL q.lt sz55) ge10)) (nA h110 (fun j hj => (lG (lL (lL q.lt sz55) (fm25.ge j (lQ hj (stR_len (hdz.dz.lR) _).symm))))) (nA h111 (fun j hj => (lG (lL (lL q.lt sz55) (fm26.ge j (lQ hj (endL_len (hdz.dz.lL)).symm))))) nN))))))
    exact NE.again ((kk - 1), (pipeNext 1 0 [] 1 r_11 f7 0 ub5 f8 r_12 r_13 z r_14), a11, s34) (⟨rfl, rfl, rfl, rfl, trivial⟩) ⟨(by dsimp only; omega), (by exact DPi.mono (hdz.next (by assumption) (by omega)) (by omega) (by omega)), (by dsimp only; omega), (by assumption), (Row.congr r189 rfl), (Row.congr r190 rfl), (Row.congr r191 rfl), (Row.congr r192 rfl), (OF.congr fm25 rfl), (OF.congr fm26 rfl), ((m82.then m83 ((aC (.inl (by simp)) aN))).then m84 ((aC (.inl (by simp)) (aC (.inl (by simp)) (aC (.inl (by simp)) (aI (fun x hx => by simp only [List.mem_cons, List.mem_append, hx, true_or, or_true]) (aI (fun x hx => by simp only [List.mem_cons, List.mem_append, hx, true_or, or_true]) aN)))))))⟩ (by first | (dsimp only; omega) | omega)
   ·have hp13 := of_decide_eq_false hb13
    refine CE.cond_f rfl hb13 ?_
    refine CE.exit' (XE.exit_then (XE.exit_then (XE.exit_here (NE.code (CE.seq (CE.region ?_))))))
    refine WD (op_loadA (i := 0) (cs := [vS bR'3 0 1 cR'3, vS bL'3 0 1 cL'3, vS bS'3 0 0 cS'3, vI 1, vF r_11, vF f7, vF 0, vF (z.s0), vF (z.s1), .bool ub5, vF f8, vF r_12, vF r_13]) rfl Try.isAgg33 Try.sizeOf33 r182.rng rfl rfl rfl) rfl ?_
    have sz56 := SzLe.mk (lT (lT (lT (lT (lT (lT (lT (lT (lT (lT (lT m2.size m3.size) m4.size) m5.size) m6.size) m7.size) m68.size) m69.size) m70.size) m71.size) m72.size) m73.size)
    have sz57 := SzLe.mk (lT (lT (lT (lT (lT (lT (lT (lT (lT (lT m2.size m3.size) m4.size) m5.size) m6.size) m7.size) m68.size) m69.size) m70.size) m71.size) m72.size)
    have r193 := (((((((((((((((((((((r1.ext m2).ext m3).mod m4 (nC (lG (lL q.lt lR)) nN)).mod m5 (nC (lG (lL q.lt lR)) nN)).ext m6).ext m7).mod m68 (nC (lG (lL q.lt lR)) nN)).mod m69 (nC (lG (lL q.lt lR)) nN)).ext m70).mod m71 (nC (lG (lL q.lt lR)) nN)).ext m72).ext m73).ext m74).mod m75 (nC (lE (lL (lL r1.lt sz56) lR)) nN)).mod m76 (nC (lG (lL q.lt lR)) nN)).mod m77 (nC (lG (lL q.lt lR)) nN)).mod m78 (nC (lE (lL (lL r1.lt sz56) lR)) nN)).mod m79 (nC (lG (lL q.lt lR)) nN)).mod m80 (nC (lE (lL (lL r1.lt sz56) lR)) nN)).mod m81 (nC (lG (lL q.lt lR)) nN)).mod m82 (nC (lG (lL q.lt lR)) (nC (lE (lL (lL r1.lt sz56) lR)) (nC (lE (lL (lL r1.lt sz57) ge9)) (nC (lE (lL (lL r1.lt sz57) ge10)) (nA h110 (fun j hj => (lG (lL (lL r1.lt sz57) (fm23.ge j (lQ hj (hdz.dz.lR).symm))))) (nA h111 (fun j hj => (lG (lL (lL r1.lt sz57) (fm24.ge j (lQ hj (hdz.dz.lL).symm))))) nN)))))))
    refine WL.op0 (op_store (i := 0) (cs := [vS bR'3 0 1 cR'3, vS bL'3 0 1 cL'3, vS bS'3 0 0 cS'3, vI 1, vF r_11, vF f7, vF 0, vF (z.s0), vF (z.s1), .bool ub5, vF f8, vF r_12, vF r_13]) rfl rfl rfl Try.sizeOf33 rfl r193 rfl (lB rfl) rfl) rfl rfl ?_
    rintro _ w85 ⟨r194, m85, z25⟩
    have r195 : Row w85 w.heap.size 0 [vS bR'3 0 1 cR'3, vS bL'3 0 1 cL'3, vS bS'3 0 0 cS'3, vI 1, vF r_11, vF f7, vF 0, vF (z.s0), vF (z.s1), .bool ub5, vF f8, vF r_12, vF r_13] := Row.congr r194 rfl
    refine WL.end (NE.code (CE.ret' ?_))
    refine XE.leaveC Try.results90 (res_agg (cs := [vS bR'3 0 1 cR'3, vS bL'3 0 1 cL'3, vS bS'3 0 0 cS'3, vI 1, vF r_11, vF f7, vF 0, vF (z.s0), vF (z.s1), .bool ub5, vF f8, vF r_12, vF r_13]) rfl Try.isAgg33 Try.sizeOf33 r195.rng rfl res_nil) ?_
    have r196 := ((((((((((r163.ext m74).mod m75 (nC (lE (lL r163.lt lR)) nN)).mod m76 (nC (lG (lL (lL q.lt sz55) ge11)) nN)).mod m77 (nC (lG (lL (lL q.lt sz55) ge11)) nN)).mod m78 (nC (lE (lL r163.lt lR)) nN)).mod m79 (nC (lG (lL (lL q.lt sz55) ge11)) nN)).mod m80 (nC (lE (lL r163.lt lR)) nN)).mod m81 (nC (lG (lL (lL q.lt sz55) ge11)) nN)).mod m82 (nC (lG (lL (lL q.lt sz55) ge11)) (nC (lE (lL r163.lt lR)) (nC (Ne.symm ne8) (nC (Ne.symm ne9) (nA h110 (fun j hj => (fn17 j hj)) (nA h111 (fun j hj => (fn21 j hj)) nN))))))).mod m85 (nC (lG (lL (lL r1.lt sz57) ge11)) nN))
    refine ⟨bR'3, cR'3, PR'3, bL'3, cL'3, PL'3, bS'3, cS'3, 1, 0, [], r_11, f7, ub5, f8, r_12, r_13, z, ?_, ?_, ?_, ?_, ?_, ?_, ?_, ?_, (r183.mod m85 (nC (lG (lL (lL r1.lt sz57) ge9)) nN)), (r184.mod m85 (nC (lG (lL (lL r1.lt sz57) ge10)) nN)), r196, (lT sz55 ge9), (lT sz55 ge10), (lT sz55 ge11), ne7, ne8, ne9, (OF.low (fm23.mod m85 (fun j hj => (nC (lG (lL (lL r1.lt sz57) (fm23.ge j (lQ (lQ hj (hdz.dz.lR)) (hdz.dz.lR).symm)))) nN))) sz55), (fun j hj => (fn15 j (show j < 1 by omega))), (fun j hj => (fn16 j (show j < 1 by omega))), (fun j hj => (fn17 j (show j < 1 by omega))), (fun j q hj hq => (fn18 j q (show j < 1 by omega) (show q < 1 by omega))), (OF.low (fm24.mod m85 (fun j hj => (nC (lG (lL (lL r1.lt sz57) (fm24.ge j (lQ (lQ hj (hdz.dz.lL)) (hdz.dz.lL).symm)))) nN))) sz55), (fun j hj => (fn19 j (show j < 1 by omega))), (fun j hj => (fn20 j (show j < 1 by omega))), (fun j hj => (fn21 j (show j < 1 by omega))), ((((((((((((((((((((((((Mod.refl [p] w).nt m1).nt m2).nt m3).then m4 ((aC (.inl (by simp)) aN))).then m5 ((aC (.inl (by simp)) aN))).nt m6).nt m7).then m68 ((aC (.inl (by simp)) aN))).then m69 ((aC (.inl (by simp)) aN))).nt m70).then m71 ((aC (.inl (by simp)) aN))).nt m72).nt m73).nt m74).then m75 ((aC (.inr (lT sz54 lR)) aN))).then m76 ((aC (.inl (by simp)) aN))).then m77 ((aC (.inl (by simp)) aN))).then m78 ((aC (.inr (lT sz54 lR)) aN))).then m79 ((aC (.inl (by simp)) aN))).then m80 ((aC (.inr (lT sz54 lR)) aN))).then m81 ((aC (.inl (by simp)) aN))).then m82 ((aC (.inl (by simp)) (aC (.inr (lT sz54 lR)) (aC (.inr (lT sz55 ge9)) (aC (.inr (lT sz55 ge10)) (aA h110 (fun j hj => (lT sz55 (fm23.ge j (lQ hj (hdz.dz.lR).symm)))) (aA h111 (fun j hj => (lT sz55 (fm24.ge j (lQ hj (hdz.dz.lL).symm)))) aN)))))))).then m85 ((aC (.inr lR) aN)))⟩
    all_goals first | assumption | rfl | exact hdz.dz.lR | exact hdz.dz.lL | exact hdz.dz.lS | omega | (have e9 : kk = 0 := (by omega); rw [e9] at hdz; exact hdz.dz) | exact hdz.zi (by omega)
  ·refine CE.cond_f rfl hb12 ?_
   refine CE.skip' (NE.code (CE.seq (CE.seq (CE.region ?_))))
   refine WD (op_move rfl) rfl ?_
   refine WL.call (oc_call (vs := [vP p 0, vI 12]) (cap := []) rfl rfl rfl Try.call54 (c_pick n c A b o xs ((((((at_ + 1) + 1) + 1) + 1) + 1) + 1) s30 p 12 ln hA hB (by omega) (by omega) (by omega) (by omega) (by omega) w76 r169 (rng0 ln nbp r168 m76))) rfl rfl (ltb rfl) ?_
   rintro _ w86 ⟨u18, s35, rfl, h139, h140, r197, m86⟩
   refine WD (op_assign rfl) rfl ?_
   refine WL.end (NE.code (CE.block ?_))
   have r198 := ((r166.mod m76 (nC (lG (lL (lL q.lt sz54) lR)) nN)).mod m86 (nC (lG (lL (lL q.lt sz54) lR)) nN))
   have sz58 := SzLe.mk (lT (lT (lT (lT (lT (lT sz53 m7.size) m68.size) m69.size) m70.size) m71.size) m72.size)
   have r199 := ((((r161.ext m74).mod m75 (nC (lE (lL r161.lt lR)) nN)).mod m76 (nC (lG (lL (lL q.lt sz58) ge9)) nN)).mod m86 (nC (lG (lL (lL q.lt sz58) ge9)) nN))
   have r200 := ((((r162.ext m74).mod m75 (nC (lE (lL r162.lt lR)) nN)).mod m76 (nC (lG (lL (lL q.lt sz58) ge10)) nN)).mod m86 (nC (lG (lL (lL q.lt sz58) ge10)) nN))
   refine CE.loop (fun (z : Nat × PipeSt × Nat × Nat) => [(10, vI ((z.1 : Nat) : Int)), (0, vP p 0), (2, vP w.heap.size 0), (8, vP w73.heap.size 0)]) (fun (z : Nat × PipeSt × Nat × Nat) => fun W => (z.1 ≤ 11) ∧ (DPi 1 0 [] r_11 f7 f8 1061158912 3200253952 z.2.1 (11 - z.1)) ∧ (z.2.2.1 ≤ 1000 - 20 * z.1) ∧ (z.2.2.2 < 18446744073709551616) ∧ Row W w73.heap.size 0 [vS bR'3 0 1 cR'3, vS bL'3 0 1 cL'3, vS bS'3 0 0 cS'3, vI 1, vF r_11, vF f7, vF 0, vF (z.2.1.s0), vF (z.2.1.s1), .bool ub5, vF f8, vF 1061158912, vF 3200253952] ∧ Row W bR'3 0 (olc z.2.1.R PR'3) ∧ Row W bL'3 0 (olc z.2.1.L PL'3) ∧ Row W p 0 [.slice A n c, vI ((z.2.2.1 : Nat) : Int), .int .u64 ((z.2.2.2 : Nat) : Int)] ∧ OF w72.heap.size W z.2.1.R PR'3 ∧ OF w72.heap.size W z.2.1.L PL'3 ∧ Mod (p :: w73.heap.size :: bR'3 :: bL'3 :: (PR'3.map BC.b ++ (PL'3.map BC.b ++ []))) w86 W) (fun (z : Nat × PipeSt × Nat × Nat) => z.1) (u18, zz3, (((((((at_ + 1) + 1) + 1) + 1) + 1) + 1) + 1), s35) (⟨rfl, rfl, rfl, rfl, trivial⟩) ⟨(by dsimp only; omega), (by first | exact DPi.mono (by assumption) (by omega) (by omega) | exact DPi.mono (DPi.reed (by assumption) (Bd.mono (by assumption) (by omega)) (Bd.mono (by assumption) (by omega))) (by omega) (by omega)), (by dsimp only; omega), (by dsimp only; assumption), (Row.congr r198 (by simp only [*])), (Row.congr r199 rfl), (Row.congr r200 rfl), (Row.congr r197 rfl), ((((fm21.ext m74).mod m75 (fun j hj => (nC (lE (lL (OF.lt fm21 (lQ (lQ hj h113) h113.symm)) lR)) nN))).mod m76 (fun j hj => (nC (lG (lL (lL q.lt sz58) (fm21.ge j (lQ (lQ hj h113) h113.symm)))) nN))).mod m86 (fun j hj => (nC (lG (lL (lL q.lt sz58) (fm21.ge j (lQ (lQ hj h113) h113.symm)))) nN))), ((((fm22.ext m74).mod m75 (fun j hj => (nC (lE (lL (OF.lt fm22 (lQ (lQ hj h114) h114.symm)) lR)) nN))).mod m76 (fun j hj => (nC (lG (lL (lL q.lt sz58) (fm22.ge j (lQ (lQ hj h114) h114.symm)))) nN))).mod m86 (fun j hj => (nC (lG (lL (lL q.lt sz58) (fm22.ge j (lQ (lQ hj h114) h114.symm)))) nN))), Mod.refl _ _⟩ ?_
   rintro ⟨kk, z, at_, s⟩ w87 ⟨hkk, hdz, hat, hs, r201, r202, r203, r204, fm27, fm28, m87⟩
   replace hkk : kk ≤ 11 := hkk
   replace hdz : DPi 1 0 [] r_11 f7 f8 1061158912 3200253952 z (11 - kk) := hdz
   replace hat : at_ ≤ 1000 - 20 * kk := hat
   replace hs : s < 18446744073709551616 := hs
   replace r201 : Row w87 w73.heap.size 0 [vS bR'3 0 1 cR'3, vS bL'3 0 1 cL'3, vS bS'3 0 0 cS'3, vI 1, vF r_11, vF f7, vF 0, vF (z.s0), vF (z.s1), .bool ub5, vF f8, vF 1061158912, vF 3200253952] := r201
   replace r202 : Row w87 bR'3 0 (olc z.R PR'3) := r202
   replace r203 : Row w87 bL'3 0 (olc z.L PL'3) := r203
   replace r204 : Row w87 p 0 [.slice A n c, vI ((at_ : Nat) : Int), .int .u64 ((s : Nat) : Int)] := r204
   replace fm27 : OF w72.heap.size w87 z.R PR'3 := fm27
   replace fm28 : OF w72.heap.size w87 z.L PL'3 := fm28
   have hg1 := hdz.dz.gR
   have hg2 := hdz.dz.gL
   have hg3 := hdz.dz.small.1
   have hg4 := hdz.dz.small.2
   have hs9 : z.s1 < wid .f32 := by rw [hdz.dz.w1, wid32]; omega
   show CE _ _ _ _ [(10, vI ((kk : Nat) : Int)), (0, vP p 0), (2, vP w.heap.size 0), (8, vP w73.heap.size 0)] _
   refine CE.seq (CE.seq (CE.region ?_))
   refine WD (op_move rfl) rfl ?_
   refine WD (op_gti rfl rfl) rfl ?_
   refine WL.end (NE.code ?_)
   rcases Bool.eq_false_or_eq_true (decide ((0 : Int) < ((kk : Nat) : Int))) with hb14 | hb14
   ·have hp14 := of_decide_eq_true hb14
    refine CE.cond_t rfl hb14 ?_
    refine CE.skip' (NE.code (CE.seq (CE.block (CE.region ?_))))
    refine WD (op_move rfl) rfl ?_
    have r205 := (rng0S ln nbp r (rng0 ln nbp (rng0 ln nbp r168 m76) m86) m87 (allge_cons (lT sz54 lR) (allge_cons (lT sz58 ge9) (allge_cons (lT sz58 ge10) (gA h110 (fun j hj => (lT sz58 (fm27.ge j (lQ hj (hdz.dz.lR).symm)))) (gA h111 (fun j hj => (lT sz58 (fm28.ge j (lQ hj (hdz.dz.lL).symm)))) allge_nil))))))
    refine WL.call (oc_call (vs := [vP p 0]) (cap := []) rfl rfl rfl Try.call61 (c_l01PlainT n c A b o xs at_ s p ln hA hB (by omega) (by omega) (by omega) (by first | assumption | (intro h0; have hlt := Rng.lt r (by rw [bys_len, ln]; exact h0); omega)) w87 r204 r205)) rfl rfl (ltb rfl) ?_
    rintro _ w88 ⟨r_15, a12, s36, rfl, h141, h142, h143, h144, r206, m88⟩
    have r207 := ((((((r163.ext m74).mod m75 (nC (lE (lL r163.lt lR)) nN)).mod m76 (nC (lG (lL (lL q.lt sz58) ge11)) nN)).mod m86 (nC (lG (lL (lL q.lt sz58) ge11)) nN)).mod m87 (nC (lG (lL (lL q.lt sz58) ge11)) (nC (lE (lL r163.lt lR)) (nC (Ne.symm ne8) (nC (Ne.symm ne9) (nA h110 (fun j hj => (fn17 j hj)) (nA h111 (fun j hj => (fn21 j hj)) nN))))))).mod m88 (nC (lG (lL (lL q.lt sz58) ge11)) nN))
    refine WL.call (oc_call (vs := [vP w73.heap.size 0, vF r_15]) (cap := []) rfl rfl rfl Try.call60 (c_l04Step 1 z.R 1 z.L 0 [] cR'3 bR'3 PR'3 w72.heap.size cL'3 bL'3 PL'3 w72.heap.size cS'3 bS'3 (1 : Int) r_11 f7 0 (z.s0) (z.s1) ub5 f8 1061158912 3200253952 w73.heap.size r_15 r_15 (hdz.dz.lR) (hdz.dz.lL) rfl (by first | assumption | exact rd_small (by assumption) (by assumption) | exact markD_small (by first | assumption | exact rd_small (by assumption) (by assumption)) _) (by first | assumption | exact rd_small (by assumption) (by assumption) | exact markD_small (by first | assumption | exact rd_small (by assumption) (by assumption)) _) h110 h111 (by first | assumption | omega) (by first | assumption | omega) (by first | assumption | omega) (by first | assumption | omega) (by assumption) (by assumption) (hdz.dz.w0) hs9 rfl h141 w88 (r201.mod m88 (nC (lG (lL (lL q.lt sz54) lR)) nN)) (r202.mod m88 (nC (lG (lL (lL q.lt sz58) ge9)) nN)) (r203.mod m88 (nC (lG (lL (lL q.lt sz58) ge10)) nN)) r207.rng (lG (lL r161.lt lR)) (lG (lL r162.lt lR)) (lG (lL r163.lt lR)) ne7 ne8 ne9 (fm27.mod m88 (fun j hj => (nC (lG (lL (lL q.lt sz58) (fm27.ge j (lQ (lQ hj (hdz.dz.lR)) (hdz.dz.lR).symm)))) nN))) (fun j hj => (lE (lL (OF.lt fm21 (lQ hj h113.symm)) lR))) (fun j hj => (fn15 j hj)) (fun j hj => (fn16 j hj)) (fun j hj => (fn17 j hj)) (fun j q hj hq => (fn18 j q hj hq)) (fm28.mod m88 (fun j hj => (nC (lG (lL (lL q.lt sz58) (fm28.ge j (lQ (lQ hj (hdz.dz.lL)) (hdz.dz.lL).symm)))) nN))) (fun j hj => (lE (lL (OF.lt fm22 (lQ hj h114.symm)) lR))) (fun j hj => (fn19 j hj)) (fun j hj => (fn20 j hj)) (fun j hj => (fn21 j hj)))) rfl rfl (ltb rfl) ?_
    rintro _ w89 ⟨y6, rfl, h145, h146, h147, h148, h149, h150, r208, r209, r210, fm29, fm30, m89⟩
    refine WL.end (NE.blk (NE.code (CE.region ?_)))
    refine WD (op_move rfl) rfl ?_
    refine WD (op_sub (r := ((kk - 1 : Nat) : Int)) rfl rfl (w_nsub (l := kk) (n := 1) (by omega) (by omega))) rfl ?_
    refine WD (op_assign rfl) rfl ?_
    refine WL.end ?_
    have r211 := (r206.mod m89 (nC (lE (lL (lL q.lt sz54) lR)) (nC (lE (lL (lL q.lt sz58) ge9)) (nC (lE (lL (lL q.lt sz58) ge10)) (nA h110 (fun j hj => (lG (lL (lL q.lt sz58) (fm29.ge j (lQ hj (stR_len (hdz.dz.lR) _).symm))))) (nA h111 (fun j hj => (lG (lL (lL q.lt sz58) (fm30.ge j (lQ hj (endL_len (hdz.dz.lL)).symm))))) nN))))))
    exact NE.again ((kk - 1), (pipeNext 1 0 [] 1 r_11 f7 0 ub5 f8 1061158912 3200253952 z r_15), a12, s36) (⟨rfl, rfl, rfl, rfl, trivial⟩) ⟨(by dsimp only; omega), (by exact DPi.mono (hdz.next (by assumption) (by omega)) (by omega) (by omega)), (by dsimp only; omega), (by assumption), (Row.congr r208 rfl), (Row.congr r209 rfl), (Row.congr r210 rfl), (Row.congr r211 rfl), (OF.congr fm29 rfl), (OF.congr fm30 rfl), ((m87.then m88 ((aC (.inl (by simp)) aN))).then m89 ((aC (.inl (by simp)) (aC (.inl (by simp)) (aC (.inl (by simp)) (aI (fun x hx => by simp only [List.mem_cons, List.mem_append, hx, true_or, or_true]) (aI (fun x hx => by simp only [List.mem_cons, List.mem_append, hx, true_or, or_true]) aN)))))))⟩ (by first | (dsimp only; omega) | omega)
   ·have hp14 := of_decide_eq_false hb14
    refine CE.cond_f rfl hb14 ?_
    refine CE.exit' (XE.exit_then (XE.exit_then (XE.exit_here (NE.code (CE.seq (CE.region ?_))))))
    refine WD (op_loadA (i := 0) (cs := [vS bR'3 0 1 cR'3, vS bL'3 0 1 cL'3, vS bS'3 0 0 cS'3, vI 1, vF r_11, vF f7, vF 0, vF (z.s0), vF (z.s1), .bool ub5, vF f8, vF 1061158912, vF 3200253952]) rfl Try.isAgg33 Try.sizeOf33 r201.rng rfl rfl rfl) rfl ?_
    have sz59 := SzLe.mk (lT (lT (lT (lT (lT (lT (lT (lT (lT (lT (lT m2.size m3.size) m4.size) m5.size) m6.size) m7.size) m68.size) m69.size) m70.size) m71.size) m72.size) m73.size)
    have sz60 := SzLe.mk (lT (lT (lT (lT (lT (lT (lT (lT (lT (lT m2.size m3.size) m4.size) m5.size) m6.size) m7.size) m68.size) m69.size) m70.size) m71.size) m72.size)
    have r212 := (((((((((((((((((r1.ext m2).ext m3).mod m4 (nC (lG (lL q.lt lR)) nN)).mod m5 (nC (lG (lL q.lt lR)) nN)).ext m6).ext m7).mod m68 (nC (lG (lL q.lt lR)) nN)).mod m69 (nC (lG (lL q.lt lR)) nN)).ext m70).mod m71 (nC (lG (lL q.lt lR)) nN)).ext m72).ext m73).ext m74).mod m75 (nC (lE (lL (lL r1.lt sz59) lR)) nN)).mod m76 (nC (lG (lL q.lt lR)) nN)).mod m86 (nC (lG (lL q.lt lR)) nN)).mod m87 (nC (lG (lL q.lt lR)) (nC (lE (lL (lL r1.lt sz59) lR)) (nC (lE (lL (lL r1.lt sz60) ge9)) (nC (lE (lL (lL r1.lt sz60) ge10)) (nA h110 (fun j hj => (lG (lL (lL r1.lt sz60) (fm27.ge j (lQ hj (hdz.dz.lR).symm))))) (nA h111 (fun j hj => (lG (lL (lL r1.lt sz60) (fm28.ge j (lQ hj (hdz.dz.lL).symm))))) nN)))))))
    refine WL.op0 (op_store (i := 0) (cs := [vS bR'3 0 1 cR'3, vS bL'3 0 1 cL'3, vS bS'3 0 0 cS'3, vI 1, vF r_11, vF f7, vF 0, vF (z.s0), vF (z.s1), .bool ub5, vF f8, vF 1061158912, vF 3200253952]) rfl rfl rfl Try.sizeOf33 rfl r212 rfl (lB rfl) rfl) rfl rfl ?_
    rintro _ w90 ⟨r213, m90, z26⟩
    have r214 : Row w90 w.heap.size 0 [vS bR'3 0 1 cR'3, vS bL'3 0 1 cL'3, vS bS'3 0 0 cS'3, vI 1, vF r_11, vF f7, vF 0, vF (z.s0), vF (z.s1), .bool ub5, vF f8, vF 1061158912, vF 3200253952] := Row.congr r213 rfl
    refine WL.end (NE.code (CE.ret' ?_))
    refine XE.leaveC Try.results90 (res_agg (cs := [vS bR'3 0 1 cR'3, vS bL'3 0 1 cL'3, vS bS'3 0 0 cS'3, vI 1, vF r_11, vF f7, vF 0, vF (z.s0), vF (z.s1), .bool ub5, vF f8, vF 1061158912, vF 3200253952]) rfl Try.isAgg33 Try.sizeOf33 r214.rng rfl res_nil) ?_
    have r215 := ((((((r163.ext m74).mod m75 (nC (lE (lL r163.lt lR)) nN)).mod m76 (nC (lG (lL (lL q.lt sz58) ge11)) nN)).mod m86 (nC (lG (lL (lL q.lt sz58) ge11)) nN)).mod m87 (nC (lG (lL (lL q.lt sz58) ge11)) (nC (lE (lL r163.lt lR)) (nC (Ne.symm ne8) (nC (Ne.symm ne9) (nA h110 (fun j hj => (fn17 j hj)) (nA h111 (fun j hj => (fn21 j hj)) nN))))))).mod m90 (nC (lG (lL (lL r1.lt sz60) ge11)) nN))
    refine ⟨bR'3, cR'3, PR'3, bL'3, cL'3, PL'3, bS'3, cS'3, 1, 0, [], r_11, f7, ub5, f8, 1061158912, 3200253952, z, ?_, ?_, ?_, ?_, ?_, ?_, ?_, ?_, (r202.mod m90 (nC (lG (lL (lL r1.lt sz60) ge9)) nN)), (r203.mod m90 (nC (lG (lL (lL r1.lt sz60) ge10)) nN)), r215, (lT sz58 ge9), (lT sz58 ge10), (lT sz58 ge11), ne7, ne8, ne9, (OF.low (fm27.mod m90 (fun j hj => (nC (lG (lL (lL r1.lt sz60) (fm27.ge j (lQ (lQ hj (hdz.dz.lR)) (hdz.dz.lR).symm)))) nN))) sz58), (fun j hj => (fn15 j (show j < 1 by omega))), (fun j hj => (fn16 j (show j < 1 by omega))), (fun j hj => (fn17 j (show j < 1 by omega))), (fun j q hj hq => (fn18 j q (show j < 1 by omega) (show q < 1 by omega))), (OF.low (fm28.mod m90 (fun j hj => (nC (lG (lL (lL r1.lt sz60) (fm28.ge j (lQ (lQ hj (hdz.dz.lL)) (hdz.dz.lL).symm)))) nN))) sz58), (fun j hj => (fn19 j (show j < 1 by omega))), (fun j hj => (fn20 j (show j < 1 by omega))), (fun j hj => (fn21 j (show j < 1 by omega))), ((((((((((((((((((((Mod.refl [p] w).nt m1).nt m2).nt m3).then m4 ((aC (.inl (by simp)) aN))).then m5 ((aC (.inl (by simp)) aN))).nt m6).nt m7).then m68 ((aC (.inl (by simp)) aN))).then m69 ((aC (.inl (by simp)) aN))).nt m70).then m71 ((aC (.inl (by simp)) aN))).nt m72).nt m73).nt m74).then m75 ((aC (.inr (lT sz54 lR)) aN))).then m76 ((aC (.inl (by simp)) aN))).then m86 ((aC (.inl (by simp)) aN))).then m87 ((aC (.inl (by simp)) (aC (.inr (lT sz54 lR)) (aC (.inr (lT sz58 ge9)) (aC (.inr (lT sz58 ge10)) (aA h110 (fun j hj => (lT sz58 (fm27.ge j (lQ hj (hdz.dz.lR).symm)))) (aA h111 (fun j hj => (lT sz58 (fm28.ge j (lQ hj (hdz.dz.lL).symm)))) aN)))))))).then m90 ((aC (.inr lR) aN)))⟩
    all_goals first | assumption | rfl | exact hdz.dz.lR | exact hdz.dz.lL | exact hdz.dz.lS | omega | (have e9 : kk = 0 := (by omega); rw [e9] at hdz; exact hdz.dz) | exact hdz.zi (by omega)

theorem c_P6PipeI (n : Nat) (c : Nat) (A : Option Addr) (b : Nat) (o : Nat) (xs : List Nat) (ln : xs.length = n) (hA : 0 < n → A = some ⟨b, o, none⟩) (hB : ∀ i, xs.getD i 0 < 256) (hn : n ≤ 4611686018427387904) (w : World) (r : Rng w b o (bys xs)) : Cl Try.prog 33 #[.slice A n c] w fun v w' => ∃ (bR' : Nat) (cR' : Nat) (PR' : List BC) (bL' : Nat) (cL' : Nat) (PL' : List BC) (bS' : Nat) (cS' : Nat) (nR : Nat) (nS : Nat) (xS : List Nat) (kc0 : Nat) (kc1 : Nat) (op : Bool) (lo : Nat) (re : Nat) (sl : Nat) (zz : PipeSt), v = .agg #[vS bR' 0 nR cR', vS bL' 0 nR cL', vS bS' 0 nS cS', vI 1, vF kc0, vF kc1, vF 0, vF (zz.s0), vF (zz.s1), .bool op, vF lo, vF re, vF sl] ∧ (PR'.length = nR) ∧ (PL'.length = nR) ∧ (DPz nR nS xS kc0 kc1 lo re sl zz 25) ∧ (zz.R.length = nR) ∧ (zz.L.length = nR) ∧ (xS.length = nS) ∧ (ZI zz) ∧ Row w' bR' 0 (olc zz.R PR') ∧ Row w' bL' 0 (olc zz.L PL') ∧ Row w' bS' 0 (fl xS) ∧ w.heap.size ≤ bR' ∧ w.heap.size ≤ bL' ∧ w.heap.size ≤ bS' ∧ bR' ≠ bL' ∧ bR' ≠ bS' ∧ bL' ≠ bS' ∧ OF w.heap.size w' zz.R PR' ∧ (∀ i, i < nR → (PR'.getD i BC.d).b ≠ bR') ∧ (∀ i, i < nR → (PR'.getD i BC.d).b ≠ bL') ∧ (∀ i, i < nR → (PR'.getD i BC.d).b ≠ bS') ∧ (∀ i j, i < nR → j < nR → (PR'.getD i BC.d).b ≠ (PL'.getD j BC.d).b) ∧ OF w.heap.size w' zz.L PL' ∧ (∀ i, i < nR → (PL'.getD i BC.d).b ≠ bR') ∧ (∀ i, i < nR → (PL'.getD i BC.d).b ≠ bL') ∧ (∀ i, i < nR → (PL'.getD i BC.d).b ≠ bS') ∧ Mod [] w w' := by
 refine Cl.of Try.func33 Try.ntmps33 rfl rfl (ρ := [(0, .slice A n c)]) rfl ?_
 refine CE.seq (CE.region ?_)
 refine WL.op (op_alloc (cs := [.slice none 0 0, .slice none 0 0, .slice none 0 0, vI 0, vF 0, vF 0, vF 0, vF 0, vF 0, .bool false, vF 0, vF 0, vF 0]) Try.zeroValue33 rfl) rfl rfl (ltb rfl) ?_
 rintro _ w1 ⟨rfl, r1, m1, z1⟩
 refine WL.end (NE.code (CE.seq (CE.region ?_)))
 refine WD (op_move rfl) rfl ?_
 refine WL.call (oc_call (vs := [.slice A n c]) (cap := []) rfl rfl rfl Try.call53 (c_l00From n c A b o hA w1)) rfl rfl (ltb rfl) ?_
 rintro _ w2 ⟨p'1, rfl, r2, ge1, m2⟩
 refine WL.call (oc_call (vs := [vP p'1 0]) (cap := []) rfl rfl rfl Try.call90 (c_l04DrawnI n c A b o xs 0 0 p'1 ln hA hB (by omega) (by omega) (by omega) (by first | assumption | (intro h0; have hlt := Rng.lt r (by rw [bys_len, ln]; exact h0); omega)) w2 r2 ((r.ext m1).ext m2))) rfl rfl (ltb rfl) ?_
 rintro _ w3 ⟨bR'1, cR'1, PR'1, bL'1, cL'1, PL'1, bS'1, cS'1, nR1, nS1, xS1, kc1, kc2, op1, lo1, re1, sl1, zz1, rfl, h1, h2, h3, h4, h5, h6, h7, r3, r4, r5, ge2, ge3, ge4, ne1, ne2, ne3, fm1, fn1, fn2, fn3, fn4, fm2, fn5, fn6, fn7, m3⟩
 refine WL.op0 (op_store (i := 0) (cs := [vS bR'1 0 nR1 cR'1, vS bL'1 0 nR1 cL'1, vS bS'1 0 nS1 cS'1, vI 1, vF kc1, vF kc2, vF 0, vF (zz1.s0), vF (zz1.s1), .bool op1, vF lo1, vF re1, vF sl1]) rfl rfl rfl Try.sizeOf33 rfl ((r1.ext m2).mod m3 (nC (lE (lL r1.lt ge1)) nN)) rfl (lB rfl) rfl) rfl rfl ?_
 rintro _ w4 ⟨r6, m4, z2⟩
 have r7 : Row w4 w.heap.size 0 [vS bR'1 0 nR1 cR'1, vS bL'1 0 nR1 cL'1, vS bS'1 0 nS1 cS'1, vI 1, vF kc1, vF kc2, vF 0, vF (zz1.s0), vF (zz1.s1), .bool op1, vF lo1, vF re1, vF sl1] := Row.congr r6 rfl
 refine WL.end (NE.code (CE.ret' ?_))
 refine XE.leaveC Try.results33 (res_agg (cs := [vS bR'1 0 nR1 cR'1, vS bL'1 0 nR1 cL'1, vS bS'1 0 nS1 cS'1, vI 1, vF kc1, vF kc2, vF 0, vF (zz1.s0), vF (zz1.s1), .bool op1, vF lo1, vF re1, vF sl1]) rfl Try.isAgg33 Try.sizeOf33 r7.rng rfl res_nil) ?_
 refine ⟨bR'1, cR'1, PR'1, bL'1, cL'1, PL'1, bS'1, cS'1, nR1, nS1, xS1, kc1, kc2, op1, lo1, re1, sl1, zz1, ?_, ?_, ?_, ?_, ?_, ?_, ?_, ?_, (r3.mod m4 (nC (lG (lL (lL r1.lt m2.size) ge2)) nN)), (r4.mod m4 (nC (lG (lL (lL r1.lt m2.size) ge3)) nN)), (r5.mod m4 (nC (lG (lL (lL r1.lt m2.size) ge4)) nN)), (lT (lT m1.size m2.size) ge2), (lT (lT m1.size m2.size) ge3), (lT (lT m1.size m2.size) ge4), ne1, ne2, ne3, (OF.low (fm1.mod m4 (fun j hj => (nC (lG (lL (lL r1.lt m2.size) (fm1.ge j (lQ (lQ hj h4) h4.symm)))) nN))) (lT m1.size m2.size)), (fun j hj => (fn1 j (show j < nR1 by omega))), (fun j hj => (fn2 j (show j < nR1 by omega))), (fun j hj => (fn3 j (show j < nR1 by omega))), (fun j q hj hq => (fn4 j q (show j < nR1 by omega) (show q < nR1 by omega))), (OF.low (fm2.mod m4 (fun j hj => (nC (lG (lL (lL r1.lt m2.size) (fm2.ge j (lQ (lQ hj h5) h5.symm)))) nN))) (lT m1.size m2.size)), (fun j hj => (fn5 j (show j < nR1 by omega))), (fun j hj => (fn6 j (show j < nR1 by omega))), (fun j hj => (fn7 j (show j < nR1 by omega))), (((((Mod.refl [] w).nt m1).nt m2).then m3 ((aC (.inr (lT m1.size ge1)) aN))).then m4 ((aC (.inr lR) aN)))⟩
 all_goals first | assumption | rfl | omega

end Go.Proofs.Ytnahhdnkbbdceaa
