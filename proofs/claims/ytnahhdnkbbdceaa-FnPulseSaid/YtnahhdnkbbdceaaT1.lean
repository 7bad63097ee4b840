/- What single rings do in a step of a pipe. -/
import Derived.Test.YtnahhdnkbbdceaaS3
set_option linter.unusedVariables false
set_option linter.unusedSimpArgs false
set_option maxRecDepth 100000
set_option maxHeartbeats 8000000
namespace Go.Proofs.Ytnahhdnkbbdceaa

def clampF (x b : Nat) : Nat := if fGt .f32 x b then b else if fLt .f32 x (Op.negFloat .f32 b) then Op.negFloat .f32 b else x
/-- what a reed passes -/
def reedF (re sl d : Nat) : Nat := clampF (fop .add .f32 re (fop .mul .f32 sl d)) 1065353216
/-- the oldest sample of ring `i` -/
def oldD (D : List RD) (i : Nat) : Nat := (D.getD i RD.d).xs.getD (D.getD i RD.d).at_.toNat 0
/-- the rings behind a sample that came into ring `i` -/
def pushD (D : List RD) (i a : Nat) : List RD := D.set i ⟨(D.getD i RD.d).xs.set (D.getD i RD.d).at_.toNat a, ((((D.getD i RD.d).at_.toNat + 1) % (D.getD i RD.d).xs.length : Nat) : Int)⟩
theorem pushD_len {D : List RD} {n i a : Nat} (hl : D.length = n) : (pushD D i a).length = n := (List.length_set).trans hl
theorem pushD_same {D : List RD} {i a : Nat} (hi : i < D.length) : (pushD D i a).getD i RD.d = ⟨(D.getD i RD.d).xs.set (D.getD i RD.d).at_.toNat a, ((((D.getD i RD.d).at_.toNat + 1) % (D.getD i RD.d).xs.length : Nat) : Int)⟩ := by
  simp [pushD, List.getD_eq_getElem?_getD, hi]
theorem pushD_other {D : List RD} {i j a : Nat} (h : i ≠ j) : (pushD D i a).getD j RD.d = D.getD j RD.d := by
  simp only [pushD, List.getD_eq_getElem?_getD, List.getElem?_set_ne h]
theorem pushD_out {D : List RD} {i a : Nat} (hi : ¬ i < D.length) : pushD D i a = D := by
  unfold pushD; exact List.set_eq_of_length_le (by omega)
theorem pushD_lens {D : List RD} {i a : Nat} (j : Nat) : ((pushD D i a).getD j RD.d).xs.length = (D.getD j RD.d).xs.length := by
  by_cases hi : i < D.length
  · by_cases e : i = j
    · subst e; rw [pushD_same hi]; exact List.length_set
    · rw [pushD_other e]
  · rw [pushD_out hi]
/-- rings with places that lie within them, and samples that are words -/
structure GoodD (D : List RD) (n : Nat) : Prop where
  ge : ∀ i, i < n → 0 ≤ (D.getD i RD.d).at_
  lt : ∀ i, i < n → (D.getD i RD.d).at_ < (((D.getD i RD.d).xs.length : Nat) : Int)
  wd : ∀ i, W32 (D.getD i RD.d).xs
theorem GoodD.push {D : List RD} {n i a : Nat} (h : GoodD D n) (hl : D.length = n) (ha : a < wid .f32) : GoodD (pushD D i a) n := by
  by_cases hi : i < D.length
  · refine ⟨fun j hj => ?_, fun j hj => ?_, fun j => ?_⟩
    · by_cases e : i = j
      · subst e; rw [pushD_same hi]; exact Int.natCast_nonneg _
      · rw [pushD_other e]; exact h.ge j hj
    · by_cases e : i = j
      · subst e; rw [pushD_same hi]
        show ((_ : Nat) : Int) < (((List.set _ _ _).length : Nat) : Int)
        rw [List.length_set]
        have h1 := h.ge i hj
        have h2 := h.lt i hj
        have := Nat.mod_lt ((D.getD i RD.d).at_.toNat + 1) (show 0 < (D.getD i RD.d).xs.length by omega)
        omega
      · rw [pushD_other e]; exact h.lt j hj
    · by_cases e : i = j
      · subst e; rw [pushD_same hi]; exact (h.wd i).set ha
      · rw [pushD_other e]; exact h.wd j
  · rw [pushD_out hi]; exact h
theorem GoodD.old {D : List RD} {n : Nat} (h : GoodD D n) (i : Nat) : oldD D i < wid .f32 := (h.wd i).get _
theorem over_lt {f : Nat → Nat} {bs : List Nat} {i j : Nat} (h : j < i) : (over f bs i).getD j 0 = f j := by
  unfold over
  rw [List.getD_eq_getElem?_getD, List.getElem?_append_left (by simpa using h)]
  simp [h]
theorem outs_get {f : Nat → Nat} {n i : Nat} (h : i < n) : (outs f n).getD i 0 = f i := by simp [outs, h]
theorem reedF_lt {re sl d : Nat} : reedF re sl d < wid .f32 := by
  unfold reedF clampF
  repeat' split
  · decide +kernel
  · decide +kernel
  · exact fop_lt _ _ _ _

/-- what is scattered behind section `i` -/
def scatT (R L : List RD) (xS : List Nat) (i : Nat) : Nat := fop .mul .f32 (xS.getD i 0) (fop .sub .f32 (oldD R i) (oldD L (i + 1)))
/-- what the reed lets in -/
def breathT (L : List RD) (re sl x : Nat) : Nat := keptF (fop .add .f32 x (fop .mul .f32 (fop .sub .f32 (oldD L 0) x) (reedF re sl (fop .sub .f32 (oldD L 0) x))))
/-- the rings to the right behind the first `i` scatterings -/
def stR (R L : List RD) (xS : List Nat) (re sl x : Nat) : Nat → List RD
  | 0 => pushD R 0 (breathT L re sl x)
  | i + 1 => pushD (stR R L xS re sl x i) (i + 1) (keptF (fop .add .f32 (oldD R i) (scatT R L xS i)))
/-- the rings to the left -/
def stL (R L : List RD) (xS : List Nat) : Nat → List RD
  | 0 => L
  | i + 1 => pushD (stL R L xS i) i (keptF (fop .add .f32 (oldD L (i + 1)) (scatT R L xS i)))
theorem stR_len {R L : List RD} {xS : List Nat} {re sl x n : Nat} (hl : R.length = n) : ∀ i, (stR R L xS re sl x i).length = n
  | 0 => pushD_len hl
  | i + 1 => pushD_len (stR_len hl i)
theorem stL_len {R L : List RD} {xS : List Nat} {n : Nat} (hl : L.length = n) : ∀ i, (stL R L xS i).length = n
  | 0 => hl
  | i + 1 => pushD_len (stL_len hl i)
theorem stR_lens {R L : List RD} {xS : List Nat} {re sl x : Nat} (j : Nat) : ∀ i, ((stR R L xS re sl x i).getD j RD.d).xs.length = (R.getD j RD.d).xs.length
  | 0 => pushD_lens j
  | i + 1 => (pushD_lens j).trans (stR_lens j i)
theorem stL_lens {R L : List RD} {xS : List Nat} (j : Nat) : ∀ i, ((stL R L xS i).getD j RD.d).xs.length = (L.getD j RD.d).xs.length
  | 0 => rfl
  | i + 1 => (pushD_lens j).trans (stL_lens j i)
/-- what comes back from the end -/
def backT (op : Bool) (lo y : Nat) : Nat := if op then Op.negFloat .f32 (fop .mul .f32 lo y) else fop .mul .f32 lo y
def endL (R L : List RD) (xS : List Nat) (op : Bool) (lo y n m : Nat) : List RD := pushD (stL R L xS m) (n - 1) (keptF (backT op lo y))
theorem endL_len {R L : List RD} {xS : List Nat} {op : Bool} {lo y n m k : Nat} (hl : L.length = k) : (endL R L xS op lo y n m).length = k := pushD_len (stL_len hl m)
theorem endL_lens {R L : List RD} {xS : List Nat} {op : Bool} {lo y n m : Nat} (j : Nat) : ((endL R L xS op lo y n m).getD j RD.d).xs.length = (L.getD j RD.d).xs.length := (pushD_lens j).trans (stL_lens j m)

theorem c_l02PushJ (n : Nat) (c : Nat) (b : Nat) (xs : List Nat) (j : Int) (p : Nat) (k : Nat) (vs : List Value) (a : Nat) (ln : xs.length = n) (hj0 : 0 ≤ j) (hj : j < ((n : Nat) : Int)) (hn : n ≤ 1048576) (hk : k + 2 ≤ vs.length) (w : World) (q : Row w p 0 (splice vs k [vS b 0 n c, vI j])) (r : Row w b 0 (fl xs)) (hne : p ≠ b) : Cl Try.prog 113 #[vP p k, vF a] w fun v w' => v = vF (xs.getD (j).toNat 0) ∧ Row w' p 0 (splice vs k [vS b 0 n c, vI (((j.toNat + 1) % n : Nat) : Int)]) ∧ Row w' b 0 (fl (xs.set (j).toNat a)) ∧ Mod [p, b] w w' := by
 refine Cl.of Try.func113 Try.ntmps113 rfl rfl (ρ := [(0, vP p k), (1, vF a)]) rfl ?_
 refine CE.seq (CE.region ?_)
 refine WD (op_assign rfl) rfl ?_
 refine WL.end (NE.code (CE.seq ?_))
 refine CE.draw (fun _ => none) [0, 1, 2, 3, 4, 5, 6, 7] [8, 9, 10] [] (by kernel_rfl) (by kernel_rfl) ?_
 have md1 : Mod [] w w.drew := (Mod.refl _ _).drew
 generalize w.drew = w1 at md1 ⊢
 refine DD 0 rfl (by kernel_rfl) rfl (fun wD mD => op_move rfl) ?_
 refine DD 1 rfl (by kernel_rfl) rfl (fun wD mD => op_nilCheck rfl) ?_
 refine DD 2 rfl (by kernel_rfl) rfl (fun wD mD => op_fieldAddr (off' := k) rfl Try.runUnderlying60 rfl rfl Try.sizeOf26 rfl) ?_
 refine DD 3 rfl (by kernel_rfl) rfl (fun wD mD => op_load1 (i := k) rfl Try.isAgg26 ((q.ext md1).ext mD).rng (Nat.zero_add _) (sub_get (i := 0) hk rfl)) ?_
 refine DD 4 rfl (by kernel_rfl) rfl (fun wD mD => op_move rfl) ?_
 refine DD 5 rfl (by kernel_rfl) rfl (fun wD mD => op_nilCheck rfl) ?_
 refine DD 6 rfl (by kernel_rfl) rfl (fun wD mD => op_fieldAddr (off' := k + 1) rfl Try.runUnderlying60 rfl rfl Try.sizeOf2 rfl) ?_
 refine DD 7 rfl (by kernel_rfl) rfl (fun wD mD => op_load1 (i := k + 1) rfl Try.isAgg2 ((q.ext md1).ext mD).rng (Nat.zero_add _) (sub_get (i := 1) hk rfl)) ?_
 refine DR.done rfl ?_
 intro w2 m1
 refine WO.det (op_indexSl (off' := 0 + (j).toNat) rfl rfl rfl Try.runUnderlying26 Try.sizeOf27 (by omega) (by omega) (by omega)) rfl (.free rfl) rfl rfl ?_
 refine WO.det (op_load1 (i := (j).toNat) rfl Try.isAgg27 ((r.ext md1).ext m1).rng rfl (fl_get (by have eL : List.length xs = n := ln; omega))) rfl (.free rfl) rfl rfl ?_
 refine WO.det (op_assign rfl) rfl (.free rfl) rfl rfl ?_
 refine WO.end (NE.code (CE.seq ?_))
 refine CE.draw (fun _ => none) [0, 1, 2, 3, 4, 5, 6, 7, 8] [9, 10] [] (by kernel_rfl) (by kernel_rfl) ?_
 have md2 : Mod [] w2 w2.drew := (Mod.refl _ _).drew
 generalize w2.drew = w3 at md2 ⊢
 refine DD 0 rfl (by kernel_rfl) rfl (fun wD mD => op_move rfl) ?_
 refine DD 1 rfl (by kernel_rfl) rfl (fun wD mD => op_nilCheck rfl) ?_
 refine DD 2 rfl (by kernel_rfl) rfl (fun wD mD => op_fieldAddr (off' := k) rfl Try.runUnderlying60 rfl rfl Try.sizeOf26 rfl) ?_
 refine DD 3 rfl (by kernel_rfl) rfl (fun wD mD => op_load1 (i := k) rfl Try.isAgg26 ((((q.ext md1).ext m1).ext md2).ext mD).rng (Nat.zero_add _) (sub_get (i := 0) hk rfl)) ?_
 refine DD 4 rfl (by kernel_rfl) rfl (fun wD mD => op_move rfl) ?_
 refine DD 5 rfl (by kernel_rfl) rfl (fun wD mD => op_nilCheck rfl) ?_
 refine DD 6 rfl (by kernel_rfl) rfl (fun wD mD => op_fieldAddr (off' := k + 1) rfl Try.runUnderlying60 rfl rfl Try.sizeOf2 rfl) ?_
 refine DD 7 rfl (by kernel_rfl) rfl (fun wD mD => op_load1 (i := k + 1) rfl Try.isAgg2 ((((q.ext md1).ext m1).ext md2).ext mD).rng (Nat.zero_add _) (sub_get (i := 1) hk rfl)) ?_
 refine DD 8 rfl (by kernel_rfl) rfl (fun wD mD => op_move rfl) ?_
 refine DR.done rfl ?_
 intro w4 m2
 refine WO.det (op_indexSl (off' := 0 + (j).toNat) rfl rfl rfl Try.runUnderlying26 Try.sizeOf27 (by omega) (by omega) (by omega)) rfl (.free rfl) rfl rfl ?_
 have r1 := ((((r.ext md1).ext m1).ext md2).ext m2)
 refine WO.op0 rfl (.free rfl) rfl (op_store (i := (j).toNat) (cs := [vF a]) rfl rfl rfl Try.sizeOf27 rfl r1 rfl (by rw [fl_length]; have eL : List.length xs = n := ln; omega) rfl) ?_
 rintro _ w5 ⟨r2, m3, z1⟩
 have r3 : Row w5 b 0 (fl (xs.set ((j).toNat) a)) := Row.congr r2 (fl_splice (by have eL : List.length xs = n := ln; omega))
 refine WO.end (NE.code (CE.seq ?_))
 refine CE.draw (fun _ => none) [0, 1, 2, 3, 4, 5, 6, 7, 8, 9, 10, 11] [12, 13, 14] [] (by kernel_rfl) (by kernel_rfl) ?_
 have md3 : Mod [] w5 w5.drew := (Mod.refl _ _).drew
 generalize w5.drew = w6 at md3 ⊢
 refine DD 0 rfl (by kernel_rfl) rfl (fun wD mD => op_move rfl) ?_
 refine DD 1 rfl (by kernel_rfl) rfl (fun wD mD => op_move rfl) ?_
 refine DD 2 rfl (by kernel_rfl) rfl (fun wD mD => op_nilCheck rfl) ?_
 refine DD 3 rfl (by kernel_rfl) rfl (fun wD mD => op_fieldAddr (off' := k + 1) rfl Try.runUnderlying60 rfl rfl Try.sizeOf2 rfl) ?_
 refine DD 4 rfl (by kernel_rfl) rfl (fun wD mD => op_load1 (i := k + 1) rfl Try.isAgg2 (((((((q.ext md1).ext m1).ext md2).ext m2).mod m3 (nC hne nN)).ext md3).ext mD).rng (Nat.zero_add _) (sub_get (i := 1) hk rfl)) ?_
 refine DD 5 rfl (by kernel_rfl) rfl (fun wD mD => op_add (r := (j + (1 : Int))) rfl rfl (w_i64 (by omega) (by omega))) ?_
 refine DD 6 rfl (by kernel_rfl) rfl (fun wD mD => op_move rfl) ?_
 refine DD 7 rfl (by kernel_rfl) rfl (fun wD mD => op_nilCheck rfl) ?_
 refine DD 8 rfl (by kernel_rfl) rfl (fun wD mD => op_fieldAddr (off' := k) rfl Try.runUnderlying60 rfl rfl Try.sizeOf26 rfl) ?_
 refine DD 9 rfl (by kernel_rfl) rfl (fun wD mD => op_load1 (i := k) rfl Try.isAgg26 (((((((q.ext md1).ext m1).ext md2).ext m2).mod m3 (nC hne nN)).ext md3).ext mD).rng (Nat.zero_add _) (sub_get (i := 0) hk rfl)) ?_
 refine DD 10 rfl (by kernel_rfl) rfl (fun wD mD => op_len rfl Try.runUnderlying26) ?_
 have hm1 : (j.toNat + 1) % n < n := Nat.mod_lt _ (by omega)
 refine DD 11 rfl (by kernel_rfl) rfl (fun wD mD => op_rem (r := (((j.toNat + 1) % n : Nat) : Int)) rfl rfl (by omega) (rem_nat (by omega))) ?_
 refine DR.done rfl ?_
 intro w7 m4
 refine WO.det (op_nilCheck rfl) rfl (.free rfl) rfl rfl ?_
 refine WO.det (op_fieldAddr (off' := k + 1) rfl Try.runUnderlying60 rfl rfl Try.sizeOf2 rfl) rfl (.free rfl) rfl rfl ?_
 have r4 := (((((((q.ext md1).ext m1).ext md2).ext m2).mod m3 (nC hne nN)).ext md3).ext m4)
 refine WO.op0 rfl (.free rfl) rfl (op_store (i := k + 1) (cs := [vI (((j.toNat + 1) % n : Nat) : Int)]) rfl rfl rfl Try.sizeOf2 rfl r4 (Nat.zero_add _) (sub_fit (i := 1) hk (lB rfl)) rfl) ?_
 rintro _ w8 ⟨r5, m5, z2⟩
 have r6 : Row w8 p 0 (splice vs k [vS b 0 n c, vI (((j.toNat + 1) % n : Nat) : Int)]) := Row.congr r5 (sub_put (i := 1) hk (lB rfl) rfl)
 refine WO.end (NE.code (CE.seq (CE.region ?_)))
 refine WD (op_move rfl) rfl ?_
 refine WD (op_assign rfl) rfl ?_
 refine WL.end (NE.code (CE.ret' ?_))
 refine XE.leave1 Try.results113 rfl ?_
 have r7 := (((r3.ext md3).ext m4).mod m5 (nC (Ne.symm hne) nN))
 refine ⟨?_, r6, (Row.congr r7 ?_), (((((((((Mod.refl [p, b] w).nt md1).nt m1).nt md2).nt m2).then m3 ((aC (.inl (by simp)) aN))).nt md3).nt m4).then m5 ((aC (.inl (by simp)) aN)))⟩
 all_goals simp_all

theorem c_l04Oldest (n : Nat) (c : Nat) (b : Nat) (D : List RD) (P : List BC) (lo : Nat) (lD : D.length = n) (lP : P.length = n) (hz : ∀ i, (D.getD i RD.d).xs.length ≤ 1048576) (hn : n ≤ 1048576) (gD : GoodD D n) (w : World) (r : Rng w b 0 (olc D P))  (F : OF lo w D P) : Cl Try.prog 112 #[vS b 0 n c] w fun v w' => ∃ (e' : Nat) (c' : Nat) (A' : Option Addr), v = .slice A' n c' ∧ (0 < n → A' = some ⟨e', 0, none⟩) ∧ Row w' e' 0 (fl (outs (oldD D) n)) ∧ w.heap.size ≤ e' ∧ Mod [] w w' := by
 refine Cl.of Try.func112 Try.ntmps112 rfl rfl (ρ := [(0, vS b 0 n c)]) rfl ?_
 refine CE.seq (CE.region ?_)
 refine WD (op_assign rfl) rfl ?_
 refine WL.end (NE.code (CE.seq (CE.region ?_)))
 refine WL.op (op_emptySl rfl Try.runUnderlying26 Try.sizeOf27) rfl rfl (ltb rfl) ?_
 rintro _ w1 ⟨rfl, r1, m1, z1⟩
 refine WD (op_assign rfl) rfl ?_
 refine WL.end (NE.code (CE.seq (CE.seq (CE.region ?_))))
 refine WD (op_assign rfl) rfl ?_
 refine WL.end (NE.code (CE.block ?_))
 refine CE.loop (fun (z : Nat × Option Addr × Nat) => [(4, vI ((z.1 : Nat) : Int)), (3, .slice z.2.1 z.1 z.2.2), (0, vS b 0 n c), (2, .slice none 0 0)]) (fun (z : Nat × Option Addr × Nat) => fun W => (z.1 ≤ n) ∧ Own 27 1 w1.heap.size W z.2.1 z.1 z.2.2 (fl (outs (oldD D) z.1)) ∧ Mod [] w1 W) (fun (z : Nat × Option Addr × Nat) => n - z.1) (0, (some ⟨w.heap.size, 0, none⟩), 0) (⟨rfl, rfl, rfl, rfl, trivial⟩) ⟨(by omega), (Own.congr Own.emp (outs_zero _)), Mod.refl _ _⟩ ?_
 rintro ⟨i, A, cc⟩ w2 ⟨hi, ow1, m2⟩
 replace hi : i ≤ n := hi
 replace ow1 : Own 27 1 w1.heap.size w2 A i cc (fl (outs (oldD D) i)) := ow1
 have hzi := hz i
 have hgi := fun h => gD.ge i h
 have hgj := fun h => gD.lt i h
 show CE _ _ _ _ [(4, vI ((i : Nat) : Int)), (3, .slice A i cc), (0, vS b 0 n c), (2, .slice none 0 0)] _
 refine CE.seq (CE.seq (CE.region ?_))
 iterate 2 refine WD (op_move rfl) rfl ?_
 refine WD (op_len rfl Try.runUnderlying25) rfl ?_
 refine WD (op_lti rfl rfl) rfl ?_
 refine WL.end (NE.code ?_)
 rcases Bool.eq_false_or_eq_true (decide (((i : Nat) : Int) < ((n : Nat) : Int))) with hb1 | hb1
 ·have hp1 := of_decide_eq_true hb1
  refine CE.cond_t rfl hb1 ?_
  refine CE.skip' (NE.code (CE.seq (CE.block ?_)))
  refine CE.draw (fun _ => none) [0, 1, 2, 3, 4, 5, 6, 7, 8, 9, 10, 11, 12, 13] [14, 15] [] (by kernel_rfl) (by kernel_rfl) ?_
  have md1 : Mod [] w2 w2.drew := (Mod.refl _ _).drew
  generalize w2.drew = w3 at md1 ⊢
  refine DD 0 rfl (by kernel_rfl) rfl (fun wD mD => op_move rfl) ?_
  refine DD 1 rfl (by kernel_rfl) rfl (fun wD mD => op_move rfl) ?_
  refine DD 2 rfl (by kernel_rfl) rfl (fun wD mD => op_move rfl) ?_
  refine DD 3 rfl (by kernel_rfl) rfl (fun wD mD => op_indexSl (off' := 0 + i * 2) rfl rfl rfl Try.runUnderlying25 Try.sizeOf60 (by omega) (by omega) (by omega)) ?_
  refine DD 4 rfl (by kernel_rfl) rfl (fun wD mD => op_fieldAddr (off' := 0 + i * 2) rfl Try.runUnderlying60 rfl rfl Try.sizeOf26 rfl) ?_
  refine DD 5 rfl (by kernel_rfl) rfl (fun wD mD => op_load1 (i := i * 2) rfl Try.isAgg26 ((((r.ext m1).ext m2).ext md1).ext mD) rfl (olc_get0 lD lP (show i < n by omega))) ?_
  refine DD 6 rfl (by kernel_rfl) rfl (fun wD mD => op_move rfl) ?_
  refine DD 7 rfl (by kernel_rfl) rfl (fun wD mD => op_move rfl) ?_
  refine DD 8 rfl (by kernel_rfl) rfl (fun wD mD => op_indexSl (off' := 0 + i * 2) rfl rfl rfl Try.runUnderlying25 Try.sizeOf60 (by omega) (by omega) (by omega)) ?_
  refine DD 9 rfl (by kernel_rfl) rfl (fun wD mD => op_fieldAddr (off' := 0 + i * 2 + 1) rfl Try.runUnderlying60 rfl rfl Try.sizeOf2 rfl) ?_
  refine DD 10 rfl (by kernel_rfl) rfl (fun wD mD => op_load1 (i := i * 2 + 1) rfl Try.isAgg2 ((((r.ext m1).ext m2).ext md1).ext mD) rfl (olc_get1 lD lP (show i < n by omega))) ?_
  refine DD 11 rfl (by kernel_rfl) rfl (fun wD mD => op_indexSl (off' := 0 + (((D.getD i RD.d).at_)).toNat) rfl rfl rfl Try.runUnderlying26 Try.sizeOf27 (by omega) (by omega) (by omega)) ?_
  refine DD 12 rfl (by kernel_rfl) rfl (fun wD mD => op_load1 (i := (((D.getD i RD.d).at_)).toNat) rfl Try.isAgg27 (((((OF.row F i (lQ (show i < n by omega) lD.symm)).ext m1).ext m2).ext md1).ext mD).rng rfl (fl_get (by have eL : List.length ((D.getD i RD.d).xs) = (D.getD i RD.d).xs.length := rfl; omega))) ?_
  refine DR.one1 (i := 13) rfl rfl (by kernel_rfl) (.free rfl) rfl (ltb rfl) ?_
  intro w4 m3
  refine Op1.mono (op_buildSl (qs := [(0, vF (((D.getD i RD.d).xs).getD ((((D.getD i RD.d).at_)).toNat) 0))]) (cells := #[vF (((D.getD i RD.d).xs).getD ((((D.getD i RD.d).at_)).toNat) 0)]) rfl Try.runUnderlying26 Try.sizeOf27 Try.zeroValue27 (by decide) (by decide) (by kernel_rfl)) ?_
  rintro _ w5 ⟨rfl, r2, m4, z2⟩
  refine ⟨(((Mod.refl [] w3).nt m3).nt m4), ?_⟩
  refine DR.done rfl ?_
  intro w6 m5
  have sz1 := (lT (lT (lT (lT m2.size md1.size) m3.size) m4.size) m5.size)
  refine WO.op rfl (.free rfl) rfl (ltb rfl) (op_app (i := Try.t27) (m := 1) (bt := 4) (news := [vF (((D.getD i RD.d).xs).getD ((((D.getD i RD.d).at_)).toNat) 0)]) rfl rfl Try.underlying26 rfl rfl rfl rfl rfl (by decide) (r2.ext m5).rng rfl rfl ((((ow1.ext md1).ext m3).ext m4).ext m5) sz1 (by omega) (by decide)) ?_
  rintro _ w7 ⟨A1, c1, b1, rfl, ow2, ge1, m6⟩
  refine WO.det (op_assign rfl) rfl (.free rfl) rfl rfl ?_
  refine WO.end (NE.blk (NE.code (CE.region ?_)))
  refine WD (op_move rfl) rfl ?_
  refine WD (op_add (r := ((i + 1 : Nat) : Int)) rfl rfl (w_i64 (by omega) (by omega))) rfl ?_
  refine WD (op_assign rfl) rfl ?_
  refine WL.end ?_
  exact NE.again ((i + 1), A1, c1) (⟨rfl, rfl, rfl, rfl, trivial⟩) ⟨(by omega), (Own.congr ow2 (outs_succ _ _)), (((((m2.nt md1).nt m3).nt m4).nt m5).then m6 ((aC (.inr ge1) aN)))⟩ (by first | (dsimp only; omega) | omega)
 ·have hp1 := of_decide_eq_false hb1
  refine CE.cond_f rfl hb1 ?_
  refine CE.exit' (XE.exit_then (XE.exit_then (XE.exit_here (NE.code (CE.seq (CE.region ?_))))))
  refine WD (op_move rfl) rfl ?_
  refine WD (op_assign rfl) rfl ?_
  refine WL.end (NE.code (CE.ret' ?_))
  have ei : n = i := by omega
  subst ei
  obtain ⟨b2, hA1, r3, hq1⟩ := Own.out ow1 (r1.ext m2)
  have fq1 : ∀ j, j < n → (P.getD j BC.d).b ≠ b2 := (fun j hj => own_ne hq1 (lE (lL (OF.lt F (lQ hj lD.symm)) lR)) (lL (OF.lt F (lQ hj lD.symm)) m1.size))
  refine XE.leave1 Try.results112 rfl ?_
  refine ⟨b2, cc, A, rfl, hA1, r3, (own_ge hq1 lR m1.size), (((Mod.refl [] w).nt m1).nt m2)⟩

theorem c_clamp (a : Nat) (x : Nat) (b : Nat) (ha : cn .f32 a = cn .f32 x) (la : a < wid .f32) (lb : b < wid .f32) (w : World) : Cl Try.prog 99 #[vF a, vF b] w fun v w' => ∃ (r : Nat), v = vF r ∧ (cn .f32 r = cn .f32 (clampF x b)) ∧ (r < wid .f32) ∧ Mod [] w w' := by
 refine Cl.of Try.func99 Try.ntmps99 rfl rfl (ρ := [(0, vF a), (1, vF b)]) rfl ?_
 refine CE.seq (CE.region ?_)
 refine WD (op_assign rfl) rfl ?_
 refine WL.end (NE.code (CE.seq (CE.block (CE.seq (CE.region ?_)))))
 iterate 2 refine WD (op_move rfl) rfl ?_
 refine WD (op_fgt (c := fGt .f32 x b) rfl rfl ha rfl rfl) rfl ?_
 refine WD (op_assign rfl) rfl ?_
 refine WL.end (NE.code ?_)
 rcases Bool.eq_false_or_eq_true (fGt .f32 x b) with hb1 | hb1
 ·refine CE.cond_t rfl hb1 ?_
  refine CE.seq (CE.region ?_)
  refine WD (op_move rfl) rfl ?_
  refine WD (op_assign rfl) rfl ?_
  refine WL.end (NE.code (CE.ret' (XE.ret_blk (XE.ret_then ?_))))
  refine XE.leave1 Try.results99 rfl ?_
  refine ⟨b, rfl, ?_, lb, (Mod.refl [] w)⟩
  all_goals first | assumption | exact negFloat_lt lb | (simp_all [clampF]; done)
 ·refine CE.cond_f rfl hb1 ?_
  refine CE.seq (CE.region ?_)
  iterate 2 refine WD (op_move rfl) rfl ?_
  refine WD (op_negf rfl) rfl ?_
  refine WD (op_flt (c := fLt .f32 x (Op.negFloat .f32 b)) rfl rfl ha (negf_congr rfl) rfl) rfl ?_
  refine WD (op_assign rfl) rfl ?_
  refine WL.end (NE.code ?_)
  rcases Bool.eq_false_or_eq_true (fLt .f32 x (Op.negFloat .f32 b)) with hb2 | hb2
  ·refine CE.cond_t rfl hb2 ?_
   refine CE.seq (CE.region ?_)
   refine WD (op_move rfl) rfl ?_
   refine WD (op_negf rfl) rfl ?_
   refine WD (op_assign rfl) rfl ?_
   refine WL.end (NE.code (CE.ret' (XE.ret_blk (XE.ret_then ?_))))
   refine XE.leave1 Try.results99 rfl ?_
   refine ⟨(Op.negFloat .f32 b), rfl, ?_, (negFloat_lt lb), (Mod.refl [] w)⟩
   all_goals first | assumption | exact negFloat_lt lb | (simp_all [clampF]; done)
  ·refine CE.cond_f rfl hb2 ?_
   refine CE.skip' (NE.blk (NE.code (CE.seq (CE.region ?_))))
   refine WD (op_move rfl) rfl ?_
   refine WD (op_assign rfl) rfl ?_
   refine WL.end (NE.code (CE.ret' ?_))
   refine XE.leave1 Try.results99 rfl ?_
   refine ⟨a, rfl, ?_, la, (Mod.refl [] w)⟩
   all_goals first | assumption | exact negFloat_lt lb | (simp_all [clampF]; done)

theorem c_l01Clamp (a : Nat) (x : Nat) (b : Nat) (ha : cn .f32 a = cn .f32 x) (la : a < wid .f32) (lb : b < wid .f32) (w : World) : Cl Try.prog 151 #[vF a, vF b] w fun v w' => ∃ (r : Nat), v = vF r ∧ (cn .f32 r = cn .f32 (clampF x b)) ∧ (r < wid .f32) ∧ Mod [] w w' := by
 refine Cl.of Try.func151 Try.ntmps151 rfl rfl (ρ := [(0, vF a), (1, vF b)]) rfl ?_
 refine CE.seq (CE.region ?_)
 refine WD (op_assign rfl) rfl ?_
 refine WL.end (NE.code (CE.seq (CE.seq (CE.region ?_))))
 iterate 2 refine WD (op_move rfl) rfl ?_
 refine WD (op_fgt (c := fGt .f32 x b) rfl rfl ha rfl rfl) rfl ?_
 refine WL.end (NE.code ?_)
 rcases Bool.eq_false_or_eq_true (fGt .f32 x b) with hb1 | hb1
 ·refine CE.cond_t rfl hb1 ?_
  refine CE.seq (CE.region ?_)
  refine WD (op_move rfl) rfl ?_
  refine WD (op_assign rfl) rfl ?_
  refine WL.end (NE.code (CE.ret' (XE.ret_then ?_)))
  refine XE.leave1 Try.results151 rfl ?_
  refine ⟨b, rfl, ?_, lb, (Mod.refl [] w)⟩
  all_goals first | assumption | exact negFloat_lt lb | (simp_all [clampF]; done)
 ·refine CE.cond_f rfl hb1 ?_
  refine CE.skip' (NE.code (CE.seq (CE.seq (CE.region ?_))))
  iterate 2 refine WD (op_move rfl) rfl ?_
  refine WD (op_negf rfl) rfl ?_
  refine WD (op_flt (c := fLt .f32 x (Op.negFloat .f32 b)) rfl rfl ha (negf_congr rfl) rfl) rfl ?_
  refine WL.end (NE.code ?_)
  rcases Bool.eq_false_or_eq_true (fLt .f32 x (Op.negFloat .f32 b)) with hb2 | hb2
  ·refine CE.cond_t rfl hb2 ?_
   refine CE.seq (CE.region ?_)
   refine WD (op_move rfl) rfl ?_
   refine WD (op_negf rfl) rfl ?_
   refine WD (op_assign rfl) rfl ?_
   refine WL.end (NE.code (CE.ret' (XE.ret_then ?_)))
   refine XE.leave1 Try.results151 rfl ?_
   refine ⟨(Op.negFloat .f32 b), rfl, ?_, (negFloat_lt lb), (Mod.refl [] w)⟩
   all_goals first | assumption | exact negFloat_lt lb | (simp_all [clampF]; done)
  ·refine CE.cond_f rfl hb2 ?_
   refine CE.skip' (NE.code (CE.seq (CE.region ?_)))
   refine WD (op_move rfl) rfl ?_
   refine WD (op_assign rfl) rfl ?_
   refine WL.end (NE.code (CE.ret' ?_))
   refine XE.leave1 Try.results151 rfl ?_
   refine ⟨a, rfl, ?_, la, (Mod.refl [] w)⟩
   all_goals first | assumption | exact negFloat_lt lb | (simp_all [clampF]; done)

theorem c_reedAt (a : Nat) (b : Nat) (d : Nat) (y : Nat) (hd : cn .f32 d = cn .f32 y) (w : World) : Cl Try.prog 42 #[vF a, vF b, vF d] w fun v w' => ∃ (r : Nat), v = vF r ∧ (cn .f32 r = cn .f32 (reedF a b y)) ∧ (r < wid .f32) ∧ Mod [] w w' := by
 refine Cl.of Try.func42 Try.ntmps42 rfl rfl (ρ := [(0, vF a), (1, vF b), (2, vF d)]) rfl ?_
 refine CE.seq (CE.region ?_)
 refine WD (op_assign rfl) rfl ?_
 refine WL.end (NE.code (CE.seq (CE.region ?_)))
 iterate 3 refine WD (op_move rfl) rfl ?_
 refine WL.op (op_farith (e := (fop .mul .f32 b y)) (.inr (.inr (.inl rfl))) rfl rfl rfl hd rfl) rfl rfl (ltb rfl) ?_
 rintro _ w1 ⟨⟨f1, rfl, hf1, lf1⟩, m1⟩
 refine WL.op (op_farith (e := (fop .add .f32 a (fop .mul .f32 b y))) (.inl rfl) rfl rfl rfl hf1 rfl) rfl rfl (ltb rfl) ?_
 rintro _ w2 ⟨⟨f2, rfl, hf2, lf2⟩, m2⟩
 refine WL.call (oc_call (vs := [vF f2, vF 1065353216]) (cap := []) rfl rfl rfl Try.call99 (c_clamp f2 (fop .add .f32 a (fop .mul .f32 b y)) 1065353216 hf2 lf2 (by decide +kernel) w2)) rfl rfl (ltb rfl) ?_
 rintro _ w3 ⟨r1, rfl, h1, h2, m3⟩
 refine WD (op_assign rfl) rfl ?_
 refine WL.end (NE.code (CE.ret' ?_))
 refine XE.leave1 Try.results42 rfl ?_
 refine ⟨r1, rfl, ?_, h2, ((((Mod.refl [] w).nt m1).nt m2).nt m3)⟩
 all_goals first | assumption | rfl

theorem c_l04Reed (a : Nat) (b : Nat) (d : Nat) (y : Nat) (hd : cn .f32 d = cn .f32 y) (w : World) : Cl Try.prog 114 #[vF a, vF b, vF d] w fun v w' => ∃ (r : Nat), v = vF r ∧ (cn .f32 r = cn .f32 (reedF a b y)) ∧ (r < wid .f32) ∧ Mod [] w w' := by
 refine Cl.of Try.func114 Try.ntmps114 rfl rfl (ρ := [(0, vF a), (1, vF b), (2, vF d)]) rfl ?_
 refine CE.seq (CE.region ?_)
 refine WD (op_assign rfl) rfl ?_
 refine WL.end (NE.code (CE.seq (CE.region ?_)))
 iterate 3 refine WD (op_move rfl) rfl ?_
 refine WL.op (op_farith (e := (fop .mul .f32 b y)) (.inr (.inr (.inl rfl))) rfl rfl rfl hd rfl) rfl rfl (ltb rfl) ?_
 rintro _ w1 ⟨⟨f1, rfl, hf1, lf1⟩, m1⟩
 refine WL.op (op_farith (e := (fop .add .f32 a (fop .mul .f32 b y))) (.inl rfl) rfl rfl rfl hf1 rfl) rfl rfl (ltb rfl) ?_
 rintro _ w2 ⟨⟨f2, rfl, hf2, lf2⟩, m2⟩
 refine WL.call (oc_call (vs := [vF f2, vF 1065353216]) (cap := []) rfl rfl rfl Try.call151 (c_l01Clamp f2 (fop .add .f32 a (fop .mul .f32 b y)) 1065353216 hf2 lf2 (by decide +kernel) w2)) rfl rfl (ltb rfl) ?_
 rintro _ w3 ⟨r1, rfl, h1, h2, m3⟩
 refine WD (op_assign rfl) rfl ?_
 refine WL.end (NE.code (CE.ret' ?_))
 refine XE.leave1 Try.results114 rfl ?_
 refine ⟨r1, rfl, ?_, h2, ((((Mod.refl [] w).nt m1).nt m2).nt m3)⟩
 all_goals first | assumption | rfl

end Go.Proofs.Ytnahhdnkbbdceaa
