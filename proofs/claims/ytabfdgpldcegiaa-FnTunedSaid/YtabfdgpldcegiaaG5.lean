/- What playing a string does; when a string is silent. -/
import Derived.Test.YtabfdgpldcegiaaG4
import Derived.Test.YtabfdgpldcegiaaE11
set_option linter.unusedVariables false
set_option linter.unusedSimpArgs false
namespace Go.Proofs.Ytabfdgpldcegiaa

/-- the first `n` words are 0 -/
def zeroF (xs : List Nat) (n : Nat) : Bool := (List.range n).all fun j => fEq .f32 (xs.getD j 0) 0
theorem zeroF_out {xs : List Nat} {i n : Nat} (hi : i < n) (h2 : fEq .f32 (xs.getD i 0) 0 = false) : zeroF xs n = false := by
  unfold zeroF
  rw [List.all_eq_false]
  exact ⟨i, by simpa using hi, by simpa using h2⟩
theorem zeroF_get {xs : List Nat} {i n : Nat} (h : zeroF xs n = true) (hi : i < n) : fEq .f32 (xs.getD i 0) 0 = true := List.all_eq_true.1 h i (by simpa using hi)
/-- the newest `r` samples of a ring are 0, and the one before them is not -/
structure QI (n : Nat) (xs : List Nat) (i r : Nat) : Prop where
  zero : ∀ j, 1 ≤ j → j ≤ r → j ≤ n → fEq .f32 (xs.getD ((i + n - j) % n) 0) 0 = true
  last : r < n → fEq .f32 (xs.getD ((i + n - (r + 1)) % n) 0) 0 = false
theorem QI.step {n : Nat} {xs : List Nat} {i e : Nat} (h : ∀ j, 1 ≤ j → j ≤ e → fEq .f32 (xs.getD ((i + n - j) % n) 0) 0 = true) (h' : fEq .f32 (xs.getD ((i + n - (e + 1)) % n) 0) 0 = true) : ∀ j, 1 ≤ j → j ≤ e + 1 → fEq .f32 (xs.getD ((i + n - j) % n) 0) 0 = true := fun j h1 h2 => by
  rcases Nat.lt_or_ge e j with c | c
  · obtain rfl : j = e + 1 := by omega
    exact h'
  · exact h j h1 c
theorem QI.of {n : Nat} {xs : List Nat} {i r : Nat} (h : ∀ j, 1 ≤ j → j ≤ r → fEq .f32 (xs.getD ((i + n - j) % n) 0) 0 = true) (k : r < n → fEq .f32 (xs.getD ((i + n - (r + 1)) % n) 0) 0 = false) : QI n xs i r := ⟨fun j a b _ => h j a b, k⟩
theorem back_ne {n i j : Nat} (hi : i < n) (h1 : 1 ≤ j) (h2 : j < n) : (i + n - j) % n ≠ i := by
  intro h
  rcases Nat.lt_or_ge i j with c | c
  · rw [Nat.mod_eq_of_lt (by omega)] at h; omega
  · rw [show i + n - j = (i - j) + n by omega, Nat.add_mod_right, Nat.mod_eq_of_lt (by omega)] at h; omega
theorem back_next {n i j : Nat} (hi : i < n) (h1 : 1 ≤ j) (h2 : j ≤ n) : ((i + 1) % n + n - (j + 1)) % n = (i + n - j) % n ∨ j = n := by
  rcases Nat.lt_or_ge (i + 1) n with c | c
  · rw [Nat.mod_eq_of_lt c]
    by_cases e : j = n
    · exact .inr e
    · left; congr 1; omega
  · have e : i + 1 = n := by omega
    rw [e, Nat.mod_self]
    by_cases e' : j = n
    · exact .inr e'
    · left
      rw [show i + n - j = (0 + n - (j + 1)) + n by omega, Nat.add_mod_right]
theorem QI.down {n : Nat} {xs : List Nat} {i : Nat} (h : fEq .f32 (xs.getD ((i + n - 1) % n) 0) 0 = false) : QI n xs i 0 := ⟨fun j a b => absurd b (by omega), fun _ => h⟩
theorem QI.up {n : Nat} {xs : List Nat} {i r a : Nat} (h : QI n xs i r) (hi : i < n) (hl : xs.length = n) (h0 : fEq .f32 ((xs.set i a).getD (((i + 1) % n + n - 1) % n) 0) 0 = true) : QI n (xs.set i a) ((i + 1) % n) (r + 1) := by
  have other : ∀ j, 1 ≤ j → j < n → (xs.set i a).getD (((i + 1) % n + n - (j + 1)) % n) 0 = xs.getD ((i + n - j) % n) 0 := fun j h1 h2 => by
    rcases back_next hi h1 (Nat.le_of_lt h2) with e | e
    · rw [e, List.getD_eq_getElem?_getD, List.getElem?_set_ne (Ne.symm (back_ne hi h1 h2)), List.getD_eq_getElem?_getD]
    · omega
  refine ⟨fun j a1 a2 a3 => ?_, fun hr => ?_⟩
  · rcases Nat.lt_or_ge 1 j with c | c
    · obtain ⟨j, rfl⟩ : ∃ k, j = k + 1 := ⟨j - 1, by omega⟩
      rw [other j (by omega) (by omega)]
      exact h.zero j (by omega) (by omega) (by omega)
    · obtain rfl : j = 1 := by omega
      exact h0
  · rw [other (r + 1) (by omega) (by omega)]
    exact h.last (by omega)
theorem QI.all {n : Nat} {xs : List Nat} {i r : Nat} (h : QI n xs i r) (hi : i < n) : zeroF xs n = decide (((n : Nat) : Int) ≤ ((r : Nat) : Int)) := by
  by_cases c : n ≤ r
  · have : decide (((n : Nat) : Int) ≤ ((r : Nat) : Int)) = true := by simpa using c
    rw [this]
    unfold zeroF
    rw [List.all_eq_true]
    intro m hm
    have hm' : m < n := by simpa using hm
    rcases Nat.lt_or_ge m i with d | d
    · have := h.zero (i - m) (by omega) (by omega) (by omega)
      rwa [show i + n - (i - m) = m + n by omega, Nat.add_mod_right, Nat.mod_eq_of_lt hm'] at this
    · have := h.zero (i + n - m) (by omega) (by omega) (by omega)
      rwa [show i + n - (i + n - m) = m by omega, Nat.mod_eq_of_lt hm'] at this
  · have : decide (((n : Nat) : Int) ≤ ((r : Nat) : Int)) = false := by simpa using c
    rw [this]
    exact zeroF_out (Nat.mod_lt _ (by omega)) (h.last (by omega))
def strSilent (n : Nat) (xs : List Nat) (a b c d : Nat) : Bool := zeroF xs n && (stillF a b && stillF c d)
/-- behind how many steps a string is silent, and the code of the answer -/
def silF (n : Nat) (Z : Nat → StrSt) : Nat → Nat → Int × Int
  | 0, _ => (0, 7)
  | k + 1, i => if strSilent n (Z i).xs (Z i).t0 (Z i).t1 (Z i).d0 (Z i).d1 then ((i : Int), 0) else silF n Z k (i + 1)
section
variable {n k k' i : Nat} {Z : Nat → StrSt} {R : Int × Int}
end

set_option maxRecDepth 100000 in
set_option maxHeartbeats 2000000 in
theorem c_iPlayStr (n : Nat) (c : Nat) (b : Nat) (xs : List Nat) (i0 : Nat) (tk : Int) (tc0 : Nat) (tc1 : Nat) (tc2 : Nat) (ts0 : Nat) (ts1 : Nat) (dk : Int) (dc0 : Nat) (dc1 : Nat) (dc2 : Nat) (ds0 : Nat) (ds1 : Nat) (g : Nat) (q : Nat) (z : StrSt) (ou : List Nat) (ln : xs.length = n) (hi0 : i0 < n) (hn : n ≤ 1024) (wx : W32 xs) (lts0 : ts0 < wid .f32) (lts1 : ts1 < wid .f32) (lds0 : ds0 < wid .f32) (lds1 : ds1 < wid .f32) (hze : z = (strAt n tk tc0 tc1 tc2 dk dc0 dc1 dc2 g xs i0 ts0 ts1 ds0 ds1 (fun _ => 0) q)) (hoe : ou = (outs (strOut n tk tc0 tc1 tc2 dk dc0 dc1 dc2 g xs i0 ts0 ts1 ds0 ds1 (fun _ => 0)) q)) (hq : q ≤ 4096) (hv : vStr n ((i0 : Nat) : Int) tk tc0 tc1 tc2 ts0 ts1 dk dc0 dc1 dc2 ds0 ds1 g = true) (w : World) (r : Rng w b 0 (fl xs)) : Cl Try.prog 23 #[.agg #[vS b 0 n c, vI ((i0 : Nat) : Int), vI tk, vF tc0, vF tc1, vF tc2, vF ts0, vF ts1, vI dk, vF dc0, vF dc1, vF dc2, vF ds0, vF ds1, vF g], vI ((q : Nat) : Int)] w fun v w' => ∃ (b' : Nat) (c' : Nat) (e' : Nat) (c3' : Nat) (A' : Option Addr), v = .tuple #[.agg #[vS b' 0 n c', vI ((z.i : Nat) : Int), vI tk, vF tc0, vF tc1, vF tc2, vF (z.t0), vF (z.t1), vI dk, vF dc0, vF dc1, vF dc2, vF (z.d0), vF (z.d1), vF g], .slice A' q c3', vI 0] ∧ (z.xs.length = n) ∧ (ou.length = q) ∧ (0 < q → A' = some ⟨e', 0, none⟩) ∧ Row w' b' 0 (fl z.xs) ∧ Row w' e' 0 (fl ou) ∧ w.heap.size ≤ b' ∧ w.heap.size ≤ e' ∧ b' ≠ e' ∧ Mod [] w w' := by
  refine Cl.of Try.func23 Try.ntmps23 rfl rfl (ρ := [(0, .agg #[vS b 0 n c, vI ((i0 : Nat) : Int), vI tk, vF tc0, vF tc1, vF tc2, vF ts0, vF ts1, vI dk, vF dc0, vF dc1, vF dc2, vF ds0, vF ds1, vF g]), (1, vI ((q : Nat) : Int))]) rfl ?_
  refine CE.seq ?_
  refine CE.region ?_
  refine WL.op (op_box (cs := [vS b 0 n c, vI ((i0 : Nat) : Int), vI tk, vF tc0, vF tc1, vF tc2, vF ts0, vF ts1, vI dk, vF dc0, vF dc1, vF dc2, vF ds0, vF ds1, vF g]) rfl rfl) rfl rfl (ltb rfl) ?_
  rintro _ w1 ⟨rfl, r1, m1, z1⟩
  refine WL.op (op_alloc (cs := [.slice none 0 0, vI 0, vI 0, vF 0, vF 0, vF 0, vF 0, vF 0, vI 0, vF 0, vF 0, vF 0, vF 0, vF 0, vF 0]) Try.zeroValue33 rfl) rfl rfl (ltb rfl) ?_
  rintro _ w2 ⟨rfl, r2, m2, z2⟩
  refine WL.det (op_assign rfl) rfl rfl rfl ?_
  refine WL.det (op_assign rfl) rfl rfl rfl ?_
  refine WL.end ?_
  refine NE.code ?_
  refine CE.seq ?_
  refine CE.block ?_
  refine CE.seq ?_
  refine CE.region ?_
  refine WL.det (op_loadA (i := 0) (cs := [vS b 0 n c, vI ((i0 : Nat) : Int), vI tk, vF tc0, vF tc1, vF tc2, vF ts0, vF ts1, vI dk, vF dc0, vF dc1, vF dc2, vF ds0, vF ds1, vF g]) rfl Try.isAgg33 Try.sizeOf33 (r1.ext m2).rng rfl rfl rfl) rfl rfl rfl ?_
  refine WL.call (oc_call (vs := [.agg #[vS b 0 n c, vI ((i0 : Nat) : Int), vI tk, vF tc0, vF tc1, vF tc2, vF ts0, vF ts1, vI dk, vF dc0, vF dc1, vF dc2, vF ds0, vF ds1, vF g]]) (cap := []) rfl rfl rfl Try.call63 (c_ValidString n c (some ⟨b, 0, none⟩) ((i0 : Nat) : Int) tk tc0 tc1 tc2 ts0 ts1 dk dc0 dc1 dc2 ds0 ds1 g (by omega) w2)) rfl rfl (ltb rfl) ?_
  rintro _ w3 ⟨rfl, m3⟩
  refine WL.det (op_not rfl) rfl rfl rfl ?_
  refine WL.det (op_assign rfl) rfl rfl rfl ?_
  refine WL.end ?_
  refine NE.code ?_
  refine CE.cond_f rfl (bnot_t hv) ?_
  refine CE.seq ?_
  refine CE.region ?_
  refine WL.det (op_move rfl) rfl rfl rfl ?_
  refine WL.call (oc_call (vs := [vI ((q : Nat) : Int), vI 0, vI 4096]) (cap := []) rfl rfl rfl Try.call78 (c_within ((q : Nat) : Int) (0 : Int) (4096 : Int) w3)) rfl rfl (ltb rfl) ?_
  rintro _ _ ⟨rfl, rfl⟩
  refine WL.det (op_not rfl) rfl rfl rfl ?_
  refine WL.det (op_assign rfl) rfl rfl rfl ?_
  refine WL.end ?_
  refine NE.code ?_
  refine CE.cond_f rfl (bnot_t ((vIn_t _ _ _).2 ⟨by omega, by omega⟩)) ?_
  refine CE.skip' ?_
  refine NE.blk ?_
  refine NE.code ?_
  refine CE.seq ?_
  refine CE.region ?_
  refine WL.det (op_loadA (i := 0) (cs := [vS b 0 n c, vI ((i0 : Nat) : Int), vI tk, vF tc0, vF tc1, vF tc2, vF ts0, vF ts1, vI dk, vF dc0, vF dc1, vF dc2, vF ds0, vF ds1, vF g]) rfl Try.isAgg33 Try.sizeOf33 ((r1.ext m2).ext m3).rng rfl rfl rfl) rfl rfl rfl ?_
  refine WL.call (oc_call (vs := [.agg #[vS b 0 n c, vI ((i0 : Nat) : Int), vI tk, vF tc0, vF tc1, vF tc2, vF ts0, vF ts1, vI dk, vF dc0, vF dc1, vF dc2, vF ds0, vF ds1, vF g]]) (cap := []) rfl rfl rfl Try.call79 (c_cloneString n c b xs ((i0 : Nat) : Int) tk tc0 tc1 tc2 ts0 ts1 dk dc0 dc1 dc2 ds0 ds1 g ln (by omega) (by omega) w3 (((r.ext m1).ext m2).ext m3))) rfl rfl (ltb rfl) ?_
  rintro _ w4 ⟨b'1, c'1, rfl, r3, ge1, m4⟩
  refine WL.op0 (op_store (i := 0) (cs := [vS b'1 0 n c'1, vI ((i0 : Nat) : Int), vI tk, vF tc0, vF tc1, vF tc2, vF ts0, vF ts1, vI dk, vF dc0, vF dc1, vF dc2, vF ds0, vF ds1, vF g]) rfl rfl rfl Try.sizeOf33 rfl (((r1.ext m2).ext m3).ext m4) rfl (lB rfl) rfl) rfl rfl ?_
  rintro _ w5 ⟨r4, m5, z3⟩
  have r5 : Row w5 w.heap.size 0 [vS b'1 0 n c'1, vI ((i0 : Nat) : Int), vI tk, vF tc0, vF tc1, vF tc2, vF ts0, vF ts1, vI dk, vF dc0, vF dc1, vF dc2, vF ds0, vF ds1, vF g] := Row.congr r4 rfl
  refine WL.end ?_
  refine NE.code ?_
  refine CE.seq ?_
  refine CE.region ?_
  refine WL.det (op_assign rfl) rfl rfl rfl ?_
  refine WL.end ?_
  refine NE.code ?_
  refine CE.seq ?_
  refine CE.seq ?_
  refine CE.region ?_
  refine WL.det (op_move rfl) rfl rfl rfl ?_
  refine WL.det (op_move rfl) rfl rfl rfl ?_
  refine WL.end ?_
  refine NE.code ?_
  refine CE.block ?_
  refine CE.loop (fun (z : Nat × Option Addr × Nat) => [(21, vI ((z.1 : Nat) : Int)), (7, .slice z.2.1 z.1 z.2.2), (2, vP w.heap.size 0), (4, vP w1.heap.size 0), (5, .slice none 0 0), (6, vI 0), (20, vI ((q : Nat) : Int))]) (fun (z : Nat × Option Addr × Nat) => fun W => (z.1 ≤ q) ∧ ((strAt n tk tc0 tc1 tc2 dk dc0 dc1 dc2 g xs i0 ts0 ts1 ds0 ds1 (fun _ => 0) z.1).i < n) ∧ ((strAt n tk tc0 tc1 tc2 dk dc0 dc1 dc2 g xs i0 ts0 ts1 ds0 ds1 (fun _ => 0) z.1).xs.length = n) ∧ (W32 (strAt n tk tc0 tc1 tc2 dk dc0 dc1 dc2 g xs i0 ts0 ts1 ds0 ds1 (fun _ => 0) z.1).xs) ∧ ((strAt n tk tc0 tc1 tc2 dk dc0 dc1 dc2 g xs i0 ts0 ts1 ds0 ds1 (fun _ => 0) z.1).t0 < wid .f32) ∧ ((strAt n tk tc0 tc1 tc2 dk dc0 dc1 dc2 g xs i0 ts0 ts1 ds0 ds1 (fun _ => 0) z.1).t1 < wid .f32) ∧ ((strAt n tk tc0 tc1 tc2 dk dc0 dc1 dc2 g xs i0 ts0 ts1 ds0 ds1 (fun _ => 0) z.1).d0 < wid .f32) ∧ ((strAt n tk tc0 tc1 tc2 dk dc0 dc1 dc2 g xs i0 ts0 ts1 ds0 ds1 (fun _ => 0) z.1).d1 < wid .f32) ∧ Row W w.heap.size 0 [vS b'1 0 n c'1, vI (((strAt n tk tc0 tc1 tc2 dk dc0 dc1 dc2 g xs i0 ts0 ts1 ds0 ds1 (fun _ => 0) z.1).i : Nat) : Int), vI tk, vF tc0, vF tc1, vF tc2, vF ((strAt n tk tc0 tc1 tc2 dk dc0 dc1 dc2 g xs i0 ts0 ts1 ds0 ds1 (fun _ => 0) z.1).t0), vF ((strAt n tk tc0 tc1 tc2 dk dc0 dc1 dc2 g xs i0 ts0 ts1 ds0 ds1 (fun _ => 0) z.1).t1), vI dk, vF dc0, vF dc1, vF dc2, vF ((strAt n tk tc0 tc1 tc2 dk dc0 dc1 dc2 g xs i0 ts0 ts1 ds0 ds1 (fun _ => 0) z.1).d0), vF ((strAt n tk tc0 tc1 tc2 dk dc0 dc1 dc2 g xs i0 ts0 ts1 ds0 ds1 (fun _ => 0) z.1).d1), vF g] ∧ Row W b'1 0 (fl ((strAt n tk tc0 tc1 tc2 dk dc0 dc1 dc2 g xs i0 ts0 ts1 ds0 ds1 (fun _ => 0) z.1).xs)) ∧ Own 27 1 w5.heap.size W z.2.1 z.1 z.2.2 (fl (outs (strOut n tk tc0 tc1 tc2 dk dc0 dc1 dc2 g xs i0 ts0 ts1 ds0 ds1 (fun _ => 0)) z.1)) ∧ Mod [w.heap.size, b'1] w5 W) (fun (z : Nat × Option Addr × Nat) => q - z.1) (0, none, 0) (⟨rfl, rfl, rfl, rfl, rfl, rfl, rfl, trivial⟩) ⟨(by omega), (by rw [strAt_zero]; exact hi0), (by rw [strAt_zero]; exact ln), (by rw [strAt_zero]; exact wx), (by rw [strAt_zero]; assumption), (by rw [strAt_zero]; assumption), (by rw [strAt_zero]; assumption), (by rw [strAt_zero]; assumption), (Row.congr r5 (by rw [strAt_zero])), (Row.congr (r3.mod m5 (nC (lG (lL (lL r1.lt (lT m2.size m3.size)) ge1)) nN)) (by rw [strAt_zero])), (Own.congr Own.nil (outs_zero _)), Mod.refl _ _⟩ ?_
  rintro ⟨i, A, cc⟩ w6 ⟨hi, hz, hl, hx, b0, b1, b2, b3, r6, r7, ow1, m6⟩
  replace hi : i ≤ q := hi
  replace hz : (strAt n tk tc0 tc1 tc2 dk dc0 dc1 dc2 g xs i0 ts0 ts1 ds0 ds1 (fun _ => 0) i).i < n := hz
  replace hl : (strAt n tk tc0 tc1 tc2 dk dc0 dc1 dc2 g xs i0 ts0 ts1 ds0 ds1 (fun _ => 0) i).xs.length = n := hl
  replace hx : W32 (strAt n tk tc0 tc1 tc2 dk dc0 dc1 dc2 g xs i0 ts0 ts1 ds0 ds1 (fun _ => 0) i).xs := hx
  replace b0 : (strAt n tk tc0 tc1 tc2 dk dc0 dc1 dc2 g xs i0 ts0 ts1 ds0 ds1 (fun _ => 0) i).t0 < wid .f32 := b0
  replace b1 : (strAt n tk tc0 tc1 tc2 dk dc0 dc1 dc2 g xs i0 ts0 ts1 ds0 ds1 (fun _ => 0) i).t1 < wid .f32 := b1
  replace b2 : (strAt n tk tc0 tc1 tc2 dk dc0 dc1 dc2 g xs i0 ts0 ts1 ds0 ds1 (fun _ => 0) i).d0 < wid .f32 := b2
  replace b3 : (strAt n tk tc0 tc1 tc2 dk dc0 dc1 dc2 g xs i0 ts0 ts1 ds0 ds1 (fun _ => 0) i).d1 < wid .f32 := b3
  replace r6 : Row w6 w.heap.size 0 [vS b'1 0 n c'1, vI (((strAt n tk tc0 tc1 tc2 dk dc0 dc1 dc2 g xs i0 ts0 ts1 ds0 ds1 (fun _ => 0) i).i : Nat) : Int), vI tk, vF tc0, vF tc1, vF tc2, vF ((strAt n tk tc0 tc1 tc2 dk dc0 dc1 dc2 g xs i0 ts0 ts1 ds0 ds1 (fun _ => 0) i).t0), vF ((strAt n tk tc0 tc1 tc2 dk dc0 dc1 dc2 g xs i0 ts0 ts1 ds0 ds1 (fun _ => 0) i).t1), vI dk, vF dc0, vF dc1, vF dc2, vF ((strAt n tk tc0 tc1 tc2 dk dc0 dc1 dc2 g xs i0 ts0 ts1 ds0 ds1 (fun _ => 0) i).d0), vF ((strAt n tk tc0 tc1 tc2 dk dc0 dc1 dc2 g xs i0 ts0 ts1 ds0 ds1 (fun _ => 0) i).d1), vF g] := r6
  replace r7 : Row w6 b'1 0 (fl ((strAt n tk tc0 tc1 tc2 dk dc0 dc1 dc2 g xs i0 ts0 ts1 ds0 ds1 (fun _ => 0) i).xs)) := r7
  replace ow1 : Own 27 1 w5.heap.size w6 A i cc (fl (outs (strOut n tk tc0 tc1 tc2 dk dc0 dc1 dc2 g xs i0 ts0 ts1 ds0 ds1 (fun _ => 0)) i)) := ow1
  show CE _ _ _ _ [(21, vI ((i : Nat) : Int)), (7, .slice A i cc), (2, vP w.heap.size 0), (4, vP w1.heap.size 0), (5, .slice none 0 0), (6, vI 0), (20, vI ((q : Nat) : Int))] _
  refine CE.seq ?_
  refine CE.region ?_
  refine WL.det (op_lti rfl rfl) rfl rfl rfl ?_
  refine WL.end ?_
  refine NE.code ?_
  refine CE.seq ?_
  rcases Bool.eq_false_or_eq_true (decide (((i : Nat) : Int) < ((q : Nat) : Int))) with hb1 | hb1
  · have hp1 := hb1; try simp only [Bool.and_eq_true, Bool.or_eq_true, Bool.not_eq_true', Bool.not_eq_false', Bool.and_eq_false_iff, Bool.or_eq_false_iff, decide_eq_true_eq, decide_eq_false_iff_not, beq_iff_eq, bne_iff_ne, beq_eq_false_iff_ne, bne_eq_false_iff_eq, ne_eq, Bool.false_eq_true, not_false_eq_true, not_true_eq_false, vIn_t, vIn_f] at hp1
    refine CE.cond_t rfl hb1 ?_
    refine CE.skip' ?_
    refine NE.code ?_
    refine CE.seq ?_
    refine CE.block ?_
    refine CE.region ?_
    refine WL.det (op_move rfl) rfl rfl rfl ?_
    refine WL.call (oc_call (vs := [vP w.heap.size 0, vF 0]) (cap := []) rfl rfl rfl Try.call84 (c_strStep n c'1 b'1 ((strAt n tk tc0 tc1 tc2 dk dc0 dc1 dc2 g xs i0 ts0 ts1 ds0 ds1 (fun _ => 0) i).xs) ((strAt n tk tc0 tc1 tc2 dk dc0 dc1 dc2 g xs i0 ts0 ts1 ds0 ds1 (fun _ => 0) i).i) tk tc0 tc1 tc2 ((strAt n tk tc0 tc1 tc2 dk dc0 dc1 dc2 g xs i0 ts0 ts1 ds0 ds1 (fun _ => 0) i).t0) ((strAt n tk tc0 tc1 tc2 dk dc0 dc1 dc2 g xs i0 ts0 ts1 ds0 ds1 (fun _ => 0) i).t1) dk dc0 dc1 dc2 ((strAt n tk tc0 tc1 tc2 dk dc0 dc1 dc2 g xs i0 ts0 ts1 ds0 ds1 (fun _ => 0) i).d0) ((strAt n tk tc0 tc1 tc2 dk dc0 dc1 dc2 g xs i0 ts0 ts1 ds0 ds1 (fun _ => 0) i).d1) g w.heap.size 0 [vS b'1 0 n c'1, vI (((strAt n tk tc0 tc1 tc2 dk dc0 dc1 dc2 g xs i0 ts0 ts1 ds0 ds1 (fun _ => 0) i).i : Nat) : Int), vI tk, vF tc0, vF tc1, vF tc2, vF ((strAt n tk tc0 tc1 tc2 dk dc0 dc1 dc2 g xs i0 ts0 ts1 ds0 ds1 (fun _ => 0) i).t0), vF ((strAt n tk tc0 tc1 tc2 dk dc0 dc1 dc2 g xs i0 ts0 ts1 ds0 ds1 (fun _ => 0) i).t1), vI dk, vF dc0, vF dc1, vF dc2, vF ((strAt n tk tc0 tc1 tc2 dk dc0 dc1 dc2 g xs i0 ts0 ts1 ds0 ds1 (fun _ => 0) i).d0), vF ((strAt n tk tc0 tc1 tc2 dk dc0 dc1 dc2 g xs i0 ts0 ts1 ds0 ds1 (fun _ => 0) i).d1), vF g] 0 0 hl (by first | omega | exact Nat.mod_lt _ (by omega)) (by omega) b0 b1 b2 b3 (lB rfl) rfl (by decide +kernel) hx w6 (Row.congr r6 rfl) r7 (lE (lL (lL r1.lt (lT m2.size m3.size)) ge1)))) rfl rfl (ltb rfl) ?_
    rintro _ w7 ⟨rfl, h1, h2, h3, h4, h5, r8, r9, m7⟩
    have r10 : Row w7 w.heap.size 0 [vS b'1 0 n c'1, vI (((((strAt n tk tc0 tc1 tc2 dk dc0 dc1 dc2 g xs i0 ts0 ts1 ds0 ds1 (fun _ => 0) i).i) + 1) % n : Nat) : Int), vI tk, vF tc0, vF tc1, vF tc2, vF (stepS tk tc0 tc1 tc2 ((strAt n tk tc0 tc1 tc2 dk dc0 dc1 dc2 g xs i0 ts0 ts1 ds0 ds1 (fun _ => 0) i).t0) ((strAt n tk tc0 tc1 tc2 dk dc0 dc1 dc2 g xs i0 ts0 ts1 ds0 ds1 (fun _ => 0) i).t1) (((strAt n tk tc0 tc1 tc2 dk dc0 dc1 dc2 g xs i0 ts0 ts1 ds0 ds1 (fun _ => 0) i).xs).getD ((strAt n tk tc0 tc1 tc2 dk dc0 dc1 dc2 g xs i0 ts0 ts1 ds0 ds1 (fun _ => 0) i).i) 0)), vF (stepT tk tc0 tc1 tc2 ((strAt n tk tc0 tc1 tc2 dk dc0 dc1 dc2 g xs i0 ts0 ts1 ds0 ds1 (fun _ => 0) i).t0) ((strAt n tk tc0 tc1 tc2 dk dc0 dc1 dc2 g xs i0 ts0 ts1 ds0 ds1 (fun _ => 0) i).t1) (((strAt n tk tc0 tc1 tc2 dk dc0 dc1 dc2 g xs i0 ts0 ts1 ds0 ds1 (fun _ => 0) i).xs).getD ((strAt n tk tc0 tc1 tc2 dk dc0 dc1 dc2 g xs i0 ts0 ts1 ds0 ds1 (fun _ => 0) i).i) 0)), vI dk, vF dc0, vF dc1, vF dc2, vF (stepS dk dc0 dc1 dc2 ((strAt n tk tc0 tc1 tc2 dk dc0 dc1 dc2 g xs i0 ts0 ts1 ds0 ds1 (fun _ => 0) i).d0) ((strAt n tk tc0 tc1 tc2 dk dc0 dc1 dc2 g xs i0 ts0 ts1 ds0 ds1 (fun _ => 0) i).d1) (stepY tk tc0 tc1 tc2 ((strAt n tk tc0 tc1 tc2 dk dc0 dc1 dc2 g xs i0 ts0 ts1 ds0 ds1 (fun _ => 0) i).t0) ((strAt n tk tc0 tc1 tc2 dk dc0 dc1 dc2 g xs i0 ts0 ts1 ds0 ds1 (fun _ => 0) i).t1) (((strAt n tk tc0 tc1 tc2 dk dc0 dc1 dc2 g xs i0 ts0 ts1 ds0 ds1 (fun _ => 0) i).xs).getD ((strAt n tk tc0 tc1 tc2 dk dc0 dc1 dc2 g xs i0 ts0 ts1 ds0 ds1 (fun _ => 0) i).i) 0))), vF (stepT dk dc0 dc1 dc2 ((strAt n tk tc0 tc1 tc2 dk dc0 dc1 dc2 g xs i0 ts0 ts1 ds0 ds1 (fun _ => 0) i).d0) ((strAt n tk tc0 tc1 tc2 dk dc0 dc1 dc2 g xs i0 ts0 ts1 ds0 ds1 (fun _ => 0) i).d1) (stepY tk tc0 tc1 tc2 ((strAt n tk tc0 tc1 tc2 dk dc0 dc1 dc2 g xs i0 ts0 ts1 ds0 ds1 (fun _ => 0) i).t0) ((strAt n tk tc0 tc1 tc2 dk dc0 dc1 dc2 g xs i0 ts0 ts1 ds0 ds1 (fun _ => 0) i).t1) (((strAt n tk tc0 tc1 tc2 dk dc0 dc1 dc2 g xs i0 ts0 ts1 ds0 ds1 (fun _ => 0) i).xs).getD ((strAt n tk tc0 tc1 tc2 dk dc0 dc1 dc2 g xs i0 ts0 ts1 ds0 ds1 (fun _ => 0) i).i) 0))), vF g] := r8
    refine WL.op (op_buildSl (qs := [(0, vF (((strAt n tk tc0 tc1 tc2 dk dc0 dc1 dc2 g xs i0 ts0 ts1 ds0 ds1 (fun _ => 0) i).xs).getD ((strAt n tk tc0 tc1 tc2 dk dc0 dc1 dc2 g xs i0 ts0 ts1 ds0 ds1 (fun _ => 0) i).i) 0))]) (cells := #[vF (((strAt n tk tc0 tc1 tc2 dk dc0 dc1 dc2 g xs i0 ts0 ts1 ds0 ds1 (fun _ => 0) i).xs).getD ((strAt n tk tc0 tc1 tc2 dk dc0 dc1 dc2 g xs i0 ts0 ts1 ds0 ds1 (fun _ => 0) i).i) 0)]) rfl Try.runUnderlying24 Try.sizeOf27 Try.zeroValue27 (by decide) (by decide) (by kernel_rfl)) rfl rfl (ltb rfl) ?_
    rintro _ w8 ⟨rfl, r11, m8, z4⟩
    refine WL.op (op_app (i := Try.t27) (m := 1) (bt := 4) (news := [vF (((strAt n tk tc0 tc1 tc2 dk dc0 dc1 dc2 g xs i0 ts0 ts1 ds0 ds1 (fun _ => 0) i).xs).getD ((strAt n tk tc0 tc1 tc2 dk dc0 dc1 dc2 g xs i0 ts0 ts1 ds0 ds1 (fun _ => 0) i).i) 0)]) rfl rfl Try.underlying24 rfl rfl rfl rfl rfl (by decide) r11.rng rfl rfl ((ow1.mod m7 (altC (lL r1.lt (lT (lT (lT m2.size m3.size) m4.size) m5.size)) (altC (lL r3.lt m5.size) altN))).ext m8) (lT (lT m6.size m7.size) m8.size) (by omega) (by decide)) rfl rfl (ltb rfl) ?_
    rintro _ w9 ⟨A1, c1, b1, rfl, ow2, ge2, m9⟩
    refine WL.det (op_assign rfl) rfl rfl rfl ?_
    refine WL.end ?_
    refine NE.blk ?_
    refine NE.code ?_
    refine CE.region ?_
    refine WL.det (op_add (r := ((i + 1 : Nat) : Int)) rfl rfl (w_i64 (by omega) (by omega))) rfl rfl rfl ?_
    refine WL.det (op_move rfl) rfl rfl rfl ?_
    refine WL.end ?_
    exact NE.again ((i + 1), A1, c1) (⟨rfl, rfl, rfl, rfl, rfl, rfl, rfl, trivial⟩) ⟨(by omega), (by rw [strAt_succ]; exact Nat.mod_lt _ (by omega)), (by rw [strAt_succ]; exact (List.length_set).trans hl), (by rw [strAt_succ]; exact W32.set hx (by assumption)), (by rw [strAt_succ]; assumption), (by rw [strAt_succ]; assumption), (by rw [strAt_succ]; assumption), (by rw [strAt_succ]; assumption), (Row.congr ((r10.ext m8).mod m9 (nC (lE (lL (lL r1.lt (lT (lT (lT m2.size m3.size) m4.size) m5.size)) ge2)) nN)) (by rw [strAt_succ]; rfl)), (Row.congr ((r9.ext m8).mod m9 (nC (lE (lL (lL r3.lt m5.size) ge2)) nN)) (by rw [strAt_succ]; rfl)), (Own.congr ow2 (outs_succ _ _)), (((m6.then m7 ((aC (.inl (by simp)) (aC (.inl (by simp)) aN)))).nt m8).then m9 ((aC (.inr ge2) aN)))⟩ (by first | (dsimp only; omega) | omega)
  · have hp1 := hb1; try simp only [Bool.and_eq_true, Bool.or_eq_true, Bool.not_eq_true', Bool.not_eq_false', Bool.and_eq_false_iff, Bool.or_eq_false_iff, decide_eq_true_eq, decide_eq_false_iff_not, beq_iff_eq, bne_iff_ne, beq_eq_false_iff_ne, bne_eq_false_iff_eq, ne_eq, Bool.false_eq_true, not_false_eq_true, not_true_eq_false, vIn_t, vIn_f] at hp1
    refine CE.cond_f rfl hb1 ?_
    refine CE.exit' ?_
    refine XE.exit_then ?_
    refine XE.exit_then ?_
    refine XE.exit_here ?_
    refine NE.code ?_
    refine CE.seq ?_
    refine CE.region ?_
    refine WL.det (op_loadA (i := 0) (cs := [vS b'1 0 n c'1, vI (((strAt n tk tc0 tc1 tc2 dk dc0 dc1 dc2 g xs i0 ts0 ts1 ds0 ds1 (fun _ => 0) i).i : Nat) : Int), vI tk, vF tc0, vF tc1, vF tc2, vF ((strAt n tk tc0 tc1 tc2 dk dc0 dc1 dc2 g xs i0 ts0 ts1 ds0 ds1 (fun _ => 0) i).t0), vF ((strAt n tk tc0 tc1 tc2 dk dc0 dc1 dc2 g xs i0 ts0 ts1 ds0 ds1 (fun _ => 0) i).t1), vI dk, vF dc0, vF dc1, vF dc2, vF ((strAt n tk tc0 tc1 tc2 dk dc0 dc1 dc2 g xs i0 ts0 ts1 ds0 ds1 (fun _ => 0) i).d0), vF ((strAt n tk tc0 tc1 tc2 dk dc0 dc1 dc2 g xs i0 ts0 ts1 ds0 ds1 (fun _ => 0) i).d1), vF g]) rfl Try.isAgg33 Try.sizeOf33 r6.rng rfl rfl rfl) rfl rfl rfl ?_
    refine WL.det (op_move rfl) rfl rfl rfl ?_
    refine WL.op0 (op_store (i := 0) (cs := [vS b'1 0 n c'1, vI (((strAt n tk tc0 tc1 tc2 dk dc0 dc1 dc2 g xs i0 ts0 ts1 ds0 ds1 (fun _ => 0) i).i : Nat) : Int), vI tk, vF tc0, vF tc1, vF tc2, vF ((strAt n tk tc0 tc1 tc2 dk dc0 dc1 dc2 g xs i0 ts0 ts1 ds0 ds1 (fun _ => 0) i).t0), vF ((strAt n tk tc0 tc1 tc2 dk dc0 dc1 dc2 g xs i0 ts0 ts1 ds0 ds1 (fun _ => 0) i).t1), vI dk, vF dc0, vF dc1, vF dc2, vF ((strAt n tk tc0 tc1 tc2 dk dc0 dc1 dc2 g xs i0 ts0 ts1 ds0 ds1 (fun _ => 0) i).d0), vF ((strAt n tk tc0 tc1 tc2 dk dc0 dc1 dc2 g xs i0 ts0 ts1 ds0 ds1 (fun _ => 0) i).d1), vF g]) rfl rfl rfl Try.sizeOf33 rfl ((((r2.ext m3).ext m4).mod m5 (nC (lG (lL r1.lt lR)) nN)).mod m6 (nC (lG (lL r1.lt lR)) (nC (lE (lL (lL r2.lt m3.size) ge1)) nN))) rfl (lB rfl) rfl) rfl rfl ?_
    rintro _ w10 ⟨r12, m10, z5⟩
    have r13 : Row w10 w1.heap.size 0 [vS b'1 0 n c'1, vI (((strAt n tk tc0 tc1 tc2 dk dc0 dc1 dc2 g xs i0 ts0 ts1 ds0 ds1 (fun _ => 0) i).i : Nat) : Int), vI tk, vF tc0, vF tc1, vF tc2, vF ((strAt n tk tc0 tc1 tc2 dk dc0 dc1 dc2 g xs i0 ts0 ts1 ds0 ds1 (fun _ => 0) i).t0), vF ((strAt n tk tc0 tc1 tc2 dk dc0 dc1 dc2 g xs i0 ts0 ts1 ds0 ds1 (fun _ => 0) i).t1), vI dk, vF dc0, vF dc1, vF dc2, vF ((strAt n tk tc0 tc1 tc2 dk dc0 dc1 dc2 g xs i0 ts0 ts1 ds0 ds1 (fun _ => 0) i).d0), vF ((strAt n tk tc0 tc1 tc2 dk dc0 dc1 dc2 g xs i0 ts0 ts1 ds0 ds1 (fun _ => 0) i).d1), vF g] := Row.congr r12 rfl
    refine WL.det (op_assign rfl) rfl rfl rfl ?_
    refine WL.det (op_assign rfl) rfl rfl rfl ?_
    refine WL.end ?_
    refine NE.code ?_
    refine CE.ret' ?_
    have ei : q = i := by omega
    subst ei
    obtain ⟨b2, hA1, r14, hq1⟩ := Own.out (ow1.mod m10 (altC (lL r2.lt (lT (lT m3.size m4.size) m5.size)) altN)) (r6.mod m10 (nC (lE (lL r1.lt lR)) nN))
    refine XE.leaveT Try.results23 (res_agg (cs := [vS b'1 0 n c'1, vI (((strAt n tk tc0 tc1 tc2 dk dc0 dc1 dc2 g xs i0 ts0 ts1 ds0 ds1 (fun _ => 0) q).i : Nat) : Int), vI tk, vF tc0, vF tc1, vF tc2, vF ((strAt n tk tc0 tc1 tc2 dk dc0 dc1 dc2 g xs i0 ts0 ts1 ds0 ds1 (fun _ => 0) q).t0), vF ((strAt n tk tc0 tc1 tc2 dk dc0 dc1 dc2 g xs i0 ts0 ts1 ds0 ds1 (fun _ => 0) q).t1), vI dk, vF dc0, vF dc1, vF dc2, vF ((strAt n tk tc0 tc1 tc2 dk dc0 dc1 dc2 g xs i0 ts0 ts1 ds0 ds1 (fun _ => 0) q).d0), vF ((strAt n tk tc0 tc1 tc2 dk dc0 dc1 dc2 g xs i0 ts0 ts1 ds0 ds1 (fun _ => 0) q).d1), vF g]) rfl Try.isAgg33 Try.sizeOf33 r13.rng rfl (res_tmp rfl (res_tmp rfl res_nil))) ?_
    refine ⟨b'1, c'1, b2, cc, A, ?_, ?_, ?_, hA1, (Row.congr (r7.mod m10 (nC (lG (lL (lL r2.lt m3.size) ge1)) nN)) ?_), (Row.congr r14 ?_), (lT (lT (lT m1.size m2.size) m3.size) ge1), (own_ge hq1 lR (lT (lT (lT (lT m1.size m2.size) m3.size) m4.size) m5.size)), (own_ne hq1 (lG (lL (lL r1.lt (lT m2.size m3.size)) ge1)) (lL r3.lt m5.size)), ((((((((Mod.refl [] w).nt m1).nt m2).nt m3).nt m4).then m5 ((aC (.inr lR) aN))).then m6 ((aC (.inr lR) (aC (.inr (lT (lT (lT m1.size m2.size) m3.size) ge1)) aN)))).then m10 ((aC (.inr (lT m1.size lR)) aN)))⟩
    all_goals subst hze
    all_goals subst hoe
    all_goals first | assumption | exact outs_len _ _ | rfl

set_option maxRecDepth 100000 in
set_option maxHeartbeats 2000000 in
theorem c_quiet (n : Nat) (c : Nat) (b : Nat) (xs : List Nat) (i : Nat) (ln : xs.length = n) (hi : i < n) (hn : n ≤ 1048576) (w : World) (r : Rng w b 0 (fl xs)) : Cl Try.prog 123 #[.agg #[vS b 0 n c, vI ((i : Nat) : Int)]] w fun v w' => ∃ (r0 : Nat), v = vI ((r0 : Nat) : Int) ∧ (QI n xs i r0) ∧ (r0 ≤ n) ∧ Mod [] w w' := by
  refine Cl.of Try.func123 Try.ntmps123 rfl rfl (ρ := [(0, .agg #[vS b 0 n c, vI ((i : Nat) : Int)])]) rfl ?_
  refine CE.seq ?_
  refine CE.region ?_
  refine WL.op (op_box (cs := [vS b 0 n c, vI ((i : Nat) : Int)]) rfl rfl) rfl rfl (ltb rfl) ?_
  rintro _ w1 ⟨rfl, r1, m1, z1⟩
  refine WL.det (op_assign rfl) rfl rfl rfl ?_
  refine WL.end ?_
  refine NE.code ?_
  refine CE.seq ?_
  refine CE.region ?_
  refine WL.det (op_fieldAddr (off' := 0) rfl Try.runUnderlying26 rfl rfl Try.sizeOf24 rfl) rfl rfl rfl ?_
  refine WL.det (op_load1 (i := 0) rfl Try.isAgg24 r1.rng rfl rfl) rfl rfl rfl ?_
  refine WL.call (oc_call (vs := [vS b 0 n c]) (cap := []) rfl rfl rfl Try.call103 (c_length32 n c (some ⟨b, 0, none⟩) w1)) rfl rfl (ltb rfl) ?_
  rintro _ _ ⟨rfl, rfl⟩
  refine WL.det (op_assign rfl) rfl rfl rfl ?_
  refine WL.end ?_
  refine NE.code ?_
  refine CE.seq ?_
  refine CE.seq ?_
  refine CE.region ?_
  refine WL.det (op_assign rfl) rfl rfl rfl ?_
  refine WL.end ?_
  refine NE.code ?_
  refine CE.block ?_
  refine CE.loop (fun (e : Nat) => [(4, vI ((e + 1 : Nat) : Int)), (1, vP w.heap.size 0), (2, vI 0), (3, vI ((n : Nat) : Int))]) (fun (e : Nat) => fun W => (e ≤ n) ∧ (∀ j, 1 ≤ j → j ≤ e → fEq .f32 (xs.getD ((i + n - j) % n) 0) 0 = true) ∧ Mod [] w1 W) (fun (e : Nat) => n - e) 0 (⟨rfl, rfl, rfl, rfl, trivial⟩) ⟨(by omega), (by exact fun j h1 h2 => absurd h2 (by omega)), Mod.refl _ _⟩ ?_
  rintro e w2 ⟨he, hq, m2⟩
  show CE _ _ _ _ [(4, vI ((e + 1 : Nat) : Int)), (1, vP w.heap.size 0), (2, vI 0), (3, vI ((n : Nat) : Int))] _
  refine CE.seq ?_
  refine CE.seq ?_
  refine CE.region ?_
  refine WL.det (op_move rfl) rfl rfl rfl ?_
  refine WL.det (op_move rfl) rfl rfl rfl ?_
  refine WL.det (op_lei rfl rfl) rfl rfl rfl ?_
  refine WL.end ?_
  refine NE.code ?_
  rcases Bool.eq_false_or_eq_true (decide (((e + 1 : Nat) : Int) ≤ ((n : Nat) : Int))) with hb1 | hb1
  · have hp1 := hb1; try simp only [Bool.and_eq_true, Bool.or_eq_true, Bool.not_eq_true', Bool.not_eq_false', Bool.and_eq_false_iff, Bool.or_eq_false_iff, decide_eq_true_eq, decide_eq_false_iff_not, beq_iff_eq, bne_iff_ne, beq_eq_false_iff_ne, bne_eq_false_iff_eq, ne_eq, Bool.false_eq_true, not_false_eq_true, not_true_eq_false, vIn_t, vIn_f] at hp1
    refine CE.cond_t rfl hb1 ?_
    refine CE.skip' ?_
    refine NE.code ?_
    refine CE.seq ?_
    refine CE.block ?_
    refine CE.seq ?_
    refine CE.region ?_
    refine WL.det (op_loadA (i := 0) (cs := [vS b 0 n c, vI ((i : Nat) : Int)]) rfl Try.isAgg26 Try.sizeOf26 (r1.ext m2).rng rfl rfl rfl) rfl rfl rfl ?_
    refine WL.det (op_move rfl) rfl rfl rfl ?_
    refine WL.call (oc_call (vs := [.agg #[vS b 0 n c, vI ((i : Nat) : Int)], vI ((e + 1 : Nat) : Int)]) (cap := []) rfl rfl rfl Try.call102 (c_back n c b xs i (e + 1) ln (by first | omega | exact Nat.mod_lt _ (by omega)) (by omega) (by omega) w2 ((r.ext m1).ext m2))) rfl rfl (ltb rfl) ?_
    rintro _ w3 ⟨rfl, m3⟩
    refine WL.det (op_fne (c := !(fEq .f32 (xs.getD ((i + n - (e + 1)) % n) 0) 0)) rfl rfl rfl rfl rfl) rfl rfl rfl ?_
    refine WL.end ?_
    refine NE.code ?_
    rcases Bool.eq_false_or_eq_true (fEq .f32 (xs.getD ((i + n - (e + 1)) % n) 0) 0) with hb2 | hb2
    · refine CE.cond_f rfl (bnot_t hb2) ?_
      refine CE.skip' ?_
      refine NE.blk ?_
      refine NE.code ?_
      refine CE.region ?_
      refine WL.det (op_move rfl) rfl rfl rfl ?_
      refine WL.det (op_add (r := ((e + 1 + 1 : Nat) : Int)) rfl rfl (w_i64 (by omega) (by omega))) rfl rfl rfl ?_
      refine WL.det (op_assign rfl) rfl rfl rfl ?_
      refine WL.end ?_
      exact NE.again (e + 1) (⟨rfl, rfl, rfl, rfl, trivial⟩) ⟨(by omega), (by exact QI.step hq (by assumption)), (m2.nt m3)⟩ (by first | (dsimp only; omega) | omega)
    · refine CE.cond_t rfl (bnot_f hb2) ?_
      refine CE.seq ?_
      refine CE.region ?_
      refine WL.det (op_move rfl) rfl rfl rfl ?_
      refine WL.det (op_sub (r := ((e + 1 - 1 : Nat) : Int)) rfl rfl (w_nsub (l := e + 1) (n := 1) (by omega) (by omega))) rfl rfl rfl ?_
      refine WL.det (op_assign rfl) rfl rfl rfl ?_
      refine WL.end ?_
      refine NE.code ?_
      refine CE.ret' ?_
      refine XE.ret_blk ?_
      refine XE.ret_then ?_
      refine XE.ret_then ?_
      refine XE.ret_blk ?_
      refine XE.ret_then ?_
      refine XE.leave1 Try.results123 rfl ?_
      refine ⟨(e + 1 - 1), rfl, ?_, ?_, ((((Mod.refl [] w).nt m1).nt m2).nt m3)⟩
      all_goals first | exact (by omega) | exact QI.of hq (fun _ => by assumption) | (refine QI.of (fun j h1 h2 => hq j h1 (by omega)) (fun h => absurd h (by omega)))
  · have hp1 := hb1; try simp only [Bool.and_eq_true, Bool.or_eq_true, Bool.not_eq_true', Bool.not_eq_false', Bool.and_eq_false_iff, Bool.or_eq_false_iff, decide_eq_true_eq, decide_eq_false_iff_not, beq_iff_eq, bne_iff_ne, beq_eq_false_iff_ne, bne_eq_false_iff_eq, ne_eq, Bool.false_eq_true, not_false_eq_true, not_true_eq_false, vIn_t, vIn_f] at hp1
    refine CE.cond_f rfl hb1 ?_
    refine CE.exit' ?_
    refine XE.exit_then ?_
    refine XE.exit_then ?_
    refine XE.exit_here ?_
    refine NE.code ?_
    refine CE.seq ?_
    refine CE.region ?_
    refine WL.det (op_move rfl) rfl rfl rfl ?_
    refine WL.det (op_assign rfl) rfl rfl rfl ?_
    refine WL.end ?_
    refine NE.code ?_
    refine CE.ret' ?_
    refine XE.leave1 Try.results123 rfl ?_
    refine ⟨n, rfl, ?_, ?_, (((Mod.refl [] w).nt m1).nt m2)⟩
    all_goals first | exact (by omega) | exact QI.of hq (fun _ => by assumption) | (refine QI.of (fun j h1 h2 => hq j h1 (by omega)) (fun h => absurd h (by omega)))

end Go.Proofs.Ytabfdgpldcegiaa
