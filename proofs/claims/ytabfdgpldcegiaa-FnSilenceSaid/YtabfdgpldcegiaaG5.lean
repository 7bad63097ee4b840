/- What playing a string does; when a string is silent. -/
import Derived.Test.YtabfdgpldcegiaaG4
import Derived.Test.YtabfdgpldcegiaaE11
set_option linter.unusedVariables false
set_option linter.unusedSimpArgs false
namespace Go.Proofs.Ytabfdgpldcegiaa

/-- the first `n` words are 0 -/
def zeroF (xs : List Nat) (n : Nat) : Bool := (List.range n).all fun j => fEq .f32 (xs.getD j 0) 0
theorem zeroF_step {xs : List Nat} {n : Nat} (h : zeroF xs n = true) (h2 : fEq .f32 (xs.getD n 0) 0 = true) : zeroF xs (n + 1) = true := by
  unfold zeroF at *
  rw [List.range_succ, List.all_append, h]; simpa using h2
theorem zeroF_out {xs : List Nat} {i n : Nat} (hi : i < n) (h2 : fEq .f32 (xs.getD i 0) 0 = false) : zeroF xs n = false := by
  unfold zeroF
  rw [List.all_eq_false]
  exact ⟨i, by simpa using hi, by simpa using h2⟩
theorem zeroF_get {xs : List Nat} {i n : Nat} (h : zeroF xs n = true) (hi : i < n) : fEq .f32 (xs.getD i 0) 0 = true := List.all_eq_true.1 h i (by simpa using hi)
/-- the newest `r` samples of a ring are 0, and the one before them is not -/
structure QI (n : Nat) (xs : List Nat) (i r : Nat) : Prop where
  zero : ∀ j, 1 ≤ j → j ≤ r → j ≤ n → fEq .f32 (xs.getD ((i + n - j) % n) 0) 0 = true
  last : r < n → fEq .f32 (xs.getD ((i + n - (r + 1)) % n) 0) 0 = false
theorem QI.step {n : Nat} {xs : List Nat} {i e : Nat} (h : ∀ j, 1 ≤ j → j ≤ e → fEq .f32 (xs.getD ((i + n - j) % n) 0) 0 = true) (h' : fEq .f32 (xs.getD ((i + n - (e + 1)) % n) 0) 0 = true) : ∀ j, 1 ≤ j → j ≤ e + 1 → fEq .f32 (xs.getD ((i + n - j) % n) 0) 0 = true := fun j h1 h2 => by
  rcases Nat.lt_or_ge e j with c | c
  · obtain rfl : j = e + 1 := by omega
    exact h'
  · exact h j h1 c
theorem QI.of {n : Nat} {xs : List Nat} {i r : Nat} (h : ∀ j, 1 ≤ j → j ≤ r → fEq .f32 (xs.getD ((i + n - j) % n) 0) 0 = true) (k : r < n → fEq .f32 (xs.getD ((i + n - (r + 1)) % n) 0) 0 = false) : QI n xs i r := ⟨fun j a b _ => h j a b, k⟩
theorem back_ne {n i j : Nat} (hi : i < n) (h1 : 1 ≤ j) (h2 : j < n) : (i + n - j) % n ≠ i := by
  intro h
  rcases Nat.lt_or_ge i j with c | c
  · rw [Nat.mod_eq_of_lt (by omega)] at h; omega
  · rw [show i + n - j = (i - j) + n by omega, Nat.add_mod_right, Nat.mod_eq_of_lt (by omega)] at h; omega
theorem back_next {n i j : Nat} (hi : i < n) (h1 : 1 ≤ j) (h2 : j ≤ n) : ((i + 1) % n + n - (j + 1)) % n = (i + n - j) % n ∨ j = n := by
  rcases Nat.lt_or_ge (i + 1) n with c | c
  · rw [Nat.mod_eq_of_lt c]
    by_cases e : j = n
    · exact .inr e
    · left; congr 1; omega
  · have e : i + 1 = n := by omega
    rw [e, Nat.mod_self]
    by_cases e' : j = n
    · exact .inr e'
    · left
      rw [show i + n - j = (0 + n - (j + 1)) + n by omega, Nat.add_mod_right]
theorem back_one {n i : Nat} (hi : i < n) : ((i + 1) % n + n - 1) % n = i := by
  rcases Nat.lt_or_ge (i + 1) n with c | c
  · rw [Nat.mod_eq_of_lt c, show i + 1 + n - 1 = i + n by omega, Nat.add_mod_right, Nat.mod_eq_of_lt hi]
  · have e : i + 1 = n := by omega
    rw [e, Nat.mod_self, Nat.mod_eq_of_lt (by omega)]; omega
theorem QI.down {n : Nat} {xs : List Nat} {i : Nat} (h : fEq .f32 (xs.getD ((i + n - 1) % n) 0) 0 = false) : QI n xs i 0 := ⟨fun j a b => absurd b (by omega), fun _ => h⟩
theorem QI.up {n : Nat} {xs : List Nat} {i r a : Nat} (h : QI n xs i r) (hi : i < n) (hl : xs.length = n) (h0 : fEq .f32 ((xs.set i a).getD (((i + 1) % n + n - 1) % n) 0) 0 = true) : QI n (xs.set i a) ((i + 1) % n) (r + 1) := by
  have other : ∀ j, 1 ≤ j → j < n → (xs.set i a).getD (((i + 1) % n + n - (j + 1)) % n) 0 = xs.getD ((i + n - j) % n) 0 := fun j h1 h2 => by
    rcases back_next hi h1 (Nat.le_of_lt h2) with e | e
    · rw [e, List.getD_eq_getElem?_getD, List.getElem?_set_ne (Ne.symm (back_ne hi h1 h2)), List.getD_eq_getElem?_getD]
    · omega
  refine ⟨fun j a1 a2 a3 => ?_, fun hr => ?_⟩
  · rcases Nat.lt_or_ge 1 j with c | c
    · obtain ⟨j, rfl⟩ : ∃ k, j = k + 1 := ⟨j - 1, by omega⟩
      rw [other j (by omega) (by omega)]
      exact h.zero j (by omega) (by omega) (by omega)
    · obtain rfl : j = 1 := by omega
      exact h0
  · rw [other (r + 1) (by omega) (by omega)]
    exact h.last (by omega)
theorem QI.all {n : Nat} {xs : List Nat} {i r : Nat} (h : QI n xs i r) (hi : i < n) : zeroF xs n = decide (((n : Nat) : Int) ≤ ((r : Nat) : Int)) := by
  by_cases c : n ≤ r
  · have : decide (((n : Nat) : Int) ≤ ((r : Nat) : Int)) = true := by simpa using c
    rw [this]
    unfold zeroF
    rw [List.all_eq_true]
    intro m hm
    have hm' : m < n := by simpa using hm
    rcases Nat.lt_or_ge m i with d | d
    · have := h.zero (i - m) (by omega) (by omega) (by omega)
      rwa [show i + n - (i - m) = m + n by omega, Nat.add_mod_right, Nat.mod_eq_of_lt hm'] at this
    · have := h.zero (i + n - m) (by omega) (by omega) (by omega)
      rwa [show i + n - (i + n - m) = m by omega, Nat.mod_eq_of_lt hm'] at this
  · have : decide (((n : Nat) : Int) ≤ ((r : Nat) : Int)) = false := by simpa using c
    rw [this]
    exact zeroF_out (Nat.mod_lt _ (by omega)) (h.last (by omega))
def strSilent (n : Nat) (xs : List Nat) (a b c d : Nat) : Bool := zeroF xs n && (stillF a b && stillF c d)
theorem sil_of {n r : Nat} {z : StrSt} (hq : QI n z.xs z.i r) (hz : z.i < n) : strSilent n z.xs z.t0 z.t1 z.d0 z.d1 = ((stillF z.t0 z.t1 && stillF z.d0 z.d1) && decide (((n : Nat) : Int) ≤ ((r : Nat) : Int))) := by
  unfold strSilent; rw [hq.all hz, Bool.and_comm]
theorem sil_yes {n r : Nat} {z : StrSt} (hq : QI n z.xs z.i r) (hz : z.i < n) (h1 : (stillF z.t0 z.t1 && stillF z.d0 z.d1) = true) (h2 : decide (((n : Nat) : Int) ≤ ((r : Nat) : Int)) = true) : strSilent n z.xs z.t0 z.t1 z.d0 z.d1 = true := by rw [sil_of hq hz, h1, h2]; rfl
theorem sil_no1 {n r : Nat} {z : StrSt} (hq : QI n z.xs z.i r) (hz : z.i < n) (h1 : (stillF z.t0 z.t1 && stillF z.d0 z.d1) = false) : strSilent n z.xs z.t0 z.t1 z.d0 z.d1 = false := by rw [sil_of hq hz, h1]; rfl
theorem sil_no2 {n r : Nat} {z : StrSt} (hq : QI n z.xs z.i r) (hz : z.i < n) (h2 : decide (((n : Nat) : Int) ≤ ((r : Nat) : Int)) = false) : strSilent n z.xs z.t0 z.t1 z.d0 z.d1 = false := by rw [sil_of hq hz, h2, Bool.and_false]
/-- behind how many steps a string is silent, and the code of the answer -/
def silF (n : Nat) (Z : Nat → StrSt) : Nat → Nat → Int × Int
  | 0, _ => (0, 7)
  | k + 1, i => if strSilent n (Z i).xs (Z i).t0 (Z i).t1 (Z i).d0 (Z i).d1 then ((i : Int), 0) else silF n Z k (i + 1)
section
variable {n k k' i : Nat} {Z : Nat → StrSt} {R : Int × Int}
theorem silF_next (he : silF n Z k i = R) (h : strSilent n (Z i).xs (Z i).t0 (Z i).t1 (Z i).d0 (Z i).d1 = false) (hk : 0 < k) (hk' : k' = k - 1) : silF n Z k' (i + 1) = R := by
  subst hk' he
  cases k with
  | zero => omega
  | succ k => simp [silF, h]
theorem silF_yes (h : strSilent n (Z i).xs (Z i).t0 (Z i).t1 (Z i).d0 (Z i).d1 = true) (hk : 0 < k) : silF n Z k i = ((i : Int), 0) := by
  cases k with
  | zero => omega
  | succ k => simp [silF, h]
theorem silF_no (hk : k = 0) : silF n Z k i = (0, 7) := by subst hk; rfl
end

set_option maxRecDepth 100000 in
set_option maxHeartbeats 2000000 in
theorem c_sPlayStr (n : Nat) (c : Nat) (b : Nat) (xs : List Nat) (i0 : Nat) (tk : Int) (tc0 : Nat) (tc1 : Nat) (tc2 : Nat) (ts0 : Nat) (ts1 : Nat) (dk : Int) (dc0 : Nat) (dc1 : Nat) (dc2 : Nat) (ds0 : Nat) (ds1 : Nat) (g : Nat) (q : Nat) (z : StrSt) (ou : List Nat) (ln : xs.length = n) (hi0 : i0 < n) (hn : n ≤ 1024) (wx : W32 xs) (lts0 : ts0 < wid .f32) (lts1 : ts1 < wid .f32) (lds0 : ds0 < wid .f32) (lds1 : ds1 < wid .f32) (hze : z = (strAt n tk tc0 tc1 tc2 dk dc0 dc1 dc2 g xs i0 ts0 ts1 ds0 ds1 (fun _ => 0) q)) (hoe : ou = (outs (strOut n tk tc0 tc1 tc2 dk dc0 dc1 dc2 g xs i0 ts0 ts1 ds0 ds1 (fun _ => 0)) q)) (hq : q ≤ 4096) (hv : vStr n ((i0 : Nat) : Int) tk tc0 tc1 tc2 ts0 ts1 dk dc0 dc1 dc2 ds0 ds1 g = true) (w : World) (r : Rng w b 0 (fl xs)) : Cl Try.prog 45 #[.agg #[vS b 0 n c, vI ((i0 : Nat) : Int), vI tk, vF tc0, vF tc1, vF tc2, vF ts0, vF ts1, vI dk, vF dc0, vF dc1, vF dc2, vF ds0, vF ds1, vF g], vI ((q : Nat) : Int)] w fun v w' => ∃ (b' : Nat) (c' : Nat) (e' : Nat) (c3' : Nat) (A' : Option Addr), v = .tuple #[.agg #[vS b' 0 n c', vI ((z.i : Nat) : Int), vI tk, vF tc0, vF tc1, vF tc2, vF (z.t0), vF (z.t1), vI dk, vF dc0, vF dc1, vF dc2, vF (z.d0), vF (z.d1), vF g], .slice A' q c3', vI 0] ∧ (z.xs.length = n) ∧ (ou.length = q) ∧ (0 < q → A' = some ⟨e', 0, none⟩) ∧ Row w' b' 0 (fl z.xs) ∧ Row w' e' 0 (fl ou) ∧ w.heap.size ≤ b' ∧ w.heap.size ≤ e' ∧ b' ≠ e' ∧ Mod [] w w' := by
  refine Cl.of Try.func45 Try.ntmps45 rfl rfl (ρ := [(0, .agg #[vS b 0 n c, vI ((i0 : Nat) : Int), vI tk, vF tc0, vF tc1, vF tc2, vF ts0, vF ts1, vI dk, vF dc0, vF dc1, vF dc2, vF ds0, vF ds1, vF g]), (1, vI ((q : Nat) : Int))]) rfl ?_
  refine CE.seq ?_
  refine CE.region ?_
  refine WL.op (op_box (cs := [vS b 0 n c, vI ((i0 : Nat) : Int), vI tk, vF tc0, vF tc1, vF tc2, vF ts0, vF ts1, vI dk, vF dc0, vF dc1, vF dc2, vF ds0, vF ds1, vF g]) rfl rfl) rfl rfl (ltb rfl) ?_
  rintro _ w1 ⟨rfl, r1, m1, z1⟩
  refine WL.op (op_alloc (cs := [.slice none 0 0, vI 0, vI 0, vF 0, vF 0, vF 0, vF 0, vF 0, vI 0, vF 0, vF 0, vF 0, vF 0, vF 0, vF 0]) Try.zeroValue33 rfl) rfl rfl (ltb rfl) ?_
  rintro _ w2 ⟨rfl, r2, m2, z2⟩
  refine WL.det (op_assign rfl) rfl rfl rfl ?_
  refine WL.det (op_assign rfl) rfl rfl rfl ?_
  refine WL.end ?_
  refine NE.code ?_
  refine CE.seq ?_
  refine CE.seq ?_
  refine CE.region ?_
  refine WL.call (oc_call (vs := [vP w.heap.size 0]) (cap := []) rfl rfl rfl Try.call70 (c_l03Ok n c (some ⟨b, 0, none⟩) ((i0 : Nat) : Int) tk tc0 tc1 tc2 ts0 ts1 dk dc0 dc1 dc2 ds0 ds1 g w.heap.size 0 [vS b 0 n c, vI ((i0 : Nat) : Int), vI tk, vF tc0, vF tc1, vF tc2, vF ts0, vF ts1, vI dk, vF dc0, vF dc1, vF dc2, vF ds0, vF ds1, vF g] (by omega) (lB rfl) w2 (Row.congr (r1.ext m2) rfl).rng)) rfl rfl (ltb rfl) ?_
  rintro _ w3 ⟨rfl, m3⟩
  refine WL.det (op_not rfl) rfl rfl rfl ?_
  refine WL.end ?_
  refine NE.code ?_
  refine CE.cond_f rfl (bnot_t hv) ?_
  refine CE.skip' ?_
  refine NE.code ?_
  refine CE.seq ?_
  refine CE.seq ?_
  refine CE.region ?_
  refine WL.det (op_move rfl) rfl rfl rfl ?_
  refine WL.call (oc_call (vs := [vI ((q : Nat) : Int), vI 0, vI 4096]) (cap := []) rfl rfl rfl Try.call85 (c_l00In ((q : Nat) : Int) (0 : Int) (4096 : Int) w3)) rfl rfl (ltb rfl) ?_
  rintro _ _ ⟨rfl, rfl⟩
  refine WL.det (op_not rfl) rfl rfl rfl ?_
  refine WL.end ?_
  refine NE.code ?_
  refine CE.cond_f rfl (bnot_t ((vIn_t _ _ _).2 ⟨by omega, by omega⟩)) ?_
  refine CE.skip' ?_
  refine NE.code ?_
  refine CE.seq ?_
  refine CE.region ?_
  refine WL.call (oc_call (vs := [vP w.heap.size 0]) (cap := []) rfl rfl rfl Try.call72 (c_l03Copy n c b xs ((i0 : Nat) : Int) tk tc0 tc1 tc2 ts0 ts1 dk dc0 dc1 dc2 ds0 ds1 g w.heap.size 0 [vS b 0 n c, vI ((i0 : Nat) : Int), vI tk, vF tc0, vF tc1, vF tc2, vF ts0, vF ts1, vI dk, vF dc0, vF dc1, vF dc2, vF ds0, vF ds1, vF g] ln (by omega) (by omega) (lB rfl) w3 (Row.congr ((r1.ext m2).ext m3) rfl).rng (((r.ext m1).ext m2).ext m3))) rfl rfl (ltb rfl) ?_
  rintro _ w4 ⟨b'1, c'1, rfl, r3, ge1, m4⟩
  refine WL.op (op_alloc (cs := [.slice none 0 0, vI 0, vI 0, vF 0, vF 0, vF 0, vF 0, vF 0, vI 0, vF 0, vF 0, vF 0, vF 0, vF 0, vF 0]) Try.zeroValue33 rfl) rfl rfl (ltb rfl) ?_
  rintro _ w5 ⟨rfl, r4, m5, z3⟩
  refine WL.op0 (op_store (i := 0) (cs := [vS b'1 0 n c'1, vI ((i0 : Nat) : Int), vI tk, vF tc0, vF tc1, vF tc2, vF ts0, vF ts1, vI dk, vF dc0, vF dc1, vF dc2, vF ds0, vF ds1, vF g]) rfl rfl rfl Try.sizeOf33 rfl r4 rfl (lB rfl) rfl) rfl rfl ?_
  rintro _ w6 ⟨r5, m6, z4⟩
  have r6 : Row w6 w4.heap.size 0 [vS b'1 0 n c'1, vI ((i0 : Nat) : Int), vI tk, vF tc0, vF tc1, vF tc2, vF ts0, vF ts1, vI dk, vF dc0, vF dc1, vF dc2, vF ds0, vF ds1, vF g] := Row.congr r5 rfl
  refine WL.end ?_
  refine NE.code ?_
  refine CE.seq ?_
  refine CE.region ?_
  refine WL.op (op_emptySl rfl Try.runUnderlying24 Try.sizeOf27) rfl rfl (ltb rfl) ?_
  rintro _ w7 ⟨rfl, r7, m7, z5⟩
  refine WL.det (op_assign rfl) rfl rfl rfl ?_
  refine WL.end ?_
  refine NE.code ?_
  refine CE.seq ?_
  refine CE.seq ?_
  refine CE.region ?_
  refine WL.det (op_assign rfl) rfl rfl rfl ?_
  refine WL.end ?_
  refine NE.code ?_
  refine CE.block ?_
  refine CE.loop (fun (z : Nat × Option Addr × Nat) => [(9, vI ((z.1 : Nat) : Int)), (8, .slice z.2.1 z.1 z.2.2), (1, vI ((q : Nat) : Int)), (4, vP w1.heap.size 0), (5, .slice none 0 0), (6, vI 0), (7, vP w4.heap.size 0)]) (fun (z : Nat × Option Addr × Nat) => fun W => (z.1 ≤ q) ∧ ((strAt n tk tc0 tc1 tc2 dk dc0 dc1 dc2 g xs i0 ts0 ts1 ds0 ds1 (fun _ => 0) z.1).i < n) ∧ ((strAt n tk tc0 tc1 tc2 dk dc0 dc1 dc2 g xs i0 ts0 ts1 ds0 ds1 (fun _ => 0) z.1).xs.length = n) ∧ (W32 (strAt n tk tc0 tc1 tc2 dk dc0 dc1 dc2 g xs i0 ts0 ts1 ds0 ds1 (fun _ => 0) z.1).xs) ∧ ((strAt n tk tc0 tc1 tc2 dk dc0 dc1 dc2 g xs i0 ts0 ts1 ds0 ds1 (fun _ => 0) z.1).t0 < wid .f32) ∧ ((strAt n tk tc0 tc1 tc2 dk dc0 dc1 dc2 g xs i0 ts0 ts1 ds0 ds1 (fun _ => 0) z.1).t1 < wid .f32) ∧ ((strAt n tk tc0 tc1 tc2 dk dc0 dc1 dc2 g xs i0 ts0 ts1 ds0 ds1 (fun _ => 0) z.1).d0 < wid .f32) ∧ ((strAt n tk tc0 tc1 tc2 dk dc0 dc1 dc2 g xs i0 ts0 ts1 ds0 ds1 (fun _ => 0) z.1).d1 < wid .f32) ∧ Row W w4.heap.size 0 [vS b'1 0 n c'1, vI (((strAt n tk tc0 tc1 tc2 dk dc0 dc1 dc2 g xs i0 ts0 ts1 ds0 ds1 (fun _ => 0) z.1).i : Nat) : Int), vI tk, vF tc0, vF tc1, vF tc2, vF ((strAt n tk tc0 tc1 tc2 dk dc0 dc1 dc2 g xs i0 ts0 ts1 ds0 ds1 (fun _ => 0) z.1).t0), vF ((strAt n tk tc0 tc1 tc2 dk dc0 dc1 dc2 g xs i0 ts0 ts1 ds0 ds1 (fun _ => 0) z.1).t1), vI dk, vF dc0, vF dc1, vF dc2, vF ((strAt n tk tc0 tc1 tc2 dk dc0 dc1 dc2 g xs i0 ts0 ts1 ds0 ds1 (fun _ => 0) z.1).d0), vF ((strAt n tk tc0 tc1 tc2 dk dc0 dc1 dc2 g xs i0 ts0 ts1 ds0 ds1 (fun _ => 0) z.1).d1), vF g] ∧ Row W b'1 0 (fl ((strAt n tk tc0 tc1 tc2 dk dc0 dc1 dc2 g xs i0 ts0 ts1 ds0 ds1 (fun _ => 0) z.1).xs)) ∧ Own 27 1 w7.heap.size W z.2.1 z.1 z.2.2 (fl (outs (strOut n tk tc0 tc1 tc2 dk dc0 dc1 dc2 g xs i0 ts0 ts1 ds0 ds1 (fun _ => 0)) z.1)) ∧ Mod [w4.heap.size, b'1] w7 W) (fun (z : Nat × Option Addr × Nat) => q - z.1) (0, (some ⟨w6.heap.size, 0, none⟩), 0) (⟨rfl, rfl, rfl, rfl, rfl, rfl, rfl, trivial⟩) ⟨(by omega), (by rw [strAt_zero]; exact hi0), (by rw [strAt_zero]; exact ln), (by rw [strAt_zero]; exact wx), (by rw [strAt_zero]; assumption), (by rw [strAt_zero]; assumption), (by rw [strAt_zero]; assumption), (by rw [strAt_zero]; assumption), (Row.congr (r6.ext m7) (by rw [strAt_zero])), (Row.congr (((r3.ext m5).mod m6 (nC (lE (lL r3.lt lR)) nN)).ext m7) (by rw [strAt_zero])), (Own.congr Own.emp (outs_zero _)), Mod.refl _ _⟩ ?_
  rintro ⟨i, A, cc⟩ w8 ⟨hi, hz, hl, hx, b0, b1, b2, b3, r8, r9, ow1, m8⟩
  replace hi : i ≤ q := hi
  replace hz : (strAt n tk tc0 tc1 tc2 dk dc0 dc1 dc2 g xs i0 ts0 ts1 ds0 ds1 (fun _ => 0) i).i < n := hz
  replace hl : (strAt n tk tc0 tc1 tc2 dk dc0 dc1 dc2 g xs i0 ts0 ts1 ds0 ds1 (fun _ => 0) i).xs.length = n := hl
  replace hx : W32 (strAt n tk tc0 tc1 tc2 dk dc0 dc1 dc2 g xs i0 ts0 ts1 ds0 ds1 (fun _ => 0) i).xs := hx
  replace b0 : (strAt n tk tc0 tc1 tc2 dk dc0 dc1 dc2 g xs i0 ts0 ts1 ds0 ds1 (fun _ => 0) i).t0 < wid .f32 := b0
  replace b1 : (strAt n tk tc0 tc1 tc2 dk dc0 dc1 dc2 g xs i0 ts0 ts1 ds0 ds1 (fun _ => 0) i).t1 < wid .f32 := b1
  replace b2 : (strAt n tk tc0 tc1 tc2 dk dc0 dc1 dc2 g xs i0 ts0 ts1 ds0 ds1 (fun _ => 0) i).d0 < wid .f32 := b2
  replace b3 : (strAt n tk tc0 tc1 tc2 dk dc0 dc1 dc2 g xs i0 ts0 ts1 ds0 ds1 (fun _ => 0) i).d1 < wid .f32 := b3
  replace r8 : Row w8 w4.heap.size 0 [vS b'1 0 n c'1, vI (((strAt n tk tc0 tc1 tc2 dk dc0 dc1 dc2 g xs i0 ts0 ts1 ds0 ds1 (fun _ => 0) i).i : Nat) : Int), vI tk, vF tc0, vF tc1, vF tc2, vF ((strAt n tk tc0 tc1 tc2 dk dc0 dc1 dc2 g xs i0 ts0 ts1 ds0 ds1 (fun _ => 0) i).t0), vF ((strAt n tk tc0 tc1 tc2 dk dc0 dc1 dc2 g xs i0 ts0 ts1 ds0 ds1 (fun _ => 0) i).t1), vI dk, vF dc0, vF dc1, vF dc2, vF ((strAt n tk tc0 tc1 tc2 dk dc0 dc1 dc2 g xs i0 ts0 ts1 ds0 ds1 (fun _ => 0) i).d0), vF ((strAt n tk tc0 tc1 tc2 dk dc0 dc1 dc2 g xs i0 ts0 ts1 ds0 ds1 (fun _ => 0) i).d1), vF g] := r8
  replace r9 : Row w8 b'1 0 (fl ((strAt n tk tc0 tc1 tc2 dk dc0 dc1 dc2 g xs i0 ts0 ts1 ds0 ds1 (fun _ => 0) i).xs)) := r9
  replace ow1 : Own 27 1 w7.heap.size w8 A i cc (fl (outs (strOut n tk tc0 tc1 tc2 dk dc0 dc1 dc2 g xs i0 ts0 ts1 ds0 ds1 (fun _ => 0)) i)) := ow1
  show CE _ _ _ _ [(9, vI ((i : Nat) : Int)), (8, .slice A i cc), (1, vI ((q : Nat) : Int)), (4, vP w1.heap.size 0), (5, .slice none 0 0), (6, vI 0), (7, vP w4.heap.size 0)] _
  refine CE.seq ?_
  refine CE.seq ?_
  refine CE.region ?_
  refine WL.det (op_move rfl) rfl rfl rfl ?_
  refine WL.det (op_move rfl) rfl rfl rfl ?_
  refine WL.det (op_lti rfl rfl) rfl rfl rfl ?_
  refine WL.end ?_
  refine NE.code ?_
  rcases Bool.eq_false_or_eq_true (decide (((i : Nat) : Int) < ((q : Nat) : Int))) with hb1 | hb1
  · have hp1 := hb1; try simp only [Bool.and_eq_true, Bool.or_eq_true, Bool.not_eq_true', Bool.not_eq_false', Bool.and_eq_false_iff, Bool.or_eq_false_iff, decide_eq_true_eq, decide_eq_false_iff_not, beq_iff_eq, bne_iff_ne, beq_eq_false_iff_ne, bne_eq_false_iff_eq, ne_eq, Bool.false_eq_true, not_false_eq_true, not_true_eq_false, vIn_t, vIn_f] at hp1
    refine CE.cond_t rfl hb1 ?_
    refine CE.skip' ?_
    refine NE.code ?_
    refine CE.seq ?_
    refine CE.block ?_
    refine CE.region ?_
    refine WL.det (op_move rfl) rfl rfl rfl ?_
    refine WL.call (oc_call (vs := [vP w4.heap.size 0, vF 0]) (cap := []) rfl rfl rfl Try.call87 (c_l03Step n c'1 b'1 ((strAt n tk tc0 tc1 tc2 dk dc0 dc1 dc2 g xs i0 ts0 ts1 ds0 ds1 (fun _ => 0) i).xs) ((strAt n tk tc0 tc1 tc2 dk dc0 dc1 dc2 g xs i0 ts0 ts1 ds0 ds1 (fun _ => 0) i).i) tk tc0 tc1 tc2 ((strAt n tk tc0 tc1 tc2 dk dc0 dc1 dc2 g xs i0 ts0 ts1 ds0 ds1 (fun _ => 0) i).t0) ((strAt n tk tc0 tc1 tc2 dk dc0 dc1 dc2 g xs i0 ts0 ts1 ds0 ds1 (fun _ => 0) i).t1) dk dc0 dc1 dc2 ((strAt n tk tc0 tc1 tc2 dk dc0 dc1 dc2 g xs i0 ts0 ts1 ds0 ds1 (fun _ => 0) i).d0) ((strAt n tk tc0 tc1 tc2 dk dc0 dc1 dc2 g xs i0 ts0 ts1 ds0 ds1 (fun _ => 0) i).d1) g w4.heap.size 0 [vS b'1 0 n c'1, vI (((strAt n tk tc0 tc1 tc2 dk dc0 dc1 dc2 g xs i0 ts0 ts1 ds0 ds1 (fun _ => 0) i).i : Nat) : Int), vI tk, vF tc0, vF tc1, vF tc2, vF ((strAt n tk tc0 tc1 tc2 dk dc0 dc1 dc2 g xs i0 ts0 ts1 ds0 ds1 (fun _ => 0) i).t0), vF ((strAt n tk tc0 tc1 tc2 dk dc0 dc1 dc2 g xs i0 ts0 ts1 ds0 ds1 (fun _ => 0) i).t1), vI dk, vF dc0, vF dc1, vF dc2, vF ((strAt n tk tc0 tc1 tc2 dk dc0 dc1 dc2 g xs i0 ts0 ts1 ds0 ds1 (fun _ => 0) i).d0), vF ((strAt n tk tc0 tc1 tc2 dk dc0 dc1 dc2 g xs i0 ts0 ts1 ds0 ds1 (fun _ => 0) i).d1), vF g] 0 0 hl (by first | omega | exact Nat.mod_lt _ (by omega)) (by omega) b0 b1 b2 b3 (lB rfl) rfl (by decide +kernel) hx w8 (Row.congr r8 rfl) r9 (lG (lL r3.lt lR)))) rfl rfl (ltb rfl) ?_
    rintro _ w9 ⟨rfl, h1, h2, h3, h4, h5, r10, r11, m9⟩
    have r12 : Row w9 w4.heap.size 0 [vS b'1 0 n c'1, vI (((((strAt n tk tc0 tc1 tc2 dk dc0 dc1 dc2 g xs i0 ts0 ts1 ds0 ds1 (fun _ => 0) i).i) + 1) % n : Nat) : Int), vI tk, vF tc0, vF tc1, vF tc2, vF (stepS tk tc0 tc1 tc2 ((strAt n tk tc0 tc1 tc2 dk dc0 dc1 dc2 g xs i0 ts0 ts1 ds0 ds1 (fun _ => 0) i).t0) ((strAt n tk tc0 tc1 tc2 dk dc0 dc1 dc2 g xs i0 ts0 ts1 ds0 ds1 (fun _ => 0) i).t1) (((strAt n tk tc0 tc1 tc2 dk dc0 dc1 dc2 g xs i0 ts0 ts1 ds0 ds1 (fun _ => 0) i).xs).getD ((strAt n tk tc0 tc1 tc2 dk dc0 dc1 dc2 g xs i0 ts0 ts1 ds0 ds1 (fun _ => 0) i).i) 0)), vF (stepT tk tc0 tc1 tc2 ((strAt n tk tc0 tc1 tc2 dk dc0 dc1 dc2 g xs i0 ts0 ts1 ds0 ds1 (fun _ => 0) i).t0) ((strAt n tk tc0 tc1 tc2 dk dc0 dc1 dc2 g xs i0 ts0 ts1 ds0 ds1 (fun _ => 0) i).t1) (((strAt n tk tc0 tc1 tc2 dk dc0 dc1 dc2 g xs i0 ts0 ts1 ds0 ds1 (fun _ => 0) i).xs).getD ((strAt n tk tc0 tc1 tc2 dk dc0 dc1 dc2 g xs i0 ts0 ts1 ds0 ds1 (fun _ => 0) i).i) 0)), vI dk, vF dc0, vF dc1, vF dc2, vF (stepS dk dc0 dc1 dc2 ((strAt n tk tc0 tc1 tc2 dk dc0 dc1 dc2 g xs i0 ts0 ts1 ds0 ds1 (fun _ => 0) i).d0) ((strAt n tk tc0 tc1 tc2 dk dc0 dc1 dc2 g xs i0 ts0 ts1 ds0 ds1 (fun _ => 0) i).d1) (stepY tk tc0 tc1 tc2 ((strAt n tk tc0 tc1 tc2 dk dc0 dc1 dc2 g xs i0 ts0 ts1 ds0 ds1 (fun _ => 0) i).t0) ((strAt n tk tc0 tc1 tc2 dk dc0 dc1 dc2 g xs i0 ts0 ts1 ds0 ds1 (fun _ => 0) i).t1) (((strAt n tk tc0 tc1 tc2 dk dc0 dc1 dc2 g xs i0 ts0 ts1 ds0 ds1 (fun _ => 0) i).xs).getD ((strAt n tk tc0 tc1 tc2 dk dc0 dc1 dc2 g xs i0 ts0 ts1 ds0 ds1 (fun _ => 0) i).i) 0))), vF (stepT dk dc0 dc1 dc2 ((strAt n tk tc0 tc1 tc2 dk dc0 dc1 dc2 g xs i0 ts0 ts1 ds0 ds1 (fun _ => 0) i).d0) ((strAt n tk tc0 tc1 tc2 dk dc0 dc1 dc2 g xs i0 ts0 ts1 ds0 ds1 (fun _ => 0) i).d1) (stepY tk tc0 tc1 tc2 ((strAt n tk tc0 tc1 tc2 dk dc0 dc1 dc2 g xs i0 ts0 ts1 ds0 ds1 (fun _ => 0) i).t0) ((strAt n tk tc0 tc1 tc2 dk dc0 dc1 dc2 g xs i0 ts0 ts1 ds0 ds1 (fun _ => 0) i).t1) (((strAt n tk tc0 tc1 tc2 dk dc0 dc1 dc2 g xs i0 ts0 ts1 ds0 ds1 (fun _ => 0) i).xs).getD ((strAt n tk tc0 tc1 tc2 dk dc0 dc1 dc2 g xs i0 ts0 ts1 ds0 ds1 (fun _ => 0) i).i) 0))), vF g] := r10
    refine WL.op (op_buildSl (qs := [(0, vF (((strAt n tk tc0 tc1 tc2 dk dc0 dc1 dc2 g xs i0 ts0 ts1 ds0 ds1 (fun _ => 0) i).xs).getD ((strAt n tk tc0 tc1 tc2 dk dc0 dc1 dc2 g xs i0 ts0 ts1 ds0 ds1 (fun _ => 0) i).i) 0))]) (cells := #[vF (((strAt n tk tc0 tc1 tc2 dk dc0 dc1 dc2 g xs i0 ts0 ts1 ds0 ds1 (fun _ => 0) i).xs).getD ((strAt n tk tc0 tc1 tc2 dk dc0 dc1 dc2 g xs i0 ts0 ts1 ds0 ds1 (fun _ => 0) i).i) 0)]) rfl Try.runUnderlying24 Try.sizeOf27 Try.zeroValue27 (by decide) (by decide) (by kernel_rfl)) rfl rfl (ltb rfl) ?_
    rintro _ w10 ⟨rfl, r13, m10, z6⟩
    refine WL.op (op_app (i := Try.t27) (m := 1) (bt := 4) (news := [vF (((strAt n tk tc0 tc1 tc2 dk dc0 dc1 dc2 g xs i0 ts0 ts1 ds0 ds1 (fun _ => 0) i).xs).getD ((strAt n tk tc0 tc1 tc2 dk dc0 dc1 dc2 g xs i0 ts0 ts1 ds0 ds1 (fun _ => 0) i).i) 0)]) rfl rfl Try.underlying24 rfl rfl rfl rfl rfl (by decide) r13.rng rfl rfl ((ow1.mod m9 (altC (lL r4.lt (lT m6.size m7.size)) (altC (lL r3.lt (lT (lT m5.size m6.size) m7.size)) altN))).ext m10) (lT (lT m8.size m9.size) m10.size) (by omega) (by decide)) rfl rfl (ltb rfl) ?_
    rintro _ w11 ⟨A1, c1, b1, rfl, ow2, ge2, m11⟩
    refine WL.det (op_assign rfl) rfl rfl rfl ?_
    refine WL.end ?_
    refine NE.blk ?_
    refine NE.code ?_
    refine CE.region ?_
    refine WL.det (op_move rfl) rfl rfl rfl ?_
    refine WL.det (op_add (r := ((i + 1 : Nat) : Int)) rfl rfl (w_i64 (by omega) (by omega))) rfl rfl rfl ?_
    refine WL.det (op_assign rfl) rfl rfl rfl ?_
    refine WL.end ?_
    exact NE.again ((i + 1), A1, c1) (⟨rfl, rfl, rfl, rfl, rfl, rfl, rfl, trivial⟩) ⟨(by omega), (by rw [strAt_succ]; exact Nat.mod_lt _ (by omega)), (by rw [strAt_succ]; exact (List.length_set).trans hl), (by rw [strAt_succ]; exact W32.set hx (by assumption)), (by rw [strAt_succ]; assumption), (by rw [strAt_succ]; assumption), (by rw [strAt_succ]; assumption), (by rw [strAt_succ]; assumption), (Row.congr ((r12.ext m10).mod m11 (nC (lE (lL (lL r4.lt (lT m6.size m7.size)) ge2)) nN)) (by rw [strAt_succ]; rfl)), (Row.congr ((r11.ext m10).mod m11 (nC (lE (lL (lL r3.lt (lT (lT m5.size m6.size) m7.size)) ge2)) nN)) (by rw [strAt_succ]; rfl)), (Own.congr ow2 (outs_succ _ _)), (((m8.then m9 ((aC (.inl (by simp)) (aC (.inl (by simp)) aN)))).nt m10).then m11 ((aC (.inr ge2) aN)))⟩ (by first | (dsimp only; omega) | omega)
  · have hp1 := hb1; try simp only [Bool.and_eq_true, Bool.or_eq_true, Bool.not_eq_true', Bool.not_eq_false', Bool.and_eq_false_iff, Bool.or_eq_false_iff, decide_eq_true_eq, decide_eq_false_iff_not, beq_iff_eq, bne_iff_ne, beq_eq_false_iff_ne, bne_eq_false_iff_eq, ne_eq, Bool.false_eq_true, not_false_eq_true, not_true_eq_false, vIn_t, vIn_f] at hp1
    refine CE.cond_f rfl hb1 ?_
    refine CE.exit' ?_
    refine XE.exit_then ?_
    refine XE.exit_then ?_
    refine XE.exit_here ?_
    refine NE.code ?_
    refine CE.seq ?_
    refine CE.region ?_
    refine WL.det (op_loadA (i := 0) (cs := [vS b'1 0 n c'1, vI (((strAt n tk tc0 tc1 tc2 dk dc0 dc1 dc2 g xs i0 ts0 ts1 ds0 ds1 (fun _ => 0) i).i : Nat) : Int), vI tk, vF tc0, vF tc1, vF tc2, vF ((strAt n tk tc0 tc1 tc2 dk dc0 dc1 dc2 g xs i0 ts0 ts1 ds0 ds1 (fun _ => 0) i).t0), vF ((strAt n tk tc0 tc1 tc2 dk dc0 dc1 dc2 g xs i0 ts0 ts1 ds0 ds1 (fun _ => 0) i).t1), vI dk, vF dc0, vF dc1, vF dc2, vF ((strAt n tk tc0 tc1 tc2 dk dc0 dc1 dc2 g xs i0 ts0 ts1 ds0 ds1 (fun _ => 0) i).d0), vF ((strAt n tk tc0 tc1 tc2 dk dc0 dc1 dc2 g xs i0 ts0 ts1 ds0 ds1 (fun _ => 0) i).d1), vF g]) rfl Try.isAgg33 Try.sizeOf33 r8.rng rfl rfl rfl) rfl rfl rfl ?_
    refine WL.det (op_move rfl) rfl rfl rfl ?_
    refine WL.op0 (op_store (i := 0) (cs := [vS b'1 0 n c'1, vI (((strAt n tk tc0 tc1 tc2 dk dc0 dc1 dc2 g xs i0 ts0 ts1 ds0 ds1 (fun _ => 0) i).i : Nat) : Int), vI tk, vF tc0, vF tc1, vF tc2, vF ((strAt n tk tc0 tc1 tc2 dk dc0 dc1 dc2 g xs i0 ts0 ts1 ds0 ds1 (fun _ => 0) i).t0), vF ((strAt n tk tc0 tc1 tc2 dk dc0 dc1 dc2 g xs i0 ts0 ts1 ds0 ds1 (fun _ => 0) i).t1), vI dk, vF dc0, vF dc1, vF dc2, vF ((strAt n tk tc0 tc1 tc2 dk dc0 dc1 dc2 g xs i0 ts0 ts1 ds0 ds1 (fun _ => 0) i).d0), vF ((strAt n tk tc0 tc1 tc2 dk dc0 dc1 dc2 g xs i0 ts0 ts1 ds0 ds1 (fun _ => 0) i).d1), vF g]) rfl rfl rfl Try.sizeOf33 rfl ((((((r2.ext m3).ext m4).ext m5).mod m6 (nC (lE (lL (lL r2.lt (lT m3.size m4.size)) lR)) nN)).ext m7).mod m8 (nC (lE (lL (lL r2.lt (lT m3.size m4.size)) lR)) (nC (lE (lL (lL r2.lt m3.size) ge1)) nN))) rfl (lB rfl) rfl) rfl rfl ?_
    rintro _ w12 ⟨r14, m12, z7⟩
    have r15 : Row w12 w1.heap.size 0 [vS b'1 0 n c'1, vI (((strAt n tk tc0 tc1 tc2 dk dc0 dc1 dc2 g xs i0 ts0 ts1 ds0 ds1 (fun _ => 0) i).i : Nat) : Int), vI tk, vF tc0, vF tc1, vF tc2, vF ((strAt n tk tc0 tc1 tc2 dk dc0 dc1 dc2 g xs i0 ts0 ts1 ds0 ds1 (fun _ => 0) i).t0), vF ((strAt n tk tc0 tc1 tc2 dk dc0 dc1 dc2 g xs i0 ts0 ts1 ds0 ds1 (fun _ => 0) i).t1), vI dk, vF dc0, vF dc1, vF dc2, vF ((strAt n tk tc0 tc1 tc2 dk dc0 dc1 dc2 g xs i0 ts0 ts1 ds0 ds1 (fun _ => 0) i).d0), vF ((strAt n tk tc0 tc1 tc2 dk dc0 dc1 dc2 g xs i0 ts0 ts1 ds0 ds1 (fun _ => 0) i).d1), vF g] := Row.congr r14 rfl
    refine WL.det (op_assign rfl) rfl rfl rfl ?_
    refine WL.det (op_assign rfl) rfl rfl rfl ?_
    refine WL.end ?_
    refine NE.code ?_
    refine CE.ret' ?_
    have ei : q = i := by omega
    subst ei
    obtain ⟨b2, hA1, r16, hq1⟩ := Own.out (ow1.mod m12 (altC (lL r2.lt (lT (lT (lT (lT m3.size m4.size) m5.size) m6.size) m7.size)) altN)) (r8.mod m12 (nC (lG (lL (lL r2.lt (lT m3.size m4.size)) lR)) nN))
    refine XE.leaveT Try.results45 (res_agg (cs := [vS b'1 0 n c'1, vI (((strAt n tk tc0 tc1 tc2 dk dc0 dc1 dc2 g xs i0 ts0 ts1 ds0 ds1 (fun _ => 0) q).i : Nat) : Int), vI tk, vF tc0, vF tc1, vF tc2, vF ((strAt n tk tc0 tc1 tc2 dk dc0 dc1 dc2 g xs i0 ts0 ts1 ds0 ds1 (fun _ => 0) q).t0), vF ((strAt n tk tc0 tc1 tc2 dk dc0 dc1 dc2 g xs i0 ts0 ts1 ds0 ds1 (fun _ => 0) q).t1), vI dk, vF dc0, vF dc1, vF dc2, vF ((strAt n tk tc0 tc1 tc2 dk dc0 dc1 dc2 g xs i0 ts0 ts1 ds0 ds1 (fun _ => 0) q).d0), vF ((strAt n tk tc0 tc1 tc2 dk dc0 dc1 dc2 g xs i0 ts0 ts1 ds0 ds1 (fun _ => 0) q).d1), vF g]) rfl Try.isAgg33 Try.sizeOf33 r15.rng rfl (res_tmp rfl (res_tmp rfl res_nil))) ?_
    refine ⟨b'1, c'1, b2, cc, A, ?_, ?_, ?_, hA1, (Row.congr (r9.mod m12 (nC (lG (lL (lL r2.lt m3.size) ge1)) nN)) ?_), (Row.congr r16 ?_), (lT (lT (lT m1.size m2.size) m3.size) ge1), (own_ge hq1 (lT (lT (lT (lT m1.size m2.size) m3.size) m4.size) lR) (lT (lT (lT (lT (lT (lT m1.size m2.size) m3.size) m4.size) m5.size) m6.size) m7.size)), (own_ne hq1 (lE (lL r3.lt lR)) (lL r3.lt (lT (lT m5.size m6.size) m7.size))), ((((((((((Mod.refl [] w).nt m1).nt m2).nt m3).nt m4).nt m5).then m6 ((aC (.inr (lT (lT (lT (lT m1.size m2.size) m3.size) m4.size) lR)) aN))).nt m7).then m8 ((aC (.inr (lT (lT (lT (lT m1.size m2.size) m3.size) m4.size) lR)) (aC (.inr (lT (lT (lT m1.size m2.size) m3.size) ge1)) aN)))).then m12 ((aC (.inr (lT m1.size lR)) aN)))⟩
    all_goals subst hze
    all_goals subst hoe
    all_goals first | assumption | exact outs_len _ _ | rfl

set_option maxRecDepth 100000 in
set_option maxHeartbeats 2000000 in
theorem c_sPlayStr_out (n : Nat) (c : Nat) (b : Nat) (xs : List Nat) (j : Int) (tk : Int) (tc0 : Nat) (tc1 : Nat) (tc2 : Nat) (ts0 : Nat) (ts1 : Nat) (dk : Int) (dc0 : Nat) (dc1 : Nat) (dc2 : Nat) (ds0 : Nat) (ds1 : Nat) (g : Nat) (cn_ : Int) (ln : xs.length = n) (hn : n ≤ 1048576) (lts0 : ts0 < wid .f32) (lts1 : ts1 < wid .f32) (lds0 : ds0 < wid .f32) (lds1 : ds1 < wid .f32) (hv : vStr n j tk tc0 tc1 tc2 ts0 ts1 dk dc0 dc1 dc2 ds0 ds1 g = true) (hq : vIn cn_ (0 : Int) (4096 : Int) = false) (w : World) (r : Rng w b 0 (fl xs)) : Cl Try.prog 45 #[.agg #[vS b 0 n c, vI j, vI tk, vF tc0, vF tc1, vF tc2, vF ts0, vF ts1, vI dk, vF dc0, vF dc1, vF dc2, vF ds0, vF ds1, vF g], vI cn_] w fun v w' => ∃ (e' : Nat), v = .tuple #[.agg #[.slice none 0 0, vI 0, vI 0, vF 0, vF 0, vF 0, vF 0, vF 0, vI 0, vF 0, vF 0, vF 0, vF 0, vF 0, vF 0], vS e' 0 0 0, vI 2] ∧ Row w' e' 0 [] ∧ w.heap.size ≤ e' ∧ Mod [] w w' := by
  refine Cl.of Try.func45 Try.ntmps45 rfl rfl (ρ := [(0, .agg #[vS b 0 n c, vI j, vI tk, vF tc0, vF tc1, vF tc2, vF ts0, vF ts1, vI dk, vF dc0, vF dc1, vF dc2, vF ds0, vF ds1, vF g]), (1, vI cn_)]) rfl ?_
  refine CE.seq ?_
  refine CE.region ?_
  refine WL.op (op_box (cs := [vS b 0 n c, vI j, vI tk, vF tc0, vF tc1, vF tc2, vF ts0, vF ts1, vI dk, vF dc0, vF dc1, vF dc2, vF ds0, vF ds1, vF g]) rfl rfl) rfl rfl (ltb rfl) ?_
  rintro _ w1 ⟨rfl, r1, m1, z1⟩
  refine WL.op (op_alloc (cs := [.slice none 0 0, vI 0, vI 0, vF 0, vF 0, vF 0, vF 0, vF 0, vI 0, vF 0, vF 0, vF 0, vF 0, vF 0, vF 0]) Try.zeroValue33 rfl) rfl rfl (ltb rfl) ?_
  rintro _ w2 ⟨rfl, r2, m2, z2⟩
  refine WL.det (op_assign rfl) rfl rfl rfl ?_
  refine WL.det (op_assign rfl) rfl rfl rfl ?_
  refine WL.end ?_
  refine NE.code ?_
  refine CE.seq ?_
  refine CE.seq ?_
  refine CE.region ?_
  refine WL.call (oc_call (vs := [vP w.heap.size 0]) (cap := []) rfl rfl rfl Try.call70 (c_l03Ok n c (some ⟨b, 0, none⟩) j tk tc0 tc1 tc2 ts0 ts1 dk dc0 dc1 dc2 ds0 ds1 g w.heap.size 0 [vS b 0 n c, vI j, vI tk, vF tc0, vF tc1, vF tc2, vF ts0, vF ts1, vI dk, vF dc0, vF dc1, vF dc2, vF ds0, vF ds1, vF g] (by omega) (lB rfl) w2 (Row.congr (r1.ext m2) rfl).rng)) rfl rfl (ltb rfl) ?_
  rintro _ w3 ⟨rfl, m3⟩
  refine WL.det (op_not rfl) rfl rfl rfl ?_
  refine WL.end ?_
  refine NE.code ?_
  refine CE.cond_f rfl (bnot_t hv) ?_
  refine CE.skip' ?_
  refine NE.code ?_
  refine CE.seq ?_
  refine CE.seq ?_
  refine CE.region ?_
  refine WL.det (op_move rfl) rfl rfl rfl ?_
  refine WL.call (oc_call (vs := [vI cn_, vI 0, vI 4096]) (cap := []) rfl rfl rfl Try.call85 (c_l00In cn_ (0 : Int) (4096 : Int) w3)) rfl rfl (ltb rfl) ?_
  rintro _ _ ⟨rfl, rfl⟩
  refine WL.det (op_not rfl) rfl rfl rfl ?_
  refine WL.end ?_
  refine NE.code ?_
  refine CE.cond_t rfl (bnot_f hq) ?_
  refine CE.seq ?_
  refine CE.region ?_
  refine WL.det (op_build (qs := []) (cells := #[.slice none 0 0, vI 0, vI 0, vF 0, vF 0, vF 0, vF 0, vF 0, vI 0, vF 0, vF 0, vF 0, vF 0, vF 0, vF 0]) rfl (by kernel_rfl)) rfl rfl rfl ?_
  refine WL.op (op_emptySl rfl Try.runUnderlying24 Try.sizeOf27) rfl rfl (ltb rfl) ?_
  rintro _ w4 ⟨rfl, r3, m4, z3⟩
  refine WL.op0 (op_store (i := 0) (cs := [.slice none 0 0, vI 0, vI 0, vF 0, vF 0, vF 0, vF 0, vF 0, vI 0, vF 0, vF 0, vF 0, vF 0, vF 0, vF 0]) rfl rfl rfl Try.sizeOf33 rfl ((r2.ext m3).ext m4) rfl (lB rfl) rfl) rfl rfl ?_
  rintro _ w5 ⟨r4, m5, z4⟩
  have r5 : Row w5 w1.heap.size 0 [.slice none 0 0, vI 0, vI 0, vF 0, vF 0, vF 0, vF 0, vF 0, vI 0, vF 0, vF 0, vF 0, vF 0, vF 0, vF 0] := Row.congr r4 rfl
  refine WL.det (op_assign rfl) rfl rfl rfl ?_
  refine WL.det (op_assign rfl) rfl rfl rfl ?_
  refine WL.end ?_
  refine NE.code ?_
  refine CE.ret' ?_
  refine XE.ret_then ?_
  refine XE.leaveT Try.results45 (res_agg (cs := [.slice none 0 0, vI 0, vI 0, vF 0, vF 0, vF 0, vF 0, vF 0, vI 0, vF 0, vF 0, vF 0, vF 0, vF 0, vF 0]) rfl Try.isAgg33 Try.sizeOf33 r5.rng rfl (res_tmp rfl (res_tmp rfl res_nil))) ?_
  refine ⟨w3.heap.size, rfl, (r3.mod m5 (nC (lG (lL (lL r2.lt m3.size) lR)) nN)), (lT (lT (lT m1.size m2.size) m3.size) lR), ((((((Mod.refl [] w).nt m1).nt m2).nt m3).nt m4).then m5 ((aC (.inr (lT m1.size lR)) aN)))⟩

set_option maxRecDepth 100000 in
set_option maxHeartbeats 2000000 in
theorem c_sPlayStr_bad (n : Nat) (c : Nat) (b : Nat) (xs : List Nat) (j : Int) (tk : Int) (tc0 : Nat) (tc1 : Nat) (tc2 : Nat) (ts0 : Nat) (ts1 : Nat) (dk : Int) (dc0 : Nat) (dc1 : Nat) (dc2 : Nat) (ds0 : Nat) (ds1 : Nat) (g : Nat) (cn_ : Int) (ln : xs.length = n) (hn : n ≤ 1048576) (lts0 : ts0 < wid .f32) (lts1 : ts1 < wid .f32) (lds0 : ds0 < wid .f32) (lds1 : ds1 < wid .f32) (hv : vStr n j tk tc0 tc1 tc2 ts0 ts1 dk dc0 dc1 dc2 ds0 ds1 g = false) (w : World) (r : Rng w b 0 (fl xs)) : Cl Try.prog 45 #[.agg #[vS b 0 n c, vI j, vI tk, vF tc0, vF tc1, vF tc2, vF ts0, vF ts1, vI dk, vF dc0, vF dc1, vF dc2, vF ds0, vF ds1, vF g], vI cn_] w fun v w' => ∃ (e' : Nat), v = .tuple #[.agg #[.slice none 0 0, vI 0, vI 0, vF 0, vF 0, vF 0, vF 0, vF 0, vI 0, vF 0, vF 0, vF 0, vF 0, vF 0, vF 0], vS e' 0 0 0, vI 1] ∧ Row w' e' 0 [] ∧ w.heap.size ≤ e' ∧ Mod [] w w' := by
  refine Cl.of Try.func45 Try.ntmps45 rfl rfl (ρ := [(0, .agg #[vS b 0 n c, vI j, vI tk, vF tc0, vF tc1, vF tc2, vF ts0, vF ts1, vI dk, vF dc0, vF dc1, vF dc2, vF ds0, vF ds1, vF g]), (1, vI cn_)]) rfl ?_
  refine CE.seq ?_
  refine CE.region ?_
  refine WL.op (op_box (cs := [vS b 0 n c, vI j, vI tk, vF tc0, vF tc1, vF tc2, vF ts0, vF ts1, vI dk, vF dc0, vF dc1, vF dc2, vF ds0, vF ds1, vF g]) rfl rfl) rfl rfl (ltb rfl) ?_
  rintro _ w1 ⟨rfl, r1, m1, z1⟩
  refine WL.op (op_alloc (cs := [.slice none 0 0, vI 0, vI 0, vF 0, vF 0, vF 0, vF 0, vF 0, vI 0, vF 0, vF 0, vF 0, vF 0, vF 0, vF 0]) Try.zeroValue33 rfl) rfl rfl (ltb rfl) ?_
  rintro _ w2 ⟨rfl, r2, m2, z2⟩
  refine WL.det (op_assign rfl) rfl rfl rfl ?_
  refine WL.det (op_assign rfl) rfl rfl rfl ?_
  refine WL.end ?_
  refine NE.code ?_
  refine CE.seq ?_
  refine CE.seq ?_
  refine CE.region ?_
  refine WL.call (oc_call (vs := [vP w.heap.size 0]) (cap := []) rfl rfl rfl Try.call70 (c_l03Ok n c (some ⟨b, 0, none⟩) j tk tc0 tc1 tc2 ts0 ts1 dk dc0 dc1 dc2 ds0 ds1 g w.heap.size 0 [vS b 0 n c, vI j, vI tk, vF tc0, vF tc1, vF tc2, vF ts0, vF ts1, vI dk, vF dc0, vF dc1, vF dc2, vF ds0, vF ds1, vF g] (by omega) (lB rfl) w2 (Row.congr (r1.ext m2) rfl).rng)) rfl rfl (ltb rfl) ?_
  rintro _ w3 ⟨rfl, m3⟩
  refine WL.det (op_not rfl) rfl rfl rfl ?_
  refine WL.end ?_
  refine NE.code ?_
  refine CE.cond_t rfl (bnot_f hv) ?_
  refine CE.seq ?_
  refine CE.region ?_
  refine WL.det (op_build (qs := []) (cells := #[.slice none 0 0, vI 0, vI 0, vF 0, vF 0, vF 0, vF 0, vF 0, vI 0, vF 0, vF 0, vF 0, vF 0, vF 0, vF 0]) rfl (by kernel_rfl)) rfl rfl rfl ?_
  refine WL.op (op_emptySl rfl Try.runUnderlying24 Try.sizeOf27) rfl rfl (ltb rfl) ?_
  rintro _ w4 ⟨rfl, r3, m4, z3⟩
  refine WL.op0 (op_store (i := 0) (cs := [.slice none 0 0, vI 0, vI 0, vF 0, vF 0, vF 0, vF 0, vF 0, vI 0, vF 0, vF 0, vF 0, vF 0, vF 0, vF 0]) rfl rfl rfl Try.sizeOf33 rfl ((r2.ext m3).ext m4) rfl (lB rfl) rfl) rfl rfl ?_
  rintro _ w5 ⟨r4, m5, z4⟩
  have r5 : Row w5 w1.heap.size 0 [.slice none 0 0, vI 0, vI 0, vF 0, vF 0, vF 0, vF 0, vF 0, vI 0, vF 0, vF 0, vF 0, vF 0, vF 0, vF 0] := Row.congr r4 rfl
  refine WL.det (op_assign rfl) rfl rfl rfl ?_
  refine WL.det (op_assign rfl) rfl rfl rfl ?_
  refine WL.end ?_
  refine NE.code ?_
  refine CE.ret' ?_
  refine XE.ret_then ?_
  refine XE.leaveT Try.results45 (res_agg (cs := [.slice none 0 0, vI 0, vI 0, vF 0, vF 0, vF 0, vF 0, vF 0, vI 0, vF 0, vF 0, vF 0, vF 0, vF 0, vF 0]) rfl Try.isAgg33 Try.sizeOf33 r5.rng rfl (res_tmp rfl (res_tmp rfl res_nil))) ?_
  refine ⟨w3.heap.size, rfl, (r3.mod m5 (nC (lG (lL (lL r2.lt m3.size) lR)) nN)), (lT (lT (lT m1.size m2.size) m3.size) lR), ((((((Mod.refl [] w).nt m1).nt m2).nt m3).nt m4).then m5 ((aC (.inr (lT m1.size lR)) aN)))⟩

set_option maxRecDepth 100000 in
set_option maxHeartbeats 2000000 in
theorem c_iPlayStr (n : Nat) (c : Nat) (b : Nat) (xs : List Nat) (i0 : Nat) (tk : Int) (tc0 : Nat) (tc1 : Nat) (tc2 : Nat) (ts0 : Nat) (ts1 : Nat) (dk : Int) (dc0 : Nat) (dc1 : Nat) (dc2 : Nat) (ds0 : Nat) (ds1 : Nat) (g : Nat) (q : Nat) (z : StrSt) (ou : List Nat) (ln : xs.length = n) (hi0 : i0 < n) (hn : n ≤ 1024) (wx : W32 xs) (lts0 : ts0 < wid .f32) (lts1 : ts1 < wid .f32) (lds0 : ds0 < wid .f32) (lds1 : ds1 < wid .f32) (hze : z = (strAt n tk tc0 tc1 tc2 dk dc0 dc1 dc2 g xs i0 ts0 ts1 ds0 ds1 (fun _ => 0) q)) (hoe : ou = (outs (strOut n tk tc0 tc1 tc2 dk dc0 dc1 dc2 g xs i0 ts0 ts1 ds0 ds1 (fun _ => 0)) q)) (hq : q ≤ 4096) (hv : vStr n ((i0 : Nat) : Int) tk tc0 tc1 tc2 ts0 ts1 dk dc0 dc1 dc2 ds0 ds1 g = true) (w : World) (r : Rng w b 0 (fl xs)) : Cl Try.prog 23 #[.agg #[vS b 0 n c, vI ((i0 : Nat) : Int), vI tk, vF tc0, vF tc1, vF tc2, vF ts0, vF ts1, vI dk, vF dc0, vF dc1, vF dc2, vF ds0, vF ds1, vF g], vI ((q : Nat) : Int)] w fun v w' => ∃ (b' : Nat) (c' : Nat) (e' : Nat) (c3' : Nat) (A' : Option Addr), v = .tuple #[.agg #[vS b' 0 n c', vI ((z.i : Nat) : Int), vI tk, vF tc0, vF tc1, vF tc2, vF (z.t0), vF (z.t1), vI dk, vF dc0, vF dc1, vF dc2, vF (z.d0), vF (z.d1), vF g], .slice A' q c3', vI 0] ∧ (z.xs.length = n) ∧ (ou.length = q) ∧ (0 < q → A' = some ⟨e', 0, none⟩) ∧ Row w' b' 0 (fl z.xs) ∧ Row w' e' 0 (fl ou) ∧ w.heap.size ≤ b' ∧ w.heap.size ≤ e' ∧ b' ≠ e' ∧ Mod [] w w' := by
  refine Cl.of Try.func23 Try.ntmps23 rfl rfl (ρ := [(0, .agg #[vS b 0 n c, vI ((i0 : Nat) : Int), vI tk, vF tc0, vF tc1, vF tc2, vF ts0, vF ts1, vI dk, vF dc0, vF dc1, vF dc2, vF ds0, vF ds1, vF g]), (1, vI ((q : Nat) : Int))]) rfl ?_
  refine CE.seq ?_
  refine CE.region ?_
  refine WL.op (op_box (cs := [vS b 0 n c, vI ((i0 : Nat) : Int), vI tk, vF tc0, vF tc1, vF tc2, vF ts0, vF ts1, vI dk, vF dc0, vF dc1, vF dc2, vF ds0, vF ds1, vF g]) rfl rfl) rfl rfl (ltb rfl) ?_
  rintro _ w1 ⟨rfl, r1, m1, z1⟩
  refine WL.op (op_alloc (cs := [.slice none 0 0, vI 0, vI 0, vF 0, vF 0, vF 0, vF 0, vF 0, vI 0, vF 0, vF 0, vF 0, vF 0, vF 0, vF 0]) Try.zeroValue33 rfl) rfl rfl (ltb rfl) ?_
  rintro _ w2 ⟨rfl, r2, m2, z2⟩
  refine WL.det (op_assign rfl) rfl rfl rfl ?_
  refine WL.det (op_assign rfl) rfl rfl rfl ?_
  refine WL.end ?_
  refine NE.code ?_
  refine CE.seq ?_
  refine CE.block ?_
  refine CE.seq ?_
  refine CE.region ?_
  refine WL.det (op_loadA (i := 0) (cs := [vS b 0 n c, vI ((i0 : Nat) : Int), vI tk, vF tc0, vF tc1, vF tc2, vF ts0, vF ts1, vI dk, vF dc0, vF dc1, vF dc2, vF ds0, vF ds1, vF g]) rfl Try.isAgg33 Try.sizeOf33 (r1.ext m2).rng rfl rfl rfl) rfl rfl rfl ?_
  refine WL.call (oc_call (vs := [.agg #[vS b 0 n c, vI ((i0 : Nat) : Int), vI tk, vF tc0, vF tc1, vF tc2, vF ts0, vF ts1, vI dk, vF dc0, vF dc1, vF dc2, vF ds0, vF ds1, vF g]]) (cap := []) rfl rfl rfl Try.call63 (c_ValidString n c (some ⟨b, 0, none⟩) ((i0 : Nat) : Int) tk tc0 tc1 tc2 ts0 ts1 dk dc0 dc1 dc2 ds0 ds1 g (by omega) w2)) rfl rfl (ltb rfl) ?_
  rintro _ w3 ⟨rfl, m3⟩
  refine WL.det (op_not rfl) rfl rfl rfl ?_
  refine WL.det (op_assign rfl) rfl rfl rfl ?_
  refine WL.end ?_
  refine NE.code ?_
  refine CE.cond_f rfl (bnot_t hv) ?_
  refine CE.seq ?_
  refine CE.region ?_
  refine WL.det (op_move rfl) rfl rfl rfl ?_
  refine WL.call (oc_call (vs := [vI ((q : Nat) : Int), vI 0, vI 4096]) (cap := []) rfl rfl rfl Try.call78 (c_within ((q : Nat) : Int) (0 : Int) (4096 : Int) w3)) rfl rfl (ltb rfl) ?_
  rintro _ _ ⟨rfl, rfl⟩
  refine WL.det (op_not rfl) rfl rfl rfl ?_
  refine WL.det (op_assign rfl) rfl rfl rfl ?_
  refine WL.end ?_
  refine NE.code ?_
  refine CE.cond_f rfl (bnot_t ((vIn_t _ _ _).2 ⟨by omega, by omega⟩)) ?_
  refine CE.skip' ?_
  refine NE.blk ?_
  refine NE.code ?_
  refine CE.seq ?_
  refine CE.region ?_
  refine WL.det (op_loadA (i := 0) (cs := [vS b 0 n c, vI ((i0 : Nat) : Int), vI tk, vF tc0, vF tc1, vF tc2, vF ts0, vF ts1, vI dk, vF dc0, vF dc1, vF dc2, vF ds0, vF ds1, vF g]) rfl Try.isAgg33 Try.sizeOf33 ((r1.ext m2).ext m3).rng rfl rfl rfl) rfl rfl rfl ?_
  refine WL.call (oc_call (vs := [.agg #[vS b 0 n c, vI ((i0 : Nat) : Int), vI tk, vF tc0, vF tc1, vF tc2, vF ts0, vF ts1, vI dk, vF dc0, vF dc1, vF dc2, vF ds0, vF ds1, vF g]]) (cap := []) rfl rfl rfl Try.call79 (c_cloneString n c b xs ((i0 : Nat) : Int) tk tc0 tc1 tc2 ts0 ts1 dk dc0 dc1 dc2 ds0 ds1 g ln (by omega) (by omega) w3 (((r.ext m1).ext m2).ext m3))) rfl rfl (ltb rfl) ?_
  rintro _ w4 ⟨b'1, c'1, rfl, r3, ge1, m4⟩
  refine WL.op0 (op_store (i := 0) (cs := [vS b'1 0 n c'1, vI ((i0 : Nat) : Int), vI tk, vF tc0, vF tc1, vF tc2, vF ts0, vF ts1, vI dk, vF dc0, vF dc1, vF dc2, vF ds0, vF ds1, vF g]) rfl rfl rfl Try.sizeOf33 rfl (((r1.ext m2).ext m3).ext m4) rfl (lB rfl) rfl) rfl rfl ?_
  rintro _ w5 ⟨r4, m5, z3⟩
  have r5 : Row w5 w.heap.size 0 [vS b'1 0 n c'1, vI ((i0 : Nat) : Int), vI tk, vF tc0, vF tc1, vF tc2, vF ts0, vF ts1, vI dk, vF dc0, vF dc1, vF dc2, vF ds0, vF ds1, vF g] := Row.congr r4 rfl
  refine WL.end ?_
  refine NE.code ?_
  refine CE.seq ?_
  refine CE.region ?_
  refine WL.det (op_assign rfl) rfl rfl rfl ?_
  refine WL.end ?_
  refine NE.code ?_
  refine CE.seq ?_
  refine CE.seq ?_
  refine CE.region ?_
  refine WL.det (op_move rfl) rfl rfl rfl ?_
  refine WL.det (op_move rfl) rfl rfl rfl ?_
  refine WL.end ?_
  refine NE.code ?_
  refine CE.block ?_
  refine CE.loop (fun (z : Nat × Option Addr × Nat) => [(21, vI ((z.1 : Nat) : Int)), (7, .slice z.2.1 z.1 z.2.2), (2, vP w.heap.size 0), (4, vP w1.heap.size 0), (5, .slice none 0 0), (6, vI 0), (20, vI ((q : Nat) : Int))]) (fun (z : Nat × Option Addr × Nat) => fun W => (z.1 ≤ q) ∧ ((strAt n tk tc0 tc1 tc2 dk dc0 dc1 dc2 g xs i0 ts0 ts1 ds0 ds1 (fun _ => 0) z.1).i < n) ∧ ((strAt n tk tc0 tc1 tc2 dk dc0 dc1 dc2 g xs i0 ts0 ts1 ds0 ds1 (fun _ => 0) z.1).xs.length = n) ∧ (W32 (strAt n tk tc0 tc1 tc2 dk dc0 dc1 dc2 g xs i0 ts0 ts1 ds0 ds1 (fun _ => 0) z.1).xs) ∧ ((strAt n tk tc0 tc1 tc2 dk dc0 dc1 dc2 g xs i0 ts0 ts1 ds0 ds1 (fun _ => 0) z.1).t0 < wid .f32) ∧ ((strAt n tk tc0 tc1 tc2 dk dc0 dc1 dc2 g xs i0 ts0 ts1 ds0 ds1 (fun _ => 0) z.1).t1 < wid .f32) ∧ ((strAt n tk tc0 tc1 tc2 dk dc0 dc1 dc2 g xs i0 ts0 ts1 ds0 ds1 (fun _ => 0) z.1).d0 < wid .f32) ∧ ((strAt n tk tc0 tc1 tc2 dk dc0 dc1 dc2 g xs i0 ts0 ts1 ds0 ds1 (fun _ => 0) z.1).d1 < wid .f32) ∧ Row W w.heap.size 0 [vS b'1 0 n c'1, vI (((strAt n tk tc0 tc1 tc2 dk dc0 dc1 dc2 g xs i0 ts0 ts1 ds0 ds1 (fun _ => 0) z.1).i : Nat) : Int), vI tk, vF tc0, vF tc1, vF tc2, vF ((strAt n tk tc0 tc1 tc2 dk dc0 dc1 dc2 g xs i0 ts0 ts1 ds0 ds1 (fun _ => 0) z.1).t0), vF ((strAt n tk tc0 tc1 tc2 dk dc0 dc1 dc2 g xs i0 ts0 ts1 ds0 ds1 (fun _ => 0) z.1).t1), vI dk, vF dc0, vF dc1, vF dc2, vF ((strAt n tk tc0 tc1 tc2 dk dc0 dc1 dc2 g xs i0 ts0 ts1 ds0 ds1 (fun _ => 0) z.1).d0), vF ((strAt n tk tc0 tc1 tc2 dk dc0 dc1 dc2 g xs i0 ts0 ts1 ds0 ds1 (fun _ => 0) z.1).d1), vF g] ∧ Row W b'1 0 (fl ((strAt n tk tc0 tc1 tc2 dk dc0 dc1 dc2 g xs i0 ts0 ts1 ds0 ds1 (fun _ => 0) z.1).xs)) ∧ Own 27 1 w5.heap.size W z.2.1 z.1 z.2.2 (fl (outs (strOut n tk tc0 tc1 tc2 dk dc0 dc1 dc2 g xs i0 ts0 ts1 ds0 ds1 (fun _ => 0)) z.1)) ∧ Mod [w.heap.size, b'1] w5 W) (fun (z : Nat × Option Addr × Nat) => q - z.1) (0, none, 0) (⟨rfl, rfl, rfl, rfl, rfl, rfl, rfl, trivial⟩) ⟨(by omega), (by rw [strAt_zero]; exact hi0), (by rw [strAt_zero]; exact ln), (by rw [strAt_zero]; exact wx), (by rw [strAt_zero]; assumption), (by rw [strAt_zero]; assumption), (by rw [strAt_zero]; assumption), (by rw [strAt_zero]; assumption), (Row.congr r5 (by rw [strAt_zero])), (Row.congr (r3.mod m5 (nC (lG (lL (lL r1.lt (lT m2.size m3.size)) ge1)) nN)) (by rw [strAt_zero])), (Own.congr Own.nil (outs_zero _)), Mod.refl _ _⟩ ?_
  rintro ⟨i, A, cc⟩ w6 ⟨hi, hz, hl, hx, b0, b1, b2, b3, r6, r7, ow1, m6⟩
  replace hi : i ≤ q := hi
  replace hz : (strAt n tk tc0 tc1 tc2 dk dc0 dc1 dc2 g xs i0 ts0 ts1 ds0 ds1 (fun _ => 0) i).i < n := hz
  replace hl : (strAt n tk tc0 tc1 tc2 dk dc0 dc1 dc2 g xs i0 ts0 ts1 ds0 ds1 (fun _ => 0) i).xs.length = n := hl
  replace hx : W32 (strAt n tk tc0 tc1 tc2 dk dc0 dc1 dc2 g xs i0 ts0 ts1 ds0 ds1 (fun _ => 0) i).xs := hx
  replace b0 : (strAt n tk tc0 tc1 tc2 dk dc0 dc1 dc2 g xs i0 ts0 ts1 ds0 ds1 (fun _ => 0) i).t0 < wid .f32 := b0
  replace b1 : (strAt n tk tc0 tc1 tc2 dk dc0 dc1 dc2 g xs i0 ts0 ts1 ds0 ds1 (fun _ => 0) i).t1 < wid .f32 := b1
  replace b2 : (strAt n tk tc0 tc1 tc2 dk dc0 dc1 dc2 g xs i0 ts0 ts1 ds0 ds1 (fun _ => 0) i).d0 < wid .f32 := b2
  replace b3 : (strAt n tk tc0 tc1 tc2 dk dc0 dc1 dc2 g xs i0 ts0 ts1 ds0 ds1 (fun _ => 0) i).d1 < wid .f32 := b3
  replace r6 : Row w6 w.heap.size 0 [vS b'1 0 n c'1, vI (((strAt n tk tc0 tc1 tc2 dk dc0 dc1 dc2 g xs i0 ts0 ts1 ds0 ds1 (fun _ => 0) i).i : Nat) : Int), vI tk, vF tc0, vF tc1, vF tc2, vF ((strAt n tk tc0 tc1 tc2 dk dc0 dc1 dc2 g xs i0 ts0 ts1 ds0 ds1 (fun _ => 0) i).t0), vF ((strAt n tk tc0 tc1 tc2 dk dc0 dc1 dc2 g xs i0 ts0 ts1 ds0 ds1 (fun _ => 0) i).t1), vI dk, vF dc0, vF dc1, vF dc2, vF ((strAt n tk tc0 tc1 tc2 dk dc0 dc1 dc2 g xs i0 ts0 ts1 ds0 ds1 (fun _ => 0) i).d0), vF ((strAt n tk tc0 tc1 tc2 dk dc0 dc1 dc2 g xs i0 ts0 ts1 ds0 ds1 (fun _ => 0) i).d1), vF g] := r6
  replace r7 : Row w6 b'1 0 (fl ((strAt n tk tc0 tc1 tc2 dk dc0 dc1 dc2 g xs i0 ts0 ts1 ds0 ds1 (fun _ => 0) i).xs)) := r7
  replace ow1 : Own 27 1 w5.heap.size w6 A i cc (fl (outs (strOut n tk tc0 tc1 tc2 dk dc0 dc1 dc2 g xs i0 ts0 ts1 ds0 ds1 (fun _ => 0)) i)) := ow1
  show CE _ _ _ _ [(21, vI ((i : Nat) : Int)), (7, .slice A i cc), (2, vP w.heap.size 0), (4, vP w1.heap.size 0), (5, .slice none 0 0), (6, vI 0), (20, vI ((q : Nat) : Int))] _
  refine CE.seq ?_
  refine CE.region ?_
  refine WL.det (op_lti rfl rfl) rfl rfl rfl ?_
  refine WL.end ?_
  refine NE.code ?_
  refine CE.seq ?_
  rcases Bool.eq_false_or_eq_true (decide (((i : Nat) : Int) < ((q : Nat) : Int))) with hb1 | hb1
  · have hp1 := hb1; try simp only [Bool.and_eq_true, Bool.or_eq_true, Bool.not_eq_true', Bool.not_eq_false', Bool.and_eq_false_iff, Bool.or_eq_false_iff, decide_eq_true_eq, decide_eq_false_iff_not, beq_iff_eq, bne_iff_ne, beq_eq_false_iff_ne, bne_eq_false_iff_eq, ne_eq, Bool.false_eq_true, not_false_eq_true, not_true_eq_false, vIn_t, vIn_f] at hp1
    refine CE.cond_t rfl hb1 ?_
    refine CE.skip' ?_
    refine NE.code ?_
    refine CE.seq ?_
    refine CE.block ?_
    refine CE.region ?_
    refine WL.det (op_move rfl) rfl rfl rfl ?_
    refine WL.call (oc_call (vs := [vP w.heap.size 0, vF 0]) (cap := []) rfl rfl rfl Try.call84 (c_strStep n c'1 b'1 ((strAt n tk tc0 tc1 tc2 dk dc0 dc1 dc2 g xs i0 ts0 ts1 ds0 ds1 (fun _ => 0) i).xs) ((strAt n tk tc0 tc1 tc2 dk dc0 dc1 dc2 g xs i0 ts0 ts1 ds0 ds1 (fun _ => 0) i).i) tk tc0 tc1 tc2 ((strAt n tk tc0 tc1 tc2 dk dc0 dc1 dc2 g xs i0 ts0 ts1 ds0 ds1 (fun _ => 0) i).t0) ((strAt n tk tc0 tc1 tc2 dk dc0 dc1 dc2 g xs i0 ts0 ts1 ds0 ds1 (fun _ => 0) i).t1) dk dc0 dc1 dc2 ((strAt n tk tc0 tc1 tc2 dk dc0 dc1 dc2 g xs i0 ts0 ts1 ds0 ds1 (fun _ => 0) i).d0) ((strAt n tk tc0 tc1 tc2 dk dc0 dc1 dc2 g xs i0 ts0 ts1 ds0 ds1 (fun _ => 0) i).d1) g w.heap.size 0 [vS b'1 0 n c'1, vI (((strAt n tk tc0 tc1 tc2 dk dc0 dc1 dc2 g xs i0 ts0 ts1 ds0 ds1 (fun _ => 0) i).i : Nat) : Int), vI tk, vF tc0, vF tc1, vF tc2, vF ((strAt n tk tc0 tc1 tc2 dk dc0 dc1 dc2 g xs i0 ts0 ts1 ds0 ds1 (fun _ => 0) i).t0), vF ((strAt n tk tc0 tc1 tc2 dk dc0 dc1 dc2 g xs i0 ts0 ts1 ds0 ds1 (fun _ => 0) i).t1), vI dk, vF dc0, vF dc1, vF dc2, vF ((strAt n tk tc0 tc1 tc2 dk dc0 dc1 dc2 g xs i0 ts0 ts1 ds0 ds1 (fun _ => 0) i).d0), vF ((strAt n tk tc0 tc1 tc2 dk dc0 dc1 dc2 g xs i0 ts0 ts1 ds0 ds1 (fun _ => 0) i).d1), vF g] 0 0 hl (by first | omega | exact Nat.mod_lt _ (by omega)) (by omega) b0 b1 b2 b3 (lB rfl) rfl (by decide +kernel) hx w6 (Row.congr r6 rfl) r7 (lE (lL (lL r1.lt (lT m2.size m3.size)) ge1)))) rfl rfl (ltb rfl) ?_
    rintro _ w7 ⟨rfl, h1, h2, h3, h4, h5, r8, r9, m7⟩
    have r10 : Row w7 w.heap.size 0 [vS b'1 0 n c'1, vI (((((strAt n tk tc0 tc1 tc2 dk dc0 dc1 dc2 g xs i0 ts0 ts1 ds0 ds1 (fun _ => 0) i).i) + 1) % n : Nat) : Int), vI tk, vF tc0, vF tc1, vF tc2, vF (stepS tk tc0 tc1 tc2 ((strAt n tk tc0 tc1 tc2 dk dc0 dc1 dc2 g xs i0 ts0 ts1 ds0 ds1 (fun _ => 0) i).t0) ((strAt n tk tc0 tc1 tc2 dk dc0 dc1 dc2 g xs i0 ts0 ts1 ds0 ds1 (fun _ => 0) i).t1) (((strAt n tk tc0 tc1 tc2 dk dc0 dc1 dc2 g xs i0 ts0 ts1 ds0 ds1 (fun _ => 0) i).xs).getD ((strAt n tk tc0 tc1 tc2 dk dc0 dc1 dc2 g xs i0 ts0 ts1 ds0 ds1 (fun _ => 0) i).i) 0)), vF (stepT tk tc0 tc1 tc2 ((strAt n tk tc0 tc1 tc2 dk dc0 dc1 dc2 g xs i0 ts0 ts1 ds0 ds1 (fun _ => 0) i).t0) ((strAt n tk tc0 tc1 tc2 dk dc0 dc1 dc2 g xs i0 ts0 ts1 ds0 ds1 (fun _ => 0) i).t1) (((strAt n tk tc0 tc1 tc2 dk dc0 dc1 dc2 g xs i0 ts0 ts1 ds0 ds1 (fun _ => 0) i).xs).getD ((strAt n tk tc0 tc1 tc2 dk dc0 dc1 dc2 g xs i0 ts0 ts1 ds0 ds1 (fun _ => 0) i).i) 0)), vI dk, vF dc0, vF dc1, vF dc2, vF (stepS dk dc0 dc1 dc2 ((strAt n tk tc0 tc1 tc2 dk dc0 dc1 dc2 g xs i0 ts0 ts1 ds0 ds1 (fun _ => 0) i).d0) ((strAt n tk tc0 tc1 tc2 dk dc0 dc1 dc2 g xs i0 ts0 ts1 ds0 ds1 (fun _ => 0) i).d1) (stepY tk tc0 tc1 tc2 ((strAt n tk tc0 tc1 tc2 dk dc0 dc1 dc2 g xs i0 ts0 ts1 ds0 ds1 (fun _ => 0) i).t0) ((strAt n tk tc0 tc1 tc2 dk dc0 dc1 dc2 g xs i0 ts0 ts1 ds0 ds1 (fun _ => 0) i).t1) (((strAt n tk tc0 tc1 tc2 dk dc0 dc1 dc2 g xs i0 ts0 ts1 ds0 ds1 (fun _ => 0) i).xs).getD ((strAt n tk tc0 tc1 tc2 dk dc0 dc1 dc2 g xs i0 ts0 ts1 ds0 ds1 (fun _ => 0) i).i) 0))), vF (stepT dk dc0 dc1 dc2 ((strAt n tk tc0 tc1 tc2 dk dc0 dc1 dc2 g xs i0 ts0 ts1 ds0 ds1 (fun _ => 0) i).d0) ((strAt n tk tc0 tc1 tc2 dk dc0 dc1 dc2 g xs i0 ts0 ts1 ds0 ds1 (fun _ => 0) i).d1) (stepY tk tc0 tc1 tc2 ((strAt n tk tc0 tc1 tc2 dk dc0 dc1 dc2 g xs i0 ts0 ts1 ds0 ds1 (fun _ => 0) i).t0) ((strAt n tk tc0 tc1 tc2 dk dc0 dc1 dc2 g xs i0 ts0 ts1 ds0 ds1 (fun _ => 0) i).t1) (((strAt n tk tc0 tc1 tc2 dk dc0 dc1 dc2 g xs i0 ts0 ts1 ds0 ds1 (fun _ => 0) i).xs).getD ((strAt n tk tc0 tc1 tc2 dk dc0 dc1 dc2 g xs i0 ts0 ts1 ds0 ds1 (fun _ => 0) i).i) 0))), vF g] := r8
    refine WL.op (op_buildSl (qs := [(0, vF (((strAt n tk tc0 tc1 tc2 dk dc0 dc1 dc2 g xs i0 ts0 ts1 ds0 ds1 (fun _ => 0) i).xs).getD ((strAt n tk tc0 tc1 tc2 dk dc0 dc1 dc2 g xs i0 ts0 ts1 ds0 ds1 (fun _ => 0) i).i) 0))]) (cells := #[vF (((strAt n tk tc0 tc1 tc2 dk dc0 dc1 dc2 g xs i0 ts0 ts1 ds0 ds1 (fun _ => 0) i).xs).getD ((strAt n tk tc0 tc1 tc2 dk dc0 dc1 dc2 g xs i0 ts0 ts1 ds0 ds1 (fun _ => 0) i).i) 0)]) rfl Try.runUnderlying24 Try.sizeOf27 Try.zeroValue27 (by decide) (by decide) (by kernel_rfl)) rfl rfl (ltb rfl) ?_
    rintro _ w8 ⟨rfl, r11, m8, z4⟩
    refine WL.op (op_app (i := Try.t27) (m := 1) (bt := 4) (news := [vF (((strAt n tk tc0 tc1 tc2 dk dc0 dc1 dc2 g xs i0 ts0 ts1 ds0 ds1 (fun _ => 0) i).xs).getD ((strAt n tk tc0 tc1 tc2 dk dc0 dc1 dc2 g xs i0 ts0 ts1 ds0 ds1 (fun _ => 0) i).i) 0)]) rfl rfl Try.underlying24 rfl rfl rfl rfl rfl (by decide) r11.rng rfl rfl ((ow1.mod m7 (altC (lL r1.lt (lT (lT (lT m2.size m3.size) m4.size) m5.size)) (altC (lL r3.lt m5.size) altN))).ext m8) (lT (lT m6.size m7.size) m8.size) (by omega) (by decide)) rfl rfl (ltb rfl) ?_
    rintro _ w9 ⟨A1, c1, b1, rfl, ow2, ge2, m9⟩
    refine WL.det (op_assign rfl) rfl rfl rfl ?_
    refine WL.end ?_
    refine NE.blk ?_
    refine NE.code ?_
    refine CE.region ?_
    refine WL.det (op_add (r := ((i + 1 : Nat) : Int)) rfl rfl (w_i64 (by omega) (by omega))) rfl rfl rfl ?_
    refine WL.det (op_move rfl) rfl rfl rfl ?_
    refine WL.end ?_
    exact NE.again ((i + 1), A1, c1) (⟨rfl, rfl, rfl, rfl, rfl, rfl, rfl, trivial⟩) ⟨(by omega), (by rw [strAt_succ]; exact Nat.mod_lt _ (by omega)), (by rw [strAt_succ]; exact (List.length_set).trans hl), (by rw [strAt_succ]; exact W32.set hx (by assumption)), (by rw [strAt_succ]; assumption), (by rw [strAt_succ]; assumption), (by rw [strAt_succ]; assumption), (by rw [strAt_succ]; assumption), (Row.congr ((r10.ext m8).mod m9 (nC (lE (lL (lL r1.lt (lT (lT (lT m2.size m3.size) m4.size) m5.size)) ge2)) nN)) (by rw [strAt_succ]; rfl)), (Row.congr ((r9.ext m8).mod m9 (nC (lE (lL (lL r3.lt m5.size) ge2)) nN)) (by rw [strAt_succ]; rfl)), (Own.congr ow2 (outs_succ _ _)), (((m6.then m7 ((aC (.inl (by simp)) (aC (.inl (by simp)) aN)))).nt m8).then m9 ((aC (.inr ge2) aN)))⟩ (by first | (dsimp only; omega) | omega)
  · have hp1 := hb1; try simp only [Bool.and_eq_true, Bool.or_eq_true, Bool.not_eq_true', Bool.not_eq_false', Bool.and_eq_false_iff, Bool.or_eq_false_iff, decide_eq_true_eq, decide_eq_false_iff_not, beq_iff_eq, bne_iff_ne, beq_eq_false_iff_ne, bne_eq_false_iff_eq, ne_eq, Bool.false_eq_true, not_false_eq_true, not_true_eq_false, vIn_t, vIn_f] at hp1
    refine CE.cond_f rfl hb1 ?_
    refine CE.exit' ?_
    refine XE.exit_then ?_
    refine XE.exit_then ?_
    refine XE.exit_here ?_
    refine NE.code ?_
    refine CE.seq ?_
    refine CE.region ?_
    refine WL.det (op_loadA (i := 0) (cs := [vS b'1 0 n c'1, vI (((strAt n tk tc0 tc1 tc2 dk dc0 dc1 dc2 g xs i0 ts0 ts1 ds0 ds1 (fun _ => 0) i).i : Nat) : Int), vI tk, vF tc0, vF tc1, vF tc2, vF ((strAt n tk tc0 tc1 tc2 dk dc0 dc1 dc2 g xs i0 ts0 ts1 ds0 ds1 (fun _ => 0) i).t0), vF ((strAt n tk tc0 tc1 tc2 dk dc0 dc1 dc2 g xs i0 ts0 ts1 ds0 ds1 (fun _ => 0) i).t1), vI dk, vF dc0, vF dc1, vF dc2, vF ((strAt n tk tc0 tc1 tc2 dk dc0 dc1 dc2 g xs i0 ts0 ts1 ds0 ds1 (fun _ => 0) i).d0), vF ((strAt n tk tc0 tc1 tc2 dk dc0 dc1 dc2 g xs i0 ts0 ts1 ds0 ds1 (fun _ => 0) i).d1), vF g]) rfl Try.isAgg33 Try.sizeOf33 r6.rng rfl rfl rfl) rfl rfl rfl ?_
    refine WL.det (op_move rfl) rfl rfl rfl ?_
    refine WL.op0 (op_store (i := 0) (cs := [vS b'1 0 n c'1, vI (((strAt n tk tc0 tc1 tc2 dk dc0 dc1 dc2 g xs i0 ts0 ts1 ds0 ds1 (fun _ => 0) i).i : Nat) : Int), vI tk, vF tc0, vF tc1, vF tc2, vF ((strAt n tk tc0 tc1 tc2 dk dc0 dc1 dc2 g xs i0 ts0 ts1 ds0 ds1 (fun _ => 0) i).t0), vF ((strAt n tk tc0 tc1 tc2 dk dc0 dc1 dc2 g xs i0 ts0 ts1 ds0 ds1 (fun _ => 0) i).t1), vI dk, vF dc0, vF dc1, vF dc2, vF ((strAt n tk tc0 tc1 tc2 dk dc0 dc1 dc2 g xs i0 ts0 ts1 ds0 ds1 (fun _ => 0) i).d0), vF ((strAt n tk tc0 tc1 tc2 dk dc0 dc1 dc2 g xs i0 ts0 ts1 ds0 ds1 (fun _ => 0) i).d1), vF g]) rfl rfl rfl Try.sizeOf33 rfl ((((r2.ext m3).ext m4).mod m5 (nC (lG (lL r1.lt lR)) nN)).mod m6 (nC (lG (lL r1.lt lR)) (nC (lE (lL (lL r2.lt m3.size) ge1)) nN))) rfl (lB rfl) rfl) rfl rfl ?_
    rintro _ w10 ⟨r12, m10, z5⟩
    have r13 : Row w10 w1.heap.size 0 [vS b'1 0 n c'1, vI (((strAt n tk tc0 tc1 tc2 dk dc0 dc1 dc2 g xs i0 ts0 ts1 ds0 ds1 (fun _ => 0) i).i : Nat) : Int), vI tk, vF tc0, vF tc1, vF tc2, vF ((strAt n tk tc0 tc1 tc2 dk dc0 dc1 dc2 g xs i0 ts0 ts1 ds0 ds1 (fun _ => 0) i).t0), vF ((strAt n tk tc0 tc1 tc2 dk dc0 dc1 dc2 g xs i0 ts0 ts1 ds0 ds1 (fun _ => 0) i).t1), vI dk, vF dc0, vF dc1, vF dc2, vF ((strAt n tk tc0 tc1 tc2 dk dc0 dc1 dc2 g xs i0 ts0 ts1 ds0 ds1 (fun _ => 0) i).d0), vF ((strAt n tk tc0 tc1 tc2 dk dc0 dc1 dc2 g xs i0 ts0 ts1 ds0 ds1 (fun _ => 0) i).d1), vF g] := Row.congr r12 rfl
    refine WL.det (op_assign rfl) rfl rfl rfl ?_
    refine WL.det (op_assign rfl) rfl rfl rfl ?_
    refine WL.end ?_
    refine NE.code ?_
    refine CE.ret' ?_
    have ei : q = i := by omega
    subst ei
    obtain ⟨b2, hA1, r14, hq1⟩ := Own.out (ow1.mod m10 (altC (lL r2.lt (lT (lT m3.size m4.size) m5.size)) altN)) (r6.mod m10 (nC (lE (lL r1.lt lR)) nN))
    refine XE.leaveT Try.results23 (res_agg (cs := [vS b'1 0 n c'1, vI (((strAt n tk tc0 tc1 tc2 dk dc0 dc1 dc2 g xs i0 ts0 ts1 ds0 ds1 (fun _ => 0) q).i : Nat) : Int), vI tk, vF tc0, vF tc1, vF tc2, vF ((strAt n tk tc0 tc1 tc2 dk dc0 dc1 dc2 g xs i0 ts0 ts1 ds0 ds1 (fun _ => 0) q).t0), vF ((strAt n tk tc0 tc1 tc2 dk dc0 dc1 dc2 g xs i0 ts0 ts1 ds0 ds1 (fun _ => 0) q).t1), vI dk, vF dc0, vF dc1, vF dc2, vF ((strAt n tk tc0 tc1 tc2 dk dc0 dc1 dc2 g xs i0 ts0 ts1 ds0 ds1 (fun _ => 0) q).d0), vF ((strAt n tk tc0 tc1 tc2 dk dc0 dc1 dc2 g xs i0 ts0 ts1 ds0 ds1 (fun _ => 0) q).d1), vF g]) rfl Try.isAgg33 Try.sizeOf33 r13.rng rfl (res_tmp rfl (res_tmp rfl res_nil))) ?_
    refine ⟨b'1, c'1, b2, cc, A, ?_, ?_, ?_, hA1, (Row.congr (r7.mod m10 (nC (lG (lL (lL r2.lt m3.size) ge1)) nN)) ?_), (Row.congr r14 ?_), (lT (lT (lT m1.size m2.size) m3.size) ge1), (own_ge hq1 lR (lT (lT (lT (lT m1.size m2.size) m3.size) m4.size) m5.size)), (own_ne hq1 (lG (lL (lL r1.lt (lT m2.size m3.size)) ge1)) (lL r3.lt m5.size)), ((((((((Mod.refl [] w).nt m1).nt m2).nt m3).nt m4).then m5 ((aC (.inr lR) aN))).then m6 ((aC (.inr lR) (aC (.inr (lT (lT (lT m1.size m2.size) m3.size) ge1)) aN)))).then m10 ((aC (.inr (lT m1.size lR)) aN)))⟩
    all_goals subst hze
    all_goals subst hoe
    all_goals first | assumption | exact outs_len _ _ | rfl

set_option maxRecDepth 100000 in
set_option maxHeartbeats 2000000 in
theorem c_iPlayStr_out (n : Nat) (c : Nat) (b : Nat) (xs : List Nat) (j : Int) (tk : Int) (tc0 : Nat) (tc1 : Nat) (tc2 : Nat) (ts0 : Nat) (ts1 : Nat) (dk : Int) (dc0 : Nat) (dc1 : Nat) (dc2 : Nat) (ds0 : Nat) (ds1 : Nat) (g : Nat) (cn_ : Int) (ln : xs.length = n) (hn : n ≤ 1048576) (lts0 : ts0 < wid .f32) (lts1 : ts1 < wid .f32) (lds0 : ds0 < wid .f32) (lds1 : ds1 < wid .f32) (hv : vStr n j tk tc0 tc1 tc2 ts0 ts1 dk dc0 dc1 dc2 ds0 ds1 g = true) (hq : vIn cn_ (0 : Int) (4096 : Int) = false) (w : World) (r : Rng w b 0 (fl xs)) : Cl Try.prog 23 #[.agg #[vS b 0 n c, vI j, vI tk, vF tc0, vF tc1, vF tc2, vF ts0, vF ts1, vI dk, vF dc0, vF dc1, vF dc2, vF ds0, vF ds1, vF g], vI cn_] w fun v w' => v = .tuple #[.agg #[.slice none 0 0, vI 0, vI 0, vF 0, vF 0, vF 0, vF 0, vF 0, vI 0, vF 0, vF 0, vF 0, vF 0, vF 0, vF 0], .slice none 0 0, vI 2] ∧ Mod [] w w' := by
  refine Cl.of Try.func23 Try.ntmps23 rfl rfl (ρ := [(0, .agg #[vS b 0 n c, vI j, vI tk, vF tc0, vF tc1, vF tc2, vF ts0, vF ts1, vI dk, vF dc0, vF dc1, vF dc2, vF ds0, vF ds1, vF g]), (1, vI cn_)]) rfl ?_
  refine CE.seq ?_
  refine CE.region ?_
  refine WL.op (op_box (cs := [vS b 0 n c, vI j, vI tk, vF tc0, vF tc1, vF tc2, vF ts0, vF ts1, vI dk, vF dc0, vF dc1, vF dc2, vF ds0, vF ds1, vF g]) rfl rfl) rfl rfl (ltb rfl) ?_
  rintro _ w1 ⟨rfl, r1, m1, z1⟩
  refine WL.op (op_alloc (cs := [.slice none 0 0, vI 0, vI 0, vF 0, vF 0, vF 0, vF 0, vF 0, vI 0, vF 0, vF 0, vF 0, vF 0, vF 0, vF 0]) Try.zeroValue33 rfl) rfl rfl (ltb rfl) ?_
  rintro _ w2 ⟨rfl, r2, m2, z2⟩
  refine WL.det (op_assign rfl) rfl rfl rfl ?_
  refine WL.det (op_assign rfl) rfl rfl rfl ?_
  refine WL.end ?_
  refine NE.code ?_
  refine CE.seq ?_
  refine CE.block ?_
  refine CE.seq ?_
  refine CE.region ?_
  refine WL.det (op_loadA (i := 0) (cs := [vS b 0 n c, vI j, vI tk, vF tc0, vF tc1, vF tc2, vF ts0, vF ts1, vI dk, vF dc0, vF dc1, vF dc2, vF ds0, vF ds1, vF g]) rfl Try.isAgg33 Try.sizeOf33 (r1.ext m2).rng rfl rfl rfl) rfl rfl rfl ?_
  refine WL.call (oc_call (vs := [.agg #[vS b 0 n c, vI j, vI tk, vF tc0, vF tc1, vF tc2, vF ts0, vF ts1, vI dk, vF dc0, vF dc1, vF dc2, vF ds0, vF ds1, vF g]]) (cap := []) rfl rfl rfl Try.call63 (c_ValidString n c (some ⟨b, 0, none⟩) j tk tc0 tc1 tc2 ts0 ts1 dk dc0 dc1 dc2 ds0 ds1 g (by omega) w2)) rfl rfl (ltb rfl) ?_
  rintro _ w3 ⟨rfl, m3⟩
  refine WL.det (op_not rfl) rfl rfl rfl ?_
  refine WL.det (op_assign rfl) rfl rfl rfl ?_
  refine WL.end ?_
  refine NE.code ?_
  refine CE.cond_f rfl (bnot_t hv) ?_
  refine CE.seq ?_
  refine CE.region ?_
  refine WL.det (op_move rfl) rfl rfl rfl ?_
  refine WL.call (oc_call (vs := [vI cn_, vI 0, vI 4096]) (cap := []) rfl rfl rfl Try.call78 (c_within cn_ (0 : Int) (4096 : Int) w3)) rfl rfl (ltb rfl) ?_
  rintro _ _ ⟨rfl, rfl⟩
  refine WL.det (op_not rfl) rfl rfl rfl ?_
  refine WL.det (op_assign rfl) rfl rfl rfl ?_
  refine WL.end ?_
  refine NE.code ?_
  refine CE.cond_t rfl (bnot_f hq) ?_
  refine CE.seq ?_
  refine CE.region ?_
  refine WL.det (op_build (qs := []) (cells := #[.slice none 0 0, vI 0, vI 0, vF 0, vF 0, vF 0, vF 0, vF 0, vI 0, vF 0, vF 0, vF 0, vF 0, vF 0, vF 0]) rfl (by kernel_rfl)) rfl rfl rfl ?_
  refine WL.op0 (op_store (i := 0) (cs := [.slice none 0 0, vI 0, vI 0, vF 0, vF 0, vF 0, vF 0, vF 0, vI 0, vF 0, vF 0, vF 0, vF 0, vF 0, vF 0]) rfl rfl rfl Try.sizeOf33 rfl (r2.ext m3) rfl (lB rfl) rfl) rfl rfl ?_
  rintro _ w4 ⟨r3, m4, z3⟩
  have r4 : Row w4 w1.heap.size 0 [.slice none 0 0, vI 0, vI 0, vF 0, vF 0, vF 0, vF 0, vF 0, vI 0, vF 0, vF 0, vF 0, vF 0, vF 0, vF 0] := Row.congr r3 rfl
  refine WL.det (op_assign rfl) rfl rfl rfl ?_
  refine WL.det (op_assign rfl) rfl rfl rfl ?_
  refine WL.end ?_
  refine NE.code ?_
  refine CE.ret' ?_
  refine XE.ret_blk ?_
  refine XE.ret_then ?_
  refine XE.leaveT Try.results23 (res_agg (cs := [.slice none 0 0, vI 0, vI 0, vF 0, vF 0, vF 0, vF 0, vF 0, vI 0, vF 0, vF 0, vF 0, vF 0, vF 0, vF 0]) rfl Try.isAgg33 Try.sizeOf33 r4.rng rfl (res_tmp rfl (res_tmp rfl res_nil))) ?_
  refine ⟨rfl, (((((Mod.refl [] w).nt m1).nt m2).nt m3).then m4 ((aC (.inr (lT m1.size lR)) aN)))⟩

set_option maxRecDepth 100000 in
set_option maxHeartbeats 2000000 in
theorem c_iPlayStr_bad (n : Nat) (c : Nat) (b : Nat) (xs : List Nat) (j : Int) (tk : Int) (tc0 : Nat) (tc1 : Nat) (tc2 : Nat) (ts0 : Nat) (ts1 : Nat) (dk : Int) (dc0 : Nat) (dc1 : Nat) (dc2 : Nat) (ds0 : Nat) (ds1 : Nat) (g : Nat) (cn_ : Int) (ln : xs.length = n) (hn : n ≤ 1048576) (lts0 : ts0 < wid .f32) (lts1 : ts1 < wid .f32) (lds0 : ds0 < wid .f32) (lds1 : ds1 < wid .f32) (hv : vStr n j tk tc0 tc1 tc2 ts0 ts1 dk dc0 dc1 dc2 ds0 ds1 g = false) (w : World) (r : Rng w b 0 (fl xs)) : Cl Try.prog 23 #[.agg #[vS b 0 n c, vI j, vI tk, vF tc0, vF tc1, vF tc2, vF ts0, vF ts1, vI dk, vF dc0, vF dc1, vF dc2, vF ds0, vF ds1, vF g], vI cn_] w fun v w' => v = .tuple #[.agg #[.slice none 0 0, vI 0, vI 0, vF 0, vF 0, vF 0, vF 0, vF 0, vI 0, vF 0, vF 0, vF 0, vF 0, vF 0, vF 0], .slice none 0 0, vI 1] ∧ Mod [] w w' := by
  refine Cl.of Try.func23 Try.ntmps23 rfl rfl (ρ := [(0, .agg #[vS b 0 n c, vI j, vI tk, vF tc0, vF tc1, vF tc2, vF ts0, vF ts1, vI dk, vF dc0, vF dc1, vF dc2, vF ds0, vF ds1, vF g]), (1, vI cn_)]) rfl ?_
  refine CE.seq ?_
  refine CE.region ?_
  refine WL.op (op_box (cs := [vS b 0 n c, vI j, vI tk, vF tc0, vF tc1, vF tc2, vF ts0, vF ts1, vI dk, vF dc0, vF dc1, vF dc2, vF ds0, vF ds1, vF g]) rfl rfl) rfl rfl (ltb rfl) ?_
  rintro _ w1 ⟨rfl, r1, m1, z1⟩
  refine WL.op (op_alloc (cs := [.slice none 0 0, vI 0, vI 0, vF 0, vF 0, vF 0, vF 0, vF 0, vI 0, vF 0, vF 0, vF 0, vF 0, vF 0, vF 0]) Try.zeroValue33 rfl) rfl rfl (ltb rfl) ?_
  rintro _ w2 ⟨rfl, r2, m2, z2⟩
  refine WL.det (op_assign rfl) rfl rfl rfl ?_
  refine WL.det (op_assign rfl) rfl rfl rfl ?_
  refine WL.end ?_
  refine NE.code ?_
  refine CE.seq ?_
  refine CE.block ?_
  refine CE.seq ?_
  refine CE.region ?_
  refine WL.det (op_loadA (i := 0) (cs := [vS b 0 n c, vI j, vI tk, vF tc0, vF tc1, vF tc2, vF ts0, vF ts1, vI dk, vF dc0, vF dc1, vF dc2, vF ds0, vF ds1, vF g]) rfl Try.isAgg33 Try.sizeOf33 (r1.ext m2).rng rfl rfl rfl) rfl rfl rfl ?_
  refine WL.call (oc_call (vs := [.agg #[vS b 0 n c, vI j, vI tk, vF tc0, vF tc1, vF tc2, vF ts0, vF ts1, vI dk, vF dc0, vF dc1, vF dc2, vF ds0, vF ds1, vF g]]) (cap := []) rfl rfl rfl Try.call63 (c_ValidString n c (some ⟨b, 0, none⟩) j tk tc0 tc1 tc2 ts0 ts1 dk dc0 dc1 dc2 ds0 ds1 g (by omega) w2)) rfl rfl (ltb rfl) ?_
  rintro _ w3 ⟨rfl, m3⟩
  refine WL.det (op_not rfl) rfl rfl rfl ?_
  refine WL.det (op_assign rfl) rfl rfl rfl ?_
  refine WL.end ?_
  refine NE.code ?_
  refine CE.cond_t rfl (bnot_f hv) ?_
  refine CE.seq ?_
  refine CE.region ?_
  refine WL.det (op_build (qs := []) (cells := #[.slice none 0 0, vI 0, vI 0, vF 0, vF 0, vF 0, vF 0, vF 0, vI 0, vF 0, vF 0, vF 0, vF 0, vF 0, vF 0]) rfl (by kernel_rfl)) rfl rfl rfl ?_
  refine WL.op0 (op_store (i := 0) (cs := [.slice none 0 0, vI 0, vI 0, vF 0, vF 0, vF 0, vF 0, vF 0, vI 0, vF 0, vF 0, vF 0, vF 0, vF 0, vF 0]) rfl rfl rfl Try.sizeOf33 rfl (r2.ext m3) rfl (lB rfl) rfl) rfl rfl ?_
  rintro _ w4 ⟨r3, m4, z3⟩
  have r4 : Row w4 w1.heap.size 0 [.slice none 0 0, vI 0, vI 0, vF 0, vF 0, vF 0, vF 0, vF 0, vI 0, vF 0, vF 0, vF 0, vF 0, vF 0, vF 0] := Row.congr r3 rfl
  refine WL.det (op_assign rfl) rfl rfl rfl ?_
  refine WL.det (op_assign rfl) rfl rfl rfl ?_
  refine WL.end ?_
  refine NE.code ?_
  refine CE.ret' ?_
  refine XE.ret_blk ?_
  refine XE.ret_then ?_
  refine XE.leaveT Try.results23 (res_agg (cs := [.slice none 0 0, vI 0, vI 0, vF 0, vF 0, vF 0, vF 0, vF 0, vI 0, vF 0, vF 0, vF 0, vF 0, vF 0, vF 0]) rfl Try.isAgg33 Try.sizeOf33 r4.rng rfl (res_tmp rfl (res_tmp rfl res_nil))) ?_
  refine ⟨rfl, (((((Mod.refl [] w).nt m1).nt m2).nt m3).then m4 ((aC (.inr (lT m1.size lR)) aN)))⟩

set_option maxRecDepth 100000 in
set_option maxHeartbeats 2000000 in
theorem c_l03Silent (n : Nat) (c : Nat) (b : Nat) (xs : List Nat) (j : Int) (tk : Int) (tc0 : Nat) (tc1 : Nat) (tc2 : Nat) (ts0 : Nat) (ts1 : Nat) (dk : Int) (dc0 : Nat) (dc1 : Nat) (dc2 : Nat) (ds0 : Nat) (ds1 : Nat) (g : Nat) (p : Nat) (k : Nat) (vs : List Value) (ln : xs.length = n) (hn : n ≤ 1048576) (hk : k + 15 ≤ vs.length) (w : World) (q : Rng w p 0 (splice vs k [vS b 0 n c, vI j, vI tk, vF tc0, vF tc1, vF tc2, vF ts0, vF ts1, vI dk, vF dc0, vF dc1, vF dc2, vF ds0, vF ds1, vF g])) (r : Rng w b 0 (fl xs)) : Cl Try.prog 86 #[vP p k] w fun v w' => v = .bool (strSilent n xs ts0 ts1 ds0 ds1) ∧ Mod [] w w' := by
  refine Cl.of Try.func86 Try.ntmps86 rfl rfl (ρ := [(0, vP p k)]) rfl ?_
  refine CE.seq ?_
  refine CE.region ?_
  refine WL.det (op_assign rfl) rfl rfl rfl ?_
  refine WL.end ?_
  refine NE.code ?_
  refine CE.seq ?_
  refine CE.seq ?_
  refine CE.region ?_
  refine WL.det (op_assign rfl) rfl rfl rfl ?_
  refine WL.end ?_
  refine NE.code ?_
  refine CE.block ?_
  refine CE.loop (fun (i : Nat) => [(3, vI ((i : Nat) : Int)), (0, vP p k), (2, .bool false)]) (fun (i : Nat) => fun W => (i ≤ n) ∧ (zeroF xs i = true) ∧ Mod [] w W) (fun (i : Nat) => n - i) 0 (⟨rfl, rfl, rfl, trivial⟩) ⟨(by omega), (by rfl), Mod.refl _ _⟩ ?_
  rintro i w1 ⟨hi, hu, m1⟩
  show CE _ _ _ _ [(3, vI ((i : Nat) : Int)), (0, vP p k), (2, .bool false)] _
  refine CE.seq ?_
  refine CE.seq ?_
  refine CE.region ?_
  refine WL.det (op_move rfl) rfl rfl rfl ?_
  refine WL.det (op_move rfl) rfl rfl rfl ?_
  refine WL.det (op_nilCheck rfl) rfl rfl rfl ?_
  refine WL.det (op_fieldAddr (off' := k) rfl Try.runUnderlying33 rfl rfl Try.sizeOf26 rfl) rfl rfl rfl ?_
  refine WL.det (op_fieldAddr (off' := k) rfl Try.runUnderlying26 rfl rfl Try.sizeOf24 rfl) rfl rfl rfl ?_
  refine WL.det (op_load1 (i := k) rfl Try.isAgg24 (q.ext m1) (Nat.zero_add _) (sub_get (i := 0) hk rfl)) rfl rfl rfl ?_
  refine WL.det (op_len rfl Try.runUnderlying24) rfl rfl rfl ?_
  refine WL.det (op_lti rfl rfl) rfl rfl rfl ?_
  refine WL.end ?_
  refine NE.code ?_
  rcases Bool.eq_false_or_eq_true (decide (((i : Nat) : Int) < ((n : Nat) : Int))) with hb1 | hb1
  · have hp1 := hb1; try simp only [Bool.and_eq_true, Bool.or_eq_true, Bool.not_eq_true', Bool.not_eq_false', Bool.and_eq_false_iff, Bool.or_eq_false_iff, decide_eq_true_eq, decide_eq_false_iff_not, beq_iff_eq, bne_iff_ne, beq_eq_false_iff_ne, bne_eq_false_iff_eq, ne_eq, Bool.false_eq_true, not_false_eq_true, not_true_eq_false, vIn_t, vIn_f] at hp1
    refine CE.cond_t rfl hb1 ?_
    refine CE.skip' ?_
    refine NE.code ?_
    refine CE.seq ?_
    refine CE.block ?_
    refine CE.seq ?_
    refine CE.region ?_
    refine WL.det (op_move rfl) rfl rfl rfl ?_
    refine WL.det (op_nilCheck rfl) rfl rfl rfl ?_
    refine WL.det (op_fieldAddr (off' := k) rfl Try.runUnderlying33 rfl rfl Try.sizeOf26 rfl) rfl rfl rfl ?_
    refine WL.det (op_fieldAddr (off' := k) rfl Try.runUnderlying26 rfl rfl Try.sizeOf24 rfl) rfl rfl rfl ?_
    refine WL.det (op_load1 (i := k) rfl Try.isAgg24 (q.ext m1) (Nat.zero_add _) (sub_get (i := 0) hk rfl)) rfl rfl rfl ?_
    refine WL.det (op_move rfl) rfl rfl rfl ?_
    refine WL.det (op_indexSl (off' := 0 + i) rfl rfl rfl Try.runUnderlying24 Try.sizeOf27 (by omega) (by omega) (by omega)) rfl rfl rfl ?_
    refine WL.det (op_load1 (i := i) rfl Try.isAgg27 (r.ext m1) rfl (fl_get (by have eL : List.length xs = n := ln; omega))) rfl rfl rfl ?_
    refine WL.det (op_fne (c := !(fEq .f32 (xs.getD i 0) 0)) rfl rfl rfl rfl rfl) rfl rfl rfl ?_
    refine WL.end ?_
    refine NE.code ?_
    rcases Bool.eq_false_or_eq_true (fEq .f32 (xs.getD i 0) 0) with hb2 | hb2
    · refine CE.cond_f rfl (bnot_t hb2) ?_
      refine CE.skip' ?_
      refine NE.blk ?_
      refine NE.code ?_
      refine CE.region ?_
      refine WL.det (op_move rfl) rfl rfl rfl ?_
      refine WL.det (op_add (r := ((i + 1 : Nat) : Int)) rfl rfl (w_i64 (by omega) (by omega))) rfl rfl rfl ?_
      refine WL.det (op_assign rfl) rfl rfl rfl ?_
      refine WL.end ?_
      exact NE.again (i + 1) (⟨rfl, rfl, rfl, trivial⟩) ⟨(by omega), (by exact zeroF_step hu (by simp_all)), m1⟩ (by first | (dsimp only; omega) | omega)
    · refine CE.cond_t rfl (bnot_f hb2) ?_
      refine CE.seq ?_
      refine CE.region ?_
      refine WL.det (op_assign rfl) rfl rfl rfl ?_
      refine WL.end ?_
      refine NE.code ?_
      refine CE.ret' ?_
      refine XE.ret_blk ?_
      refine XE.ret_then ?_
      refine XE.ret_then ?_
      refine XE.ret_blk ?_
      refine XE.ret_then ?_
      refine XE.leave1 Try.results86 rfl ?_
      refine ⟨?_, ((Mod.refl [] w).nt m1)⟩
      all_goals first | (rw [strSilent, zeroF_out (i := i) (by omega) (by simp_all)]; rfl) | (have e : i = n := (by omega); subst e; simp_all [strSilent]; done)
  · have hp1 := hb1; try simp only [Bool.and_eq_true, Bool.or_eq_true, Bool.not_eq_true', Bool.not_eq_false', Bool.and_eq_false_iff, Bool.or_eq_false_iff, decide_eq_true_eq, decide_eq_false_iff_not, beq_iff_eq, bne_iff_ne, beq_eq_false_iff_ne, bne_eq_false_iff_eq, ne_eq, Bool.false_eq_true, not_false_eq_true, not_true_eq_false, vIn_t, vIn_f] at hp1
    refine CE.cond_f rfl hb1 ?_
    refine CE.exit' ?_
    refine XE.exit_then ?_
    refine XE.exit_then ?_
    refine XE.exit_here ?_
    refine NE.code ?_
    refine CE.seq ?_
    refine CE.region ?_
    refine WL.det (op_move rfl) rfl rfl rfl ?_
    refine WL.det (op_nilCheck rfl) rfl rfl rfl ?_
    refine WL.det (op_fieldAddr (off' := k + 2) rfl Try.runUnderlying33 rfl rfl Try.sizeOf31 rfl) rfl rfl rfl ?_
    refine WL.call (oc_call (vs := [vP p (k + 2)]) (cap := []) rfl rfl rfl Try.call127 (c_l02Still tk tc0 tc1 tc2 ts0 ts1 p (k + 2) (splice vs k [vS b 0 n c, vI j, vI tk, vF tc0, vF tc1, vF tc2, vF ts0, vF ts1, vI dk, vF dc0, vF dc1, vF dc2, vF ds0, vF ds1, vF g]) (sub_fit (i := 2) hk (lB rfl)) w1 (Rng.congr (q.ext m1) (sub_same (i := 2) hk (lB rfl) rfl)))) rfl rfl (ltb rfl) ?_
    rintro _ _ ⟨rfl, rfl⟩
    refine WL.det (op_move rfl) rfl rfl rfl ?_
    rcases Bool.eq_false_or_eq_true (stillF ts0 ts1) with hb3 | hb3
    · refine WL.yes rfl rfl rfl (ltb rfl) rfl hb3 ?_
      refine WL.det (op_move rfl) rfl rfl rfl ?_
      refine WL.yes rfl rfl rfl (ltb rfl) rfl hb3 ?_
      refine WL.det (op_nilCheck rfl) rfl rfl rfl ?_
      refine WL.yes rfl rfl rfl (ltb rfl) rfl hb3 ?_
      refine WL.det (op_fieldAddr (off' := k + 8) rfl Try.runUnderlying33 rfl rfl Try.sizeOf31 rfl) rfl rfl rfl ?_
      refine WL.yes rfl rfl rfl (ltb rfl) rfl hb3 ?_
      refine WL.call (oc_call (vs := [vP p (k + 8)]) (cap := []) rfl rfl rfl Try.call127 (c_l02Still dk dc0 dc1 dc2 ds0 ds1 p (k + 8) (splice vs k [vS b 0 n c, vI j, vI tk, vF tc0, vF tc1, vF tc2, vF ts0, vF ts1, vI dk, vF dc0, vF dc1, vF dc2, vF ds0, vF ds1, vF g]) (sub_fit (i := 8) hk (lB rfl)) w1 (Rng.congr (q.ext m1) (sub_same (i := 8) hk (lB rfl) rfl)))) rfl rfl (ltb rfl) ?_
      rintro _ _ ⟨rfl, rfl⟩
      refine WL.det (op_pick_t rfl hb3 rfl) rfl rfl rfl ?_
      refine WL.det (op_assign rfl) rfl rfl rfl ?_
      refine WL.end ?_
      refine NE.code ?_
      refine CE.ret' ?_
      refine XE.leave1 Try.results86 rfl ?_
      refine ⟨?_, ((Mod.refl [] w).nt m1)⟩
      all_goals first | (rw [strSilent, zeroF_out (i := i) (by omega) (by simp_all)]; rfl) | (have e : i = n := (by omega); subst e; simp_all [strSilent]; done)
    · refine WL.no rfl rfl rfl (ltb rfl) rfl hb3 rfl (ltb rfl) ?_
      refine WL.no rfl rfl rfl (ltb rfl) rfl hb3 rfl (ltb rfl) ?_
      refine WL.no rfl rfl rfl (ltb rfl) rfl hb3 rfl (ltb rfl) ?_
      refine WL.no rfl rfl rfl (ltb rfl) rfl hb3 rfl (ltb rfl) ?_
      refine WL.det (op_pick_f rfl hb3 rfl) rfl rfl rfl ?_
      refine WL.det (op_assign rfl) rfl rfl rfl ?_
      refine WL.end ?_
      refine NE.code ?_
      refine CE.ret' ?_
      refine XE.leave1 Try.results86 rfl ?_
      refine ⟨?_, ((Mod.refl [] w).nt m1)⟩
      all_goals first | (rw [strSilent, zeroF_out (i := i) (by omega) (by simp_all)]; rfl) | (have e : i = n := (by omega); subst e; simp_all [strSilent]; done)

set_option maxRecDepth 100000 in
set_option maxHeartbeats 2000000 in
theorem c_quiet (n : Nat) (c : Nat) (b : Nat) (xs : List Nat) (i : Nat) (ln : xs.length = n) (hi : i < n) (hn : n ≤ 1048576) (w : World) (r : Rng w b 0 (fl xs)) : Cl Try.prog 123 #[.agg #[vS b 0 n c, vI ((i : Nat) : Int)]] w fun v w' => ∃ (r0 : Nat), v = vI ((r0 : Nat) : Int) ∧ (QI n xs i r0) ∧ (r0 ≤ n) ∧ Mod [] w w' := by
  refine Cl.of Try.func123 Try.ntmps123 rfl rfl (ρ := [(0, .agg #[vS b 0 n c, vI ((i : Nat) : Int)])]) rfl ?_
  refine CE.seq ?_
  refine CE.region ?_
  refine WL.op (op_box (cs := [vS b 0 n c, vI ((i : Nat) : Int)]) rfl rfl) rfl rfl (ltb rfl) ?_
  rintro _ w1 ⟨rfl, r1, m1, z1⟩
  refine WL.det (op_assign rfl) rfl rfl rfl ?_
  refine WL.end ?_
  refine NE.code ?_
  refine CE.seq ?_
  refine CE.region ?_
  refine WL.det (op_fieldAddr (off' := 0) rfl Try.runUnderlying26 rfl rfl Try.sizeOf24 rfl) rfl rfl rfl ?_
  refine WL.det (op_load1 (i := 0) rfl Try.isAgg24 r1.rng rfl rfl) rfl rfl rfl ?_
  refine WL.call (oc_call (vs := [vS b 0 n c]) (cap := []) rfl rfl rfl Try.call103 (c_length32 n c (some ⟨b, 0, none⟩) w1)) rfl rfl (ltb rfl) ?_
  rintro _ _ ⟨rfl, rfl⟩
  refine WL.det (op_assign rfl) rfl rfl rfl ?_
  refine WL.end ?_
  refine NE.code ?_
  refine CE.seq ?_
  refine CE.seq ?_
  refine CE.region ?_
  refine WL.det (op_assign rfl) rfl rfl rfl ?_
  refine WL.end ?_
  refine NE.code ?_
  refine CE.block ?_
  refine CE.loop (fun (e : Nat) => [(4, vI ((e + 1 : Nat) : Int)), (1, vP w.heap.size 0), (2, vI 0), (3, vI ((n : Nat) : Int))]) (fun (e : Nat) => fun W => (e ≤ n) ∧ (∀ j, 1 ≤ j → j ≤ e → fEq .f32 (xs.getD ((i + n - j) % n) 0) 0 = true) ∧ Mod [] w1 W) (fun (e : Nat) => n - e) 0 (⟨rfl, rfl, rfl, rfl, trivial⟩) ⟨(by omega), (by exact fun j h1 h2 => absurd h2 (by omega)), Mod.refl _ _⟩ ?_
  rintro e w2 ⟨he, hq, m2⟩
  show CE _ _ _ _ [(4, vI ((e + 1 : Nat) : Int)), (1, vP w.heap.size 0), (2, vI 0), (3, vI ((n : Nat) : Int))] _
  refine CE.seq ?_
  refine CE.seq ?_
  refine CE.region ?_
  refine WL.det (op_move rfl) rfl rfl rfl ?_
  refine WL.det (op_move rfl) rfl rfl rfl ?_
  refine WL.det (op_lei rfl rfl) rfl rfl rfl ?_
  refine WL.end ?_
  refine NE.code ?_
  rcases Bool.eq_false_or_eq_true (decide (((e + 1 : Nat) : Int) ≤ ((n : Nat) : Int))) with hb1 | hb1
  · have hp1 := hb1; try simp only [Bool.and_eq_true, Bool.or_eq_true, Bool.not_eq_true', Bool.not_eq_false', Bool.and_eq_false_iff, Bool.or_eq_false_iff, decide_eq_true_eq, decide_eq_false_iff_not, beq_iff_eq, bne_iff_ne, beq_eq_false_iff_ne, bne_eq_false_iff_eq, ne_eq, Bool.false_eq_true, not_false_eq_true, not_true_eq_false, vIn_t, vIn_f] at hp1
    refine CE.cond_t rfl hb1 ?_
    refine CE.skip' ?_
    refine NE.code ?_
    refine CE.seq ?_
    refine CE.block ?_
    refine CE.seq ?_
    refine CE.region ?_
    refine WL.det (op_loadA (i := 0) (cs := [vS b 0 n c, vI ((i : Nat) : Int)]) rfl Try.isAgg26 Try.sizeOf26 (r1.ext m2).rng rfl rfl rfl) rfl rfl rfl ?_
    refine WL.det (op_move rfl) rfl rfl rfl ?_
    refine WL.call (oc_call (vs := [.agg #[vS b 0 n c, vI ((i : Nat) : Int)], vI ((e + 1 : Nat) : Int)]) (cap := []) rfl rfl rfl Try.call102 (c_back n c b xs i (e + 1) ln (by first | omega | exact Nat.mod_lt _ (by omega)) (by omega) (by omega) w2 ((r.ext m1).ext m2))) rfl rfl (ltb rfl) ?_
    rintro _ w3 ⟨rfl, m3⟩
    refine WL.det (op_fne (c := !(fEq .f32 (xs.getD ((i + n - (e + 1)) % n) 0) 0)) rfl rfl rfl rfl rfl) rfl rfl rfl ?_
    refine WL.end ?_
    refine NE.code ?_
    rcases Bool.eq_false_or_eq_true (fEq .f32 (xs.getD ((i + n - (e + 1)) % n) 0) 0) with hb2 | hb2
    · refine CE.cond_f rfl (bnot_t hb2) ?_
      refine CE.skip' ?_
      refine NE.blk ?_
      refine NE.code ?_
      refine CE.region ?_
      refine WL.det (op_move rfl) rfl rfl rfl ?_
      refine WL.det (op_add (r := ((e + 1 + 1 : Nat) : Int)) rfl rfl (w_i64 (by omega) (by omega))) rfl rfl rfl ?_
      refine WL.det (op_assign rfl) rfl rfl rfl ?_
      refine WL.end ?_
      exact NE.again (e + 1) (⟨rfl, rfl, rfl, rfl, trivial⟩) ⟨(by omega), (by exact QI.step hq (by assumption)), (m2.nt m3)⟩ (by first | (dsimp only; omega) | omega)
    · refine CE.cond_t rfl (bnot_f hb2) ?_
      refine CE.seq ?_
      refine CE.region ?_
      refine WL.det (op_move rfl) rfl rfl rfl ?_
      refine WL.det (op_sub (r := ((e + 1 - 1 : Nat) : Int)) rfl rfl (w_nsub (l := e + 1) (n := 1) (by omega) (by omega))) rfl rfl rfl ?_
      refine WL.det (op_assign rfl) rfl rfl rfl ?_
      refine WL.end ?_
      refine NE.code ?_
      refine CE.ret' ?_
      refine XE.ret_blk ?_
      refine XE.ret_then ?_
      refine XE.ret_then ?_
      refine XE.ret_blk ?_
      refine XE.ret_then ?_
      refine XE.leave1 Try.results123 rfl ?_
      refine ⟨(e + 1 - 1), rfl, ?_, ?_, ((((Mod.refl [] w).nt m1).nt m2).nt m3)⟩
      all_goals first | exact (by omega) | exact QI.of hq (fun _ => by assumption) | (refine QI.of (fun j h1 h2 => hq j h1 (by omega)) (fun h => absurd h (by omega)))
  · have hp1 := hb1; try simp only [Bool.and_eq_true, Bool.or_eq_true, Bool.not_eq_true', Bool.not_eq_false', Bool.and_eq_false_iff, Bool.or_eq_false_iff, decide_eq_true_eq, decide_eq_false_iff_not, beq_iff_eq, bne_iff_ne, beq_eq_false_iff_ne, bne_eq_false_iff_eq, ne_eq, Bool.false_eq_true, not_false_eq_true, not_true_eq_false, vIn_t, vIn_f] at hp1
    refine CE.cond_f rfl hb1 ?_
    refine CE.exit' ?_
    refine XE.exit_then ?_
    refine XE.exit_then ?_
    refine XE.exit_here ?_
    refine NE.code ?_
    refine CE.seq ?_
    refine CE.region ?_
    refine WL.det (op_move rfl) rfl rfl rfl ?_
    refine WL.det (op_assign rfl) rfl rfl rfl ?_
    refine WL.end ?_
    refine NE.code ?_
    refine CE.ret' ?_
    refine XE.leave1 Try.results123 rfl ?_
    refine ⟨n, rfl, ?_, ?_, (((Mod.refl [] w).nt m1).nt m2)⟩
    all_goals first | exact (by omega) | exact QI.of hq (fun _ => by assumption) | (refine QI.of (fun j h1 h2 => hq j h1 (by omega)) (fun h => absurd h (by omega)))

set_option maxRecDepth 100000 in
set_option maxHeartbeats 2000000 in
theorem c_sil1 (n : Nat) (c : Nat) (b : Nat) (j : Int) (tk : Int) (tc0 : Nat) (tc1 : Nat) (tc2 : Nat) (ts0 : Nat) (ts1 : Nat) (dk : Int) (dc0 : Nat) (dc1 : Nat) (dc2 : Nat) (ds0 : Nat) (ds1 : Nat) (g : Nat) (p : Nat) (k : Nat) (vs : List Value) (hk : k + 15 ≤ vs.length) (w : World) (q : Rng w p 0 (splice vs k [vS b 0 n c, vI j, vI tk, vF tc0, vF tc1, vF tc2, vF ts0, vF ts1, vI dk, vF dc0, vF dc1, vF dc2, vF ds0, vF ds1, vF g])) : Cl Try.prog 81 #[vP p k] w fun v w' => v = .bool (stillF ts0 ts1 && stillF ds0 ds1) ∧ Mod [] w w' := by
  refine Cl.of Try.func81 Try.ntmps81 rfl rfl (ρ := [(0, vP p k)]) rfl ?_
  refine CE.seq ?_
  refine CE.region ?_
  refine WL.det (op_assign rfl) rfl rfl rfl ?_
  refine WL.end ?_
  refine NE.code ?_
  refine CE.seq ?_
  refine CE.region ?_
  refine WL.det (op_fieldAddr (off' := k + 2) rfl Try.runUnderlying33 rfl rfl Try.sizeOf31 rfl) rfl rfl rfl ?_
  refine WL.det (op_loadA (i := k + 2) (cs := [vI tk, vF tc0, vF tc1, vF tc2, vF ts0, vF ts1]) rfl Try.isAgg31 Try.sizeOf31 q (Nat.zero_add _) (sub_take (i := 2) hk (lB rfl) rfl) rfl) rfl rfl rfl ?_
  refine WL.call (oc_call (vs := [.agg #[vI tk, vF tc0, vF tc1, vF tc2, vF ts0, vF ts1]]) (cap := []) rfl rfl rfl Try.call82 (c_isStill tk tc0 tc1 tc2 ts0 ts1 w)) rfl rfl (ltb rfl) ?_
  rintro _ w1 ⟨rfl, m1⟩
  refine WL.det (op_move rfl) rfl rfl rfl ?_
  rcases Bool.eq_false_or_eq_true (stillF ts0 ts1) with hb1 | hb1
  · refine WL.yes rfl rfl rfl (ltb rfl) rfl hb1 ?_
    refine WL.det (op_fieldAddr (off' := k + 8) rfl Try.runUnderlying33 rfl rfl Try.sizeOf31 rfl) rfl rfl rfl ?_
    refine WL.yes rfl rfl rfl (ltb rfl) rfl hb1 ?_
    refine WL.det (op_loadA (i := k + 8) (cs := [vI dk, vF dc0, vF dc1, vF dc2, vF ds0, vF ds1]) rfl Try.isAgg31 Try.sizeOf31 (q.ext m1) (Nat.zero_add _) (sub_take (i := 8) hk (lB rfl) rfl) rfl) rfl rfl rfl ?_
    refine WL.yes rfl rfl rfl (ltb rfl) rfl hb1 ?_
    refine WL.call (oc_call (vs := [.agg #[vI dk, vF dc0, vF dc1, vF dc2, vF ds0, vF ds1]]) (cap := []) rfl rfl rfl Try.call82 (c_isStill dk dc0 dc1 dc2 ds0 ds1 w1)) rfl rfl (ltb rfl) ?_
    rintro _ w2 ⟨rfl, m2⟩
    refine WL.det (op_pick_t rfl hb1 rfl) rfl rfl rfl ?_
    refine WL.det (op_assign rfl) rfl rfl rfl ?_
    refine WL.end ?_
    refine NE.code ?_
    refine CE.ret' ?_
    refine XE.leave1 Try.results81 rfl ?_
    refine ⟨?_, (((Mod.refl [] w).nt m1).nt m2)⟩
    all_goals simp_all
  · refine WL.no rfl rfl rfl (ltb rfl) rfl hb1 rfl (ltb rfl) ?_
    refine WL.no rfl rfl rfl (ltb rfl) rfl hb1 rfl (ltb rfl) ?_
    refine WL.no rfl rfl rfl (ltb rfl) rfl hb1 rfl (ltb rfl) ?_
    refine WL.det (op_pick_f rfl hb1 rfl) rfl rfl rfl ?_
    refine WL.det (op_assign rfl) rfl rfl rfl ?_
    refine WL.end ?_
    refine NE.code ?_
    refine CE.ret' ?_
    refine XE.leave1 Try.results81 rfl ?_
    refine ⟨?_, ((Mod.refl [] w).nt m1)⟩
    all_goals simp_all

set_option maxRecDepth 100000 in
set_option maxHeartbeats 2000000 in
theorem c_sil2 (n : Nat) (c : Nat) (b : Nat) (xs : List Nat) (i : Nat) (tk : Int) (tc0 : Nat) (tc1 : Nat) (tc2 : Nat) (ts0 : Nat) (ts1 : Nat) (dk : Int) (dc0 : Nat) (dc1 : Nat) (dc2 : Nat) (ds0 : Nat) (ds1 : Nat) (g : Nat) (p : Nat) (k : Nat) (vs : List Value) (ln : xs.length = n) (hi : i < n) (hn : n ≤ 1048576) (lts0 : ts0 < wid .f32) (lts1 : ts1 < wid .f32) (lds0 : ds0 < wid .f32) (lds1 : ds1 < wid .f32) (hk : k + 15 ≤ vs.length) (wx : W32 xs) (w : World) (q : Row w p 0 (splice vs k [vS b 0 n c, vI ((i : Nat) : Int), vI tk, vF tc0, vF tc1, vF tc2, vF ts0, vF ts1, vI dk, vF dc0, vF dc1, vF dc2, vF ds0, vF ds1, vF g])) (r : Row w b 0 (fl xs)) (hne : p ≠ b) : Cl Try.prog 83 #[vP p k] w fun v w' => v = .tuple #[] ∧ (keptF (fop .add .f32 (fop .mul .f32 (stepY dk dc0 dc1 dc2 ds0 ds1 (stepY tk tc0 tc1 tc2 ts0 ts1 (xs.getD i 0))) g) 0) < wid .f32) ∧ ((stepS tk tc0 tc1 tc2 ts0 ts1 (xs.getD i 0)) < wid .f32) ∧ ((stepT tk tc0 tc1 tc2 ts0 ts1 (xs.getD i 0)) < wid .f32) ∧ ((stepS dk dc0 dc1 dc2 ds0 ds1 (stepY tk tc0 tc1 tc2 ts0 ts1 (xs.getD i 0))) < wid .f32) ∧ ((stepT dk dc0 dc1 dc2 ds0 ds1 (stepY tk tc0 tc1 tc2 ts0 ts1 (xs.getD i 0))) < wid .f32) ∧ Row w' p 0 (splice vs k [vS b 0 n c, vI (((i + 1) % n : Nat) : Int), vI tk, vF tc0, vF tc1, vF tc2, vF (stepS tk tc0 tc1 tc2 ts0 ts1 (xs.getD i 0)), vF (stepT tk tc0 tc1 tc2 ts0 ts1 (xs.getD i 0)), vI dk, vF dc0, vF dc1, vF dc2, vF (stepS dk dc0 dc1 dc2 ds0 ds1 (stepY tk tc0 tc1 tc2 ts0 ts1 (xs.getD i 0))), vF (stepT dk dc0 dc1 dc2 ds0 ds1 (stepY tk tc0 tc1 tc2 ts0 ts1 (xs.getD i 0))), vF g]) ∧ Row w' b 0 (fl (xs.set i (keptF (fop .add .f32 (fop .mul .f32 (stepY dk dc0 dc1 dc2 ds0 ds1 (stepY tk tc0 tc1 tc2 ts0 ts1 (xs.getD i 0))) g) 0)))) ∧ Mod [p, b] w w' := by
  refine Cl.of Try.func83 Try.ntmps83 rfl rfl (ρ := [(0, vP p k)]) rfl ?_
  refine CE.region ?_
  refine WL.call (oc_call (vs := [vP p k, vF 0]) (cap := []) rfl rfl rfl Try.call84 (c_strStep n c b xs i tk tc0 tc1 tc2 ts0 ts1 dk dc0 dc1 dc2 ds0 ds1 g p k (splice vs k [vS b 0 n c, vI ((i : Nat) : Int), vI tk, vF tc0, vF tc1, vF tc2, vF ts0, vF ts1, vI dk, vF dc0, vF dc1, vF dc2, vF ds0, vF ds1, vF g]) 0 0 ln (by first | omega | exact Nat.mod_lt _ (by omega)) (by omega) lts0 lts1 lds0 lds1 (sub_fit (i := 0) hk (lB rfl)) rfl (by decide +kernel) wx w (Row.congr q (sub_same (i := 0) hk (lB rfl) rfl)) r hne)) rfl rfl (ltb rfl) ?_
  rintro _ w1 ⟨rfl, h1, h2, h3, h4, h5, r1, r2, m1⟩
  have r3 : Row w1 p 0 (splice vs k [vS b 0 n c, vI (((i + 1) % n : Nat) : Int), vI tk, vF tc0, vF tc1, vF tc2, vF (stepS tk tc0 tc1 tc2 ts0 ts1 (xs.getD i 0)), vF (stepT tk tc0 tc1 tc2 ts0 ts1 (xs.getD i 0)), vI dk, vF dc0, vF dc1, vF dc2, vF (stepS dk dc0 dc1 dc2 ds0 ds1 (stepY tk tc0 tc1 tc2 ts0 ts1 (xs.getD i 0))), vF (stepT dk dc0 dc1 dc2 ds0 ds1 (stepY tk tc0 tc1 tc2 ts0 ts1 (xs.getD i 0))), vF g]) := Row.congr r1 (sub_put (i := 0) hk (lB rfl) rfl)
  refine WL.end ?_
  refine NE.leave0 Try.results83 ?_
  refine ⟨rfl, ?_, ?_, ?_, ?_, ?_, r3, r2, ((Mod.refl [p, b] w).then m1 ((aC (.inl (by simp)) (aC (.inl (by simp)) aN))))⟩
  all_goals first | assumption | rfl

set_option maxRecDepth 100000 in
set_option maxHeartbeats 2000000 in
theorem c_stepsStr (n : Nat) (c : Nat) (b : Nat) (xs : List Nat) (i0 : Nat) (tk : Int) (tc0 : Nat) (tc1 : Nat) (tc2 : Nat) (ts0 : Nat) (ts1 : Nat) (dk : Int) (dc0 : Nat) (dc1 : Nat) (dc2 : Nat) (ds0 : Nat) (ds1 : Nat) (g : Nat) (p : Nat) (k : Nat) (vs : List Value) (e : Nat) (c' : Nat) (most : Nat) (ln : xs.length = n) (hi0 : i0 < n) (hn : n ≤ 1024) (wx : W32 xs) (lts0 : ts0 < wid .f32) (lts1 : ts1 < wid .f32) (lds0 : ds0 < wid .f32) (lds1 : ds1 < wid .f32) (hk : k + 15 ≤ vs.length) (hm : most ≤ 100000) (w : World) (q : Row w p 0 (splice vs k [vS b 0 n c, vI ((i0 : Nat) : Int), vI tk, vF tc0, vF tc1, vF tc2, vF ts0, vF ts1, vI dk, vF dc0, vF dc1, vF dc2, vF ds0, vF ds1, vF g])) (r : Row w b 0 (fl xs)) (re : Rng w e 0 [vP p k]) (hne : p ≠ b) (n1 : e ≠ p) (n2 : e ≠ b) : Cl Try.prog 80 #[vI ((most : Nat) : Int), vS e 0 1 c', .func (.func 81) #[] #[vP p k], .func (.func 83) #[] #[vP p k]] w fun v w' => v = .tuple #[vI ((silF n (fun ii => strAt n tk tc0 tc1 tc2 dk dc0 dc1 dc2 g xs i0 ts0 ts1 ds0 ds1 (fun _ => 0) ii) (most + 1) 0).1), vI ((silF n (fun ii => strAt n tk tc0 tc1 tc2 dk dc0 dc1 dc2 g xs i0 ts0 ts1 ds0 ds1 (fun _ => 0) ii) (most + 1) 0).2)] ∧ Mod [p, b] w w' := by
  refine Cl.of Try.func80 Try.ntmps80 rfl rfl (ρ := [(0, vI ((most : Nat) : Int)), (1, vS e 0 1 c'), (2, .func (.func 81) #[] #[vP p k]), (3, .func (.func 83) #[] #[vP p k])]) rfl ?_
  refine CE.seq ?_
  refine CE.region ?_
  refine WL.det (op_assign rfl) rfl rfl rfl ?_
  refine WL.det (op_assign rfl) rfl rfl rfl ?_
  refine WL.end ?_
  refine NE.code ?_
  refine CE.seq ?_
  refine CE.region ?_
  refine WL.det (op_move rfl) rfl rfl rfl ?_
  refine WL.det (op_len rfl Try.runUnderlying116) rfl rfl rfl ?_
  refine WL.op (op_makeI (i := Try.t2) (m := 1) rfl rfl rfl rfl Try.underlying144 rfl rfl rfl rfl (by omega)) rfl rfl (ltb rfl) ?_
  rintro _ w1 ⟨rfl, r1, m1, z1⟩
  refine WL.det (op_assign rfl) rfl rfl rfl ?_
  refine WL.end ?_
  refine NE.code ?_
  refine CE.seq ?_
  refine CE.seq ?_
  refine CE.region ?_
  refine WL.det (op_move rfl) rfl rfl rfl ?_
  refine WL.det (op_len rfl Try.runUnderlying116) rfl rfl rfl ?_
  refine WL.det (op_move rfl) rfl rfl rfl ?_
  refine WL.end ?_
  refine NE.code ?_
  refine CE.block ?_
  refine CE.rounds 2 ?_
  refine RN.one ?_
  refine CE.seq ?_
  refine CE.region ?_
  refine WL.det (op_lti rfl rfl) rfl rfl rfl ?_
  refine WL.end ?_
  refine NE.code ?_
  refine CE.seq ?_
  refine CE.cond_t rfl rfl ?_
  refine CE.skip' ?_
  refine NE.code ?_
  refine CE.seq ?_
  refine CE.block ?_
  refine CE.seq ?_
  refine CE.region ?_
  refine WL.det (op_move rfl) rfl rfl rfl ?_
  refine WL.det (op_indexSl (off' := 0) rfl rfl rfl Try.runUnderlying116 Try.sizeOf109 (by omega) (by omega) rfl) rfl rfl rfl ?_
  refine WL.det (op_load1 (i := 0) rfl Try.isAgg109 (re.ext m1) rfl rfl) rfl rfl rfl ?_
  refine WL.det (op_assign rfl) rfl rfl rfl ?_
  refine WL.det (op_assign rfl) rfl rfl rfl ?_
  refine WL.end ?_
  refine NE.code ?_
  refine CE.region ?_
  refine WL.det (op_move rfl) rfl rfl rfl ?_
  refine WL.det (op_move rfl) rfl rfl rfl ?_
  refine WL.det (op_move rfl) rfl rfl rfl ?_
  refine WL.det (op_nilCheck rfl) rfl rfl rfl ?_
  refine WL.det (op_loadA (i := k) (cs := [vS b 0 n c, vI ((i0 : Nat) : Int)]) rfl Try.isAgg26 Try.sizeOf26 (q.ext m1).rng (Nat.zero_add _) (sub_take (i := 0) hk (lB rfl) rfl) rfl) rfl rfl rfl ?_
  refine WL.call (oc_call (vs := [.agg #[vS b 0 n c, vI ((i0 : Nat) : Int)]]) (cap := []) rfl rfl rfl Try.call123 (c_quiet n c b xs i0 ln (by omega) (by omega) w1 (r.ext m1).rng)) rfl rfl (ltb rfl) ?_
  rintro _ w2 ⟨r2, rfl, h1, h2, m2⟩
  refine WL.det (op_indexSl (off' := 0) rfl rfl rfl Try.runUnderlying144 Try.sizeOf2 (by omega) (by omega) rfl) rfl rfl rfl ?_
  refine WL.op0 (op_store (i := 0) (cs := [vI ((r2 : Nat) : Int)]) rfl rfl rfl Try.sizeOf2 rfl (r1.ext m2) rfl (lB rfl) rfl) rfl rfl ?_
  rintro _ w3 ⟨r3, m3, z2⟩
  have r4 : Row w3 w.heap.size 0 [vI ((r2 : Nat) : Int)] := Row.congr r3 rfl
  refine WL.end ?_
  refine NE.blk ?_
  refine NE.code ?_
  refine CE.region ?_
  refine WL.det (op_add (r := 1) rfl rfl (by decide)) rfl rfl rfl ?_
  refine WL.det (op_move rfl) rfl rfl rfl ?_
  refine WL.end ?_
  refine NE.round ?_
  refine RN.one ?_
  refine CE.seq ?_
  refine CE.region ?_
  refine WL.det (op_lti rfl rfl) rfl rfl rfl ?_
  refine WL.end ?_
  refine NE.code ?_
  refine CE.seq ?_
  refine CE.cond_f rfl rfl ?_
  refine CE.exit' ?_
  refine XE.exit_then ?_
  refine XE.exit_then ?_
  refine XE.exit_here ?_
  refine NE.code ?_
  refine CE.seq ?_
  refine CE.seq ?_
  refine CE.region ?_
  refine WL.det (op_assign rfl) rfl rfl rfl ?_
  refine WL.end ?_
  refine NE.code ?_
  refine CE.block ?_
  refine CE.loop (fun (z : Nat × Nat) => [(13, vI ((z.1 : Nat) : Int)), (0, vI ((most : Nat) : Int)), (1, vS e 0 1 c'), (2, .func (.func 81) #[] #[vP p k]), (3, .func (.func 83) #[] #[vP p k]), (8, vI 0), (9, vI 0), (10, vS w.heap.size 0 1 1)]) (fun (z : Nat × Nat) => fun W => (z.1 ≤ most + 1) ∧ ((strAt n tk tc0 tc1 tc2 dk dc0 dc1 dc2 g xs i0 ts0 ts1 ds0 ds1 (fun _ => 0) z.1).i < n) ∧ ((strAt n tk tc0 tc1 tc2 dk dc0 dc1 dc2 g xs i0 ts0 ts1 ds0 ds1 (fun _ => 0) z.1).xs.length = n) ∧ (W32 (strAt n tk tc0 tc1 tc2 dk dc0 dc1 dc2 g xs i0 ts0 ts1 ds0 ds1 (fun _ => 0) z.1).xs) ∧ ((strAt n tk tc0 tc1 tc2 dk dc0 dc1 dc2 g xs i0 ts0 ts1 ds0 ds1 (fun _ => 0) z.1).t0 < wid .f32) ∧ ((strAt n tk tc0 tc1 tc2 dk dc0 dc1 dc2 g xs i0 ts0 ts1 ds0 ds1 (fun _ => 0) z.1).t1 < wid .f32) ∧ ((strAt n tk tc0 tc1 tc2 dk dc0 dc1 dc2 g xs i0 ts0 ts1 ds0 ds1 (fun _ => 0) z.1).d0 < wid .f32) ∧ ((strAt n tk tc0 tc1 tc2 dk dc0 dc1 dc2 g xs i0 ts0 ts1 ds0 ds1 (fun _ => 0) z.1).d1 < wid .f32) ∧ (z.2 ≤ n + z.1) ∧ (QI n (strAt n tk tc0 tc1 tc2 dk dc0 dc1 dc2 g xs i0 ts0 ts1 ds0 ds1 (fun _ => 0) z.1).xs (strAt n tk tc0 tc1 tc2 dk dc0 dc1 dc2 g xs i0 ts0 ts1 ds0 ds1 (fun _ => 0) z.1).i z.2) ∧ (silF n (fun ii => strAt n tk tc0 tc1 tc2 dk dc0 dc1 dc2 g xs i0 ts0 ts1 ds0 ds1 (fun _ => 0) ii) (most + 1 - z.1) z.1 = (silF n (fun ii => strAt n tk tc0 tc1 tc2 dk dc0 dc1 dc2 g xs i0 ts0 ts1 ds0 ds1 (fun _ => 0) ii) (most + 1) 0)) ∧ Row W p 0 (splice vs k [vS b 0 n c, vI (((strAt n tk tc0 tc1 tc2 dk dc0 dc1 dc2 g xs i0 ts0 ts1 ds0 ds1 (fun _ => 0) z.1).i : Nat) : Int), vI tk, vF tc0, vF tc1, vF tc2, vF ((strAt n tk tc0 tc1 tc2 dk dc0 dc1 dc2 g xs i0 ts0 ts1 ds0 ds1 (fun _ => 0) z.1).t0), vF ((strAt n tk tc0 tc1 tc2 dk dc0 dc1 dc2 g xs i0 ts0 ts1 ds0 ds1 (fun _ => 0) z.1).t1), vI dk, vF dc0, vF dc1, vF dc2, vF ((strAt n tk tc0 tc1 tc2 dk dc0 dc1 dc2 g xs i0 ts0 ts1 ds0 ds1 (fun _ => 0) z.1).d0), vF ((strAt n tk tc0 tc1 tc2 dk dc0 dc1 dc2 g xs i0 ts0 ts1 ds0 ds1 (fun _ => 0) z.1).d1), vF g]) ∧ Row W b 0 (fl ((strAt n tk tc0 tc1 tc2 dk dc0 dc1 dc2 g xs i0 ts0 ts1 ds0 ds1 (fun _ => 0) z.1).xs)) ∧ Row W w.heap.size 0 [vI ((z.2 : Nat) : Int)] ∧ Mod [p, b, w.heap.size] w3 W) (fun (z : Nat × Nat) => most + 1 - z.1) (0, r2) (⟨rfl, rfl, rfl, rfl, rfl, rfl, rfl, rfl, trivial⟩) ⟨(by omega), (by rw [strAt_zero]; exact hi0), (by rw [strAt_zero]; exact ln), (by rw [strAt_zero]; exact wx), (by rw [strAt_zero]; assumption), (by rw [strAt_zero]; assumption), (by rw [strAt_zero]; assumption), (by rw [strAt_zero]; assumption), (by omega), (by rw [strAt_zero]; assumption), (by rfl), (Row.congr (((q.ext m1).ext m2).mod m3 (nC (lE (lL q.lt lR)) nN)) (by rw [strAt_zero])), (Row.congr (((r.ext m1).ext m2).mod m3 (nC (lE (lL r.lt lR)) nN)) (by rw [strAt_zero])), (Row.congr r4 rfl), Mod.refl _ _⟩ ?_
  rintro ⟨i, r0⟩ w4 ⟨hi, hz, hl, hx, b0, b1, b2, b3, hr, hq, he, r5, r6, r7, m4⟩
  replace hi : i ≤ most + 1 := hi
  replace hz : (strAt n tk tc0 tc1 tc2 dk dc0 dc1 dc2 g xs i0 ts0 ts1 ds0 ds1 (fun _ => 0) i).i < n := hz
  replace hl : (strAt n tk tc0 tc1 tc2 dk dc0 dc1 dc2 g xs i0 ts0 ts1 ds0 ds1 (fun _ => 0) i).xs.length = n := hl
  replace hx : W32 (strAt n tk tc0 tc1 tc2 dk dc0 dc1 dc2 g xs i0 ts0 ts1 ds0 ds1 (fun _ => 0) i).xs := hx
  replace b0 : (strAt n tk tc0 tc1 tc2 dk dc0 dc1 dc2 g xs i0 ts0 ts1 ds0 ds1 (fun _ => 0) i).t0 < wid .f32 := b0
  replace b1 : (strAt n tk tc0 tc1 tc2 dk dc0 dc1 dc2 g xs i0 ts0 ts1 ds0 ds1 (fun _ => 0) i).t1 < wid .f32 := b1
  replace b2 : (strAt n tk tc0 tc1 tc2 dk dc0 dc1 dc2 g xs i0 ts0 ts1 ds0 ds1 (fun _ => 0) i).d0 < wid .f32 := b2
  replace b3 : (strAt n tk tc0 tc1 tc2 dk dc0 dc1 dc2 g xs i0 ts0 ts1 ds0 ds1 (fun _ => 0) i).d1 < wid .f32 := b3
  replace hr : r0 ≤ n + i := hr
  replace hq : QI n (strAt n tk tc0 tc1 tc2 dk dc0 dc1 dc2 g xs i0 ts0 ts1 ds0 ds1 (fun _ => 0) i).xs (strAt n tk tc0 tc1 tc2 dk dc0 dc1 dc2 g xs i0 ts0 ts1 ds0 ds1 (fun _ => 0) i).i r0 := hq
  replace he : silF n (fun ii => strAt n tk tc0 tc1 tc2 dk dc0 dc1 dc2 g xs i0 ts0 ts1 ds0 ds1 (fun _ => 0) ii) (most + 1 - i) i = (silF n (fun ii => strAt n tk tc0 tc1 tc2 dk dc0 dc1 dc2 g xs i0 ts0 ts1 ds0 ds1 (fun _ => 0) ii) (most + 1) 0) := he
  replace r5 : Row w4 p 0 (splice vs k [vS b 0 n c, vI (((strAt n tk tc0 tc1 tc2 dk dc0 dc1 dc2 g xs i0 ts0 ts1 ds0 ds1 (fun _ => 0) i).i : Nat) : Int), vI tk, vF tc0, vF tc1, vF tc2, vF ((strAt n tk tc0 tc1 tc2 dk dc0 dc1 dc2 g xs i0 ts0 ts1 ds0 ds1 (fun _ => 0) i).t0), vF ((strAt n tk tc0 tc1 tc2 dk dc0 dc1 dc2 g xs i0 ts0 ts1 ds0 ds1 (fun _ => 0) i).t1), vI dk, vF dc0, vF dc1, vF dc2, vF ((strAt n tk tc0 tc1 tc2 dk dc0 dc1 dc2 g xs i0 ts0 ts1 ds0 ds1 (fun _ => 0) i).d0), vF ((strAt n tk tc0 tc1 tc2 dk dc0 dc1 dc2 g xs i0 ts0 ts1 ds0 ds1 (fun _ => 0) i).d1), vF g]) := r5
  replace r6 : Row w4 b 0 (fl ((strAt n tk tc0 tc1 tc2 dk dc0 dc1 dc2 g xs i0 ts0 ts1 ds0 ds1 (fun _ => 0) i).xs)) := r6
  replace r7 : Row w4 w.heap.size 0 [vI ((r0 : Nat) : Int)] := r7
  show CE _ _ _ _ [(13, vI ((i : Nat) : Int)), (0, vI ((most : Nat) : Int)), (1, vS e 0 1 c'), (2, .func (.func 81) #[] #[vP p k]), (3, .func (.func 83) #[] #[vP p k]), (8, vI 0), (9, vI 0), (10, vS w.heap.size 0 1 1)] _
  refine CE.seq ?_
  refine CE.seq ?_
  refine CE.region ?_
  refine WL.det (op_move rfl) rfl rfl rfl ?_
  refine WL.det (op_move rfl) rfl rfl rfl ?_
  refine WL.det (op_lei rfl rfl) rfl rfl rfl ?_
  refine WL.end ?_
  refine NE.code ?_
  rcases Bool.eq_false_or_eq_true (decide (((i : Nat) : Int) ≤ ((most : Nat) : Int))) with hb1 | hb1
  · have hp1 := hb1; try simp only [Bool.and_eq_true, Bool.or_eq_true, Bool.not_eq_true', Bool.not_eq_false', Bool.and_eq_false_iff, Bool.or_eq_false_iff, decide_eq_true_eq, decide_eq_false_iff_not, beq_iff_eq, bne_iff_ne, beq_eq_false_iff_ne, bne_eq_false_iff_eq, ne_eq, Bool.false_eq_true, not_false_eq_true, not_true_eq_false, vIn_t, vIn_f] at hp1
    refine CE.cond_t rfl hb1 ?_
    refine CE.skip' ?_
    refine NE.code ?_
    refine CE.seq ?_
    refine CE.block ?_
    refine CE.seq ?_
    refine CE.region ?_
    refine WL.det (op_move rfl) rfl rfl rfl ?_
    refine WL.call (oc_call (vs := []) (cap := [vP p k]) rfl rfl rfl Try.call81 (c_sil1 n c b (((strAt n tk tc0 tc1 tc2 dk dc0 dc1 dc2 g xs i0 ts0 ts1 ds0 ds1 (fun _ => 0) i).i : Nat) : Int) tk tc0 tc1 tc2 ((strAt n tk tc0 tc1 tc2 dk dc0 dc1 dc2 g xs i0 ts0 ts1 ds0 ds1 (fun _ => 0) i).t0) ((strAt n tk tc0 tc1 tc2 dk dc0 dc1 dc2 g xs i0 ts0 ts1 ds0 ds1 (fun _ => 0) i).t1) dk dc0 dc1 dc2 ((strAt n tk tc0 tc1 tc2 dk dc0 dc1 dc2 g xs i0 ts0 ts1 ds0 ds1 (fun _ => 0) i).d0) ((strAt n tk tc0 tc1 tc2 dk dc0 dc1 dc2 g xs i0 ts0 ts1 ds0 ds1 (fun _ => 0) i).d1) g p k (splice vs k [vS b 0 n c, vI (((strAt n tk tc0 tc1 tc2 dk dc0 dc1 dc2 g xs i0 ts0 ts1 ds0 ds1 (fun _ => 0) i).i : Nat) : Int), vI tk, vF tc0, vF tc1, vF tc2, vF ((strAt n tk tc0 tc1 tc2 dk dc0 dc1 dc2 g xs i0 ts0 ts1 ds0 ds1 (fun _ => 0) i).t0), vF ((strAt n tk tc0 tc1 tc2 dk dc0 dc1 dc2 g xs i0 ts0 ts1 ds0 ds1 (fun _ => 0) i).t1), vI dk, vF dc0, vF dc1, vF dc2, vF ((strAt n tk tc0 tc1 tc2 dk dc0 dc1 dc2 g xs i0 ts0 ts1 ds0 ds1 (fun _ => 0) i).d0), vF ((strAt n tk tc0 tc1 tc2 dk dc0 dc1 dc2 g xs i0 ts0 ts1 ds0 ds1 (fun _ => 0) i).d1), vF g]) (sub_fit (i := 0) hk (lB rfl)) w4 (Row.congr r5 (sub_same (i := 0) hk (lB rfl) rfl)).rng)) rfl rfl (ltb rfl) ?_
    rintro _ w5 ⟨rfl, m5⟩
    refine WL.det (op_assign rfl) rfl rfl rfl ?_
    refine WL.end ?_
    refine NE.code ?_
    refine CE.seq ?_
    refine CE.seq ?_
    refine CE.region ?_
    refine WL.det (op_move rfl) rfl rfl rfl ?_
    refine WL.det (op_len rfl Try.runUnderlying116) rfl rfl rfl ?_
    refine WL.det (op_move rfl) rfl rfl rfl ?_
    refine WL.end ?_
    refine NE.code ?_
    refine CE.block ?_
    refine CE.rounds 2 ?_
    refine RN.one ?_
    refine CE.seq ?_
    refine CE.region ?_
    refine WL.det (op_lti rfl rfl) rfl rfl rfl ?_
    refine WL.end ?_
    refine NE.code ?_
    refine CE.seq ?_
    refine CE.cond_t rfl rfl ?_
    refine CE.skip' ?_
    refine NE.code ?_
    refine CE.seq ?_
    refine CE.block ?_
    refine CE.seq ?_
    refine CE.region ?_
    refine WL.det (op_move rfl) rfl rfl rfl ?_
    refine WL.det (op_indexSl (off' := 0) rfl rfl rfl Try.runUnderlying116 Try.sizeOf109 (by omega) (by omega) rfl) rfl rfl rfl ?_
    refine WL.det (op_load1 (i := 0) rfl Try.isAgg109 (((Rng.youngS re ((re.ext m1).ext m2) m3 (allge_cons lR allge_nil)).mod m4 (nC n1 (nC n2 (nC (lE (lL (re.lt (Nat.succ_pos _)) lR)) nN)))).ext m5) rfl rfl) rfl rfl rfl ?_
    refine WL.det (op_assign rfl) rfl rfl rfl ?_
    refine WL.det (op_assign rfl) rfl rfl rfl ?_
    refine WL.end ?_
    refine NE.code ?_
    rcases Bool.eq_false_or_eq_true ((stillF ((strAt n tk tc0 tc1 tc2 dk dc0 dc1 dc2 g xs i0 ts0 ts1 ds0 ds1 (fun _ => 0) i).t0) ((strAt n tk tc0 tc1 tc2 dk dc0 dc1 dc2 g xs i0 ts0 ts1 ds0 ds1 (fun _ => 0) i).t1) && stillF ((strAt n tk tc0 tc1 tc2 dk dc0 dc1 dc2 g xs i0 ts0 ts1 ds0 ds1 (fun _ => 0) i).d0) ((strAt n tk tc0 tc1 tc2 dk dc0 dc1 dc2 g xs i0 ts0 ts1 ds0 ds1 (fun _ => 0) i).d1))) with hb2 | hb2
    · refine CE.draw (fun | 10 => some (fun _ wA uA wB => uA = vI ((n : Nat) : Int) ∧ wA = wB) | _ => none) [0, 1, 2, 3, 4, 5, 6, 7, 8, 9, 10] [11, 12, 13] [] (by kernel_rfl) (by kernel_rfl) ?_
      have md1 : Mod [] w5 w5.drew := (Mod.refl _ _).drew
      generalize w5.drew = w6 at md1 ⊢
      refine DR.det (i := 0) rfl rfl (by kernel_rfl) (.free rfl) rfl rfl (fun wD mD => op_move rfl) ?_
      refine DR.det (i := 1) rfl rfl (by kernel_rfl) (.free rfl) rfl rfl (fun wD mD => op_move rfl) ?_
      refine DR.det (i := 2) rfl rfl (by kernel_rfl) (.yes rfl rfl rfl (ltb rfl) rfl hb2) rfl rfl (fun wD mD => op_move rfl) ?_
      refine DR.det (i := 3) rfl rfl (by kernel_rfl) (.yes rfl rfl rfl (ltb rfl) rfl hb2) rfl rfl (fun wD mD => op_move rfl) ?_
      refine DR.det (i := 4) rfl rfl (by kernel_rfl) (.yes rfl rfl rfl (ltb rfl) rfl hb2) rfl rfl (fun wD mD => op_indexSl (off' := 0) rfl rfl rfl Try.runUnderlying144 Try.sizeOf2 (by omega) (by omega) rfl) ?_
      refine DR.det (i := 5) rfl rfl (by kernel_rfl) (.yes rfl rfl rfl (ltb rfl) rfl hb2) rfl rfl (fun wD mD => op_load1 (i := 0) rfl Try.isAgg2 (((r7.ext m5).ext md1).ext mD).rng rfl rfl) ?_
      refine DR.det (i := 6) rfl rfl (by kernel_rfl) (.yes rfl rfl rfl (ltb rfl) rfl hb2) rfl rfl (fun wD mD => op_move rfl) ?_
      refine DR.det (i := 7) rfl rfl (by kernel_rfl) (.yes rfl rfl rfl (ltb rfl) rfl hb2) rfl rfl (fun wD mD => op_nilCheck rfl) ?_
      refine DR.det (i := 8) rfl rfl (by kernel_rfl) (.yes rfl rfl rfl (ltb rfl) rfl hb2) rfl rfl (fun wD mD => op_fieldAddr (off' := k) rfl Try.runUnderlying26 rfl rfl Try.sizeOf24 rfl) ?_
      refine DR.det (i := 9) rfl rfl (by kernel_rfl) (.yes rfl rfl rfl (ltb rfl) rfl hb2) rfl rfl (fun wD mD => op_load1 (i := k) rfl Try.isAgg24 (((r5.ext m5).ext md1).ext mD).rng (Nat.zero_add _) (sub_get (i := 0) hk rfl)) ?_
      refine DR.call (i := 10) (fun uA => uA = vI ((n : Nat) : Int)) rfl rfl (by kernel_rfl) (.yes rfl rfl rfl (ltb rfl) rfl hb2) rfl (ltb rfl) ⟨_, rfl⟩ (vs := [.func (.func 103) #[] #[], vS b 0 n c]) rfl (fun wD mD => oc_call (vs := [vS b 0 n c]) (cap := []) rfl rfl rfl Try.call103 (c_length32 n c (some ⟨b, 0, none⟩) wD)) ?_ ?_
      · rintro w1 _ _ m1 ⟨rfl, rfl⟩; exact ⟨rfl, Mod.refl _ _⟩
      rintro _ rfl
      refine DR.done rfl ?_
      intro w7 m6
      refine WO.det (op_gei rfl rfl) rfl (.yes rfl rfl rfl (ltb rfl) rfl hb2) rfl rfl ?_
      refine WO.det (op_pick_t rfl hb2 rfl) rfl (.free rfl) rfl rfl ?_
      refine WO.det (op_assign rfl) rfl (.free rfl) rfl rfl ?_
      refine WO.end ?_
      refine NE.blk ?_
      refine NE.code ?_
      refine CE.region ?_
      refine WL.det (op_add (r := 1) rfl rfl (by decide)) rfl rfl rfl ?_
      refine WL.det (op_move rfl) rfl rfl rfl ?_
      refine WL.end ?_
      refine NE.round ?_
      refine RN.one ?_
      refine CE.seq ?_
      refine CE.region ?_
      refine WL.det (op_lti rfl rfl) rfl rfl rfl ?_
      refine WL.end ?_
      refine NE.code ?_
      refine CE.seq ?_
      refine CE.cond_f rfl rfl ?_
      refine CE.exit' ?_
      refine XE.exit_then ?_
      refine XE.exit_then ?_
      refine XE.exit_here ?_
      refine NE.code ?_
      refine CE.seq ?_
      refine CE.seq ?_
      refine CE.region ?_
      refine WL.det (op_move rfl) rfl rfl rfl ?_
      refine WL.end ?_
      refine NE.code ?_
      rcases Bool.eq_false_or_eq_true (decide (((n : Nat) : Int) ≤ ((r0 : Nat) : Int))) with hb3 | hb3
      · have hp3 := hb3; try simp only [Bool.and_eq_true, Bool.or_eq_true, Bool.not_eq_true', Bool.not_eq_false', Bool.and_eq_false_iff, Bool.or_eq_false_iff, decide_eq_true_eq, decide_eq_false_iff_not, beq_iff_eq, bne_iff_ne, beq_eq_false_iff_ne, bne_eq_false_iff_eq, ne_eq, Bool.false_eq_true, not_false_eq_true, not_true_eq_false, vIn_t, vIn_f] at hp3
        refine CE.cond_t rfl hb3 ?_
        refine CE.seq ?_
        refine CE.region ?_
        refine WL.det (op_move rfl) rfl rfl rfl ?_
        refine WL.det (op_assign rfl) rfl rfl rfl ?_
        refine WL.det (op_assign rfl) rfl rfl rfl ?_
        refine WL.end ?_
        refine NE.code ?_
        refine CE.ret' ?_
        refine XE.ret_then ?_
        refine XE.ret_blk ?_
        refine XE.ret_then ?_
        refine XE.ret_then ?_
        refine XE.ret_blk ?_
        refine XE.ret_then ?_
        refine XE.leaveT Try.results80 (res_tmp rfl (res_tmp rfl res_nil)) ?_
        refine ⟨?_, ((((((((Mod.refl [p, b] w).nt m1).nt m2).then m3 ((aC (.inr lR) aN))).then m4 ((aC (.inl (by simp)) (aC (.inl (by simp)) (aC (.inr lR) aN))))).nt m5).nt md1).nt m6)⟩
        all_goals first | (rw [← he, silF_yes (sil_yes hq hz (by assumption) (by assumption)) (by omega)]; done) | (rw [← he, silF_no (by omega)]; done)
      · have hp3 := hb3; try simp only [Bool.and_eq_true, Bool.or_eq_true, Bool.not_eq_true', Bool.not_eq_false', Bool.and_eq_false_iff, Bool.or_eq_false_iff, decide_eq_true_eq, decide_eq_false_iff_not, beq_iff_eq, bne_iff_ne, beq_eq_false_iff_ne, bne_eq_false_iff_eq, ne_eq, Bool.false_eq_true, not_false_eq_true, not_true_eq_false, vIn_t, vIn_f] at hp3
        refine CE.cond_f rfl hb3 ?_
        refine CE.skip' ?_
        refine NE.code ?_
        refine CE.seq ?_
        refine CE.region ?_
        refine WL.det (op_move rfl) rfl rfl rfl ?_
        refine WL.call (oc_call (vs := []) (cap := [vP p k]) rfl rfl rfl Try.call83 (c_sil2 n c b ((strAt n tk tc0 tc1 tc2 dk dc0 dc1 dc2 g xs i0 ts0 ts1 ds0 ds1 (fun _ => 0) i).xs) ((strAt n tk tc0 tc1 tc2 dk dc0 dc1 dc2 g xs i0 ts0 ts1 ds0 ds1 (fun _ => 0) i).i) tk tc0 tc1 tc2 ((strAt n tk tc0 tc1 tc2 dk dc0 dc1 dc2 g xs i0 ts0 ts1 ds0 ds1 (fun _ => 0) i).t0) ((strAt n tk tc0 tc1 tc2 dk dc0 dc1 dc2 g xs i0 ts0 ts1 ds0 ds1 (fun _ => 0) i).t1) dk dc0 dc1 dc2 ((strAt n tk tc0 tc1 tc2 dk dc0 dc1 dc2 g xs i0 ts0 ts1 ds0 ds1 (fun _ => 0) i).d0) ((strAt n tk tc0 tc1 tc2 dk dc0 dc1 dc2 g xs i0 ts0 ts1 ds0 ds1 (fun _ => 0) i).d1) g p k (splice vs k [vS b 0 n c, vI (((strAt n tk tc0 tc1 tc2 dk dc0 dc1 dc2 g xs i0 ts0 ts1 ds0 ds1 (fun _ => 0) i).i : Nat) : Int), vI tk, vF tc0, vF tc1, vF tc2, vF ((strAt n tk tc0 tc1 tc2 dk dc0 dc1 dc2 g xs i0 ts0 ts1 ds0 ds1 (fun _ => 0) i).t0), vF ((strAt n tk tc0 tc1 tc2 dk dc0 dc1 dc2 g xs i0 ts0 ts1 ds0 ds1 (fun _ => 0) i).t1), vI dk, vF dc0, vF dc1, vF dc2, vF ((strAt n tk tc0 tc1 tc2 dk dc0 dc1 dc2 g xs i0 ts0 ts1 ds0 ds1 (fun _ => 0) i).d0), vF ((strAt n tk tc0 tc1 tc2 dk dc0 dc1 dc2 g xs i0 ts0 ts1 ds0 ds1 (fun _ => 0) i).d1), vF g]) hl (by omega) (by omega) b0 b1 b2 b3 (sub_fit (i := 0) hk (lB rfl)) hx w7 (Row.congr (((r5.ext m5).ext md1).ext m6) (sub_same (i := 0) hk (lB rfl) rfl)) (((r6.ext m5).ext md1).ext m6) hne)) rfl rfl (ltb rfl) ?_
        rintro _ w8 ⟨rfl, h3, h4, h5, h6, h7, r8, r9, m7⟩
        have r10 : Row w8 p 0 (splice vs k [vS b 0 n c, vI (((((strAt n tk tc0 tc1 tc2 dk dc0 dc1 dc2 g xs i0 ts0 ts1 ds0 ds1 (fun _ => 0) i).i) + 1) % n : Nat) : Int), vI tk, vF tc0, vF tc1, vF tc2, vF (stepS tk tc0 tc1 tc2 ((strAt n tk tc0 tc1 tc2 dk dc0 dc1 dc2 g xs i0 ts0 ts1 ds0 ds1 (fun _ => 0) i).t0) ((strAt n tk tc0 tc1 tc2 dk dc0 dc1 dc2 g xs i0 ts0 ts1 ds0 ds1 (fun _ => 0) i).t1) (((strAt n tk tc0 tc1 tc2 dk dc0 dc1 dc2 g xs i0 ts0 ts1 ds0 ds1 (fun _ => 0) i).xs).getD ((strAt n tk tc0 tc1 tc2 dk dc0 dc1 dc2 g xs i0 ts0 ts1 ds0 ds1 (fun _ => 0) i).i) 0)), vF (stepT tk tc0 tc1 tc2 ((strAt n tk tc0 tc1 tc2 dk dc0 dc1 dc2 g xs i0 ts0 ts1 ds0 ds1 (fun _ => 0) i).t0) ((strAt n tk tc0 tc1 tc2 dk dc0 dc1 dc2 g xs i0 ts0 ts1 ds0 ds1 (fun _ => 0) i).t1) (((strAt n tk tc0 tc1 tc2 dk dc0 dc1 dc2 g xs i0 ts0 ts1 ds0 ds1 (fun _ => 0) i).xs).getD ((strAt n tk tc0 tc1 tc2 dk dc0 dc1 dc2 g xs i0 ts0 ts1 ds0 ds1 (fun _ => 0) i).i) 0)), vI dk, vF dc0, vF dc1, vF dc2, vF (stepS dk dc0 dc1 dc2 ((strAt n tk tc0 tc1 tc2 dk dc0 dc1 dc2 g xs i0 ts0 ts1 ds0 ds1 (fun _ => 0) i).d0) ((strAt n tk tc0 tc1 tc2 dk dc0 dc1 dc2 g xs i0 ts0 ts1 ds0 ds1 (fun _ => 0) i).d1) (stepY tk tc0 tc1 tc2 ((strAt n tk tc0 tc1 tc2 dk dc0 dc1 dc2 g xs i0 ts0 ts1 ds0 ds1 (fun _ => 0) i).t0) ((strAt n tk tc0 tc1 tc2 dk dc0 dc1 dc2 g xs i0 ts0 ts1 ds0 ds1 (fun _ => 0) i).t1) (((strAt n tk tc0 tc1 tc2 dk dc0 dc1 dc2 g xs i0 ts0 ts1 ds0 ds1 (fun _ => 0) i).xs).getD ((strAt n tk tc0 tc1 tc2 dk dc0 dc1 dc2 g xs i0 ts0 ts1 ds0 ds1 (fun _ => 0) i).i) 0))), vF (stepT dk dc0 dc1 dc2 ((strAt n tk tc0 tc1 tc2 dk dc0 dc1 dc2 g xs i0 ts0 ts1 ds0 ds1 (fun _ => 0) i).d0) ((strAt n tk tc0 tc1 tc2 dk dc0 dc1 dc2 g xs i0 ts0 ts1 ds0 ds1 (fun _ => 0) i).d1) (stepY tk tc0 tc1 tc2 ((strAt n tk tc0 tc1 tc2 dk dc0 dc1 dc2 g xs i0 ts0 ts1 ds0 ds1 (fun _ => 0) i).t0) ((strAt n tk tc0 tc1 tc2 dk dc0 dc1 dc2 g xs i0 ts0 ts1 ds0 ds1 (fun _ => 0) i).t1) (((strAt n tk tc0 tc1 tc2 dk dc0 dc1 dc2 g xs i0 ts0 ts1 ds0 ds1 (fun _ => 0) i).xs).getD ((strAt n tk tc0 tc1 tc2 dk dc0 dc1 dc2 g xs i0 ts0 ts1 ds0 ds1 (fun _ => 0) i).i) 0))), vF g]) := Row.congr r8 (sub_put (i := 0) hk (lB rfl) rfl)
        refine WL.end ?_
        refine NE.code ?_
        refine CE.seq ?_
        refine CE.region ?_
        refine WL.det (op_move rfl) rfl rfl rfl ?_
        refine WL.det (op_len rfl Try.runUnderlying116) rfl rfl rfl ?_
        refine WL.det (op_move rfl) rfl rfl rfl ?_
        refine WL.end ?_
        refine NE.code ?_
        refine CE.block ?_
        refine CE.rounds 2 ?_
        refine RN.one ?_
        refine CE.seq ?_
        refine CE.region ?_
        refine WL.det (op_lti rfl rfl) rfl rfl rfl ?_
        refine WL.end ?_
        refine NE.code ?_
        refine CE.seq ?_
        refine CE.cond_t rfl rfl ?_
        refine CE.skip' ?_
        refine NE.code ?_
        refine CE.seq ?_
        refine CE.block ?_
        refine CE.seq ?_
        refine CE.region ?_
        refine WL.det (op_move rfl) rfl rfl rfl ?_
        refine WL.det (op_indexSl (off' := 0) rfl rfl rfl Try.runUnderlying116 Try.sizeOf109 (by omega) (by omega) rfl) rfl rfl rfl ?_
        refine WL.det (op_load1 (i := 0) rfl Try.isAgg109 ((((((Rng.youngS re ((re.ext m1).ext m2) m3 (allge_cons lR allge_nil)).mod m4 (nC n1 (nC n2 (nC (lE (lL (re.lt (Nat.succ_pos _)) lR)) nN)))).ext m5).ext md1).ext m6).mod m7 (nC n1 (nC n2 nN))) rfl rfl) rfl rfl rfl ?_
        refine WL.det (op_assign rfl) rfl rfl rfl ?_
        refine WL.det (op_assign rfl) rfl rfl rfl ?_
        refine WL.end ?_
        refine NE.code ?_
        refine CE.seq ?_
        refine CE.region ?_
        refine WL.det (op_move rfl) rfl rfl rfl ?_
        refine WL.det (op_move rfl) rfl rfl rfl ?_
        refine WL.det (op_indexSl (off' := 0) rfl rfl rfl Try.runUnderlying144 Try.sizeOf2 (by omega) (by omega) rfl) rfl rfl rfl ?_
        refine WL.det (op_load1 (i := 0) rfl Try.isAgg2 ((((r7.ext m5).ext md1).ext m6).mod m7 (nC (lG (lL q.lt lR)) (nC (lG (lL r.lt lR)) nN))).rng rfl rfl) rfl rfl rfl ?_
        refine WL.det (op_add (r := ((r0 + 1 : Nat) : Int)) rfl rfl (w_i64 (by omega) (by omega))) rfl rfl rfl ?_
        refine WL.det (op_indexSl (off' := 0) rfl rfl rfl Try.runUnderlying144 Try.sizeOf2 (by omega) (by omega) rfl) rfl rfl rfl ?_
        refine WL.op0 (op_store (i := 0) (cs := [vI ((r0 + 1 : Nat) : Int)]) rfl rfl rfl Try.sizeOf2 rfl ((((r7.ext m5).ext md1).ext m6).mod m7 (nC (lG (lL q.lt lR)) (nC (lG (lL r.lt lR)) nN))) rfl (lB rfl) rfl) rfl rfl ?_
        rintro _ w9 ⟨r11, m8, z3⟩
        have r12 : Row w9 w.heap.size 0 [vI ((r0 + 1 : Nat) : Int)] := Row.congr r11 rfl
        refine WL.end ?_
        refine NE.code ?_
        refine CE.seq ?_
        refine CE.region ?_
        refine WL.det (op_move rfl) rfl rfl rfl ?_
        refine WL.det (op_nilCheck rfl) rfl rfl rfl ?_
        refine WL.det (op_loadA (i := k) (cs := [vS b 0 n c, vI (((((strAt n tk tc0 tc1 tc2 dk dc0 dc1 dc2 g xs i0 ts0 ts1 ds0 ds1 (fun _ => 0) i).i) + 1) % n : Nat) : Int)]) rfl Try.isAgg26 Try.sizeOf26 (r10.mod m8 (nC (lE (lL q.lt lR)) nN)).rng (Nat.zero_add _) (sub_take (i := 0) hk (lB rfl) rfl) rfl) rfl rfl rfl ?_
        refine WL.call (oc_call (vs := [.agg #[vS b 0 n c, vI (((((strAt n tk tc0 tc1 tc2 dk dc0 dc1 dc2 g xs i0 ts0 ts1 ds0 ds1 (fun _ => 0) i).i) + 1) % n : Nat) : Int)], vI 1]) (cap := []) rfl rfl rfl Try.call102 (c_back n c b (((strAt n tk tc0 tc1 tc2 dk dc0 dc1 dc2 g xs i0 ts0 ts1 ds0 ds1 (fun _ => 0) i).xs).set ((strAt n tk tc0 tc1 tc2 dk dc0 dc1 dc2 g xs i0 ts0 ts1 ds0 ds1 (fun _ => 0) i).i) (keptF (fop .add .f32 (fop .mul .f32 (stepY dk dc0 dc1 dc2 ((strAt n tk tc0 tc1 tc2 dk dc0 dc1 dc2 g xs i0 ts0 ts1 ds0 ds1 (fun _ => 0) i).d0) ((strAt n tk tc0 tc1 tc2 dk dc0 dc1 dc2 g xs i0 ts0 ts1 ds0 ds1 (fun _ => 0) i).d1) (stepY tk tc0 tc1 tc2 ((strAt n tk tc0 tc1 tc2 dk dc0 dc1 dc2 g xs i0 ts0 ts1 ds0 ds1 (fun _ => 0) i).t0) ((strAt n tk tc0 tc1 tc2 dk dc0 dc1 dc2 g xs i0 ts0 ts1 ds0 ds1 (fun _ => 0) i).t1) (((strAt n tk tc0 tc1 tc2 dk dc0 dc1 dc2 g xs i0 ts0 ts1 ds0 ds1 (fun _ => 0) i).xs).getD ((strAt n tk tc0 tc1 tc2 dk dc0 dc1 dc2 g xs i0 ts0 ts1 ds0 ds1 (fun _ => 0) i).i) 0))) g) 0))) ((((strAt n tk tc0 tc1 tc2 dk dc0 dc1 dc2 g xs i0 ts0 ts1 ds0 ds1 (fun _ => 0) i).i) + 1) % n) 1 ((List.length_set).trans hl) (by first | omega | exact Nat.mod_lt _ (by omega)) (by omega) (by omega) w9 (r9.mod m8 (nC (lE (lL r.lt lR)) nN)).rng)) rfl rfl (ltb rfl) ?_
        rintro _ w10 ⟨rfl, m9⟩
        refine WL.det (op_fne (c := !(fEq .f32 ((((strAt n tk tc0 tc1 tc2 dk dc0 dc1 dc2 g xs i0 ts0 ts1 ds0 ds1 (fun _ => 0) i).xs).set ((strAt n tk tc0 tc1 tc2 dk dc0 dc1 dc2 g xs i0 ts0 ts1 ds0 ds1 (fun _ => 0) i).i) (keptF (fop .add .f32 (fop .mul .f32 (stepY dk dc0 dc1 dc2 ((strAt n tk tc0 tc1 tc2 dk dc0 dc1 dc2 g xs i0 ts0 ts1 ds0 ds1 (fun _ => 0) i).d0) ((strAt n tk tc0 tc1 tc2 dk dc0 dc1 dc2 g xs i0 ts0 ts1 ds0 ds1 (fun _ => 0) i).d1) (stepY tk tc0 tc1 tc2 ((strAt n tk tc0 tc1 tc2 dk dc0 dc1 dc2 g xs i0 ts0 ts1 ds0 ds1 (fun _ => 0) i).t0) ((strAt n tk tc0 tc1 tc2 dk dc0 dc1 dc2 g xs i0 ts0 ts1 ds0 ds1 (fun _ => 0) i).t1) (((strAt n tk tc0 tc1 tc2 dk dc0 dc1 dc2 g xs i0 ts0 ts1 ds0 ds1 (fun _ => 0) i).xs).getD ((strAt n tk tc0 tc1 tc2 dk dc0 dc1 dc2 g xs i0 ts0 ts1 ds0 ds1 (fun _ => 0) i).i) 0))) g) 0))).getD ((((((strAt n tk tc0 tc1 tc2 dk dc0 dc1 dc2 g xs i0 ts0 ts1 ds0 ds1 (fun _ => 0) i).i) + 1) % n) + n - 1) % n) 0) 0)) rfl rfl rfl rfl rfl) rfl rfl rfl ?_
        refine WL.end ?_
        refine NE.code ?_
        rcases Bool.eq_false_or_eq_true (fEq .f32 ((((strAt n tk tc0 tc1 tc2 dk dc0 dc1 dc2 g xs i0 ts0 ts1 ds0 ds1 (fun _ => 0) i).xs).set ((strAt n tk tc0 tc1 tc2 dk dc0 dc1 dc2 g xs i0 ts0 ts1 ds0 ds1 (fun _ => 0) i).i) (keptF (fop .add .f32 (fop .mul .f32 (stepY dk dc0 dc1 dc2 ((strAt n tk tc0 tc1 tc2 dk dc0 dc1 dc2 g xs i0 ts0 ts1 ds0 ds1 (fun _ => 0) i).d0) ((strAt n tk tc0 tc1 tc2 dk dc0 dc1 dc2 g xs i0 ts0 ts1 ds0 ds1 (fun _ => 0) i).d1) (stepY tk tc0 tc1 tc2 ((strAt n tk tc0 tc1 tc2 dk dc0 dc1 dc2 g xs i0 ts0 ts1 ds0 ds1 (fun _ => 0) i).t0) ((strAt n tk tc0 tc1 tc2 dk dc0 dc1 dc2 g xs i0 ts0 ts1 ds0 ds1 (fun _ => 0) i).t1) (((strAt n tk tc0 tc1 tc2 dk dc0 dc1 dc2 g xs i0 ts0 ts1 ds0 ds1 (fun _ => 0) i).xs).getD ((strAt n tk tc0 tc1 tc2 dk dc0 dc1 dc2 g xs i0 ts0 ts1 ds0 ds1 (fun _ => 0) i).i) 0))) g) 0))).getD ((((((strAt n tk tc0 tc1 tc2 dk dc0 dc1 dc2 g xs i0 ts0 ts1 ds0 ds1 (fun _ => 0) i).i) + 1) % n) + n - 1) % n) 0) 0) with hb4 | hb4
        · refine CE.cond_f rfl (bnot_t hb4) ?_
          refine CE.skip' ?_
          refine NE.blk ?_
          refine NE.code ?_
          refine CE.region ?_
          refine WL.det (op_add (r := 1) rfl rfl (by decide)) rfl rfl rfl ?_
          refine WL.det (op_move rfl) rfl rfl rfl ?_
          refine WL.end ?_
          refine NE.round ?_
          refine RN.one ?_
          refine CE.seq ?_
          refine CE.region ?_
          refine WL.det (op_lti rfl rfl) rfl rfl rfl ?_
          refine WL.end ?_
          refine NE.code ?_
          refine CE.seq ?_
          refine CE.cond_f rfl rfl ?_
          refine CE.exit' ?_
          refine XE.exit_then ?_
          refine XE.exit_then ?_
          refine XE.exit_here ?_
          refine NE.blk ?_
          refine NE.code ?_
          refine CE.region ?_
          refine WL.det (op_move rfl) rfl rfl rfl ?_
          refine WL.det (op_add (r := ((i + 1 : Nat) : Int)) rfl rfl (w_i64 (by omega) (by omega))) rfl rfl rfl ?_
          refine WL.det (op_assign rfl) rfl rfl rfl ?_
          refine WL.end ?_
          exact NE.again ((i + 1), (r0 + 1)) (⟨rfl, rfl, rfl, rfl, rfl, rfl, rfl, rfl, trivial⟩) ⟨(by omega), (by rw [strAt_succ]; exact Nat.mod_lt _ (by omega)), (by rw [strAt_succ]; exact (List.length_set).trans hl), (by rw [strAt_succ]; exact W32.set hx (by assumption)), (by rw [strAt_succ]; assumption), (by rw [strAt_succ]; assumption), (by rw [strAt_succ]; assumption), (by rw [strAt_succ]; assumption), (by omega), (by rw [strAt_succ]; first | exact QI.up hq hz hl (by assumption) | exact QI.down (by assumption)), (by exact silF_next he (by first | exact sil_no1 hq hz (by assumption) | exact sil_no2 hq hz (by assumption)) (by omega) (by omega)), (Row.congr ((r10.mod m8 (nC (lE (lL q.lt lR)) nN)).ext m9) (by rw [strAt_succ]; rfl)), (Row.congr ((r9.mod m8 (nC (lE (lL r.lt lR)) nN)).ext m9) (by rw [strAt_succ]; rfl)), (Row.congr (r12.ext m9) rfl), ((((((m4.nt m5).nt md1).nt m6).then m7 ((aC (.inl (by simp)) (aC (.inl (by simp)) aN)))).then m8 ((aC (.inl (by simp)) aN))).nt m9)⟩ (by first | (dsimp only; omega) | omega)
        · refine CE.cond_t rfl (bnot_f hb4) ?_
          refine CE.region ?_
          refine WL.det (op_move rfl) rfl rfl rfl ?_
          refine WL.det (op_move rfl) rfl rfl rfl ?_
          refine WL.det (op_indexSl (off' := 0) rfl rfl rfl Try.runUnderlying144 Try.sizeOf2 (by omega) (by omega) rfl) rfl rfl rfl ?_
          refine WL.op0 (op_store (i := 0) (cs := [vI 0]) rfl rfl rfl Try.sizeOf2 rfl (r12.ext m9) rfl (lB rfl) rfl) rfl rfl ?_
          rintro _ w11 ⟨r13, m10, z4⟩
          have r14 : Row w11 w.heap.size 0 [vI 0] := Row.congr r13 rfl
          refine WL.end ?_
          refine NE.blk ?_
          refine NE.code ?_
          refine CE.region ?_
          refine WL.det (op_add (r := 1) rfl rfl (by decide)) rfl rfl rfl ?_
          refine WL.det (op_move rfl) rfl rfl rfl ?_
          refine WL.end ?_
          refine NE.round ?_
          refine RN.one ?_
          refine CE.seq ?_
          refine CE.region ?_
          refine WL.det (op_lti rfl rfl) rfl rfl rfl ?_
          refine WL.end ?_
          refine NE.code ?_
          refine CE.seq ?_
          refine CE.cond_f rfl rfl ?_
          refine CE.exit' ?_
          refine XE.exit_then ?_
          refine XE.exit_then ?_
          refine XE.exit_here ?_
          refine NE.blk ?_
          refine NE.code ?_
          refine CE.region ?_
          refine WL.det (op_move rfl) rfl rfl rfl ?_
          refine WL.det (op_add (r := ((i + 1 : Nat) : Int)) rfl rfl (w_i64 (by omega) (by omega))) rfl rfl rfl ?_
          refine WL.det (op_assign rfl) rfl rfl rfl ?_
          refine WL.end ?_
          exact NE.again ((i + 1), 0) (⟨rfl, rfl, rfl, rfl, rfl, rfl, rfl, rfl, trivial⟩) ⟨(by omega), (by rw [strAt_succ]; exact Nat.mod_lt _ (by omega)), (by rw [strAt_succ]; exact (List.length_set).trans hl), (by rw [strAt_succ]; exact W32.set hx (by assumption)), (by rw [strAt_succ]; assumption), (by rw [strAt_succ]; assumption), (by rw [strAt_succ]; assumption), (by rw [strAt_succ]; assumption), (by omega), (by rw [strAt_succ]; first | exact QI.up hq hz hl (by assumption) | exact QI.down (by assumption)), (by exact silF_next he (by first | exact sil_no1 hq hz (by assumption) | exact sil_no2 hq hz (by assumption)) (by omega) (by omega)), (Row.congr (((r10.mod m8 (nC (lE (lL q.lt lR)) nN)).ext m9).mod m10 (nC (lE (lL q.lt lR)) nN)) (by rw [strAt_succ]; rfl)), (Row.congr (((r9.mod m8 (nC (lE (lL r.lt lR)) nN)).ext m9).mod m10 (nC (lE (lL r.lt lR)) nN)) (by rw [strAt_succ]; rfl)), (Row.congr r14 rfl), (((((((m4.nt m5).nt md1).nt m6).then m7 ((aC (.inl (by simp)) (aC (.inl (by simp)) aN)))).then m8 ((aC (.inl (by simp)) aN))).nt m9).then m10 ((aC (.inl (by simp)) aN)))⟩ (by first | (dsimp only; omega) | omega)
    · refine CE.draw (fun _ => none) [0, 1, 2, 3, 4, 5, 6, 7, 8, 9, 10] [11, 12, 13] [] (by kernel_rfl) (by kernel_rfl) ?_
      have md2 : Mod [] w5 w5.drew := (Mod.refl _ _).drew
      generalize w5.drew = w12 at md2 ⊢
      refine DR.det (i := 0) rfl rfl (by kernel_rfl) (.free rfl) rfl rfl (fun wD mD => op_move rfl) ?_
      refine DR.det (i := 1) rfl rfl (by kernel_rfl) (.free rfl) rfl rfl (fun wD mD => op_move rfl) ?_
      refine DR.skip (i := 2) rfl (by kernel_rfl) (.no rfl rfl rfl (ltb rfl) rfl hb2) rfl (ltb rfl) ?_
      refine DR.skip (i := 3) rfl (by kernel_rfl) (.no rfl rfl rfl (ltb rfl) rfl hb2) rfl (ltb rfl) ?_
      refine DR.skip (i := 4) rfl (by kernel_rfl) (.no rfl rfl rfl (ltb rfl) rfl hb2) rfl (ltb rfl) ?_
      refine DR.skip (i := 5) rfl (by kernel_rfl) (.no rfl rfl rfl (ltb rfl) rfl hb2) rfl (ltb rfl) ?_
      refine DR.skip (i := 6) rfl (by kernel_rfl) (.no rfl rfl rfl (ltb rfl) rfl hb2) rfl (ltb rfl) ?_
      refine DR.skip (i := 7) rfl (by kernel_rfl) (.no rfl rfl rfl (ltb rfl) rfl hb2) rfl (ltb rfl) ?_
      refine DR.skip (i := 8) rfl (by kernel_rfl) (.no rfl rfl rfl (ltb rfl) rfl hb2) rfl (ltb rfl) ?_
      refine DR.skip (i := 9) rfl (by kernel_rfl) (.no rfl rfl rfl (ltb rfl) rfl hb2) rfl (ltb rfl) ?_
      refine DR.skip (i := 10) rfl (by kernel_rfl) (.no rfl rfl rfl (ltb rfl) rfl hb2) rfl (ltb rfl) ?_
      refine DR.done rfl ?_
      intro w13 m11
      refine WO.skip rfl (.no rfl rfl rfl (ltb rfl) rfl hb2) rfl (ltb rfl) ?_
      refine WO.det (op_pick_f rfl hb2 rfl) rfl (.free rfl) rfl rfl ?_
      refine WO.det (op_assign rfl) rfl (.free rfl) rfl rfl ?_
      refine WO.end ?_
      refine NE.blk ?_
      refine NE.code ?_
      refine CE.region ?_
      refine WL.det (op_add (r := 1) rfl rfl (by decide)) rfl rfl rfl ?_
      refine WL.det (op_move rfl) rfl rfl rfl ?_
      refine WL.end ?_
      refine NE.round ?_
      refine RN.one ?_
      refine CE.seq ?_
      refine CE.region ?_
      refine WL.det (op_lti rfl rfl) rfl rfl rfl ?_
      refine WL.end ?_
      refine NE.code ?_
      refine CE.seq ?_
      refine CE.cond_f rfl rfl ?_
      refine CE.exit' ?_
      refine XE.exit_then ?_
      refine XE.exit_then ?_
      refine XE.exit_here ?_
      refine NE.code ?_
      refine CE.seq ?_
      refine CE.seq ?_
      refine CE.region ?_
      refine WL.det (op_move rfl) rfl rfl rfl ?_
      refine WL.end ?_
      refine NE.code ?_
      refine CE.cond_f rfl rfl ?_
      refine CE.skip' ?_
      refine NE.code ?_
      refine CE.seq ?_
      refine CE.region ?_
      refine WL.det (op_move rfl) rfl rfl rfl ?_
      refine WL.call (oc_call (vs := []) (cap := [vP p k]) rfl rfl rfl Try.call83 (c_sil2 n c b ((strAt n tk tc0 tc1 tc2 dk dc0 dc1 dc2 g xs i0 ts0 ts1 ds0 ds1 (fun _ => 0) i).xs) ((strAt n tk tc0 tc1 tc2 dk dc0 dc1 dc2 g xs i0 ts0 ts1 ds0 ds1 (fun _ => 0) i).i) tk tc0 tc1 tc2 ((strAt n tk tc0 tc1 tc2 dk dc0 dc1 dc2 g xs i0 ts0 ts1 ds0 ds1 (fun _ => 0) i).t0) ((strAt n tk tc0 tc1 tc2 dk dc0 dc1 dc2 g xs i0 ts0 ts1 ds0 ds1 (fun _ => 0) i).t1) dk dc0 dc1 dc2 ((strAt n tk tc0 tc1 tc2 dk dc0 dc1 dc2 g xs i0 ts0 ts1 ds0 ds1 (fun _ => 0) i).d0) ((strAt n tk tc0 tc1 tc2 dk dc0 dc1 dc2 g xs i0 ts0 ts1 ds0 ds1 (fun _ => 0) i).d1) g p k (splice vs k [vS b 0 n c, vI (((strAt n tk tc0 tc1 tc2 dk dc0 dc1 dc2 g xs i0 ts0 ts1 ds0 ds1 (fun _ => 0) i).i : Nat) : Int), vI tk, vF tc0, vF tc1, vF tc2, vF ((strAt n tk tc0 tc1 tc2 dk dc0 dc1 dc2 g xs i0 ts0 ts1 ds0 ds1 (fun _ => 0) i).t0), vF ((strAt n tk tc0 tc1 tc2 dk dc0 dc1 dc2 g xs i0 ts0 ts1 ds0 ds1 (fun _ => 0) i).t1), vI dk, vF dc0, vF dc1, vF dc2, vF ((strAt n tk tc0 tc1 tc2 dk dc0 dc1 dc2 g xs i0 ts0 ts1 ds0 ds1 (fun _ => 0) i).d0), vF ((strAt n tk tc0 tc1 tc2 dk dc0 dc1 dc2 g xs i0 ts0 ts1 ds0 ds1 (fun _ => 0) i).d1), vF g]) hl (by omega) (by omega) b0 b1 b2 b3 (sub_fit (i := 0) hk (lB rfl)) hx w13 (Row.congr (((r5.ext m5).ext md2).ext m11) (sub_same (i := 0) hk (lB rfl) rfl)) (((r6.ext m5).ext md2).ext m11) hne)) rfl rfl (ltb rfl) ?_
      rintro _ w14 ⟨rfl, h8, h9, h10, h11, h12, r15, r16, m12⟩
      have r17 : Row w14 p 0 (splice vs k [vS b 0 n c, vI (((((strAt n tk tc0 tc1 tc2 dk dc0 dc1 dc2 g xs i0 ts0 ts1 ds0 ds1 (fun _ => 0) i).i) + 1) % n : Nat) : Int), vI tk, vF tc0, vF tc1, vF tc2, vF (stepS tk tc0 tc1 tc2 ((strAt n tk tc0 tc1 tc2 dk dc0 dc1 dc2 g xs i0 ts0 ts1 ds0 ds1 (fun _ => 0) i).t0) ((strAt n tk tc0 tc1 tc2 dk dc0 dc1 dc2 g xs i0 ts0 ts1 ds0 ds1 (fun _ => 0) i).t1) (((strAt n tk tc0 tc1 tc2 dk dc0 dc1 dc2 g xs i0 ts0 ts1 ds0 ds1 (fun _ => 0) i).xs).getD ((strAt n tk tc0 tc1 tc2 dk dc0 dc1 dc2 g xs i0 ts0 ts1 ds0 ds1 (fun _ => 0) i).i) 0)), vF (stepT tk tc0 tc1 tc2 ((strAt n tk tc0 tc1 tc2 dk dc0 dc1 dc2 g xs i0 ts0 ts1 ds0 ds1 (fun _ => 0) i).t0) ((strAt n tk tc0 tc1 tc2 dk dc0 dc1 dc2 g xs i0 ts0 ts1 ds0 ds1 (fun _ => 0) i).t1) (((strAt n tk tc0 tc1 tc2 dk dc0 dc1 dc2 g xs i0 ts0 ts1 ds0 ds1 (fun _ => 0) i).xs).getD ((strAt n tk tc0 tc1 tc2 dk dc0 dc1 dc2 g xs i0 ts0 ts1 ds0 ds1 (fun _ => 0) i).i) 0)), vI dk, vF dc0, vF dc1, vF dc2, vF (stepS dk dc0 dc1 dc2 ((strAt n tk tc0 tc1 tc2 dk dc0 dc1 dc2 g xs i0 ts0 ts1 ds0 ds1 (fun _ => 0) i).d0) ((strAt n tk tc0 tc1 tc2 dk dc0 dc1 dc2 g xs i0 ts0 ts1 ds0 ds1 (fun _ => 0) i).d1) (stepY tk tc0 tc1 tc2 ((strAt n tk tc0 tc1 tc2 dk dc0 dc1 dc2 g xs i0 ts0 ts1 ds0 ds1 (fun _ => 0) i).t0) ((strAt n tk tc0 tc1 tc2 dk dc0 dc1 dc2 g xs i0 ts0 ts1 ds0 ds1 (fun _ => 0) i).t1) (((strAt n tk tc0 tc1 tc2 dk dc0 dc1 dc2 g xs i0 ts0 ts1 ds0 ds1 (fun _ => 0) i).xs).getD ((strAt n tk tc0 tc1 tc2 dk dc0 dc1 dc2 g xs i0 ts0 ts1 ds0 ds1 (fun _ => 0) i).i) 0))), vF (stepT dk dc0 dc1 dc2 ((strAt n tk tc0 tc1 tc2 dk dc0 dc1 dc2 g xs i0 ts0 ts1 ds0 ds1 (fun _ => 0) i).d0) ((strAt n tk tc0 tc1 tc2 dk dc0 dc1 dc2 g xs i0 ts0 ts1 ds0 ds1 (fun _ => 0) i).d1) (stepY tk tc0 tc1 tc2 ((strAt n tk tc0 tc1 tc2 dk dc0 dc1 dc2 g xs i0 ts0 ts1 ds0 ds1 (fun _ => 0) i).t0) ((strAt n tk tc0 tc1 tc2 dk dc0 dc1 dc2 g xs i0 ts0 ts1 ds0 ds1 (fun _ => 0) i).t1) (((strAt n tk tc0 tc1 tc2 dk dc0 dc1 dc2 g xs i0 ts0 ts1 ds0 ds1 (fun _ => 0) i).xs).getD ((strAt n tk tc0 tc1 tc2 dk dc0 dc1 dc2 g xs i0 ts0 ts1 ds0 ds1 (fun _ => 0) i).i) 0))), vF g]) := Row.congr r15 (sub_put (i := 0) hk (lB rfl) rfl)
      refine WL.end ?_
      refine NE.code ?_
      refine CE.seq ?_
      refine CE.region ?_
      refine WL.det (op_move rfl) rfl rfl rfl ?_
      refine WL.det (op_len rfl Try.runUnderlying116) rfl rfl rfl ?_
      refine WL.det (op_move rfl) rfl rfl rfl ?_
      refine WL.end ?_
      refine NE.code ?_
      refine CE.block ?_
      refine CE.rounds 2 ?_
      refine RN.one ?_
      refine CE.seq ?_
      refine CE.region ?_
      refine WL.det (op_lti rfl rfl) rfl rfl rfl ?_
      refine WL.end ?_
      refine NE.code ?_
      refine CE.seq ?_
      refine CE.cond_t rfl rfl ?_
      refine CE.skip' ?_
      refine NE.code ?_
      refine CE.seq ?_
      refine CE.block ?_
      refine CE.seq ?_
      refine CE.region ?_
      refine WL.det (op_move rfl) rfl rfl rfl ?_
      refine WL.det (op_indexSl (off' := 0) rfl rfl rfl Try.runUnderlying116 Try.sizeOf109 (by omega) (by omega) rfl) rfl rfl rfl ?_
      refine WL.det (op_load1 (i := 0) rfl Try.isAgg109 ((((((Rng.youngS re ((re.ext m1).ext m2) m3 (allge_cons lR allge_nil)).mod m4 (nC n1 (nC n2 (nC (lE (lL (re.lt (Nat.succ_pos _)) lR)) nN)))).ext m5).ext md2).ext m11).mod m12 (nC n1 (nC n2 nN))) rfl rfl) rfl rfl rfl ?_
      refine WL.det (op_assign rfl) rfl rfl rfl ?_
      refine WL.det (op_assign rfl) rfl rfl rfl ?_
      refine WL.end ?_
      refine NE.code ?_
      refine CE.seq ?_
      refine CE.region ?_
      refine WL.det (op_move rfl) rfl rfl rfl ?_
      refine WL.det (op_move rfl) rfl rfl rfl ?_
      refine WL.det (op_indexSl (off' := 0) rfl rfl rfl Try.runUnderlying144 Try.sizeOf2 (by omega) (by omega) rfl) rfl rfl rfl ?_
      refine WL.det (op_load1 (i := 0) rfl Try.isAgg2 ((((r7.ext m5).ext md2).ext m11).mod m12 (nC (lG (lL q.lt lR)) (nC (lG (lL r.lt lR)) nN))).rng rfl rfl) rfl rfl rfl ?_
      refine WL.det (op_add (r := ((r0 + 1 : Nat) : Int)) rfl rfl (w_i64 (by omega) (by omega))) rfl rfl rfl ?_
      refine WL.det (op_indexSl (off' := 0) rfl rfl rfl Try.runUnderlying144 Try.sizeOf2 (by omega) (by omega) rfl) rfl rfl rfl ?_
      refine WL.op0 (op_store (i := 0) (cs := [vI ((r0 + 1 : Nat) : Int)]) rfl rfl rfl Try.sizeOf2 rfl ((((r7.ext m5).ext md2).ext m11).mod m12 (nC (lG (lL q.lt lR)) (nC (lG (lL r.lt lR)) nN))) rfl (lB rfl) rfl) rfl rfl ?_
      rintro _ w15 ⟨r18, m13, z5⟩
      have r19 : Row w15 w.heap.size 0 [vI ((r0 + 1 : Nat) : Int)] := Row.congr r18 rfl
      refine WL.end ?_
      refine NE.code ?_
      refine CE.seq ?_
      refine CE.region ?_
      refine WL.det (op_move rfl) rfl rfl rfl ?_
      refine WL.det (op_nilCheck rfl) rfl rfl rfl ?_
      refine WL.det (op_loadA (i := k) (cs := [vS b 0 n c, vI (((((strAt n tk tc0 tc1 tc2 dk dc0 dc1 dc2 g xs i0 ts0 ts1 ds0 ds1 (fun _ => 0) i).i) + 1) % n : Nat) : Int)]) rfl Try.isAgg26 Try.sizeOf26 (r17.mod m13 (nC (lE (lL q.lt lR)) nN)).rng (Nat.zero_add _) (sub_take (i := 0) hk (lB rfl) rfl) rfl) rfl rfl rfl ?_
      refine WL.call (oc_call (vs := [.agg #[vS b 0 n c, vI (((((strAt n tk tc0 tc1 tc2 dk dc0 dc1 dc2 g xs i0 ts0 ts1 ds0 ds1 (fun _ => 0) i).i) + 1) % n : Nat) : Int)], vI 1]) (cap := []) rfl rfl rfl Try.call102 (c_back n c b (((strAt n tk tc0 tc1 tc2 dk dc0 dc1 dc2 g xs i0 ts0 ts1 ds0 ds1 (fun _ => 0) i).xs).set ((strAt n tk tc0 tc1 tc2 dk dc0 dc1 dc2 g xs i0 ts0 ts1 ds0 ds1 (fun _ => 0) i).i) (keptF (fop .add .f32 (fop .mul .f32 (stepY dk dc0 dc1 dc2 ((strAt n tk tc0 tc1 tc2 dk dc0 dc1 dc2 g xs i0 ts0 ts1 ds0 ds1 (fun _ => 0) i).d0) ((strAt n tk tc0 tc1 tc2 dk dc0 dc1 dc2 g xs i0 ts0 ts1 ds0 ds1 (fun _ => 0) i).d1) (stepY tk tc0 tc1 tc2 ((strAt n tk tc0 tc1 tc2 dk dc0 dc1 dc2 g xs i0 ts0 ts1 ds0 ds1 (fun _ => 0) i).t0) ((strAt n tk tc0 tc1 tc2 dk dc0 dc1 dc2 g xs i0 ts0 ts1 ds0 ds1 (fun _ => 0) i).t1) (((strAt n tk tc0 tc1 tc2 dk dc0 dc1 dc2 g xs i0 ts0 ts1 ds0 ds1 (fun _ => 0) i).xs).getD ((strAt n tk tc0 tc1 tc2 dk dc0 dc1 dc2 g xs i0 ts0 ts1 ds0 ds1 (fun _ => 0) i).i) 0))) g) 0))) ((((strAt n tk tc0 tc1 tc2 dk dc0 dc1 dc2 g xs i0 ts0 ts1 ds0 ds1 (fun _ => 0) i).i) + 1) % n) 1 ((List.length_set).trans hl) (by first | omega | exact Nat.mod_lt _ (by omega)) (by omega) (by omega) w15 (r16.mod m13 (nC (lE (lL r.lt lR)) nN)).rng)) rfl rfl (ltb rfl) ?_
      rintro _ w16 ⟨rfl, m14⟩
      refine WL.det (op_fne (c := !(fEq .f32 ((((strAt n tk tc0 tc1 tc2 dk dc0 dc1 dc2 g xs i0 ts0 ts1 ds0 ds1 (fun _ => 0) i).xs).set ((strAt n tk tc0 tc1 tc2 dk dc0 dc1 dc2 g xs i0 ts0 ts1 ds0 ds1 (fun _ => 0) i).i) (keptF (fop .add .f32 (fop .mul .f32 (stepY dk dc0 dc1 dc2 ((strAt n tk tc0 tc1 tc2 dk dc0 dc1 dc2 g xs i0 ts0 ts1 ds0 ds1 (fun _ => 0) i).d0) ((strAt n tk tc0 tc1 tc2 dk dc0 dc1 dc2 g xs i0 ts0 ts1 ds0 ds1 (fun _ => 0) i).d1) (stepY tk tc0 tc1 tc2 ((strAt n tk tc0 tc1 tc2 dk dc0 dc1 dc2 g xs i0 ts0 ts1 ds0 ds1 (fun _ => 0) i).t0) ((strAt n tk tc0 tc1 tc2 dk dc0 dc1 dc2 g xs i0 ts0 ts1 ds0 ds1 (fun _ => 0) i).t1) (((strAt n tk tc0 tc1 tc2 dk dc0 dc1 dc2 g xs i0 ts0 ts1 ds0 ds1 (fun _ => 0) i).xs).getD ((strAt n tk tc0 tc1 tc2 dk dc0 dc1 dc2 g xs i0 ts0 ts1 ds0 ds1 (fun _ => 0) i).i) 0))) g) 0))).getD ((((((strAt n tk tc0 tc1 tc2 dk dc0 dc1 dc2 g xs i0 ts0 ts1 ds0 ds1 (fun _ => 0) i).i) + 1) % n) + n - 1) % n) 0) 0)) rfl rfl rfl rfl rfl) rfl rfl rfl ?_
      refine WL.end ?_
      refine NE.code ?_
      rcases Bool.eq_false_or_eq_true (fEq .f32 ((((strAt n tk tc0 tc1 tc2 dk dc0 dc1 dc2 g xs i0 ts0 ts1 ds0 ds1 (fun _ => 0) i).xs).set ((strAt n tk tc0 tc1 tc2 dk dc0 dc1 dc2 g xs i0 ts0 ts1 ds0 ds1 (fun _ => 0) i).i) (keptF (fop .add .f32 (fop .mul .f32 (stepY dk dc0 dc1 dc2 ((strAt n tk tc0 tc1 tc2 dk dc0 dc1 dc2 g xs i0 ts0 ts1 ds0 ds1 (fun _ => 0) i).d0) ((strAt n tk tc0 tc1 tc2 dk dc0 dc1 dc2 g xs i0 ts0 ts1 ds0 ds1 (fun _ => 0) i).d1) (stepY tk tc0 tc1 tc2 ((strAt n tk tc0 tc1 tc2 dk dc0 dc1 dc2 g xs i0 ts0 ts1 ds0 ds1 (fun _ => 0) i).t0) ((strAt n tk tc0 tc1 tc2 dk dc0 dc1 dc2 g xs i0 ts0 ts1 ds0 ds1 (fun _ => 0) i).t1) (((strAt n tk tc0 tc1 tc2 dk dc0 dc1 dc2 g xs i0 ts0 ts1 ds0 ds1 (fun _ => 0) i).xs).getD ((strAt n tk tc0 tc1 tc2 dk dc0 dc1 dc2 g xs i0 ts0 ts1 ds0 ds1 (fun _ => 0) i).i) 0))) g) 0))).getD ((((((strAt n tk tc0 tc1 tc2 dk dc0 dc1 dc2 g xs i0 ts0 ts1 ds0 ds1 (fun _ => 0) i).i) + 1) % n) + n - 1) % n) 0) 0) with hb5 | hb5
      · refine CE.cond_f rfl (bnot_t hb5) ?_
        refine CE.skip' ?_
        refine NE.blk ?_
        refine NE.code ?_
        refine CE.region ?_
        refine WL.det (op_add (r := 1) rfl rfl (by decide)) rfl rfl rfl ?_
        refine WL.det (op_move rfl) rfl rfl rfl ?_
        refine WL.end ?_
        refine NE.round ?_
        refine RN.one ?_
        refine CE.seq ?_
        refine CE.region ?_
        refine WL.det (op_lti rfl rfl) rfl rfl rfl ?_
        refine WL.end ?_
        refine NE.code ?_
        refine CE.seq ?_
        refine CE.cond_f rfl rfl ?_
        refine CE.exit' ?_
        refine XE.exit_then ?_
        refine XE.exit_then ?_
        refine XE.exit_here ?_
        refine NE.blk ?_
        refine NE.code ?_
        refine CE.region ?_
        refine WL.det (op_move rfl) rfl rfl rfl ?_
        refine WL.det (op_add (r := ((i + 1 : Nat) : Int)) rfl rfl (w_i64 (by omega) (by omega))) rfl rfl rfl ?_
        refine WL.det (op_assign rfl) rfl rfl rfl ?_
        refine WL.end ?_
        exact NE.again ((i + 1), (r0 + 1)) (⟨rfl, rfl, rfl, rfl, rfl, rfl, rfl, rfl, trivial⟩) ⟨(by omega), (by rw [strAt_succ]; exact Nat.mod_lt _ (by omega)), (by rw [strAt_succ]; exact (List.length_set).trans hl), (by rw [strAt_succ]; exact W32.set hx (by assumption)), (by rw [strAt_succ]; assumption), (by rw [strAt_succ]; assumption), (by rw [strAt_succ]; assumption), (by rw [strAt_succ]; assumption), (by omega), (by rw [strAt_succ]; first | exact QI.up hq hz hl (by assumption) | exact QI.down (by assumption)), (by exact silF_next he (by first | exact sil_no1 hq hz (by assumption) | exact sil_no2 hq hz (by assumption)) (by omega) (by omega)), (Row.congr ((r17.mod m13 (nC (lE (lL q.lt lR)) nN)).ext m14) (by rw [strAt_succ]; rfl)), (Row.congr ((r16.mod m13 (nC (lE (lL r.lt lR)) nN)).ext m14) (by rw [strAt_succ]; rfl)), (Row.congr (r19.ext m14) rfl), ((((((m4.nt m5).nt md2).nt m11).then m12 ((aC (.inl (by simp)) (aC (.inl (by simp)) aN)))).then m13 ((aC (.inl (by simp)) aN))).nt m14)⟩ (by first | (dsimp only; omega) | omega)
      · refine CE.cond_t rfl (bnot_f hb5) ?_
        refine CE.region ?_
        refine WL.det (op_move rfl) rfl rfl rfl ?_
        refine WL.det (op_move rfl) rfl rfl rfl ?_
        refine WL.det (op_indexSl (off' := 0) rfl rfl rfl Try.runUnderlying144 Try.sizeOf2 (by omega) (by omega) rfl) rfl rfl rfl ?_
        refine WL.op0 (op_store (i := 0) (cs := [vI 0]) rfl rfl rfl Try.sizeOf2 rfl (r19.ext m14) rfl (lB rfl) rfl) rfl rfl ?_
        rintro _ w17 ⟨r20, m15, z6⟩
        have r21 : Row w17 w.heap.size 0 [vI 0] := Row.congr r20 rfl
        refine WL.end ?_
        refine NE.blk ?_
        refine NE.code ?_
        refine CE.region ?_
        refine WL.det (op_add (r := 1) rfl rfl (by decide)) rfl rfl rfl ?_
        refine WL.det (op_move rfl) rfl rfl rfl ?_
        refine WL.end ?_
        refine NE.round ?_
        refine RN.one ?_
        refine CE.seq ?_
        refine CE.region ?_
        refine WL.det (op_lti rfl rfl) rfl rfl rfl ?_
        refine WL.end ?_
        refine NE.code ?_
        refine CE.seq ?_
        refine CE.cond_f rfl rfl ?_
        refine CE.exit' ?_
        refine XE.exit_then ?_
        refine XE.exit_then ?_
        refine XE.exit_here ?_
        refine NE.blk ?_
        refine NE.code ?_
        refine CE.region ?_
        refine WL.det (op_move rfl) rfl rfl rfl ?_
        refine WL.det (op_add (r := ((i + 1 : Nat) : Int)) rfl rfl (w_i64 (by omega) (by omega))) rfl rfl rfl ?_
        refine WL.det (op_assign rfl) rfl rfl rfl ?_
        refine WL.end ?_
        exact NE.again ((i + 1), 0) (⟨rfl, rfl, rfl, rfl, rfl, rfl, rfl, rfl, trivial⟩) ⟨(by omega), (by rw [strAt_succ]; exact Nat.mod_lt _ (by omega)), (by rw [strAt_succ]; exact (List.length_set).trans hl), (by rw [strAt_succ]; exact W32.set hx (by assumption)), (by rw [strAt_succ]; assumption), (by rw [strAt_succ]; assumption), (by rw [strAt_succ]; assumption), (by rw [strAt_succ]; assumption), (by omega), (by rw [strAt_succ]; first | exact QI.up hq hz hl (by assumption) | exact QI.down (by assumption)), (by exact silF_next he (by first | exact sil_no1 hq hz (by assumption) | exact sil_no2 hq hz (by assumption)) (by omega) (by omega)), (Row.congr (((r17.mod m13 (nC (lE (lL q.lt lR)) nN)).ext m14).mod m15 (nC (lE (lL q.lt lR)) nN)) (by rw [strAt_succ]; rfl)), (Row.congr (((r16.mod m13 (nC (lE (lL r.lt lR)) nN)).ext m14).mod m15 (nC (lE (lL r.lt lR)) nN)) (by rw [strAt_succ]; rfl)), (Row.congr r21 rfl), (((((((m4.nt m5).nt md2).nt m11).then m12 ((aC (.inl (by simp)) (aC (.inl (by simp)) aN)))).then m13 ((aC (.inl (by simp)) aN))).nt m14).then m15 ((aC (.inl (by simp)) aN)))⟩ (by first | (dsimp only; omega) | omega)
  · have hp1 := hb1; try simp only [Bool.and_eq_true, Bool.or_eq_true, Bool.not_eq_true', Bool.not_eq_false', Bool.and_eq_false_iff, Bool.or_eq_false_iff, decide_eq_true_eq, decide_eq_false_iff_not, beq_iff_eq, bne_iff_ne, beq_eq_false_iff_ne, bne_eq_false_iff_eq, ne_eq, Bool.false_eq_true, not_false_eq_true, not_true_eq_false, vIn_t, vIn_f] at hp1
    refine CE.cond_f rfl hb1 ?_
    refine CE.exit' ?_
    refine XE.exit_then ?_
    refine XE.exit_then ?_
    refine XE.exit_here ?_
    refine NE.code ?_
    refine CE.seq ?_
    refine CE.region ?_
    refine WL.det (op_assign rfl) rfl rfl rfl ?_
    refine WL.det (op_assign rfl) rfl rfl rfl ?_
    refine WL.end ?_
    refine NE.code ?_
    refine CE.ret' ?_
    refine XE.leaveT Try.results80 (res_tmp rfl (res_tmp rfl res_nil)) ?_
    refine ⟨?_, (((((Mod.refl [p, b] w).nt m1).nt m2).then m3 ((aC (.inr lR) aN))).then m4 ((aC (.inl (by simp)) (aC (.inl (by simp)) (aC (.inr lR) aN)))))⟩
    all_goals first | (rw [← he, silF_yes (sil_yes hq hz (by assumption) (by assumption)) (by omega)]; done) | (rw [← he, silF_no (by omega)]; done)

set_option maxRecDepth 100000 in
set_option maxHeartbeats 2000000 in
theorem c_sSil (n : Nat) (c : Nat) (b : Nat) (xs : List Nat) (i0 : Nat) (tk : Int) (tc0 : Nat) (tc1 : Nat) (tc2 : Nat) (ts0 : Nat) (ts1 : Nat) (dk : Int) (dc0 : Nat) (dc1 : Nat) (dc2 : Nat) (ds0 : Nat) (ds1 : Nat) (g : Nat) (most : Nat) (ln : xs.length = n) (hi0 : i0 < n) (hn : n ≤ 1024) (wx : W32 xs) (lts0 : ts0 < wid .f32) (lts1 : ts1 < wid .f32) (lds0 : ds0 < wid .f32) (lds1 : ds1 < wid .f32) (hm : most ≤ 100000) (hv : vStr n ((i0 : Nat) : Int) tk tc0 tc1 tc2 ts0 ts1 dk dc0 dc1 dc2 ds0 ds1 g = true) (w : World) (r : Rng w b 0 (fl xs)) : Cl Try.prog 22 #[.agg #[vS b 0 n c, vI ((i0 : Nat) : Int), vI tk, vF tc0, vF tc1, vF tc2, vF ts0, vF ts1, vI dk, vF dc0, vF dc1, vF dc2, vF ds0, vF ds1, vF g], vI ((most : Nat) : Int)] w fun v w' => v = .tuple #[vI ((silF n (fun ii => strAt n tk tc0 tc1 tc2 dk dc0 dc1 dc2 g xs i0 ts0 ts1 ds0 ds1 (fun _ => 0) ii) (most + 1) 0).1), vI ((silF n (fun ii => strAt n tk tc0 tc1 tc2 dk dc0 dc1 dc2 g xs i0 ts0 ts1 ds0 ds1 (fun _ => 0) ii) (most + 1) 0).2)] ∧ Mod [] w w' := by
  refine Cl.of Try.func22 Try.ntmps22 rfl rfl (ρ := [(0, .agg #[vS b 0 n c, vI ((i0 : Nat) : Int), vI tk, vF tc0, vF tc1, vF tc2, vF ts0, vF ts1, vI dk, vF dc0, vF dc1, vF dc2, vF ds0, vF ds1, vF g]), (1, vI ((most : Nat) : Int))]) rfl ?_
  refine CE.seq ?_
  refine CE.region ?_
  refine WL.op (op_box (cs := [vS b 0 n c, vI ((i0 : Nat) : Int), vI tk, vF tc0, vF tc1, vF tc2, vF ts0, vF ts1, vI dk, vF dc0, vF dc1, vF dc2, vF ds0, vF ds1, vF g]) rfl rfl) rfl rfl (ltb rfl) ?_
  rintro _ w1 ⟨rfl, r1, m1, z1⟩
  refine WL.det (op_assign rfl) rfl rfl rfl ?_
  refine WL.det (op_assign rfl) rfl rfl rfl ?_
  refine WL.end ?_
  refine NE.code ?_
  refine CE.seq ?_
  refine CE.seq ?_
  refine CE.region ?_
  refine WL.call (oc_call (vs := [vP w.heap.size 0]) (cap := []) rfl rfl rfl Try.call70 (c_l03Ok n c (some ⟨b, 0, none⟩) ((i0 : Nat) : Int) tk tc0 tc1 tc2 ts0 ts1 dk dc0 dc1 dc2 ds0 ds1 g w.heap.size 0 [vS b 0 n c, vI ((i0 : Nat) : Int), vI tk, vF tc0, vF tc1, vF tc2, vF ts0, vF ts1, vI dk, vF dc0, vF dc1, vF dc2, vF ds0, vF ds1, vF g] (by omega) (lB rfl) w1 (Row.congr r1 rfl).rng)) rfl rfl (ltb rfl) ?_
  rintro _ w2 ⟨rfl, m2⟩
  refine WL.det (op_not rfl) rfl rfl rfl ?_
  refine WL.end ?_
  refine NE.code ?_
  refine CE.cond_f rfl (bnot_t hv) ?_
  refine CE.skip' ?_
  refine NE.code ?_
  refine CE.seq ?_
  refine CE.seq ?_
  refine CE.region ?_
  refine WL.det (op_move rfl) rfl rfl rfl ?_
  refine WL.call (oc_call (vs := [vI ((most : Nat) : Int), vI 0, vI 100000]) (cap := []) rfl rfl rfl Try.call85 (c_l00In ((most : Nat) : Int) (0 : Int) (100000 : Int) w2)) rfl rfl (ltb rfl) ?_
  rintro _ _ ⟨rfl, rfl⟩
  refine WL.det (op_not rfl) rfl rfl rfl ?_
  refine WL.end ?_
  refine NE.code ?_
  refine CE.cond_f rfl (bnot_t ((vIn_t _ _ _).2 ⟨by omega, by omega⟩)) ?_
  refine CE.skip' ?_
  refine NE.code ?_
  refine CE.seq ?_
  refine CE.region ?_
  refine WL.call (oc_call (vs := [vP w.heap.size 0]) (cap := []) rfl rfl rfl Try.call72 (c_l03Copy n c b xs ((i0 : Nat) : Int) tk tc0 tc1 tc2 ts0 ts1 dk dc0 dc1 dc2 ds0 ds1 g w.heap.size 0 [vS b 0 n c, vI ((i0 : Nat) : Int), vI tk, vF tc0, vF tc1, vF tc2, vF ts0, vF ts1, vI dk, vF dc0, vF dc1, vF dc2, vF ds0, vF ds1, vF g] ln (by omega) (by omega) (lB rfl) w2 (Row.congr (r1.ext m2) rfl).rng ((r.ext m1).ext m2))) rfl rfl (ltb rfl) ?_
  rintro _ w3 ⟨b'1, c'1, rfl, r2, ge1, m3⟩
  refine WL.op (op_alloc (cs := [.slice none 0 0, vI 0, vI 0, vF 0, vF 0, vF 0, vF 0, vF 0, vI 0, vF 0, vF 0, vF 0, vF 0, vF 0, vF 0]) Try.zeroValue33 rfl) rfl rfl (ltb rfl) ?_
  rintro _ w4 ⟨rfl, r3, m4, z2⟩
  refine WL.op0 (op_store (i := 0) (cs := [vS b'1 0 n c'1, vI ((i0 : Nat) : Int), vI tk, vF tc0, vF tc1, vF tc2, vF ts0, vF ts1, vI dk, vF dc0, vF dc1, vF dc2, vF ds0, vF ds1, vF g]) rfl rfl rfl Try.sizeOf33 rfl r3 rfl (lB rfl) rfl) rfl rfl ?_
  rintro _ w5 ⟨r4, m5, z3⟩
  have r5 : Row w5 w3.heap.size 0 [vS b'1 0 n c'1, vI ((i0 : Nat) : Int), vI tk, vF tc0, vF tc1, vF tc2, vF ts0, vF ts1, vI dk, vF dc0, vF dc1, vF dc2, vF ds0, vF ds1, vF g] := Row.congr r4 rfl
  refine WL.end ?_
  refine NE.code ?_
  refine CE.seq ?_
  refine CE.seq ?_
  refine CE.region ?_
  refine WL.det (op_assign rfl) rfl rfl rfl ?_
  refine WL.end ?_
  refine NE.code ?_
  refine CE.block ?_
  refine CE.loop (fun (i : Nat) => [(7, vI ((i : Nat) : Int)), (1, vI ((most : Nat) : Int)), (4, vI 0), (5, vI 0), (6, vP w3.heap.size 0)]) (fun (i : Nat) => fun W => (i ≤ most + 1) ∧ ((strAt n tk tc0 tc1 tc2 dk dc0 dc1 dc2 g xs i0 ts0 ts1 ds0 ds1 (fun _ => 0) i).i < n) ∧ ((strAt n tk tc0 tc1 tc2 dk dc0 dc1 dc2 g xs i0 ts0 ts1 ds0 ds1 (fun _ => 0) i).xs.length = n) ∧ (W32 (strAt n tk tc0 tc1 tc2 dk dc0 dc1 dc2 g xs i0 ts0 ts1 ds0 ds1 (fun _ => 0) i).xs) ∧ ((strAt n tk tc0 tc1 tc2 dk dc0 dc1 dc2 g xs i0 ts0 ts1 ds0 ds1 (fun _ => 0) i).t0 < wid .f32) ∧ ((strAt n tk tc0 tc1 tc2 dk dc0 dc1 dc2 g xs i0 ts0 ts1 ds0 ds1 (fun _ => 0) i).t1 < wid .f32) ∧ ((strAt n tk tc0 tc1 tc2 dk dc0 dc1 dc2 g xs i0 ts0 ts1 ds0 ds1 (fun _ => 0) i).d0 < wid .f32) ∧ ((strAt n tk tc0 tc1 tc2 dk dc0 dc1 dc2 g xs i0 ts0 ts1 ds0 ds1 (fun _ => 0) i).d1 < wid .f32) ∧ (silF n (fun ii => strAt n tk tc0 tc1 tc2 dk dc0 dc1 dc2 g xs i0 ts0 ts1 ds0 ds1 (fun _ => 0) ii) (most + 1 - i) i = (silF n (fun ii => strAt n tk tc0 tc1 tc2 dk dc0 dc1 dc2 g xs i0 ts0 ts1 ds0 ds1 (fun _ => 0) ii) (most + 1) 0)) ∧ Row W w3.heap.size 0 [vS b'1 0 n c'1, vI (((strAt n tk tc0 tc1 tc2 dk dc0 dc1 dc2 g xs i0 ts0 ts1 ds0 ds1 (fun _ => 0) i).i : Nat) : Int), vI tk, vF tc0, vF tc1, vF tc2, vF ((strAt n tk tc0 tc1 tc2 dk dc0 dc1 dc2 g xs i0 ts0 ts1 ds0 ds1 (fun _ => 0) i).t0), vF ((strAt n tk tc0 tc1 tc2 dk dc0 dc1 dc2 g xs i0 ts0 ts1 ds0 ds1 (fun _ => 0) i).t1), vI dk, vF dc0, vF dc1, vF dc2, vF ((strAt n tk tc0 tc1 tc2 dk dc0 dc1 dc2 g xs i0 ts0 ts1 ds0 ds1 (fun _ => 0) i).d0), vF ((strAt n tk tc0 tc1 tc2 dk dc0 dc1 dc2 g xs i0 ts0 ts1 ds0 ds1 (fun _ => 0) i).d1), vF g] ∧ Row W b'1 0 (fl ((strAt n tk tc0 tc1 tc2 dk dc0 dc1 dc2 g xs i0 ts0 ts1 ds0 ds1 (fun _ => 0) i).xs)) ∧ Mod [w3.heap.size, b'1] w5 W) (fun (i : Nat) => most + 1 - i) 0 (⟨rfl, rfl, rfl, rfl, rfl, trivial⟩) ⟨(by omega), (by rw [strAt_zero]; exact hi0), (by rw [strAt_zero]; exact ln), (by rw [strAt_zero]; exact wx), (by rw [strAt_zero]; assumption), (by rw [strAt_zero]; assumption), (by rw [strAt_zero]; assumption), (by rw [strAt_zero]; assumption), (by rfl), (Row.congr r5 (by rw [strAt_zero])), (Row.congr ((r2.ext m4).mod m5 (nC (lE (lL r2.lt lR)) nN)) (by rw [strAt_zero])), Mod.refl _ _⟩ ?_
  rintro i w6 ⟨hi, hz, hl, hx, b0, b1, b2, b3, he, r6, r7, m6⟩
  show CE _ _ _ _ [(7, vI ((i : Nat) : Int)), (1, vI ((most : Nat) : Int)), (4, vI 0), (5, vI 0), (6, vP w3.heap.size 0)] _
  refine CE.seq ?_
  refine CE.seq ?_
  refine CE.region ?_
  refine WL.det (op_move rfl) rfl rfl rfl ?_
  refine WL.det (op_move rfl) rfl rfl rfl ?_
  refine WL.det (op_lei rfl rfl) rfl rfl rfl ?_
  refine WL.end ?_
  refine NE.code ?_
  rcases Bool.eq_false_or_eq_true (decide (((i : Nat) : Int) ≤ ((most : Nat) : Int))) with hb1 | hb1
  · have hp1 := hb1; try simp only [Bool.and_eq_true, Bool.or_eq_true, Bool.not_eq_true', Bool.not_eq_false', Bool.and_eq_false_iff, Bool.or_eq_false_iff, decide_eq_true_eq, decide_eq_false_iff_not, beq_iff_eq, bne_iff_ne, beq_eq_false_iff_ne, bne_eq_false_iff_eq, ne_eq, Bool.false_eq_true, not_false_eq_true, not_true_eq_false, vIn_t, vIn_f] at hp1
    refine CE.cond_t rfl hb1 ?_
    refine CE.skip' ?_
    refine NE.code ?_
    refine CE.seq ?_
    refine CE.block ?_
    refine CE.seq ?_
    refine CE.seq ?_
    refine CE.region ?_
    refine WL.call (oc_call (vs := [vP w3.heap.size 0]) (cap := []) rfl rfl rfl Try.call86 (c_l03Silent n c'1 b'1 ((strAt n tk tc0 tc1 tc2 dk dc0 dc1 dc2 g xs i0 ts0 ts1 ds0 ds1 (fun _ => 0) i).xs) (((strAt n tk tc0 tc1 tc2 dk dc0 dc1 dc2 g xs i0 ts0 ts1 ds0 ds1 (fun _ => 0) i).i : Nat) : Int) tk tc0 tc1 tc2 ((strAt n tk tc0 tc1 tc2 dk dc0 dc1 dc2 g xs i0 ts0 ts1 ds0 ds1 (fun _ => 0) i).t0) ((strAt n tk tc0 tc1 tc2 dk dc0 dc1 dc2 g xs i0 ts0 ts1 ds0 ds1 (fun _ => 0) i).t1) dk dc0 dc1 dc2 ((strAt n tk tc0 tc1 tc2 dk dc0 dc1 dc2 g xs i0 ts0 ts1 ds0 ds1 (fun _ => 0) i).d0) ((strAt n tk tc0 tc1 tc2 dk dc0 dc1 dc2 g xs i0 ts0 ts1 ds0 ds1 (fun _ => 0) i).d1) g w3.heap.size 0 [vS b'1 0 n c'1, vI (((strAt n tk tc0 tc1 tc2 dk dc0 dc1 dc2 g xs i0 ts0 ts1 ds0 ds1 (fun _ => 0) i).i : Nat) : Int), vI tk, vF tc0, vF tc1, vF tc2, vF ((strAt n tk tc0 tc1 tc2 dk dc0 dc1 dc2 g xs i0 ts0 ts1 ds0 ds1 (fun _ => 0) i).t0), vF ((strAt n tk tc0 tc1 tc2 dk dc0 dc1 dc2 g xs i0 ts0 ts1 ds0 ds1 (fun _ => 0) i).t1), vI dk, vF dc0, vF dc1, vF dc2, vF ((strAt n tk tc0 tc1 tc2 dk dc0 dc1 dc2 g xs i0 ts0 ts1 ds0 ds1 (fun _ => 0) i).d0), vF ((strAt n tk tc0 tc1 tc2 dk dc0 dc1 dc2 g xs i0 ts0 ts1 ds0 ds1 (fun _ => 0) i).d1), vF g] hl (by omega) (lB rfl) w6 (Row.congr r6 rfl).rng r7.rng)) rfl rfl (ltb rfl) ?_
    rintro _ w7 ⟨rfl, m7⟩
    refine WL.end ?_
    refine NE.code ?_
    rcases Bool.eq_false_or_eq_true (strSilent n ((strAt n tk tc0 tc1 tc2 dk dc0 dc1 dc2 g xs i0 ts0 ts1 ds0 ds1 (fun _ => 0) i).xs) ((strAt n tk tc0 tc1 tc2 dk dc0 dc1 dc2 g xs i0 ts0 ts1 ds0 ds1 (fun _ => 0) i).t0) ((strAt n tk tc0 tc1 tc2 dk dc0 dc1 dc2 g xs i0 ts0 ts1 ds0 ds1 (fun _ => 0) i).t1) ((strAt n tk tc0 tc1 tc2 dk dc0 dc1 dc2 g xs i0 ts0 ts1 ds0 ds1 (fun _ => 0) i).d0) ((strAt n tk tc0 tc1 tc2 dk dc0 dc1 dc2 g xs i0 ts0 ts1 ds0 ds1 (fun _ => 0) i).d1)) with hb2 | hb2
    · refine CE.cond_t rfl hb2 ?_
      refine CE.seq ?_
      refine CE.region ?_
      refine WL.det (op_move rfl) rfl rfl rfl ?_
      refine WL.det (op_assign rfl) rfl rfl rfl ?_
      refine WL.det (op_assign rfl) rfl rfl rfl ?_
      refine WL.end ?_
      refine NE.code ?_
      refine CE.ret' ?_
      refine XE.ret_then ?_
      refine XE.ret_blk ?_
      refine XE.ret_then ?_
      refine XE.ret_then ?_
      refine XE.ret_blk ?_
      refine XE.ret_then ?_
      refine XE.leaveT Try.results22 (res_tmp rfl (res_tmp rfl res_nil)) ?_
      refine ⟨?_, ((((((((Mod.refl [] w).nt m1).nt m2).nt m3).nt m4).then m5 ((aC (.inr (lT (lT (lT m1.size m2.size) m3.size) lR)) aN))).then m6 ((aC (.inr (lT (lT (lT m1.size m2.size) m3.size) lR)) (aC (.inr (lT (lT m1.size m2.size) ge1)) aN)))).nt m7)⟩
      all_goals first | (rw [← he, silF_yes (by assumption) (by omega)]; done) | (rw [← he, silF_no (by omega)]; done)
    · refine CE.cond_f rfl hb2 ?_
      refine CE.skip' ?_
      refine NE.code ?_
      refine CE.region ?_
      refine WL.call (oc_call (vs := [vP w3.heap.size 0, vF 0]) (cap := []) rfl rfl rfl Try.call87 (c_l03Step n c'1 b'1 ((strAt n tk tc0 tc1 tc2 dk dc0 dc1 dc2 g xs i0 ts0 ts1 ds0 ds1 (fun _ => 0) i).xs) ((strAt n tk tc0 tc1 tc2 dk dc0 dc1 dc2 g xs i0 ts0 ts1 ds0 ds1 (fun _ => 0) i).i) tk tc0 tc1 tc2 ((strAt n tk tc0 tc1 tc2 dk dc0 dc1 dc2 g xs i0 ts0 ts1 ds0 ds1 (fun _ => 0) i).t0) ((strAt n tk tc0 tc1 tc2 dk dc0 dc1 dc2 g xs i0 ts0 ts1 ds0 ds1 (fun _ => 0) i).t1) dk dc0 dc1 dc2 ((strAt n tk tc0 tc1 tc2 dk dc0 dc1 dc2 g xs i0 ts0 ts1 ds0 ds1 (fun _ => 0) i).d0) ((strAt n tk tc0 tc1 tc2 dk dc0 dc1 dc2 g xs i0 ts0 ts1 ds0 ds1 (fun _ => 0) i).d1) g w3.heap.size 0 [vS b'1 0 n c'1, vI (((strAt n tk tc0 tc1 tc2 dk dc0 dc1 dc2 g xs i0 ts0 ts1 ds0 ds1 (fun _ => 0) i).i : Nat) : Int), vI tk, vF tc0, vF tc1, vF tc2, vF ((strAt n tk tc0 tc1 tc2 dk dc0 dc1 dc2 g xs i0 ts0 ts1 ds0 ds1 (fun _ => 0) i).t0), vF ((strAt n tk tc0 tc1 tc2 dk dc0 dc1 dc2 g xs i0 ts0 ts1 ds0 ds1 (fun _ => 0) i).t1), vI dk, vF dc0, vF dc1, vF dc2, vF ((strAt n tk tc0 tc1 tc2 dk dc0 dc1 dc2 g xs i0 ts0 ts1 ds0 ds1 (fun _ => 0) i).d0), vF ((strAt n tk tc0 tc1 tc2 dk dc0 dc1 dc2 g xs i0 ts0 ts1 ds0 ds1 (fun _ => 0) i).d1), vF g] 0 0 hl (by first | omega | exact Nat.mod_lt _ (by omega)) (by omega) b0 b1 b2 b3 (lB rfl) rfl (by decide +kernel) hx w7 (Row.congr (r6.ext m7) rfl) (r7.ext m7) (lG (lL r2.lt lR)))) rfl rfl (ltb rfl) ?_
      rintro _ w8 ⟨rfl, h1, h2, h3, h4, h5, r8, r9, m8⟩
      have r10 : Row w8 w3.heap.size 0 [vS b'1 0 n c'1, vI (((((strAt n tk tc0 tc1 tc2 dk dc0 dc1 dc2 g xs i0 ts0 ts1 ds0 ds1 (fun _ => 0) i).i) + 1) % n : Nat) : Int), vI tk, vF tc0, vF tc1, vF tc2, vF (stepS tk tc0 tc1 tc2 ((strAt n tk tc0 tc1 tc2 dk dc0 dc1 dc2 g xs i0 ts0 ts1 ds0 ds1 (fun _ => 0) i).t0) ((strAt n tk tc0 tc1 tc2 dk dc0 dc1 dc2 g xs i0 ts0 ts1 ds0 ds1 (fun _ => 0) i).t1) (((strAt n tk tc0 tc1 tc2 dk dc0 dc1 dc2 g xs i0 ts0 ts1 ds0 ds1 (fun _ => 0) i).xs).getD ((strAt n tk tc0 tc1 tc2 dk dc0 dc1 dc2 g xs i0 ts0 ts1 ds0 ds1 (fun _ => 0) i).i) 0)), vF (stepT tk tc0 tc1 tc2 ((strAt n tk tc0 tc1 tc2 dk dc0 dc1 dc2 g xs i0 ts0 ts1 ds0 ds1 (fun _ => 0) i).t0) ((strAt n tk tc0 tc1 tc2 dk dc0 dc1 dc2 g xs i0 ts0 ts1 ds0 ds1 (fun _ => 0) i).t1) (((strAt n tk tc0 tc1 tc2 dk dc0 dc1 dc2 g xs i0 ts0 ts1 ds0 ds1 (fun _ => 0) i).xs).getD ((strAt n tk tc0 tc1 tc2 dk dc0 dc1 dc2 g xs i0 ts0 ts1 ds0 ds1 (fun _ => 0) i).i) 0)), vI dk, vF dc0, vF dc1, vF dc2, vF (stepS dk dc0 dc1 dc2 ((strAt n tk tc0 tc1 tc2 dk dc0 dc1 dc2 g xs i0 ts0 ts1 ds0 ds1 (fun _ => 0) i).d0) ((strAt n tk tc0 tc1 tc2 dk dc0 dc1 dc2 g xs i0 ts0 ts1 ds0 ds1 (fun _ => 0) i).d1) (stepY tk tc0 tc1 tc2 ((strAt n tk tc0 tc1 tc2 dk dc0 dc1 dc2 g xs i0 ts0 ts1 ds0 ds1 (fun _ => 0) i).t0) ((strAt n tk tc0 tc1 tc2 dk dc0 dc1 dc2 g xs i0 ts0 ts1 ds0 ds1 (fun _ => 0) i).t1) (((strAt n tk tc0 tc1 tc2 dk dc0 dc1 dc2 g xs i0 ts0 ts1 ds0 ds1 (fun _ => 0) i).xs).getD ((strAt n tk tc0 tc1 tc2 dk dc0 dc1 dc2 g xs i0 ts0 ts1 ds0 ds1 (fun _ => 0) i).i) 0))), vF (stepT dk dc0 dc1 dc2 ((strAt n tk tc0 tc1 tc2 dk dc0 dc1 dc2 g xs i0 ts0 ts1 ds0 ds1 (fun _ => 0) i).d0) ((strAt n tk tc0 tc1 tc2 dk dc0 dc1 dc2 g xs i0 ts0 ts1 ds0 ds1 (fun _ => 0) i).d1) (stepY tk tc0 tc1 tc2 ((strAt n tk tc0 tc1 tc2 dk dc0 dc1 dc2 g xs i0 ts0 ts1 ds0 ds1 (fun _ => 0) i).t0) ((strAt n tk tc0 tc1 tc2 dk dc0 dc1 dc2 g xs i0 ts0 ts1 ds0 ds1 (fun _ => 0) i).t1) (((strAt n tk tc0 tc1 tc2 dk dc0 dc1 dc2 g xs i0 ts0 ts1 ds0 ds1 (fun _ => 0) i).xs).getD ((strAt n tk tc0 tc1 tc2 dk dc0 dc1 dc2 g xs i0 ts0 ts1 ds0 ds1 (fun _ => 0) i).i) 0))), vF g] := r8
      refine WL.end ?_
      refine NE.blk ?_
      refine NE.code ?_
      refine CE.region ?_
      refine WL.det (op_move rfl) rfl rfl rfl ?_
      refine WL.det (op_add (r := ((i + 1 : Nat) : Int)) rfl rfl (w_i64 (by omega) (by omega))) rfl rfl rfl ?_
      refine WL.det (op_assign rfl) rfl rfl rfl ?_
      refine WL.end ?_
      exact NE.again (i + 1) (⟨rfl, rfl, rfl, rfl, rfl, trivial⟩) ⟨(by omega), (by rw [strAt_succ]; exact Nat.mod_lt _ (by omega)), (by rw [strAt_succ]; exact (List.length_set).trans hl), (by rw [strAt_succ]; exact W32.set hx (by assumption)), (by rw [strAt_succ]; assumption), (by rw [strAt_succ]; assumption), (by rw [strAt_succ]; assumption), (by rw [strAt_succ]; assumption), (by exact silF_next he (by assumption) (by omega) (by omega)), (Row.congr r10 (by rw [strAt_succ]; rfl)), (Row.congr r9 (by rw [strAt_succ]; rfl)), ((m6.nt m7).then m8 ((aC (.inl (by simp)) (aC (.inl (by simp)) aN))))⟩ (by first | (dsimp only; omega) | omega)
  · have hp1 := hb1; try simp only [Bool.and_eq_true, Bool.or_eq_true, Bool.not_eq_true', Bool.not_eq_false', Bool.and_eq_false_iff, Bool.or_eq_false_iff, decide_eq_true_eq, decide_eq_false_iff_not, beq_iff_eq, bne_iff_ne, beq_eq_false_iff_ne, bne_eq_false_iff_eq, ne_eq, Bool.false_eq_true, not_false_eq_true, not_true_eq_false, vIn_t, vIn_f] at hp1
    refine CE.cond_f rfl hb1 ?_
    refine CE.exit' ?_
    refine XE.exit_then ?_
    refine XE.exit_then ?_
    refine XE.exit_here ?_
    refine NE.code ?_
    refine CE.seq ?_
    refine CE.region ?_
    refine WL.det (op_assign rfl) rfl rfl rfl ?_
    refine WL.det (op_assign rfl) rfl rfl rfl ?_
    refine WL.end ?_
    refine NE.code ?_
    refine CE.ret' ?_
    refine XE.leaveT Try.results22 (res_tmp rfl (res_tmp rfl res_nil)) ?_
    refine ⟨?_, (((((((Mod.refl [] w).nt m1).nt m2).nt m3).nt m4).then m5 ((aC (.inr (lT (lT (lT m1.size m2.size) m3.size) lR)) aN))).then m6 ((aC (.inr (lT (lT (lT m1.size m2.size) m3.size) lR)) (aC (.inr (lT (lT m1.size m2.size) ge1)) aN))))⟩
    all_goals first | (rw [← he, silF_yes (by assumption) (by omega)]; done) | (rw [← he, silF_no (by omega)]; done)

set_option maxRecDepth 100000 in
set_option maxHeartbeats 2000000 in
theorem c_sSil_out (n : Nat) (c : Nat) (b : Nat) (xs : List Nat) (j : Int) (tk : Int) (tc0 : Nat) (tc1 : Nat) (tc2 : Nat) (ts0 : Nat) (ts1 : Nat) (dk : Int) (dc0 : Nat) (dc1 : Nat) (dc2 : Nat) (ds0 : Nat) (ds1 : Nat) (g : Nat) (cn_ : Int) (ln : xs.length = n) (hn : n ≤ 1048576) (lts0 : ts0 < wid .f32) (lts1 : ts1 < wid .f32) (lds0 : ds0 < wid .f32) (lds1 : ds1 < wid .f32) (hv : vStr n j tk tc0 tc1 tc2 ts0 ts1 dk dc0 dc1 dc2 ds0 ds1 g = true) (hq : vIn cn_ (0 : Int) (100000 : Int) = false) (w : World) (r : Rng w b 0 (fl xs)) : Cl Try.prog 22 #[.agg #[vS b 0 n c, vI j, vI tk, vF tc0, vF tc1, vF tc2, vF ts0, vF ts1, vI dk, vF dc0, vF dc1, vF dc2, vF ds0, vF ds1, vF g], vI cn_] w fun v w' => v = .tuple #[vI 0, vI 2] ∧ Mod [] w w' := by
  refine Cl.of Try.func22 Try.ntmps22 rfl rfl (ρ := [(0, .agg #[vS b 0 n c, vI j, vI tk, vF tc0, vF tc1, vF tc2, vF ts0, vF ts1, vI dk, vF dc0, vF dc1, vF dc2, vF ds0, vF ds1, vF g]), (1, vI cn_)]) rfl ?_
  refine CE.seq ?_
  refine CE.region ?_
  refine WL.op (op_box (cs := [vS b 0 n c, vI j, vI tk, vF tc0, vF tc1, vF tc2, vF ts0, vF ts1, vI dk, vF dc0, vF dc1, vF dc2, vF ds0, vF ds1, vF g]) rfl rfl) rfl rfl (ltb rfl) ?_
  rintro _ w1 ⟨rfl, r1, m1, z1⟩
  refine WL.det (op_assign rfl) rfl rfl rfl ?_
  refine WL.det (op_assign rfl) rfl rfl rfl ?_
  refine WL.end ?_
  refine NE.code ?_
  refine CE.seq ?_
  refine CE.seq ?_
  refine CE.region ?_
  refine WL.call (oc_call (vs := [vP w.heap.size 0]) (cap := []) rfl rfl rfl Try.call70 (c_l03Ok n c (some ⟨b, 0, none⟩) j tk tc0 tc1 tc2 ts0 ts1 dk dc0 dc1 dc2 ds0 ds1 g w.heap.size 0 [vS b 0 n c, vI j, vI tk, vF tc0, vF tc1, vF tc2, vF ts0, vF ts1, vI dk, vF dc0, vF dc1, vF dc2, vF ds0, vF ds1, vF g] (by omega) (lB rfl) w1 (Row.congr r1 rfl).rng)) rfl rfl (ltb rfl) ?_
  rintro _ w2 ⟨rfl, m2⟩
  refine WL.det (op_not rfl) rfl rfl rfl ?_
  refine WL.end ?_
  refine NE.code ?_
  refine CE.cond_f rfl (bnot_t hv) ?_
  refine CE.skip' ?_
  refine NE.code ?_
  refine CE.seq ?_
  refine CE.seq ?_
  refine CE.region ?_
  refine WL.det (op_move rfl) rfl rfl rfl ?_
  refine WL.call (oc_call (vs := [vI cn_, vI 0, vI 100000]) (cap := []) rfl rfl rfl Try.call85 (c_l00In cn_ (0 : Int) (100000 : Int) w2)) rfl rfl (ltb rfl) ?_
  rintro _ _ ⟨rfl, rfl⟩
  refine WL.det (op_not rfl) rfl rfl rfl ?_
  refine WL.end ?_
  refine NE.code ?_
  refine CE.cond_t rfl (bnot_f hq) ?_
  refine CE.seq ?_
  refine CE.region ?_
  refine WL.det (op_assign rfl) rfl rfl rfl ?_
  refine WL.det (op_assign rfl) rfl rfl rfl ?_
  refine WL.end ?_
  refine NE.code ?_
  refine CE.ret' ?_
  refine XE.ret_then ?_
  refine XE.leaveT Try.results22 (res_tmp rfl (res_tmp rfl res_nil)) ?_
  refine ⟨rfl, (((Mod.refl [] w).nt m1).nt m2)⟩

set_option maxRecDepth 100000 in
set_option maxHeartbeats 2000000 in
theorem c_sSil_bad (n : Nat) (c : Nat) (b : Nat) (xs : List Nat) (j : Int) (tk : Int) (tc0 : Nat) (tc1 : Nat) (tc2 : Nat) (ts0 : Nat) (ts1 : Nat) (dk : Int) (dc0 : Nat) (dc1 : Nat) (dc2 : Nat) (ds0 : Nat) (ds1 : Nat) (g : Nat) (cn_ : Int) (ln : xs.length = n) (hn : n ≤ 1048576) (lts0 : ts0 < wid .f32) (lts1 : ts1 < wid .f32) (lds0 : ds0 < wid .f32) (lds1 : ds1 < wid .f32) (hv : vStr n j tk tc0 tc1 tc2 ts0 ts1 dk dc0 dc1 dc2 ds0 ds1 g = false) (w : World) (r : Rng w b 0 (fl xs)) : Cl Try.prog 22 #[.agg #[vS b 0 n c, vI j, vI tk, vF tc0, vF tc1, vF tc2, vF ts0, vF ts1, vI dk, vF dc0, vF dc1, vF dc2, vF ds0, vF ds1, vF g], vI cn_] w fun v w' => v = .tuple #[vI 0, vI 1] ∧ Mod [] w w' := by
  refine Cl.of Try.func22 Try.ntmps22 rfl rfl (ρ := [(0, .agg #[vS b 0 n c, vI j, vI tk, vF tc0, vF tc1, vF tc2, vF ts0, vF ts1, vI dk, vF dc0, vF dc1, vF dc2, vF ds0, vF ds1, vF g]), (1, vI cn_)]) rfl ?_
  refine CE.seq ?_
  refine CE.region ?_
  refine WL.op (op_box (cs := [vS b 0 n c, vI j, vI tk, vF tc0, vF tc1, vF tc2, vF ts0, vF ts1, vI dk, vF dc0, vF dc1, vF dc2, vF ds0, vF ds1, vF g]) rfl rfl) rfl rfl (ltb rfl) ?_
  rintro _ w1 ⟨rfl, r1, m1, z1⟩
  refine WL.det (op_assign rfl) rfl rfl rfl ?_
  refine WL.det (op_assign rfl) rfl rfl rfl ?_
  refine WL.end ?_
  refine NE.code ?_
  refine CE.seq ?_
  refine CE.seq ?_
  refine CE.region ?_
  refine WL.call (oc_call (vs := [vP w.heap.size 0]) (cap := []) rfl rfl rfl Try.call70 (c_l03Ok n c (some ⟨b, 0, none⟩) j tk tc0 tc1 tc2 ts0 ts1 dk dc0 dc1 dc2 ds0 ds1 g w.heap.size 0 [vS b 0 n c, vI j, vI tk, vF tc0, vF tc1, vF tc2, vF ts0, vF ts1, vI dk, vF dc0, vF dc1, vF dc2, vF ds0, vF ds1, vF g] (by omega) (lB rfl) w1 (Row.congr r1 rfl).rng)) rfl rfl (ltb rfl) ?_
  rintro _ w2 ⟨rfl, m2⟩
  refine WL.det (op_not rfl) rfl rfl rfl ?_
  refine WL.end ?_
  refine NE.code ?_
  refine CE.cond_t rfl (bnot_f hv) ?_
  refine CE.seq ?_
  refine CE.region ?_
  refine WL.det (op_assign rfl) rfl rfl rfl ?_
  refine WL.det (op_assign rfl) rfl rfl rfl ?_
  refine WL.end ?_
  refine NE.code ?_
  refine CE.ret' ?_
  refine XE.ret_then ?_
  refine XE.leaveT Try.results22 (res_tmp rfl (res_tmp rfl res_nil)) ?_
  refine ⟨rfl, (((Mod.refl [] w).nt m1).nt m2)⟩

set_option maxRecDepth 100000 in
set_option maxHeartbeats 2000000 in
theorem c_iSil (n : Nat) (c : Nat) (b : Nat) (xs : List Nat) (i0 : Nat) (tk : Int) (tc0 : Nat) (tc1 : Nat) (tc2 : Nat) (ts0 : Nat) (ts1 : Nat) (dk : Int) (dc0 : Nat) (dc1 : Nat) (dc2 : Nat) (ds0 : Nat) (ds1 : Nat) (g : Nat) (most : Nat) (ln : xs.length = n) (hi0 : i0 < n) (hn : n ≤ 1024) (wx : W32 xs) (lts0 : ts0 < wid .f32) (lts1 : ts1 < wid .f32) (lds0 : ds0 < wid .f32) (lds1 : ds1 < wid .f32) (hm : most ≤ 100000) (hv : vStr n ((i0 : Nat) : Int) tk tc0 tc1 tc2 ts0 ts1 dk dc0 dc1 dc2 ds0 ds1 g = true) (w : World) (r : Rng w b 0 (fl xs)) : Cl Try.prog 21 #[.agg #[vS b 0 n c, vI ((i0 : Nat) : Int), vI tk, vF tc0, vF tc1, vF tc2, vF ts0, vF ts1, vI dk, vF dc0, vF dc1, vF dc2, vF ds0, vF ds1, vF g], vI ((most : Nat) : Int)] w fun v w' => v = .tuple #[vI ((silF n (fun ii => strAt n tk tc0 tc1 tc2 dk dc0 dc1 dc2 g xs i0 ts0 ts1 ds0 ds1 (fun _ => 0) ii) (most + 1) 0).1), vI ((silF n (fun ii => strAt n tk tc0 tc1 tc2 dk dc0 dc1 dc2 g xs i0 ts0 ts1 ds0 ds1 (fun _ => 0) ii) (most + 1) 0).2)] ∧ Mod [] w w' := by
  refine Cl.of Try.func21 Try.ntmps21 rfl rfl (ρ := [(0, .agg #[vS b 0 n c, vI ((i0 : Nat) : Int), vI tk, vF tc0, vF tc1, vF tc2, vF ts0, vF ts1, vI dk, vF dc0, vF dc1, vF dc2, vF ds0, vF ds1, vF g]), (1, vI ((most : Nat) : Int))]) rfl ?_
  refine CE.seq ?_
  refine CE.region ?_
  refine WL.op (op_box (cs := [vS b 0 n c, vI ((i0 : Nat) : Int), vI tk, vF tc0, vF tc1, vF tc2, vF ts0, vF ts1, vI dk, vF dc0, vF dc1, vF dc2, vF ds0, vF ds1, vF g]) rfl rfl) rfl rfl (ltb rfl) ?_
  rintro _ w1 ⟨rfl, r1, m1, z1⟩
  refine WL.det (op_assign rfl) rfl rfl rfl ?_
  refine WL.det (op_assign rfl) rfl rfl rfl ?_
  refine WL.end ?_
  refine NE.code ?_
  refine CE.seq ?_
  refine CE.block ?_
  refine CE.seq ?_
  refine CE.region ?_
  refine WL.det (op_loadA (i := 0) (cs := [vS b 0 n c, vI ((i0 : Nat) : Int), vI tk, vF tc0, vF tc1, vF tc2, vF ts0, vF ts1, vI dk, vF dc0, vF dc1, vF dc2, vF ds0, vF ds1, vF g]) rfl Try.isAgg33 Try.sizeOf33 r1.rng rfl rfl rfl) rfl rfl rfl ?_
  refine WL.call (oc_call (vs := [.agg #[vS b 0 n c, vI ((i0 : Nat) : Int), vI tk, vF tc0, vF tc1, vF tc2, vF ts0, vF ts1, vI dk, vF dc0, vF dc1, vF dc2, vF ds0, vF ds1, vF g]]) (cap := []) rfl rfl rfl Try.call63 (c_ValidString n c (some ⟨b, 0, none⟩) ((i0 : Nat) : Int) tk tc0 tc1 tc2 ts0 ts1 dk dc0 dc1 dc2 ds0 ds1 g (by omega) w1)) rfl rfl (ltb rfl) ?_
  rintro _ w2 ⟨rfl, m2⟩
  refine WL.det (op_not rfl) rfl rfl rfl ?_
  refine WL.det (op_assign rfl) rfl rfl rfl ?_
  refine WL.end ?_
  refine NE.code ?_
  refine CE.cond_f rfl (bnot_t hv) ?_
  refine CE.seq ?_
  refine CE.region ?_
  refine WL.det (op_move rfl) rfl rfl rfl ?_
  refine WL.call (oc_call (vs := [vI ((most : Nat) : Int), vI 0, vI 100000]) (cap := []) rfl rfl rfl Try.call78 (c_within ((most : Nat) : Int) (0 : Int) (100000 : Int) w2)) rfl rfl (ltb rfl) ?_
  rintro _ _ ⟨rfl, rfl⟩
  refine WL.det (op_not rfl) rfl rfl rfl ?_
  refine WL.det (op_assign rfl) rfl rfl rfl ?_
  refine WL.end ?_
  refine NE.code ?_
  refine CE.cond_f rfl (bnot_t ((vIn_t _ _ _).2 ⟨by omega, by omega⟩)) ?_
  refine CE.skip' ?_
  refine NE.blk ?_
  refine NE.code ?_
  refine CE.seq ?_
  refine CE.region ?_
  refine WL.det (op_loadA (i := 0) (cs := [vS b 0 n c, vI ((i0 : Nat) : Int), vI tk, vF tc0, vF tc1, vF tc2, vF ts0, vF ts1, vI dk, vF dc0, vF dc1, vF dc2, vF ds0, vF ds1, vF g]) rfl Try.isAgg33 Try.sizeOf33 (r1.ext m2).rng rfl rfl rfl) rfl rfl rfl ?_
  refine WL.call (oc_call (vs := [.agg #[vS b 0 n c, vI ((i0 : Nat) : Int), vI tk, vF tc0, vF tc1, vF tc2, vF ts0, vF ts1, vI dk, vF dc0, vF dc1, vF dc2, vF ds0, vF ds1, vF g]]) (cap := []) rfl rfl rfl Try.call79 (c_cloneString n c b xs ((i0 : Nat) : Int) tk tc0 tc1 tc2 ts0 ts1 dk dc0 dc1 dc2 ds0 ds1 g ln (by omega) (by omega) w2 ((r.ext m1).ext m2))) rfl rfl (ltb rfl) ?_
  rintro _ w3 ⟨b'1, c'1, rfl, r2, ge1, m3⟩
  refine WL.op0 (op_store (i := 0) (cs := [vS b'1 0 n c'1, vI ((i0 : Nat) : Int), vI tk, vF tc0, vF tc1, vF tc2, vF ts0, vF ts1, vI dk, vF dc0, vF dc1, vF dc2, vF ds0, vF ds1, vF g]) rfl rfl rfl Try.sizeOf33 rfl ((r1.ext m2).ext m3) rfl (lB rfl) rfl) rfl rfl ?_
  rintro _ w4 ⟨r3, m4, z2⟩
  have r4 : Row w4 w.heap.size 0 [vS b'1 0 n c'1, vI ((i0 : Nat) : Int), vI tk, vF tc0, vF tc1, vF tc2, vF ts0, vF ts1, vI dk, vF dc0, vF dc1, vF dc2, vF ds0, vF ds1, vF g] := Row.congr r3 rfl
  refine WL.end ?_
  refine NE.code ?_
  refine CE.seq ?_
  refine CE.region ?_
  refine WL.det (op_move rfl) rfl rfl rfl ?_
  refine WL.det (op_fieldAddr (off' := 0) rfl Try.runUnderlying33 rfl rfl Try.sizeOf26 rfl) rfl rfl rfl ?_
  refine WL.op (op_buildSl (qs := [(0, vP w.heap.size 0)]) (cells := #[vP w.heap.size 0]) rfl Try.runUnderlying116 Try.sizeOf109 Try.zeroValue109 (by decide) (by decide) (by kernel_rfl)) rfl rfl (ltb rfl) ?_
  rintro _ w5 ⟨rfl, r5, m5, z3⟩
  refine WL.det (op_makeFunc (vs := []) (us := [vP w.heap.size 0]) rfl rfl) rfl rfl rfl ?_
  refine WL.det (op_makeFunc (vs := []) (us := [vP w.heap.size 0]) rfl rfl) rfl rfl rfl ?_
  refine WL.call (oc_call (vs := [vI ((most : Nat) : Int), vS w4.heap.size 0 1 1, .func (.func 81) #[] #[vP w.heap.size 0], .func (.func 83) #[] #[vP w.heap.size 0]]) (cap := []) rfl rfl rfl Try.call80 (c_stepsStr n c'1 b'1 xs i0 tk tc0 tc1 tc2 ts0 ts1 dk dc0 dc1 dc2 ds0 ds1 g w.heap.size 0 [vS b'1 0 n c'1, vI ((i0 : Nat) : Int), vI tk, vF tc0, vF tc1, vF tc2, vF ts0, vF ts1, vI dk, vF dc0, vF dc1, vF dc2, vF ds0, vF ds1, vF g] w4.heap.size 1 most ln (by omega) (by omega) (by first | assumption | exact W32.set (by assumption) (by first | assumption | exact wid_lt (by assumption)) | exact W32.zeros _ | exact W32.nil) lts0 lts1 lds0 lds1 (lB rfl) (by omega) w5 (Row.congr (r4.ext m5) rfl) ((r2.mod m4 (nC (lG (lL (lL r1.lt m2.size) ge1)) nN)).ext m5) r5.rng (lE (lL (lL r1.lt m2.size) ge1)) (lG (lL (lL r1.lt (lT (lT m2.size m3.size) m4.size)) lR)) (lG (lL (lL r2.lt m4.size) lR)))) rfl rfl (ltb rfl) ?_
  rintro _ w6 ⟨rfl, m6⟩
  refine WL.det (op_extract rfl rfl) rfl rfl rfl ?_
  refine WL.det (op_extract rfl rfl) rfl rfl rfl ?_
  refine WL.det (op_assign rfl) rfl rfl rfl ?_
  refine WL.det (op_assign rfl) rfl rfl rfl ?_
  refine WL.end ?_
  refine NE.code ?_
  refine CE.ret' ?_
  refine XE.leaveT Try.results21 (res_tmp rfl (res_tmp rfl res_nil)) ?_
  refine ⟨rfl, (((((((Mod.refl [] w).nt m1).nt m2).nt m3).then m4 ((aC (.inr lR) aN))).nt m5).then m6 ((aC (.inr lR) (aC (.inr (lT (lT m1.size m2.size) ge1)) aN))))⟩

set_option maxRecDepth 100000 in
set_option maxHeartbeats 2000000 in
theorem c_iSil_out (n : Nat) (c : Nat) (b : Nat) (xs : List Nat) (j : Int) (tk : Int) (tc0 : Nat) (tc1 : Nat) (tc2 : Nat) (ts0 : Nat) (ts1 : Nat) (dk : Int) (dc0 : Nat) (dc1 : Nat) (dc2 : Nat) (ds0 : Nat) (ds1 : Nat) (g : Nat) (cn_ : Int) (ln : xs.length = n) (hn : n ≤ 1048576) (lts0 : ts0 < wid .f32) (lts1 : ts1 < wid .f32) (lds0 : ds0 < wid .f32) (lds1 : ds1 < wid .f32) (hv : vStr n j tk tc0 tc1 tc2 ts0 ts1 dk dc0 dc1 dc2 ds0 ds1 g = true) (hq : vIn cn_ (0 : Int) (100000 : Int) = false) (w : World) (r : Rng w b 0 (fl xs)) : Cl Try.prog 21 #[.agg #[vS b 0 n c, vI j, vI tk, vF tc0, vF tc1, vF tc2, vF ts0, vF ts1, vI dk, vF dc0, vF dc1, vF dc2, vF ds0, vF ds1, vF g], vI cn_] w fun v w' => v = .tuple #[vI 0, vI 2] ∧ Mod [] w w' := by
  refine Cl.of Try.func21 Try.ntmps21 rfl rfl (ρ := [(0, .agg #[vS b 0 n c, vI j, vI tk, vF tc0, vF tc1, vF tc2, vF ts0, vF ts1, vI dk, vF dc0, vF dc1, vF dc2, vF ds0, vF ds1, vF g]), (1, vI cn_)]) rfl ?_
  refine CE.seq ?_
  refine CE.region ?_
  refine WL.op (op_box (cs := [vS b 0 n c, vI j, vI tk, vF tc0, vF tc1, vF tc2, vF ts0, vF ts1, vI dk, vF dc0, vF dc1, vF dc2, vF ds0, vF ds1, vF g]) rfl rfl) rfl rfl (ltb rfl) ?_
  rintro _ w1 ⟨rfl, r1, m1, z1⟩
  refine WL.det (op_assign rfl) rfl rfl rfl ?_
  refine WL.det (op_assign rfl) rfl rfl rfl ?_
  refine WL.end ?_
  refine NE.code ?_
  refine CE.seq ?_
  refine CE.block ?_
  refine CE.seq ?_
  refine CE.region ?_
  refine WL.det (op_loadA (i := 0) (cs := [vS b 0 n c, vI j, vI tk, vF tc0, vF tc1, vF tc2, vF ts0, vF ts1, vI dk, vF dc0, vF dc1, vF dc2, vF ds0, vF ds1, vF g]) rfl Try.isAgg33 Try.sizeOf33 r1.rng rfl rfl rfl) rfl rfl rfl ?_
  refine WL.call (oc_call (vs := [.agg #[vS b 0 n c, vI j, vI tk, vF tc0, vF tc1, vF tc2, vF ts0, vF ts1, vI dk, vF dc0, vF dc1, vF dc2, vF ds0, vF ds1, vF g]]) (cap := []) rfl rfl rfl Try.call63 (c_ValidString n c (some ⟨b, 0, none⟩) j tk tc0 tc1 tc2 ts0 ts1 dk dc0 dc1 dc2 ds0 ds1 g (by omega) w1)) rfl rfl (ltb rfl) ?_
  rintro _ w2 ⟨rfl, m2⟩
  refine WL.det (op_not rfl) rfl rfl rfl ?_
  refine WL.det (op_assign rfl) rfl rfl rfl ?_
  refine WL.end ?_
  refine NE.code ?_
  refine CE.cond_f rfl (bnot_t hv) ?_
  refine CE.seq ?_
  refine CE.region ?_
  refine WL.det (op_move rfl) rfl rfl rfl ?_
  refine WL.call (oc_call (vs := [vI cn_, vI 0, vI 100000]) (cap := []) rfl rfl rfl Try.call78 (c_within cn_ (0 : Int) (100000 : Int) w2)) rfl rfl (ltb rfl) ?_
  rintro _ _ ⟨rfl, rfl⟩
  refine WL.det (op_not rfl) rfl rfl rfl ?_
  refine WL.det (op_assign rfl) rfl rfl rfl ?_
  refine WL.end ?_
  refine NE.code ?_
  refine CE.cond_t rfl (bnot_f hq) ?_
  refine CE.seq ?_
  refine CE.region ?_
  refine WL.det (op_assign rfl) rfl rfl rfl ?_
  refine WL.det (op_assign rfl) rfl rfl rfl ?_
  refine WL.end ?_
  refine NE.code ?_
  refine CE.ret' ?_
  refine XE.ret_blk ?_
  refine XE.ret_then ?_
  refine XE.leaveT Try.results21 (res_tmp rfl (res_tmp rfl res_nil)) ?_
  refine ⟨rfl, (((Mod.refl [] w).nt m1).nt m2)⟩

set_option maxRecDepth 100000 in
set_option maxHeartbeats 2000000 in
theorem c_iSil_bad (n : Nat) (c : Nat) (b : Nat) (xs : List Nat) (j : Int) (tk : Int) (tc0 : Nat) (tc1 : Nat) (tc2 : Nat) (ts0 : Nat) (ts1 : Nat) (dk : Int) (dc0 : Nat) (dc1 : Nat) (dc2 : Nat) (ds0 : Nat) (ds1 : Nat) (g : Nat) (cn_ : Int) (ln : xs.length = n) (hn : n ≤ 1048576) (lts0 : ts0 < wid .f32) (lts1 : ts1 < wid .f32) (lds0 : ds0 < wid .f32) (lds1 : ds1 < wid .f32) (hv : vStr n j tk tc0 tc1 tc2 ts0 ts1 dk dc0 dc1 dc2 ds0 ds1 g = false) (w : World) (r : Rng w b 0 (fl xs)) : Cl Try.prog 21 #[.agg #[vS b 0 n c, vI j, vI tk, vF tc0, vF tc1, vF tc2, vF ts0, vF ts1, vI dk, vF dc0, vF dc1, vF dc2, vF ds0, vF ds1, vF g], vI cn_] w fun v w' => v = .tuple #[vI 0, vI 1] ∧ Mod [] w w' := by
  refine Cl.of Try.func21 Try.ntmps21 rfl rfl (ρ := [(0, .agg #[vS b 0 n c, vI j, vI tk, vF tc0, vF tc1, vF tc2, vF ts0, vF ts1, vI dk, vF dc0, vF dc1, vF dc2, vF ds0, vF ds1, vF g]), (1, vI cn_)]) rfl ?_
  refine CE.seq ?_
  refine CE.region ?_
  refine WL.op (op_box (cs := [vS b 0 n c, vI j, vI tk, vF tc0, vF tc1, vF tc2, vF ts0, vF ts1, vI dk, vF dc0, vF dc1, vF dc2, vF ds0, vF ds1, vF g]) rfl rfl) rfl rfl (ltb rfl) ?_
  rintro _ w1 ⟨rfl, r1, m1, z1⟩
  refine WL.det (op_assign rfl) rfl rfl rfl ?_
  refine WL.det (op_assign rfl) rfl rfl rfl ?_
  refine WL.end ?_
  refine NE.code ?_
  refine CE.seq ?_
  refine CE.block ?_
  refine CE.seq ?_
  refine CE.region ?_
  refine WL.det (op_loadA (i := 0) (cs := [vS b 0 n c, vI j, vI tk, vF tc0, vF tc1, vF tc2, vF ts0, vF ts1, vI dk, vF dc0, vF dc1, vF dc2, vF ds0, vF ds1, vF g]) rfl Try.isAgg33 Try.sizeOf33 r1.rng rfl rfl rfl) rfl rfl rfl ?_
  refine WL.call (oc_call (vs := [.agg #[vS b 0 n c, vI j, vI tk, vF tc0, vF tc1, vF tc2, vF ts0, vF ts1, vI dk, vF dc0, vF dc1, vF dc2, vF ds0, vF ds1, vF g]]) (cap := []) rfl rfl rfl Try.call63 (c_ValidString n c (some ⟨b, 0, none⟩) j tk tc0 tc1 tc2 ts0 ts1 dk dc0 dc1 dc2 ds0 ds1 g (by omega) w1)) rfl rfl (ltb rfl) ?_
  rintro _ w2 ⟨rfl, m2⟩
  refine WL.det (op_not rfl) rfl rfl rfl ?_
  refine WL.det (op_assign rfl) rfl rfl rfl ?_
  refine WL.end ?_
  refine NE.code ?_
  refine CE.cond_t rfl (bnot_f hv) ?_
  refine CE.seq ?_
  refine CE.region ?_
  refine WL.det (op_assign rfl) rfl rfl rfl ?_
  refine WL.det (op_assign rfl) rfl rfl rfl ?_
  refine WL.end ?_
  refine NE.code ?_
  refine CE.ret' ?_
  refine XE.ret_blk ?_
  refine XE.ret_then ?_
  refine XE.leaveT Try.results21 (res_tmp rfl (res_tmp rfl res_nil)) ?_
  refine ⟨rfl, (((Mod.refl [] w).nt m1).nt m2)⟩

end Go.Proofs.Ytabfdgpldcegiaa
