/- When a pipe is silent: the reference. -/
import Derived.Test.YtnahhdnkbbdceaaT4
import Derived.Test.YtnahhdnkbbdceaaE22
import Derived.Test.YtnahhdnkbbdceaaB4
set_option linter.unusedVariables false
set_option linter.unusedSimpArgs false
set_option maxRecDepth 100000
set_option maxHeartbeats 8000000
namespace Go.Proofs.Ytnahhdnkbbdceaa

/-- the first `n` words are 0 -/
def zeroF (xs : List Nat) (n : Nat) : Bool := (List.range n).all fun j => fEq .f32 (xs.getD j 0) 0
theorem zeroF_step {xs : List Nat} {n : Nat} (h : zeroF xs n = true) (h2 : fEq .f32 (xs.getD n 0) 0 = true) : zeroF xs (n + 1) = true := by
  unfold zeroF at *
  rw [List.range_succ, List.all_append, h]; simpa using h2
theorem zeroF_out {xs : List Nat} {i n : Nat} (hi : i < n) (h2 : fEq .f32 (xs.getD i 0) 0 = false) : zeroF xs n = false := by
  unfold zeroF
  rw [List.all_eq_false]
  exact ⟨i, by simpa using hi, by simpa using h2⟩
theorem zeroF_get {xs : List Nat} {i n : Nat} (h : zeroF xs n = true) (hi : i < n) : fEq .f32 (xs.getD i 0) 0 = true := List.all_eq_true.1 h i (by simpa using hi)
/-- the newest `r` samples of a ring are 0, and the one before them is not -/
structure QI (n : Nat) (xs : List Nat) (i r : Nat) : Prop where
  zero : ∀ j, 1 ≤ j → j ≤ r → j ≤ n → fEq .f32 (xs.getD ((i + n - j) % n) 0) 0 = true
  last : r < n → fEq .f32 (xs.getD ((i + n - (r + 1)) % n) 0) 0 = false
theorem QI.step {n : Nat} {xs : List Nat} {i e : Nat} (h : ∀ j, 1 ≤ j → j ≤ e → fEq .f32 (xs.getD ((i + n - j) % n) 0) 0 = true) (h' : fEq .f32 (xs.getD ((i + n - (e + 1)) % n) 0) 0 = true) : ∀ j, 1 ≤ j → j ≤ e + 1 → fEq .f32 (xs.getD ((i + n - j) % n) 0) 0 = true := fun j h1 h2 => by
  rcases Nat.lt_or_ge e j with c | c
  · obtain rfl : j = e + 1 := by omega
    exact h'
  · exact h j h1 c
theorem QI.of {n : Nat} {xs : List Nat} {i r : Nat} (h : ∀ j, 1 ≤ j → j ≤ r → fEq .f32 (xs.getD ((i + n - j) % n) 0) 0 = true) (k : r < n → fEq .f32 (xs.getD ((i + n - (r + 1)) % n) 0) 0 = false) : QI n xs i r := ⟨fun j a b _ => h j a b, k⟩
theorem back_ne {n i j : Nat} (hi : i < n) (h1 : 1 ≤ j) (h2 : j < n) : (i + n - j) % n ≠ i := by
  intro h
  rcases Nat.lt_or_ge i j with c | c
  · rw [Nat.mod_eq_of_lt (by omega)] at h; omega
  · rw [show i + n - j = (i - j) + n by omega, Nat.add_mod_right, Nat.mod_eq_of_lt (by omega)] at h; omega
theorem back_next {n i j : Nat} (hi : i < n) (h1 : 1 ≤ j) (h2 : j ≤ n) : ((i + 1) % n + n - (j + 1)) % n = (i + n - j) % n ∨ j = n := by
  rcases Nat.lt_or_ge (i + 1) n with c | c
  · rw [Nat.mod_eq_of_lt c]
    by_cases e : j = n
    · exact .inr e
    · left; congr 1; omega
  · have e : i + 1 = n := by omega
    rw [e, Nat.mod_self]
    by_cases e' : j = n
    · exact .inr e'
    · left
      rw [show i + n - j = (0 + n - (j + 1)) + n by omega, Nat.add_mod_right]
theorem back_one {n i : Nat} (hi : i < n) : ((i + 1) % n + n - 1) % n = i := by
  rcases Nat.lt_or_ge (i + 1) n with c | c
  · rw [Nat.mod_eq_of_lt c, show i + 1 + n - 1 = i + n by omega, Nat.add_mod_right, Nat.mod_eq_of_lt hi]
  · have e : i + 1 = n := by omega
    rw [e, Nat.mod_self, Nat.mod_eq_of_lt (by omega)]; omega
theorem QI.down {n : Nat} {xs : List Nat} {i : Nat} (h : fEq .f32 (xs.getD ((i + n - 1) % n) 0) 0 = false) : QI n xs i 0 := ⟨fun j a b => absurd b (by omega), fun _ => h⟩
theorem QI.up {n : Nat} {xs : List Nat} {i r a : Nat} (h : QI n xs i r) (hi : i < n) (hl : xs.length = n) (h0 : fEq .f32 ((xs.set i a).getD (((i + 1) % n + n - 1) % n) 0) 0 = true) : QI n (xs.set i a) ((i + 1) % n) (r + 1) := by
  have other : ∀ j, 1 ≤ j → j < n → (xs.set i a).getD (((i + 1) % n + n - (j + 1)) % n) 0 = xs.getD ((i + n - j) % n) 0 := fun j h1 h2 => by
    rcases back_next hi h1 (Nat.le_of_lt h2) with e | e
    · rw [e, List.getD_eq_getElem?_getD, List.getElem?_set_ne (Ne.symm (back_ne hi h1 h2)), List.getD_eq_getElem?_getD]
    · omega
  refine ⟨fun j a1 a2 a3 => ?_, fun hr => ?_⟩
  · rcases Nat.lt_or_ge 1 j with c | c
    · obtain ⟨j, rfl⟩ : ∃ k, j = k + 1 := ⟨j - 1, by omega⟩
      rw [other j (by omega) (by omega)]
      exact h.zero j (by omega) (by omega) (by omega)
    · obtain rfl : j = 1 := by omega
      exact h0
  · rw [other (r + 1) (by omega) (by omega)]
    exact h.last (by omega)
theorem QI.all {n : Nat} {xs : List Nat} {i r : Nat} (h : QI n xs i r) (hi : i < n) : zeroF xs n = decide (((n : Nat) : Int) ≤ ((r : Nat) : Int)) := by
  by_cases c : n ≤ r
  · have : decide (((n : Nat) : Int) ≤ ((r : Nat) : Int)) = true := by simpa using c
    rw [this]
    unfold zeroF
    rw [List.all_eq_true]
    intro m hm
    have hm' : m < n := by simpa using hm
    rcases Nat.lt_or_ge m i with d | d
    · have := h.zero (i - m) (by omega) (by omega) (by omega)
      rwa [show i + n - (i - m) = m + n by omega, Nat.add_mod_right, Nat.mod_eq_of_lt hm'] at this
    · have := h.zero (i + n - m) (by omega) (by omega) (by omega)
      rwa [show i + n - (i + n - m) = m by omega, Nat.mod_eq_of_lt hm'] at this
  · have : decide (((n : Nat) : Int) ≤ ((r : Nat) : Int)) = false := by simpa using c
    rw [this]
    exact zeroF_out (Nat.mod_lt _ (by omega)) (h.last (by omega))
theorem rng_len0 {w : World} {b o : Nat} {xs : List Nat} (h : xs.length = 0) : Rng w b o (fl xs) := by rw [List.eq_nil_of_length_eq_zero h]; exact Rng.nil _ _ _
def runF (c : Bool) (u : Nat) : Nat := if c then u + 1 else 0
theorem runF_t {c : Bool} (h : c = true) (u : Nat) : runF c u = u + 1 := by rw [runF, if_pos h]
theorem runF_f {c : Bool} (h : c = false) (u : Nat) : runF c u = 0 := by rw [runF, if_neg (by simp [h])]
theorem runF_le (c : Bool) (u : Nat) : runF c u ≤ u + 1 := by unfold runF; split <;> omega
theorem QI.run {n : Nat} {xs : List Nat} {i r a : Nat} (h : QI n xs i r) (hi : i < n) (hl : xs.length = n) : QI n (xs.set i a) ((i + 1) % n) (runF (fEq .f32 ((xs.set i a).getD (((i + 1) % n + n - 1) % n) 0) 0) r) := by
  cases h0 : fEq .f32 ((xs.set i a).getD (((i + 1) % n + n - 1) % n) 0) 0
  · rw [runF_f rfl]; exact QI.down h0
  · rw [runF_t rfl]; exact QI.up h hi hl h0
/-- the newest `r` samples of ring `m` are 0, and the one before them is not -/
def QD (D : List RD) (m r : Nat) : Prop := QI (D.getD m RD.d).xs.length (D.getD m RD.d).xs (D.getD m RD.d).at_.toNat r
/-- the newest sample of ring `m` -/
def lastD (D : List RD) (m : Nat) : Nat := (D.getD m RD.d).xs.getD (((D.getD m RD.d).at_.toNat + (D.getD m RD.d).xs.length - 1) % (D.getD m RD.d).xs.length) 0
/-- ring `m` is as before behind one further sample -/
def Pushed (D D' : List RD) (m : Nat) : Prop := ∃ a, D'.getD m RD.d = ⟨(D.getD m RD.d).xs.set (D.getD m RD.d).at_.toNat a, ((((D.getD m RD.d).at_.toNat + 1) % (D.getD m RD.d).xs.length : Nat) : Int)⟩
theorem QD.run {D D' : List RD} {m n r : Nat} (h : QD D m r) (g : GoodD D n) (hm : m < n) (p : Pushed D D' m) : QD D' m (runF (fEq .f32 (lastD D' m) 0) r) := by
  obtain ⟨a, e⟩ := p
  unfold QD lastD
  rw [e]
  have h1 := g.ge m hm
  have h2 := g.lt m hm
  have := QI.run (a := a) h (by omega) rfl
  simp only [List.length_set, Int.toNat_natCast]
  exact this
theorem QD.dec {D : List RD} {m n r : Nat} (h : QD D m r) (g : GoodD D n) (hm : m < n) : decide ((((D.getD m RD.d).xs.length : Nat) : Int) ≤ ((r : Nat) : Int)) = zeroF (D.getD m RD.d).xs (D.getD m RD.d).xs.length := by
  have h1 := g.ge m hm
  have h2 := g.lt m hm
  exact (QI.all h (by omega)).symm
section
variable {R L : List RD} {xS : List Nat} {re sl x n m q : Nat} {op : Bool} {lo y : Nat}
theorem stR_gt : ∀ {q : Nat}, q < m → (stR R L xS re sl x q).getD m RD.d = R.getD m RD.d
  | 0, h => pushD_other (by omega)
  | q + 1, h => (pushD_other (by omega)).trans (stR_gt (by omega))
theorem stR_pushed (hl : R.length = n) : ∀ {q : Nat}, m ≤ q → q < n → Pushed R (stR R L xS re sl x q) m
  | 0, h, hq => by
    obtain rfl : m = 0 := by omega
    exact ⟨_, pushD_same (by omega)⟩
  | q + 1, h, hq => by
    by_cases e : m = q + 1
    · subst e
      refine ⟨keptF (fop .add .f32 (oldD R q) (scatT R L xS q)), (pushD_same (by rw [stR_len hl]; exact hq)).trans ?_⟩
      rw [stR_gt (Nat.lt_succ_self q)]
    · obtain ⟨a, ha⟩ := stR_pushed hl (q := q) (by omega) (by omega)
      exact ⟨a, (pushD_other (by omega)).trans ha⟩
theorem stL_ge : ∀ {q : Nat}, q ≤ m → (stL R L xS q).getD m RD.d = L.getD m RD.d
  | 0, _ => rfl
  | q + 1, h => (pushD_other (by omega)).trans (stL_ge (by omega))
theorem stL_pushed (hl : L.length = n) : ∀ {q : Nat}, m < q → q ≤ n → Pushed L (stL R L xS q) m
  | q + 1, h, hq => by
    by_cases e : m = q
    · subst e
      refine ⟨keptF (fop .add .f32 (oldD L (m + 1)) (scatT R L xS m)), (pushD_same (by rw [stL_len hl]; exact hq)).trans ?_⟩
      rw [stL_ge (Nat.le_refl _)]
    · obtain ⟨a, ha⟩ := stL_pushed hl (q := q) (by omega) (by omega)
      exact ⟨a, (pushD_other (by omega)).trans ha⟩
theorem endL_pushed (hl : L.length = n) (hq : q + 1 = n) (hm : m < n) : Pushed L (endL R L xS op lo y n q) m := by
  unfold endL
  by_cases e : m = n - 1
  · subst e
    refine ⟨keptF (backT op lo y), (pushD_same (by rw [stL_len hl]; omega)).trans ?_⟩
    rw [stL_ge (by omega)]
  · obtain ⟨a, ha⟩ := stL_pushed (R := R) (xS := xS) hl (q := q) (m := m) (by omega) (by omega)
    exact ⟨a, (pushD_other (by omega)).trans ha⟩
end
/-- the first `n` rings are silent -/
def zeroD (D : List RD) : Nat → Bool
  | 0 => true
  | i + 1 => zeroD D i && zeroF (D.getD i RD.d).xs (D.getD i RD.d).xs.length
theorem zeroD_out {D : List RD} {i n : Nat} (hi : i < n) (h : zeroF (D.getD i RD.d).xs (D.getD i RD.d).xs.length = false) : zeroD D n = false := out_of (fun _ => rfl) hi h
def pipeSil (n m : Nat) (z : PipeSt) : Bool := zeroD z.R n && (zeroD z.L m && stillF z.s0 z.s1)
section
variable {z : PipeSt} {u0 u1 u2 u3 u4 u5 : Nat}
theorem sil1 (gR : GoodD z.R 1) (gL : GoodD z.L 1) (q0 : QD z.R 0 u0) (q1 : QD z.L 0 u1) : ((stillF z.s0 z.s1 && decide ((((z.R.getD 0 RD.d).xs.length : Nat) : Int) ≤ ((u0 : Nat) : Int))) && decide ((((z.L.getD 0 RD.d).xs.length : Nat) : Int) ≤ ((u1 : Nat) : Int))) = pipeSil 1 1 z := by
  rw [q0.dec gR (by decide), q1.dec gL (by decide)]
  exact (by decide : ∀ a b c : Bool, ((a && b) && c) = ((true && b) && ((true && c) && a))) _ _ _
end
/-- behind how many steps there is silence, and the code of the answer -/
def silG (sil : Nat → Bool) : Nat → Nat → Int × Int
  | 0, _ => (0, 7)
  | k + 1, i => if sil i then ((i : Int), 0) else silG sil k (i + 1)
section
variable {sil : Nat → Bool} {k k' i : Nat} {R : Int × Int}
theorem silG_next (he : silG sil k i = R) (h : sil i = false) (hk : 0 < k) (hk' : k' = k - 1) : silG sil k' (i + 1) = R := by
  subst hk' he
  cases k with
  | zero => omega
  | succ k => simp [silG, h]
theorem silG_yes (h : sil i = true) (hk : 0 < k) : silG sil k i = ((i : Int), 0) := by
  cases k with
  | zero => omega
  | succ k => simp [silG, h]
theorem silG_no (hk : k = 0) : silG sil k i = (0, 7) := by subst hk; rfl
end

theorem c_l04Zero (n : Nat) (c : Nat) (b : Nat) (D : List RD) (P : List BC) (lo : Nat) (lD : D.length = n) (lP : P.length = n) (hz : ∀ i, (D.getD i RD.d).xs.length ≤ 1048576) (hn : n ≤ 1048576) (w : World) (r : Rng w b 0 (olc D P))  (F : OF lo w D P) : Cl Try.prog 123 #[vS b 0 n c] w fun v w' => v = .bool (zeroD D n) ∧ Mod [] w w' := by
 refine Cl.of Try.func123 Try.ntmps123 rfl rfl (ρ := [(0, vS b 0 n c)]) rfl ?_
 refine CE.seq (CE.region ?_)
 refine WL.det (op_assign rfl) rfl rfl rfl ?_
 refine WL.end (NE.code (CE.seq (CE.seq (CE.region ?_))))
 refine WL.det (op_assign rfl) rfl rfl rfl ?_
 refine WL.end (NE.code (CE.block ?_))
 refine CE.loop (fun (i : Nat) => [(3, vI ((i : Nat) : Int)), (0, vS b 0 n c), (2, .bool false)]) (fun (i : Nat) => fun W => (i ≤ n) ∧ (zeroD D i = true) ∧ Mod [] w W) (fun (i : Nat) => n - i) 0 (⟨rfl, rfl, rfl, trivial⟩) ⟨(by omega), (by rfl), Mod.refl _ _⟩ ?_
 rintro i w1 ⟨hi, hu, m1⟩
 have hzi := hz i
 show CE _ _ _ _ [(3, vI ((i : Nat) : Int)), (0, vS b 0 n c), (2, .bool false)] _
 refine CE.seq (CE.seq (CE.region ?_))
 iterate 2 refine WL.det (op_move rfl) rfl rfl rfl ?_
 refine WL.det (op_len rfl Try.runUnderlying25) rfl rfl rfl ?_
 refine WL.det (op_lti rfl rfl) rfl rfl rfl ?_
 refine WL.end (NE.code ?_)
 rcases Bool.eq_false_or_eq_true (decide (((i : Nat) : Int) < ((n : Nat) : Int))) with hb1 | hb1
 ·have hp1 := of_decide_eq_true hb1
  refine CE.cond_t rfl hb1 ?_
  refine CE.skip' (NE.code (CE.seq (CE.block (CE.seq (CE.region ?_)))))
  refine WL.det (op_assign rfl) rfl rfl rfl ?_
  refine WL.end (NE.code (CE.block ?_))
  refine CE.loop (fun (kk : Nat) => [(4, vI ((kk : Nat) : Int)), (3, vI ((i : Nat) : Int)), (0, vS b 0 n c), (2, .bool false)]) (fun (kk : Nat) => fun W => (kk ≤ (D.getD i RD.d).xs.length) ∧ (zeroF (D.getD i RD.d).xs kk = true) ∧ Mod [] w1 W) (fun (kk : Nat) => (D.getD i RD.d).xs.length - kk) 0 (⟨rfl, rfl, rfl, rfl, trivial⟩) ⟨(by omega), (by rfl), Mod.refl _ _⟩ ?_
  rintro kk w2 ⟨hk, hv, m2⟩
  show CE _ _ _ _ [(4, vI ((kk : Nat) : Int)), (3, vI ((i : Nat) : Int)), (0, vS b 0 n c), (2, .bool false)] _
  refine CE.seq (CE.seq (CE.region ?_))
  iterate 3 refine WL.det (op_move rfl) rfl rfl rfl ?_
  refine WL.det (op_indexSl (off' := 0 + i * 2) rfl rfl rfl Try.runUnderlying25 Try.sizeOf60 (by omega) (by omega) (by omega)) rfl rfl rfl ?_
  refine WL.det (op_fieldAddr (off' := 0 + i * 2) rfl Try.runUnderlying60 rfl rfl Try.sizeOf26 rfl) rfl rfl rfl ?_
  refine WL.det (op_load1 (i := i * 2) rfl Try.isAgg26 ((r.ext m1).ext m2) rfl (olc_get0 lD lP (show i < n by omega))) rfl rfl rfl ?_
  refine WL.det (op_len rfl Try.runUnderlying26) rfl rfl rfl ?_
  refine WL.det (op_lti rfl rfl) rfl rfl rfl ?_
  refine WL.end (NE.code ?_)
  rcases Bool.eq_false_or_eq_true (decide (((kk : Nat) : Int) < (((D.getD i RD.d).xs.length : Nat) : Int))) with hb2 | hb2
  ·have hp2 := of_decide_eq_true hb2
   refine CE.cond_t rfl hb2 ?_
   refine CE.skip' (NE.code (CE.seq (CE.block (CE.seq (CE.region ?_)))))
   iterate 2 refine WL.det (op_move rfl) rfl rfl rfl ?_
   refine WL.det (op_indexSl (off' := 0 + i * 2) rfl rfl rfl Try.runUnderlying25 Try.sizeOf60 (by omega) (by omega) (by omega)) rfl rfl rfl ?_
   refine WL.det (op_fieldAddr (off' := 0 + i * 2) rfl Try.runUnderlying60 rfl rfl Try.sizeOf26 rfl) rfl rfl rfl ?_
   refine WL.det (op_load1 (i := i * 2) rfl Try.isAgg26 ((r.ext m1).ext m2) rfl (olc_get0 lD lP (show i < n by omega))) rfl rfl rfl ?_
   refine WL.det (op_move rfl) rfl rfl rfl ?_
   refine WL.det (op_indexSl (off' := 0 + kk) rfl rfl rfl Try.runUnderlying26 Try.sizeOf27 (by omega) (by omega) (by omega)) rfl rfl rfl ?_
   refine WL.det (op_load1 (i := kk) rfl Try.isAgg27 (((OF.row F i (Nat.lt_of_lt_of_eq (show i < n by omega) lD.symm)).ext m1).ext m2).rng rfl (fl_get (by have eL : List.length ((D.getD i RD.d).xs) = (D.getD i RD.d).xs.length := rfl; omega))) rfl rfl rfl ?_
   refine WL.det (op_fne (c := !(fEq .f32 (((D.getD i RD.d).xs).getD kk 0) 0)) rfl rfl rfl rfl rfl) rfl rfl rfl ?_
   refine WL.end (NE.code ?_)
   rcases Bool.eq_false_or_eq_true (fEq .f32 (((D.getD i RD.d).xs).getD kk 0) 0) with hb3 | hb3
   ·refine CE.cond_f rfl (bnot_t hb3) ?_
    refine CE.skip' (NE.blk (NE.code (CE.region ?_)))
    refine WL.det (op_move rfl) rfl rfl rfl ?_
    refine WL.det (op_add (r := ((kk + 1 : Nat) : Int)) rfl rfl (w_i64 (by omega) (by omega))) rfl rfl rfl ?_
    refine WL.det (op_assign rfl) rfl rfl rfl ?_
    refine WL.end ?_
    exact NE.again (kk + 1) (⟨rfl, rfl, rfl, rfl, trivial⟩) ⟨(by omega), (by exact zeroF_step hv (by simp_all)), m2⟩ (by first | (dsimp only; omega) | omega)
   ·refine CE.cond_t rfl (bnot_f hb3) ?_
    refine CE.seq (CE.region ?_)
    refine WL.det (op_assign rfl) rfl rfl rfl ?_
    refine WL.end (NE.code (CE.ret' (XE.ret_blk (XE.ret_then (XE.ret_then (XE.ret_blk (XE.ret_blk (XE.ret_then (XE.ret_then (XE.ret_blk (XE.ret_then ?_)))))))))))
    refine XE.leave1 Try.results123 rfl ?_
    refine ⟨?_, (((Mod.refl [] w).nt m1).nt m2)⟩
    all_goals first | (rw [zeroD_out (i := i) (by omega) (zeroF_out (i := kk) (by omega) (by simp_all))]; done) | (have e : i = n := (by omega); subst e; rw [hu])
  ·have hp2 := of_decide_eq_false hb2
   refine CE.cond_f rfl hb2 ?_
   refine CE.exit' (XE.exit_then (XE.exit_then (XE.exit_here (NE.blk (NE.code (CE.region ?_))))))
   refine WL.det (op_move rfl) rfl rfl rfl ?_
   refine WL.det (op_add (r := ((i + 1 : Nat) : Int)) rfl rfl (w_i64 (by omega) (by omega))) rfl rfl rfl ?_
   refine WL.det (op_assign rfl) rfl rfl rfl ?_
   refine WL.end ?_
   exact NE.again (i + 1) (⟨rfl, rfl, rfl, trivial⟩) ⟨(by omega), (by simp only [zeroD, hu, Bool.true_and]; first | exact hv | (have e2 : kk = (D.getD i RD.d).xs.length := (by omega); rw [← e2]; exact hv)), (m1.nt m2)⟩ (by first | (dsimp only; omega) | omega)
 ·have hp1 := of_decide_eq_false hb1
  refine CE.cond_f rfl hb1 ?_
  refine CE.exit' (XE.exit_then (XE.exit_then (XE.exit_here (NE.code (CE.seq (CE.region ?_))))))
  refine WL.det (op_assign rfl) rfl rfl rfl ?_
  refine WL.end (NE.code (CE.ret' ?_))
  refine XE.leave1 Try.results123 rfl ?_
  refine ⟨?_, ((Mod.refl [] w).nt m1)⟩
  all_goals first | (rw [zeroD_out (i := i) (by omega) (zeroF_out (i := kk) (by omega) (by simp_all))]; done) | (have e : i = n := (by omega); subst e; rw [hu])

theorem c_l04Silent (nR : Nat) (GR : List RD) (nL : Nat) (GL : List RD) (nS : Nat) (xS : List Nat) (cR : Nat) (bR : Nat) (PR : List BC) (loR : Nat) (cL : Nat) (bL : Nat) (PL : List BC) (loL : Nat) (cS : Nat) (bS : Nat) (k : Int) (kc0 : Nat) (kc1 : Nat) (kc2 : Nat) (ks0 : Nat) (ks1 : Nat) (op : Bool) (lo : Nat) (re : Nat) (sl : Nat) (p : Nat) (lDR : GR.length = nR) (lDL : GL.length = nL) (lnS : xS.length = nS) (hzR : ∀ i, (GR.getD i RD.d).xs.length ≤ 1048576) (hzL : ∀ i, (GL.getD i RD.d).xs.length ≤ 1048576) (lPR : PR.length = nR) (lPL : PL.length = nL) (mR : nR ≤ 1048576) (mL : nL ≤ 1048576) (mS : nS ≤ 1048576) (w : World) (q : Rng w p 0 [vS bR 0 nR cR, vS bL 0 nL cL, vS bS 0 nS cS, vI k, vF kc0, vF kc1, vF kc2, vF ks0, vF ks1, .bool op, vF lo, vF re, vF sl]) (rR : Rng w bR 0 (olc GR PR)) (rL : Rng w bL 0 (olc GL PL)) (rS : Rng w bS 0 (fl xS))  (FR : OF loR w GR PR) (FL : OF loL w GL PL) : Cl Try.prog 70 #[vP p 0] w fun v w' => v = .bool (zeroD GR nR && (zeroD GL nL && stillF ks0 ks1)) ∧ Mod [] w w' := by
 refine Cl.of Try.func70 Try.ntmps70 rfl rfl (ρ := [(0, vP p 0)]) rfl ?_
 refine CE.seq (CE.region ?_)
 refine WL.det (op_assign rfl) rfl rfl rfl ?_
 refine WL.end (NE.code (CE.seq (CE.region ?_)))
 refine WL.det (op_move rfl) rfl rfl rfl ?_
 refine WL.det (op_nilCheck rfl) rfl rfl rfl ?_
 refine WL.det (op_fieldAddr (off' := 0) rfl Try.runUnderlying33 rfl rfl Try.sizeOf25 rfl) rfl rfl rfl ?_
 refine WL.det (op_load1 (i := 0) rfl Try.isAgg25 q rfl rfl) rfl rfl rfl ?_
 refine WL.call (oc_call (vs := [vS bR 0 nR cR]) (cap := []) rfl rfl rfl Try.call123 (c_l04Zero nR cR bR GR PR loR lDR lPR (by first | assumption | exact rd_small (by assumption) (by assumption) | exact markD_small (by first | assumption | exact rd_small (by assumption) (by assumption)) _) (by omega) w rR FR)) rfl rfl (ltb rfl) ?_
 rintro _ w1 ⟨rfl, m1⟩
 refine WL.det (op_move rfl) rfl rfl rfl ?_
 rcases Bool.eq_false_or_eq_true (zeroD GR nR) with hb1 | hb1
 ·refine WL.yes rfl rfl rfl (ltb rfl) rfl hb1 ?_
  refine WL.det (op_move rfl) rfl rfl rfl ?_
  refine WL.yes rfl rfl rfl (ltb rfl) rfl hb1 ?_
  refine WL.det (op_nilCheck rfl) rfl rfl rfl ?_
  refine WL.yes rfl rfl rfl (ltb rfl) rfl hb1 ?_
  refine WL.det (op_fieldAddr (off' := 1) rfl Try.runUnderlying33 rfl rfl Try.sizeOf25 rfl) rfl rfl rfl ?_
  refine WL.yes rfl rfl rfl (ltb rfl) rfl hb1 ?_
  refine WL.det (op_load1 (i := 1) rfl Try.isAgg25 (q.ext m1) rfl rfl) rfl rfl rfl ?_
  refine WL.yes rfl rfl rfl (ltb rfl) rfl hb1 ?_
  refine WL.call (oc_call (vs := [vS bL 0 nL cL]) (cap := []) rfl rfl rfl Try.call123 (c_l04Zero nL cL bL GL PL loL lDL lPL (by first | assumption | exact rd_small (by assumption) (by assumption) | exact markD_small (by first | assumption | exact rd_small (by assumption) (by assumption)) _) (by omega) w1 (rL.ext m1) (FL.ext m1))) rfl rfl (ltb rfl) ?_
  rintro _ w2 ⟨rfl, m2⟩
  refine WL.det (op_pick_t rfl hb1 rfl) rfl rfl rfl ?_
  refine WL.det (op_move rfl) rfl rfl rfl ?_
  rcases Bool.eq_false_or_eq_true (zeroD GL nL) with hb2 | hb2
  ·refine WL.yes rfl rfl rfl (ltb rfl) rfl hb2 ?_
   refine WL.det (op_move rfl) rfl rfl rfl ?_
   refine WL.yes rfl rfl rfl (ltb rfl) rfl hb2 ?_
   refine WL.det (op_nilCheck rfl) rfl rfl rfl ?_
   refine WL.yes rfl rfl rfl (ltb rfl) rfl hb2 ?_
   refine WL.det (op_fieldAddr (off' := 3) rfl Try.runUnderlying33 rfl rfl Try.sizeOf31 rfl) rfl rfl rfl ?_
   refine WL.yes rfl rfl rfl (ltb rfl) rfl hb2 ?_
   refine WL.call (oc_call (vs := [vP p 3]) (cap := []) rfl rfl rfl Try.call124 (c_l02Still k kc0 kc1 kc2 ks0 ks1 p 3 [vS bR 0 nR cR, vS bL 0 nL cL, vS bS 0 nS cS, vI k, vF kc0, vF kc1, vF kc2, vF ks0, vF ks1, .bool op, vF lo, vF re, vF sl] (lB rfl) w2 (Rng.congr ((q.ext m1).ext m2) rfl))) rfl rfl (ltb rfl) ?_
   rintro _ _ ⟨rfl, rfl⟩
   refine WL.det (op_pick_t rfl hb2 rfl) rfl rfl rfl ?_
   refine WL.det (op_assign rfl) rfl rfl rfl ?_
   refine WL.end (NE.code (CE.ret' ?_))
   refine XE.leave1 Try.results70 rfl ?_
   refine ⟨?_, (((Mod.refl [] w).nt m1).nt m2)⟩
   all_goals simp_all
  ·refine WL.no rfl rfl rfl (ltb rfl) rfl hb2 rfl (ltb rfl) ?_
   iterate 3 refine WL.no rfl rfl rfl (ltb rfl) rfl hb2 rfl (ltb rfl) ?_
   refine WL.det (op_pick_f rfl hb2 rfl) rfl rfl rfl ?_
   refine WL.det (op_assign rfl) rfl rfl rfl ?_
   refine WL.end (NE.code (CE.ret' ?_))
   refine XE.leave1 Try.results70 rfl ?_
   refine ⟨?_, (((Mod.refl [] w).nt m1).nt m2)⟩
   all_goals simp_all
 ·refine WL.no rfl rfl rfl (ltb rfl) rfl hb1 rfl (ltb rfl) ?_
  iterate 4 refine WL.no rfl rfl rfl (ltb rfl) rfl hb1 rfl (ltb rfl) ?_
  refine WL.det (op_pick_f rfl hb1 rfl) rfl rfl rfl ?_
  refine WL.det (op_move rfl) rfl rfl rfl ?_
  iterate 4 refine WL.no rfl rfl rfl (ltb rfl) rfl rfl rfl (ltb rfl) ?_
  refine WL.det (op_pick_f rfl rfl rfl) rfl rfl rfl ?_
  refine WL.det (op_assign rfl) rfl rfl rfl ?_
  refine WL.end (NE.code (CE.ret' ?_))
  refine XE.leave1 Try.results70 rfl ?_
  refine ⟨?_, ((Mod.refl [] w).nt m1)⟩
  all_goals simp_all

theorem c_sSilP0 (nR : Nat) (GR : List RD) (nL : Nat) (GL : List RD) (xS : List Nat) (cR : Nat) (bR : Nat) (PR : List BC) (loR : Nat) (cL : Nat) (bL : Nat) (PL : List BC) (loL : Nat) (cS : Nat) (bS : Nat) (k : Int) (kc0 : Nat) (kc1 : Nat) (kc2 : Nat) (ks0 : Nat) (ks1 : Nat) (op : Bool) (lo : Nat) (re : Nat) (sl : Nat) (most : Nat) (rv : Int × Int) (lDR : GR.length = nR) (lDL : GL.length = nL) (lnS : xS.length = 0) (hzR : ∀ i, (GR.getD i RD.d).xs.length ≤ 1048576) (hzL : ∀ i, (GL.getD i RD.d).xs.length ≤ 1048576) (lPR : PR.length = nR) (lPL : PL.length = nL) (mR : nR ≤ 1048576) (mL : nL ≤ 1048576) (h0n : 0 < nR) (h0m : 0 < nL) (hpR : ∀ i, i < nR → 0 < (GR.getD i RD.d).xs.length) (hpL : ∀ i, i < nL → 0 < (GL.getD i RD.d).xs.length) (hs : 1 ≤ nR ∧ nR ≤ 3 ∧ nL = nR ∧ 0 + 1 = nR) (gR : GoodD GR nR) (gL : GoodD GL nL) (lks0 : ks0 < wid .f32) (lks1 : ks1 < wid .f32) (hm : most ≤ 100000) (hv : vPipe nR nL 0 GR GL xS k kc0 kc1 kc2 ks0 ks1 lo re sl = true) (erv : rv = silG (fun ii => pipeSil nR nL (pipeAt nR 0 xS k kc0 kc1 kc2 op lo re sl (PipeSt.mk GR GL ks0 ks1) (fun _ => 0) ii)) (most + 1) 0) (w : World) (rR : Rng w bR 0 (olc GR PR)) (rL : Rng w bL 0 (olc GL PL)) (rS : Rng w bS 0 (fl xS))  (FR : OF loR w GR PR) (FL : OF loL w GL PL) : Cl Try.prog 20 #[.agg #[vS bR 0 nR cR, vS bL 0 nL cL, vS bS 0 0 cS, vI k, vF kc0, vF kc1, vF kc2, vF ks0, vF ks1, .bool op, vF lo, vF re, vF sl], vI ((most : Nat) : Int)] w fun v w' => v = .tuple #[vI rv.1, vI rv.2] ∧ Mod [] w w' := by
 refine Cl.of Try.func20 Try.ntmps20 rfl rfl (ρ := [(0, .agg #[vS bR 0 nR cR, vS bL 0 nL cL, vS bS 0 0 cS, vI k, vF kc0, vF kc1, vF kc2, vF ks0, vF ks1, .bool op, vF lo, vF re, vF sl]), (1, vI ((most : Nat) : Int))]) rfl ?_
 refine CE.seq (CE.region ?_)
 refine WL.op (op_box (cs := [vS bR 0 nR cR, vS bL 0 nL cL, vS bS 0 0 cS, vI k, vF kc0, vF kc1, vF kc2, vF ks0, vF ks1, .bool op, vF lo, vF re, vF sl]) rfl rfl) rfl rfl (ltb rfl) ?_
 rintro _ w1 ⟨rfl, r1, m1, z1⟩
 iterate 2 refine WL.det (op_assign rfl) rfl rfl rfl ?_
 refine WL.end (NE.code (CE.seq (CE.seq (CE.region ?_))))
 refine WL.call (oc_call (vs := [vP w.heap.size 0]) (cap := []) rfl rfl rfl Try.call57 (c_l04OkS nR GR nL GL 0 xS cR bR PR loR cL bL PL loL cS bS k kc0 kc1 kc2 ks0 ks1 op lo re sl w.heap.size lDR lDL lnS (by first | assumption | exact rd_small (by assumption) (by assumption) | exact markD_small (by first | assumption | exact rd_small (by assumption) (by assumption)) _) (by first | assumption | exact rd_small (by assumption) (by assumption) | exact markD_small (by first | assumption | exact rd_small (by assumption) (by assumption)) _) lPR lPL (by first | assumption | omega) (by first | assumption | omega) (by first | assumption | omega) (by omega) w1 r1.rng (rR.ext m1) (rL.ext m1) (rS.ext m1) (FR.ext m1) (FL.ext m1))) rfl rfl (ltb rfl) ?_
 rintro _ w2 ⟨rfl, m2⟩
 refine WL.det (op_not rfl) rfl rfl rfl ?_
 refine WL.end (NE.code ?_)
 refine CE.cond_f rfl (bnot_t hv) ?_
 refine CE.skip' (NE.code (CE.seq (CE.seq (CE.region ?_))))
 refine WL.det (op_move rfl) rfl rfl rfl ?_
 refine WL.call (oc_call (vs := [vI ((most : Nat) : Int), vI 0, vI 100000]) (cap := []) rfl rfl rfl Try.call55 (c_l00In ((most : Nat) : Int) (0 : Int) (100000 : Int) w2)) rfl rfl (ltb rfl) ?_
 rintro _ _ ⟨rfl, rfl⟩
 refine WL.det (op_not rfl) rfl rfl rfl ?_
 refine WL.end (NE.code ?_)
 refine CE.cond_f rfl (bnot_t ((vIn_t _ _ _).2 ⟨by omega, by omega⟩)) ?_
 refine CE.skip' (NE.code (CE.seq (CE.region ?_)))
 refine WL.call (oc_call (vs := [vP w.heap.size 0]) (cap := []) rfl rfl rfl Try.call59 (c_l04CopyS0 nR GR nL GL xS cR bR PR loR cL bL PL loL cS bS k kc0 kc1 kc2 ks0 ks1 op lo re sl w.heap.size lDR lDL lnS (by first | assumption | exact rd_small (by assumption) (by assumption) | exact markD_small (by first | assumption | exact rd_small (by assumption) (by assumption)) _) (by first | assumption | exact rd_small (by assumption) (by assumption) | exact markD_small (by first | assumption | exact rd_small (by assumption) (by assumption)) _) lPR lPL (by first | assumption | omega) (by first | assumption | omega) (by omega) (by omega) (by first | assumption | exact vRings_pos (by assumption)) (by first | assumption | exact vRings_pos (by assumption)) w2 (r1.ext m2).rng ((rR.ext m1).ext m2) ((rL.ext m1).ext m2) ((rS.ext m1).ext m2) ((FR.ext m1).ext m2) ((FL.ext m1).ext m2))) rfl rfl (ltb rfl) ?_
 rintro _ w3 ⟨bR'1, cR'1, PR'1, bL'1, cL'1, PL'1, bS'1, cS'1, rfl, h1, h2, r2, r3, r4, ge1, ge2, ge3, ne1, ne2, ne3, fm1, fn1, fn2, fn3, fn4, fm2, fn5, fn6, fn7, m3⟩
 refine WL.op (op_alloc (cs := [.slice none 0 0, .slice none 0 0, .slice none 0 0, vI 0, vF 0, vF 0, vF 0, vF 0, vF 0, .bool false, vF 0, vF 0, vF 0]) Try.zeroValue33 rfl) rfl rfl (ltb rfl) ?_
 rintro _ w4 ⟨rfl, r5, m4, z2⟩
 refine WL.op0 (op_store (i := 0) (cs := [vS bR'1 0 nR cR'1, vS bL'1 0 nL cL'1, vS bS'1 0 0 cS'1, vI k, vF kc0, vF kc1, vF kc2, vF ks0, vF ks1, .bool op, vF lo, vF re, vF sl]) rfl rfl rfl Try.sizeOf33 rfl r5 rfl (lB rfl) rfl) rfl rfl ?_
 rintro _ w5 ⟨r6, m5, z3⟩
 have r7 : Row w5 w3.heap.size 0 [vS bR'1 0 nR cR'1, vS bL'1 0 nL cL'1, vS bS'1 0 0 cS'1, vI k, vF kc0, vF kc1, vF kc2, vF ks0, vF ks1, .bool op, vF lo, vF re, vF sl] := Row.congr r6 rfl
 refine WL.end (NE.code (CE.seq (CE.seq (CE.region ?_))))
 refine WL.det (op_assign rfl) rfl rfl rfl ?_
 refine WL.end (NE.code (CE.block ?_))
 refine CE.loop (fun (i : Nat) => [(7, vI ((i : Nat) : Int)), (1, vI ((most : Nat) : Int)), (4, vI 0), (5, vI 0), (6, vP w3.heap.size 0)]) (fun (i : Nat) => fun W => (i ≤ most + 1) ∧ (GoodD (pipeAt nR 0 xS k kc0 kc1 kc2 op lo re sl (PipeSt.mk GR GL ks0 ks1) (fun _ => 0) i).R nR) ∧ (GoodD (pipeAt nR 0 xS k kc0 kc1 kc2 op lo re sl (PipeSt.mk GR GL ks0 ks1) (fun _ => 0) i).L nL) ∧ ((pipeAt nR 0 xS k kc0 kc1 kc2 op lo re sl (PipeSt.mk GR GL ks0 ks1) (fun _ => 0) i).R.length = nR) ∧ ((pipeAt nR 0 xS k kc0 kc1 kc2 op lo re sl (PipeSt.mk GR GL ks0 ks1) (fun _ => 0) i).L.length = nL) ∧ (∀ j, ((pipeAt nR 0 xS k kc0 kc1 kc2 op lo re sl (PipeSt.mk GR GL ks0 ks1) (fun _ => 0) i).R.getD j RD.d).xs.length ≤ 1048576) ∧ (∀ j, ((pipeAt nR 0 xS k kc0 kc1 kc2 op lo re sl (PipeSt.mk GR GL ks0 ks1) (fun _ => 0) i).L.getD j RD.d).xs.length ≤ 1048576) ∧ ((pipeAt nR 0 xS k kc0 kc1 kc2 op lo re sl (PipeSt.mk GR GL ks0 ks1) (fun _ => 0) i).s0 < wid .f32) ∧ ((pipeAt nR 0 xS k kc0 kc1 kc2 op lo re sl (PipeSt.mk GR GL ks0 ks1) (fun _ => 0) i).s1 < wid .f32) ∧ (silG (fun ii => pipeSil nR nL (pipeAt nR 0 xS k kc0 kc1 kc2 op lo re sl (PipeSt.mk GR GL ks0 ks1) (fun _ => 0) ii)) (most + 1 - i) i = rv) ∧ Row W w3.heap.size 0 [vS bR'1 0 nR cR'1, vS bL'1 0 nL cL'1, vS bS'1 0 0 cS'1, vI k, vF kc0, vF kc1, vF kc2, vF ((pipeAt nR 0 xS k kc0 kc1 kc2 op lo re sl (PipeSt.mk GR GL ks0 ks1) (fun _ => 0) i).s0), vF ((pipeAt nR 0 xS k kc0 kc1 kc2 op lo re sl (PipeSt.mk GR GL ks0 ks1) (fun _ => 0) i).s1), .bool op, vF lo, vF re, vF sl] ∧ Row W bR'1 0 (olc ((pipeAt nR 0 xS k kc0 kc1 kc2 op lo re sl (PipeSt.mk GR GL ks0 ks1) (fun _ => 0) i).R) PR'1) ∧ Row W bL'1 0 (olc ((pipeAt nR 0 xS k kc0 kc1 kc2 op lo re sl (PipeSt.mk GR GL ks0 ks1) (fun _ => 0) i).L) PL'1) ∧ OF w2.heap.size W ((pipeAt nR 0 xS k kc0 kc1 kc2 op lo re sl (PipeSt.mk GR GL ks0 ks1) (fun _ => 0) i).R) PR'1 ∧ OF w2.heap.size W ((pipeAt nR 0 xS k kc0 kc1 kc2 op lo re sl (PipeSt.mk GR GL ks0 ks1) (fun _ => 0) i).L) PL'1 ∧ Mod (w3.heap.size :: bR'1 :: bL'1 :: (PR'1.map BC.b ++ (PL'1.map BC.b ++ []))) w5 W) (fun (i : Nat) => most + 1 - i) 0 (⟨rfl, rfl, rfl, rfl, rfl, trivial⟩) ⟨(by omega), (by rw [pipeAt_zero]; exact gR), (by rw [pipeAt_zero]; exact gL), (by rw [pipeAt_zero]; exact lDR), (by rw [pipeAt_zero]; exact lDL), (by exact fun j => Nat.le_trans (Nat.le_of_eq (pipeAt_lens j _).1) (hzR j)), (by exact fun j => Nat.le_trans (Nat.le_of_eq (pipeAt_lens j _).2) (hzL j)), (by rw [pipeAt_zero]; assumption), (by rw [pipeAt_zero]; assumption), (by exact erv.symm), (Row.congr r7 (by rw [pipeAt_zero])), (Row.congr ((r2.ext m4).mod m5 (nC (lE (lL r2.lt lR)) nN)) (by rw [pipeAt_zero])), (Row.congr ((r3.ext m4).mod m5 (nC (lE (lL r3.lt lR)) nN)) (by rw [pipeAt_zero])), (OF.congr ((fm1.ext m4).mod m5 (fun j hj => (nC (lE (lL (OF.lt fm1 (Nat.lt_of_lt_of_eq (Nat.lt_of_lt_of_eq hj lDR) lDR.symm)) lR)) nN))) (by rw [pipeAt_zero])), (OF.congr ((fm2.ext m4).mod m5 (fun j hj => (nC (lE (lL (OF.lt fm2 (Nat.lt_of_lt_of_eq (Nat.lt_of_lt_of_eq hj lDL) lDL.symm)) lR)) nN))) (by rw [pipeAt_zero])), Mod.refl _ _⟩ ?_
 rintro i w6 ⟨hi, g1, g2, l1, l2, z1, z2, b0, b1, he, r8, r9, r10, fm3, fm4, m6⟩
 show CE _ _ _ _ [(7, vI ((i : Nat) : Int)), (1, vI ((most : Nat) : Int)), (4, vI 0), (5, vI 0), (6, vP w3.heap.size 0)] _
 refine CE.seq (CE.seq (CE.region ?_))
 iterate 2 refine WL.det (op_move rfl) rfl rfl rfl ?_
 refine WL.det (op_lei rfl rfl) rfl rfl rfl ?_
 refine WL.end (NE.code ?_)
 rcases Bool.eq_false_or_eq_true (decide (((i : Nat) : Int) ≤ ((most : Nat) : Int))) with hb1 | hb1
 ·have hp1 := of_decide_eq_true hb1
  refine CE.cond_t rfl hb1 ?_
  refine CE.skip' (NE.code (CE.seq (CE.block (CE.seq (CE.seq (CE.region ?_))))))
  have r11 := (((r4.ext m4).mod m5 (nC (lE (lL r4.lt lR)) nN)).mod m6 (nC (lE (lL r4.lt lR)) (nC (Ne.symm ne2) (nC (Ne.symm ne3) (nA h1 (fun j hj => (fn3 j hj)) (nA h2 (fun j hj => (fn7 j hj)) nN))))))
  refine WL.call (oc_call (vs := [vP w3.heap.size 0]) (cap := []) rfl rfl rfl Try.call70 (c_l04Silent nR ((pipeAt nR 0 xS k kc0 kc1 kc2 op lo re sl (PipeSt.mk GR GL ks0 ks1) (fun _ => 0) i).R) nL ((pipeAt nR 0 xS k kc0 kc1 kc2 op lo re sl (PipeSt.mk GR GL ks0 ks1) (fun _ => 0) i).L) 0 xS cR'1 bR'1 PR'1 w2.heap.size cL'1 bL'1 PL'1 w2.heap.size cS'1 bS'1 k kc0 kc1 kc2 ((pipeAt nR 0 xS k kc0 kc1 kc2 op lo re sl (PipeSt.mk GR GL ks0 ks1) (fun _ => 0) i).s0) ((pipeAt nR 0 xS k kc0 kc1 kc2 op lo re sl (PipeSt.mk GR GL ks0 ks1) (fun _ => 0) i).s1) op lo re sl w3.heap.size l1 l2 lnS (by first | assumption | exact rd_small (by assumption) (by assumption) | exact markD_small (by first | assumption | exact rd_small (by assumption) (by assumption)) _) (by first | assumption | exact rd_small (by assumption) (by assumption) | exact markD_small (by first | assumption | exact rd_small (by assumption) (by assumption)) _) h1 h2 (by first | assumption | omega) (by first | assumption | omega) (by first | assumption | omega) w6 r8.rng r9.rng r10.rng r11.rng fm3 fm4)) rfl rfl (ltb rfl) ?_
  rintro _ w7 ⟨rfl, m7⟩
  refine WL.end (NE.code ?_)
  rcases Bool.eq_false_or_eq_true ((zeroD ((pipeAt nR 0 xS k kc0 kc1 kc2 op lo re sl (PipeSt.mk GR GL ks0 ks1) (fun _ => 0) i).R) nR && (zeroD ((pipeAt nR 0 xS k kc0 kc1 kc2 op lo re sl (PipeSt.mk GR GL ks0 ks1) (fun _ => 0) i).L) nL && stillF ((pipeAt nR 0 xS k kc0 kc1 kc2 op lo re sl (PipeSt.mk GR GL ks0 ks1) (fun _ => 0) i).s0) ((pipeAt nR 0 xS k kc0 kc1 kc2 op lo re sl (PipeSt.mk GR GL ks0 ks1) (fun _ => 0) i).s1)))) with hb2 | hb2
  ·refine CE.cond_t rfl hb2 ?_
   refine CE.seq (CE.region ?_)
   refine WL.det (op_move rfl) rfl rfl rfl ?_
   iterate 2 refine WL.det (op_assign rfl) rfl rfl rfl ?_
   refine WL.end (NE.code (CE.ret' (XE.ret_then (XE.ret_blk (XE.ret_then (XE.ret_then (XE.ret_blk (XE.ret_then ?_))))))))
   refine XE.leaveT Try.results20 (res_tmp rfl (res_tmp rfl res_nil)) ?_
   have sz1 := (lT (lT m1.size m2.size) m3.size)
   refine ⟨?_, ((((((((Mod.refl [] w).nt m1).nt m2).nt m3).nt m4).then m5 ((aC (.inr (lT sz1 lR)) aN))).then m6 ((aC (.inr (lT sz1 lR)) (aC (.inr (lT (lT m1.size m2.size) ge1)) (aC (.inr (lT (lT m1.size m2.size) ge2)) (aA h1 (fun j hj => (lT (lT m1.size m2.size) (fm3.ge j (Nat.lt_of_lt_of_eq hj l1.symm)))) (aA h2 (fun j hj => (lT (lT m1.size m2.size) (fm4.ge j (Nat.lt_of_lt_of_eq hj l2.symm)))) aN))))))).nt m7)⟩
   all_goals first | (rw [← he, silG_yes (by assumption) (by omega)]; done) | (rw [← he, silG_no (by omega)]; done)
  ·refine CE.cond_f rfl hb2 ?_
   refine CE.skip' (NE.code (CE.region ?_))
   refine WL.call (oc_call (vs := [vP w3.heap.size 0, vF 0]) (cap := []) rfl rfl rfl Try.call60 (c_l04Step nR ((pipeAt nR 0 xS k kc0 kc1 kc2 op lo re sl (PipeSt.mk GR GL ks0 ks1) (fun _ => 0) i).R) nL ((pipeAt nR 0 xS k kc0 kc1 kc2 op lo re sl (PipeSt.mk GR GL ks0 ks1) (fun _ => 0) i).L) 0 xS cR'1 bR'1 PR'1 w2.heap.size cL'1 bL'1 PL'1 w2.heap.size cS'1 bS'1 k kc0 kc1 kc2 ((pipeAt nR 0 xS k kc0 kc1 kc2 op lo re sl (PipeSt.mk GR GL ks0 ks1) (fun _ => 0) i).s0) ((pipeAt nR 0 xS k kc0 kc1 kc2 op lo re sl (PipeSt.mk GR GL ks0 ks1) (fun _ => 0) i).s1) op lo re sl w3.heap.size 0 0 l1 l2 lnS (by first | assumption | exact rd_small (by assumption) (by assumption) | exact markD_small (by first | assumption | exact rd_small (by assumption) (by assumption)) _) (by first | assumption | exact rd_small (by assumption) (by assumption) | exact markD_small (by first | assumption | exact rd_small (by assumption) (by assumption)) _) h1 h2 (by first | assumption | omega) (by first | assumption | omega) (by first | assumption | omega) (by first | assumption | omega) (by assumption) (by assumption) b0 b1 rfl (by decide +kernel) w7 (r8.ext m7) (r9.ext m7) (r10.ext m7) (r11.ext m7).rng (lG (lL r2.lt lR)) (lG (lL r3.lt lR)) (lG (lL r4.lt lR)) ne1 ne2 ne3 (fm3.ext m7) (fun j hj => (lE (lL (OF.lt fm1 (Nat.lt_of_lt_of_eq hj lDR.symm)) lR))) (fun j hj => (fn1 j hj)) (fun j hj => (fn2 j hj)) (fun j hj => (fn3 j hj)) (fun j q hj hq => (fn4 j q hj hq)) (fm4.ext m7) (fun j hj => (lE (lL (OF.lt fm2 (Nat.lt_of_lt_of_eq hj lDL.symm)) lR))) (fun j hj => (fn5 j hj)) (fun j hj => (fn6 j hj)) (fun j hj => (fn7 j hj)))) rfl rfl (ltb rfl) ?_
   rintro _ w8 ⟨y1, rfl, h3, h4, h5, h6, h7, h8, r12, r13, r14, fm5, fm6, m8⟩
   refine WL.end (NE.blk (NE.code (CE.region ?_)))
   refine WL.det (op_move rfl) rfl rfl rfl ?_
   refine WL.det (op_add (r := ((i + 1 : Nat) : Int)) rfl rfl (w_i64 (by omega) (by omega))) rfl rfl rfl ?_
   refine WL.det (op_assign rfl) rfl rfl rfl ?_
   refine WL.end ?_
   exact NE.again (i + 1) (⟨rfl, rfl, rfl, rfl, rfl, trivial⟩) ⟨(by omega), (by rw [pipeAt_succ]; assumption), (by rw [pipeAt_succ]; assumption), (by rw [pipeAt_succ]; exact stR_len l1 _), (by rw [pipeAt_succ]; exact endL_len l2), (by exact fun j => Nat.le_trans (Nat.le_of_eq (pipeAt_lens j _).1) (hzR j)), (by exact fun j => Nat.le_trans (Nat.le_of_eq (pipeAt_lens j _).2) (hzL j)), (by rw [pipeAt_succ]; assumption), (by rw [pipeAt_succ]; assumption), (by exact silG_next he (by assumption) (by omega) (by omega)), (Row.congr r12 (by rw [pipeAt_succ]; rfl)), (Row.congr r13 (by rw [pipeAt_succ]; rfl)), (Row.congr r14 (by rw [pipeAt_succ]; rfl)), (OF.congr fm5 (by rw [pipeAt_succ]; rfl)), (OF.congr fm6 (by rw [pipeAt_succ]; rfl)), ((m6.nt m7).then m8 ((aC (.inl (by simp)) (aC (.inl (by simp)) (aC (.inl (by simp)) (aI (fun x hx => by simp only [List.mem_cons, List.mem_append, hx, true_or, or_true]) (aI (fun x hx => by simp only [List.mem_cons, List.mem_append, hx, true_or, or_true]) aN)))))))⟩ (by first | (dsimp only; omega) | omega)
 ·have hp1 := of_decide_eq_false hb1
  refine CE.cond_f rfl hb1 ?_
  refine CE.exit' (XE.exit_then (XE.exit_then (XE.exit_here (NE.code (CE.seq (CE.region ?_))))))
  iterate 2 refine WL.det (op_assign rfl) rfl rfl rfl ?_
  refine WL.end (NE.code (CE.ret' ?_))
  refine XE.leaveT Try.results20 (res_tmp rfl (res_tmp rfl res_nil)) ?_
  have sz2 := (lT (lT m1.size m2.size) m3.size)
  refine ⟨?_, (((((((Mod.refl [] w).nt m1).nt m2).nt m3).nt m4).then m5 ((aC (.inr (lT sz2 lR)) aN))).then m6 ((aC (.inr (lT sz2 lR)) (aC (.inr (lT (lT m1.size m2.size) ge1)) (aC (.inr (lT (lT m1.size m2.size) ge2)) (aA h1 (fun j hj => (lT (lT m1.size m2.size) (fm3.ge j (Nat.lt_of_lt_of_eq hj l1.symm)))) (aA h2 (fun j hj => (lT (lT m1.size m2.size) (fm4.ge j (Nat.lt_of_lt_of_eq hj l2.symm)))) aN)))))))⟩
  all_goals first | (rw [← he, silG_yes (by assumption) (by omega)]; done) | (rw [← he, silG_no (by omega)]; done)

end Go.Proofs.Ytnahhdnkbbdceaa
