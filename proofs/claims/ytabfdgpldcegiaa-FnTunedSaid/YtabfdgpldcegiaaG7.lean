/- What striking a string does. -/
import Derived.Test.YtabfdgpldcegiaaG6
import Derived.Test.YtabfdgpldcegiaaE24
set_option linter.unusedVariables false
set_option linter.unusedSimpArgs false
namespace Go.Proofs.Ytabfdgpldcegiaa

theorem x112n : Extern.findNext Try.f112 = none := by kernel_rfl
theorem x112e : Extern.find Try.f112 = some (Extern.MathFloor.toIntegral "math.archFloor" .down) := by kernel_rfl
/-- what a hammer adds to sample number `j` -/
def strikeF (hs : List Nat) (m fr j a : Nat) : Nat := if fr ≤ j ∧ j < fr + m then fop .add .f32 a (hs.getD (j - fr) 0) else a
section
variable {hs xs ys : List Nat} {m fr j a n : Nat}
theorem strike_in (h : fr ≤ j) (h2 : j - fr < m) : strikeF hs m fr j a = fop .add .f32 a (hs.getD (j - fr) 0) := if_pos ⟨h, by omega⟩
theorem strike_out (h : j < fr ∨ ¬ j - fr < m) : strikeF hs m fr j a = a := if_neg (by omega)
theorem strike_wit (hs : List Nat) (m fr j a x : Nat) (ha : cn .f32 a = cn .f32 x) (la : a < wid .f32) : ∃ r, cn .f32 r = cn .f32 (strikeF hs m fr j x) ∧ r < wid .f32 := by
  unfold strikeF
  split
  · exact ⟨_, rfl, fop_lt _ _ _ _⟩
  · exact ⟨a, ha, la⟩
theorem strike_at {k : Nat} (h : k < m) : strikeF hs m fr (fr + k) a = fop .add .f32 a (hs.getD k 0) := by
  rw [strike_in (by omega) (by omega)]; congr 2; omega
theorem set_getD (k : Nat) : xs.set k (xs.getD k 0) = xs := by
  apply List.ext_getElem (by simp)
  intro i h1 h2
  by_cases e : k = i
  · subst e; simp [h2]
  · simp [e]
theorem chg_keep {f : Nat → Nat → Nat} {i0 lo : Nat} (k : Nat) (h : ∀ j a, lo ≤ j → j < lo + k → f j a = a) : chg f n i0 xs (lo + k) = chg f n i0 xs lo := by
  induction k with
  | zero => rfl
  | succ k ih =>
    have e : lo + (k + 1) = (lo + k) + 1 := by omega
    rw [e, chg_succ, h _ _ (by omega) (by omega), set_getD]
    exact ih fun j a h1 h2 => h j a h1 (by omega)
theorem strike_start {i0 : Nat} : chg (strikeF hs m fr) n i0 xs fr = xs := by
  have := chg_keep (f := strikeF hs m fr) (n := n) (i0 := i0) (xs := xs) (lo := 0) fr fun j a _ h2 => strike_out (.inl (by omega))
  rw [Nat.zero_add] at this
  rw [this]; rfl
theorem strike_end {i0 k : Nat} (hk : k ≤ m) (hn : fr + k ≤ n) (h : k = m ∨ fr + k = n) : chg (strikeF hs m fr) n i0 xs n = chg (strikeF hs m fr) n i0 xs (fr + k) := by
  rcases h with e | e
  · have := chg_keep (f := strikeF hs m fr) (n := n) (i0 := i0) (xs := xs) (lo := fr + k) (n - (fr + k)) fun j a h1 _ => strike_out (.inr (by omega))
    rw [show fr + k + (n - (fr + k)) = n by omega] at this
    exact this
  · rw [e]
end
def SpotE (p : Nat) : Prop := ∃ n, n ≤ 1048576 ∧ Spot p n
theorem SpotE.bd {p : Nat} (h : SpotE p) : posF p ≤ 9223372036854775807 := by obtain ⟨n, h1, h2⟩ := h; exact Nat.le_trans h2.le (by omega)
theorem SpotE.toInt32 {a p : Nat} (ha : cn .f32 a = cn .f32 p) (h : SpotE p) : (FloatKind.f32.decode a).toInt .zero = some ((posF p : Nat) : Int) := by obtain ⟨n, h1, h2⟩ := h; exact spot_toInt ha h2
theorem SpotE.toInt64 {p : Nat} (h : SpotE p) : (FloatKind.f64.decode (floorW p)).toInt .zero = some ((posF p : Nat) : Int) := by obtain ⟨n, h1, h2⟩ := h; exact h2.toInt64 h1
def SpotW (x : Nat) : Prop := ∃ p, x = wide p ∧ SpotE p
/-- the whole number below a wide word's number -/
def floorX (x : Nat) : Nat := FloatKind.f64.encode ((FloatKind.f64.decode x).integral .down)
theorem SpotW.run {P : Program} {a x : Nat} {w : World} (ha : cn .f64 a = cn .f64 x) (h : SpotW x) : (Extern.MathFloor.toIntegral "math.archFloor" .down #[.float .f64 a]).run P w = .ok (.float .f64 (floorX x)) w := by
  obtain ⟨p, rfl, n, h1, h2⟩ := h
  exact floor_run ha h2
theorem floorX_wide {a p : Nat} (ha : cn .f64 a = cn .f64 (floorX (wide p))) (h : SpotE p) : (FloatKind.f64.decode a).toInt .zero = some ((posF p : Nat) : Int) := by
  have hn : isNaN .f64 (floorX (wide p)) = false := by
    obtain ⟨n, h1, h2⟩ := h
    obtain ⟨s, e, _, _⟩ := h2.floor
    unfold floorX
    rw [e]; exact read_nearest_noNaN FloatKind.f64.format s (posF p) 0
  rw [eq_of_cn ha hn]; exact h.toInt64

set_option maxRecDepth 100000 in
set_option maxHeartbeats 2000000 in
theorem c_mathFloor (a : Nat) (x : Nat) (ha : cn .f64 a = cn .f64 x) (hs : SpotW x) (w : World) : Cl Try.prog 59 #[.float .f64 a] w fun v w' => v = .float .f64 (floorX x) ∧ w = w' := by
  refine Cl.of Try.func59 Try.ntmps59 rfl rfl (ρ := [(0, .float .f64 a)]) rfl ?_
  refine CE.seq ?_
  refine CE.region ?_
  refine WL.det (op_assign rfl) rfl rfl rfl ?_
  refine WL.end ?_
  refine NE.code ?_
  refine CE.seq ?_
  refine CE.cond_t rfl rfl ?_
  refine CE.seq ?_
  refine CE.region ?_
  refine WL.det (op_move rfl) rfl rfl rfl ?_
  refine WL.det (op_extern (vs := [.float .f64 a]) Try.func112 rfl rfl x112n x112e rfl (fun _ => SpotW.run ha hs)) rfl rfl rfl ?_
  refine WL.det (op_assign rfl) rfl rfl rfl ?_
  refine WL.end ?_
  refine NE.code ?_
  refine CE.ret' ?_
  refine XE.ret_then ?_
  refine XE.leave1 Try.results59 rfl ?_
  refine ⟨rfl, rfl⟩

set_option maxRecDepth 100000 in
set_option maxHeartbeats 2000000 in
theorem c_strike_in (j : Nat) (a : Nat) (x : Nat) (e1 : Nat) (e2 : Nat) (fr : Nat) (m : Nat) (cm : Nat) (bh : Nat) (hs : List Nat) (ha : cn .f32 a = cn .f32 x) (la : a < wid .f32) (lnh : hs.length = m) (wh : W32 hs) (hm : m ≤ 1048576) (hj : j ≤ 1048576) (hfr : fr ≤ 1048576) (hlt : fr ≤ j) (w : World) (rq1 : Rng w e1 0 [vI ((fr : Nat) : Int)]) (rq2 : Rng w e2 0 [vS bh 0 m cm]) (rh : Rng w bh 0 (fl hs)) : Cl Try.prog 107 #[vI ((j : Nat) : Int), vF a, vP e1 0, vP e2 0] w fun v w' => ∃ (r : Nat), v = vF r ∧ (cn .f32 r = cn .f32 (strikeF hs m fr j x)) ∧ (r < wid .f32) ∧ Mod [] w w' := by
  refine Cl.of Try.func107 Try.ntmps107 rfl rfl (ρ := [(0, vI ((j : Nat) : Int)), (1, vF a), (2, vP e1 0), (3, vP e2 0)]) rfl ?_
  refine CE.seq ?_
  refine CE.region ?_
  refine WL.det (op_assign rfl) rfl rfl rfl ?_
  refine WL.end ?_
  refine NE.code ?_
  refine CE.seq ?_
  refine CE.seq ?_
  refine CE.region ?_
  refine WL.det (op_move rfl) rfl rfl rfl ?_
  refine WL.det (op_load1 (i := 0) rfl Try.isAgg3 rq1 rfl rfl) rfl rfl rfl ?_
  refine WL.det (op_sub (r := ((j - fr : Nat) : Int)) rfl rfl (w_nsub (l := j) (n := fr) (by omega) (by omega))) rfl rfl rfl ?_
  refine WL.det (op_assign rfl) rfl rfl rfl ?_
  refine WL.end ?_
  refine NE.code ?_
  refine CE.seq ?_
  refine CE.region ?_
  refine WL.det (op_move rfl) rfl rfl rfl ?_
  refine WL.det (op_gei_t rfl rfl (by omega)) rfl rfl rfl ?_
  refine WL.det (op_move rfl) rfl rfl rfl ?_
  refine WL.yes rfl rfl rfl (ltb rfl) rfl rfl ?_
  refine WL.det (op_move rfl) rfl rfl rfl ?_
  refine WL.yes rfl rfl rfl (ltb rfl) rfl rfl ?_
  refine WL.det (op_load1 (i := 0) rfl Try.isAgg24 rq2 rfl rfl) rfl rfl rfl ?_
  refine WL.yes rfl rfl rfl (ltb rfl) rfl rfl ?_
  refine WL.det (op_len rfl Try.runUnderlying24) rfl rfl rfl ?_
  refine WL.yes rfl rfl rfl (ltb rfl) rfl rfl ?_
  refine WL.det (op_lti rfl rfl) rfl rfl rfl ?_
  refine WL.det (op_pick_t rfl rfl rfl) rfl rfl rfl ?_
  refine WL.end ?_
  refine NE.code ?_
  rcases Bool.eq_false_or_eq_true (decide (((j - fr : Nat) : Int) < ((m : Nat) : Int))) with hb1 | hb1
  · have hp1 := of_decide_eq_true hb1
    refine CE.cond_t rfl hb1 ?_
    refine CE.seq ?_
    refine CE.region ?_
    refine WL.det (op_move rfl) rfl rfl rfl ?_
    refine WL.det (op_load1 (i := 0) rfl Try.isAgg24 rq2 rfl rfl) rfl rfl rfl ?_
    refine WL.det (op_move rfl) rfl rfl rfl ?_
    refine WL.det (op_indexSl (off' := 0 + (j - fr)) rfl rfl rfl Try.runUnderlying24 Try.sizeOf27 (by omega) (by omega) (by omega)) rfl rfl rfl ?_
    refine WL.det (op_load1 (i := (j - fr)) rfl Try.isAgg27 rh rfl (fl_get (by have eL : List.length hs = m := lnh; omega))) rfl rfl rfl ?_
    refine WL.op (op_farith (e := (fop .add .f32 x (hs.getD (j - fr) 0))) (.inl rfl) rfl rfl ha rfl rfl) rfl rfl (ltb rfl) ?_
    rintro _ w1 ⟨⟨f1, rfl, hf1, lf1⟩, m1⟩
    refine WL.det (op_assign rfl) rfl rfl rfl ?_
    refine WL.end ?_
    refine NE.code ?_
    refine CE.ret' ?_
    refine XE.ret_then ?_
    refine XE.leave1 Try.results107 rfl ?_
    refine ⟨f1, rfl, ?_, lf1, ((Mod.refl [] w).nt m1)⟩
    all_goals first | assumption | (rw [strike_in (by assumption) (by omega)]; assumption) | (rw [strike_out (by omega)]; assumption)
  · have hp1 := of_decide_eq_false hb1
    refine CE.cond_f rfl hb1 ?_
    refine CE.skip' ?_
    refine NE.code ?_
    refine CE.seq ?_
    refine CE.region ?_
    refine WL.det (op_move rfl) rfl rfl rfl ?_
    refine WL.det (op_assign rfl) rfl rfl rfl ?_
    refine WL.end ?_
    refine NE.code ?_
    refine CE.ret' ?_
    refine XE.leave1 Try.results107 rfl ?_
    refine ⟨a, rfl, ?_, la, (Mod.refl [] w)⟩
    all_goals first | assumption | (rw [strike_in (by assumption) (by omega)]; assumption) | (rw [strike_out (by omega)]; assumption)

set_option maxRecDepth 100000 in
set_option maxHeartbeats 2000000 in
theorem c_strike_out (j : Nat) (a : Nat) (x : Nat) (e1 : Nat) (e2 : Nat) (fr : Nat) (m : Nat) (cm : Nat) (bh : Nat) (hs : List Nat) (ha : cn .f32 a = cn .f32 x) (la : a < wid .f32) (lnh : hs.length = m) (wh : W32 hs) (hm : m ≤ 1048576) (hj : j ≤ 1048576) (hfr : fr ≤ 1048576) (hlt : j < fr) (w : World) (rq1 : Rng w e1 0 [vI ((fr : Nat) : Int)]) (rq2 : Rng w e2 0 [vS bh 0 m cm]) (rh : Rng w bh 0 (fl hs)) : Cl Try.prog 107 #[vI ((j : Nat) : Int), vF a, vP e1 0, vP e2 0] w fun v w' => ∃ (r : Nat), v = vF r ∧ (cn .f32 r = cn .f32 (strikeF hs m fr j x)) ∧ (r < wid .f32) ∧ Mod [] w w' := by
  refine Cl.of Try.func107 Try.ntmps107 rfl rfl (ρ := [(0, vI ((j : Nat) : Int)), (1, vF a), (2, vP e1 0), (3, vP e2 0)]) rfl ?_
  refine CE.seq ?_
  refine CE.region ?_
  refine WL.det (op_assign rfl) rfl rfl rfl ?_
  refine WL.end ?_
  refine NE.code ?_
  refine CE.seq ?_
  refine CE.seq ?_
  refine CE.region ?_
  refine WL.det (op_move rfl) rfl rfl rfl ?_
  refine WL.det (op_load1 (i := 0) rfl Try.isAgg3 rq1 rfl rfl) rfl rfl rfl ?_
  refine WL.det (op_sub (r := (((j : Nat) : Int) - ((fr : Nat) : Int))) rfl rfl (w_i64 (by omega) (by omega))) rfl rfl rfl ?_
  refine WL.det (op_assign rfl) rfl rfl rfl ?_
  refine WL.end ?_
  refine NE.code ?_
  refine CE.seq ?_
  refine CE.region ?_
  refine WL.det (op_move rfl) rfl rfl rfl ?_
  refine WL.det (op_gei rfl rfl) rfl rfl rfl ?_
  refine WL.det (op_move rfl) rfl rfl rfl ?_
  refine WL.no rfl rfl rfl (ltb rfl) rfl (decide_eq_false (by omega)) rfl (ltb rfl) ?_
  refine WL.no rfl rfl rfl (ltb rfl) rfl (decide_eq_false (by omega)) rfl (ltb rfl) ?_
  refine WL.no rfl rfl rfl (ltb rfl) rfl (decide_eq_false (by omega)) rfl (ltb rfl) ?_
  refine WL.no rfl rfl rfl (ltb rfl) rfl (decide_eq_false (by omega)) rfl (ltb rfl) ?_
  refine WL.det (op_pick_f rfl (decide_eq_false (by omega)) rfl) rfl rfl rfl ?_
  refine WL.end ?_
  refine NE.code ?_
  refine CE.cond_f rfl rfl ?_
  refine CE.skip' ?_
  refine NE.code ?_
  refine CE.seq ?_
  refine CE.region ?_
  refine WL.det (op_move rfl) rfl rfl rfl ?_
  refine WL.det (op_assign rfl) rfl rfl rfl ?_
  refine WL.end ?_
  refine NE.code ?_
  refine CE.ret' ?_
  refine XE.leave1 Try.results107 rfl ?_
  refine ⟨a, rfl, ?_, la, (Mod.refl [] w)⟩
  all_goals first | assumption | (rw [strike_in (by assumption) (by omega)]; assumption) | (rw [strike_out (by omega)]; assumption)

theorem c_strike1 (j : Nat) (a : Nat) (x : Nat) (e1 : Nat) (e2 : Nat) (fr : Nat) (m : Nat) (cm : Nat) (bh : Nat) (hs : List Nat) (ha : cn .f32 a = cn .f32 x) (la : a < wid .f32) (lnh : hs.length = m) (wh : W32 hs) (hm : m ≤ 1048576) (hj : j ≤ 1048576) (hfr : fr ≤ 1048576) (w : World) (rq1 : Rng w e1 0 [vI ((fr : Nat) : Int)]) (rq2 : Rng w e2 0 [vS bh 0 m cm]) (rh : Rng w bh 0 (fl hs)) : Cl Try.prog 107 #[vI ((j : Nat) : Int), vF a, vP e1 0, vP e2 0] w fun v w' => ∃ (r : Nat), v = vF r ∧ (cn .f32 r = cn .f32 (strikeF hs m fr j x)) ∧ (r < wid .f32) ∧ Mod [] w w' := by
  rcases Nat.lt_or_ge j fr with h | h
  · exact c_strike_out j a x e1 e2 fr m cm bh hs ha la lnh wh hm hj hfr h w rq1 rq2 rh
  · exact c_strike_in j a x e1 e2 fr m cm bh hs ha la lnh wh hm hj hfr h w rq1 rq2 rh

set_option maxRecDepth 100000 in
set_option maxHeartbeats 2000000 in
theorem c_changedStrike (n : Nat) (c : Nat) (b : Nat) (xs : List Nat) (i0 : Nat) (tk : Int) (tc0 : Nat) (tc1 : Nat) (tc2 : Nat) (ts0 : Nat) (ts1 : Nat) (dk : Int) (dc0 : Nat) (dc1 : Nat) (dc2 : Nat) (ds0 : Nat) (ds1 : Nat) (g : Nat) (e1 : Nat) (e2 : Nat) (fr : Nat) (m : Nat) (cm : Nat) (bh : Nat) (hs : List Nat) (ln : xs.length = n) (hi0 : i0 < n) (hn : n ≤ 1024) (wx : W32 xs) (h0 : 0 < n) (lnh : hs.length = m) (wh : W32 hs) (hm : m ≤ 1048576) (hfr : fr ≤ 1048576) (w : World) (r : Rng w b 0 (fl xs)) (rq1 : Rng w e1 0 [vI ((fr : Nat) : Int)]) (rq2 : Rng w e2 0 [vS bh 0 m cm]) (rh : Rng w bh 0 (fl hs)) : Cl Try.prog 65 #[.agg #[vS b 0 n c, vI ((i0 : Nat) : Int), vI tk, vF tc0, vF tc1, vF tc2, vF ts0, vF ts1, vI dk, vF dc0, vF dc1, vF dc2, vF ds0, vF ds1, vF g], .func (.func 107) #[] #[vP e1 0, vP e2 0]] w fun v w' => ∃ (b' : Nat) (c' : Nat) (zs : List Nat), v = .agg #[vS b' 0 n c', vI ((i0 : Nat) : Int), vI tk, vF tc0, vF tc1, vF tc2, vF ts0, vF ts1, vI dk, vF dc0, vF dc1, vF dc2, vF ds0, vF ds1, vF g] ∧ (zs.length = n) ∧ (W32 zs) ∧ (Cn zs (chg (strikeF hs m fr) n i0 xs n)) ∧ Row w' b' 0 (fl zs) ∧ w.heap.size ≤ b' ∧ Mod [] w w' := by
  refine Cl.of Try.func65 Try.ntmps65 rfl rfl (ρ := [(0, .agg #[vS b 0 n c, vI ((i0 : Nat) : Int), vI tk, vF tc0, vF tc1, vF tc2, vF ts0, vF ts1, vI dk, vF dc0, vF dc1, vF dc2, vF ds0, vF ds1, vF g]), (1, .func (.func 107) #[] #[vP e1 0, vP e2 0])]) rfl ?_
  refine CE.seq ?_
  refine CE.region ?_
  refine WL.op (op_box (cs := [vS b 0 n c, vI ((i0 : Nat) : Int), vI tk, vF tc0, vF tc1, vF tc2, vF ts0, vF ts1, vI dk, vF dc0, vF dc1, vF dc2, vF ds0, vF ds1, vF g]) rfl rfl) rfl rfl (ltb rfl) ?_
  rintro _ w1 ⟨rfl, r1, m1, z1⟩
  refine WL.op (op_alloc (cs := [.slice none 0 0, vI 0, vI 0, vF 0, vF 0, vF 0, vF 0, vF 0, vI 0, vF 0, vF 0, vF 0, vF 0, vF 0, vF 0]) Try.zeroValue33 rfl) rfl rfl (ltb rfl) ?_
  rintro _ w2 ⟨rfl, r2, m2, z2⟩
  refine WL.end ?_
  refine NE.code ?_
  refine CE.seq ?_
  refine CE.region ?_
  refine WL.det (op_loadA (i := 0) (cs := [vS b 0 n c, vI ((i0 : Nat) : Int), vI tk, vF tc0, vF tc1, vF tc2, vF ts0, vF ts1, vI dk, vF dc0, vF dc1, vF dc2, vF ds0, vF ds1, vF g]) rfl Try.isAgg33 Try.sizeOf33 (r1.ext m2).rng rfl rfl rfl) rfl rfl rfl ?_
  refine WL.call (oc_call (vs := [.agg #[vS b 0 n c, vI ((i0 : Nat) : Int), vI tk, vF tc0, vF tc1, vF tc2, vF ts0, vF ts1, vI dk, vF dc0, vF dc1, vF dc2, vF ds0, vF ds1, vF g]]) (cap := []) rfl rfl rfl Try.call79 (c_cloneString n c b xs ((i0 : Nat) : Int) tk tc0 tc1 tc2 ts0 ts1 dk dc0 dc1 dc2 ds0 ds1 g ln (by omega) (by omega) w2 ((r.ext m1).ext m2))) rfl rfl (ltb rfl) ?_
  rintro _ w3 ⟨b'1, c'1, rfl, r3, ge1, m3⟩
  refine WL.op0 (op_store (i := 0) (cs := [vS b'1 0 n c'1, vI ((i0 : Nat) : Int), vI tk, vF tc0, vF tc1, vF tc2, vF ts0, vF ts1, vI dk, vF dc0, vF dc1, vF dc2, vF ds0, vF ds1, vF g]) rfl rfl rfl Try.sizeOf33 rfl ((r1.ext m2).ext m3) rfl (lB rfl) rfl) rfl rfl ?_
  rintro _ w4 ⟨r4, m4, z3⟩
  have r5 : Row w4 w.heap.size 0 [vS b'1 0 n c'1, vI ((i0 : Nat) : Int), vI tk, vF tc0, vF tc1, vF tc2, vF ts0, vF ts1, vI dk, vF dc0, vF dc1, vF dc2, vF ds0, vF ds1, vF g] := Row.congr r4 rfl
  refine WL.end ?_
  refine NE.code ?_
  refine CE.seq ?_
  refine CE.region ?_
  refine WL.det (op_fieldAddr (off' := 0) rfl Try.runUnderlying33 rfl rfl Try.sizeOf26 rfl) rfl rfl rfl ?_
  refine WL.det (op_fieldAddr (off' := 0) rfl Try.runUnderlying26 rfl rfl Try.sizeOf24 rfl) rfl rfl rfl ?_
  refine WL.det (op_load1 (i := 0) rfl Try.isAgg24 r5.rng rfl rfl) rfl rfl rfl ?_
  refine WL.det (op_len rfl Try.runUnderlying24) rfl rfl rfl ?_
  refine WL.det (op_assign rfl) rfl rfl rfl ?_
  refine WL.end ?_
  refine NE.code ?_
  refine CE.seq ?_
  refine CE.seq ?_
  refine CE.region ?_
  refine WL.det (op_move rfl) rfl rfl rfl ?_
  refine WL.det (op_move rfl) rfl rfl rfl ?_
  refine WL.end ?_
  refine NE.code ?_
  refine CE.block ?_
  refine CE.loop (fun (z : Nat × List Nat) => [(15, vI ((z.1 : Nat) : Int)), (1, .func (.func 107) #[] #[vP e1 0, vP e2 0]), (2, vP w.heap.size 0), (4, vP w1.heap.size 0), (5, vI ((n : Nat) : Int)), (14, vI ((n : Nat) : Int))]) (fun (z : Nat × List Nat) => fun W => (z.1 ≤ n) ∧ (z.2.length = n) ∧ (W32 z.2) ∧ (Cn z.2 (chg (strikeF hs m fr) n i0 xs z.1)) ∧ Row W b'1 0 (fl z.2) ∧ Mod [b'1] w4 W) (fun (z : Nat × List Nat) => n - z.1) (0, xs) (⟨rfl, rfl, rfl, rfl, rfl, rfl, trivial⟩) ⟨(by omega), (by exact ln), (by exact wx), (by exact Cn.refl _), (Row.congr (r3.mod m4 (nC (lG (lL (lL r1.lt m2.size) ge1)) nN)) rfl), Mod.refl _ _⟩ ?_
  rintro ⟨i, ys⟩ w5 ⟨hi, hl, hx, hc, r6, m5⟩
  replace hi : i ≤ n := hi
  replace hl : ys.length = n := hl
  replace hx : W32 ys := hx
  replace hc : Cn ys (chg (strikeF hs m fr) n i0 xs i) := hc
  replace r6 : Row w5 b'1 0 (fl ys) := r6
  show CE _ _ _ _ [(15, vI ((i : Nat) : Int)), (1, .func (.func 107) #[] #[vP e1 0, vP e2 0]), (2, vP w.heap.size 0), (4, vP w1.heap.size 0), (5, vI ((n : Nat) : Int)), (14, vI ((n : Nat) : Int))] _
  refine CE.seq ?_
  refine CE.region ?_
  refine WL.det (op_lti rfl rfl) rfl rfl rfl ?_
  refine WL.end ?_
  refine NE.code ?_
  refine CE.seq ?_
  rcases Bool.eq_false_or_eq_true (decide (((i : Nat) : Int) < ((n : Nat) : Int))) with hb1 | hb1
  · have hp1 := of_decide_eq_true hb1
    refine CE.cond_t rfl hb1 ?_
    refine CE.skip' ?_
    refine NE.code ?_
    refine CE.seq ?_
    refine CE.block ?_
    refine CE.seq ?_
    refine CE.region ?_
    refine WL.det (op_move rfl) rfl rfl rfl ?_
    refine WL.det (op_assign rfl) rfl rfl rfl ?_
    refine WL.end ?_
    refine NE.code ?_
    refine CE.seq ?_
    refine CE.region ?_
    refine WL.det (op_fieldAddr (off' := 0) rfl Try.runUnderlying33 rfl rfl Try.sizeOf26 rfl) rfl rfl rfl ?_
    refine WL.det (op_fieldAddr (off' := 1) rfl Try.runUnderlying26 rfl rfl Try.sizeOf2 rfl) rfl rfl rfl ?_
    refine WL.det (op_load1 (i := 1) rfl Try.isAgg2 (r5.mod m5 (nC (lE (lL (lL r1.lt m2.size) ge1)) nN)).rng rfl rfl) rfl rfl rfl ?_
    refine WL.det (op_move rfl) rfl rfl rfl ?_
    refine WL.det (op_add (r := ((i0 + i : Nat) : Int)) rfl rfl (w_i64 (by omega) (by omega))) rfl rfl rfl ?_
    refine WL.det (op_move rfl) rfl rfl rfl ?_
    have hm1 : (i0 + i) % n < n := Nat.mod_lt _ (by omega)
    refine WL.det (op_rem (r := (((i0 + i) % n : Nat) : Int)) rfl rfl (by omega) rfl) rfl rfl rfl ?_
    refine WL.det (op_assign rfl) rfl rfl rfl ?_
    refine WL.end ?_
    refine NE.code ?_
    refine CE.draw (fun | 12 => some (fun _ wA uA wB => ∃ (r : Nat), uA = vF r ∧ (cn .f32 r = cn .f32 (strikeF hs m fr i ((chg (strikeF hs m fr) n i0 xs i).getD ((i0 + i) % n) 0))) ∧ (r < wid .f32) ∧ Mod [] wA wB) | _ => none) [0, 1, 2, 3, 4, 5, 6, 7, 8, 9, 10, 11, 12] [13, 14] [] (by kernel_rfl) (by kernel_rfl) ?_
    have md1 : Mod [] w5 w5.drew := (Mod.refl _ _).drew
    generalize w5.drew = w6 at md1 ⊢
    refine DR.det (i := 0) rfl rfl (by kernel_rfl) (.free rfl) rfl rfl (fun wD mD => op_fieldAddr (off' := 0) rfl Try.runUnderlying33 rfl rfl Try.sizeOf26 rfl) ?_
    refine DR.det (i := 1) rfl rfl (by kernel_rfl) (.free rfl) rfl rfl (fun wD mD => op_fieldAddr (off' := 0) rfl Try.runUnderlying26 rfl rfl Try.sizeOf24 rfl) ?_
    refine DR.det (i := 2) rfl rfl (by kernel_rfl) (.free rfl) rfl rfl (fun wD mD => op_load1 (i := 0) rfl Try.isAgg24 (((r5.mod m5 (nC (lE (lL (lL r1.lt m2.size) ge1)) nN)).ext md1).ext mD).rng rfl rfl) ?_
    refine DR.det (i := 3) rfl rfl (by kernel_rfl) (.free rfl) rfl rfl (fun wD mD => op_move rfl) ?_
    refine DR.det (i := 4) rfl rfl (by kernel_rfl) (.free rfl) rfl rfl (fun wD mD => op_move rfl) ?_
    refine DR.det (i := 5) rfl rfl (by kernel_rfl) (.free rfl) rfl rfl (fun wD mD => op_move rfl) ?_
    refine DR.det (i := 6) rfl rfl (by kernel_rfl) (.free rfl) rfl rfl (fun wD mD => op_fieldAddr (off' := 0) rfl Try.runUnderlying33 rfl rfl Try.sizeOf26 rfl) ?_
    refine DR.det (i := 7) rfl rfl (by kernel_rfl) (.free rfl) rfl rfl (fun wD mD => op_fieldAddr (off' := 0) rfl Try.runUnderlying26 rfl rfl Try.sizeOf24 rfl) ?_
    refine DR.det (i := 8) rfl rfl (by kernel_rfl) (.free rfl) rfl rfl (fun wD mD => op_load1 (i := 0) rfl Try.isAgg24 (((r5.mod m5 (nC (lE (lL (lL r1.lt m2.size) ge1)) nN)).ext md1).ext mD).rng rfl rfl) ?_
    refine DR.det (i := 9) rfl rfl (by kernel_rfl) (.free rfl) rfl rfl (fun wD mD => op_move rfl) ?_
    refine DR.det (i := 10) rfl rfl (by kernel_rfl) (.free rfl) rfl rfl (fun wD mD => op_indexSl (off' := 0 + ((i0 + i) % n)) rfl rfl rfl Try.runUnderlying24 Try.sizeOf27 (by omega) (by omega) (by omega)) ?_
    refine DR.det (i := 11) rfl rfl (by kernel_rfl) (.free rfl) rfl rfl (fun wD mD => op_load1 (i := ((i0 + i) % n)) rfl Try.isAgg27 ((r6.ext md1).ext mD).rng rfl (fl_get (by have eL : List.length ys = n := hl; omega))) ?_
    refine DR.call (i := 12) (fun uA => ∃ (r : Nat), uA = vF r ∧ (cn .f32 r = cn .f32 (strikeF hs m fr i ((chg (strikeF hs m fr) n i0 xs i).getD ((i0 + i) % n) 0))) ∧ (r < wid .f32)) rfl rfl (by kernel_rfl) (.free rfl) rfl (ltb rfl) (Exists.elim (strike_wit hs m fr i (ys.getD ((i0 + i) % n) 0) ((chg (strikeF hs m fr) n i0 xs i).getD ((i0 + i) % n) 0) (Cn.get hc _) (hx.get _)) fun rr hh => ⟨_, rr, rfl, hh⟩) (vs := [.func (.func 107) #[] #[vP e1 0, vP e2 0], vI ((i : Nat) : Int), vF (ys.getD ((i0 + i) % n) 0)]) rfl (fun wD mD => oc_call (vs := [vI ((i : Nat) : Int), vF (ys.getD ((i0 + i) % n) 0)]) (cap := [vP e1 0, vP e2 0]) rfl rfl rfl Try.call107 (c_strike1 i (ys.getD ((i0 + i) % n) 0) ((chg (strikeF hs m fr) n i0 xs i).getD ((i0 + i) % n) 0) e1 e2 fr m cm bh hs (Cn.get hc _) (hx.get _) lnh wh (by first | assumption | omega) (by omega) (by first | assumption | omega) wD (((Rng.youngS rq1 (Rng.youngS rq1 (((rq1.ext m1).ext m2).ext m3) m4 (allge_cons lR allge_nil)) m5 (allge_cons (lT (lT m1.size m2.size) ge1) allge_nil)).ext md1).ext mD) (((Rng.youngS rq2 (Rng.youngS rq2 (((rq2.ext m1).ext m2).ext m3) m4 (allge_cons lR allge_nil)) m5 (allge_cons (lT (lT m1.size m2.size) ge1) allge_nil)).ext md1).ext mD) (((Rng.youngS rh (Rng.youngS rh (((rh.ext m1).ext m2).ext m3) m4 (allge_cons lR allge_nil)) m5 (allge_cons (lT (lT m1.size m2.size) ge1) allge_nil)).ext md1).ext mD))) ?_ ?_
    · rintro w1 _ w2 m1 ⟨r, rfl, p0, p1, m2⟩; exact ⟨⟨r, rfl, p0, p1⟩, m2⟩
    rintro _ ⟨r7, rfl, h1, h2⟩
    refine DR.done rfl ?_
    intro w7 m6
    refine WO.det (op_indexSl (off' := 0 + ((i0 + i) % n)) rfl rfl rfl Try.runUnderlying24 Try.sizeOf27 (by omega) (by omega) (by omega)) rfl (.free rfl) rfl rfl ?_
    refine WO.op0 rfl (.free rfl) rfl (op_store (i := ((i0 + i) % n)) (cs := [vF r7]) rfl rfl rfl Try.sizeOf27 rfl ((r6.ext md1).ext m6) rfl (by rw [fl_length]; have eL : List.length ys = n := hl; omega) rfl) ?_
    rintro _ w8 ⟨r8, m7, z4⟩
    have r9 : Row w8 b'1 0 (fl (ys.set ((i0 + i) % n) r7)) := Row.congr r8 (fl_splice (by have eL : List.length ys = n := hl; omega))
    refine WO.end ?_
    refine NE.blk ?_
    refine NE.code ?_
    refine CE.region ?_
    refine WL.det (op_add (r := ((i + 1 : Nat) : Int)) rfl rfl (w_i64 (by omega) (by omega))) rfl rfl rfl ?_
    refine WL.det (op_move rfl) rfl rfl rfl ?_
    refine WL.end ?_
    exact NE.again ((i + 1), (ys.set ((i0 + i) % n) r7)) (⟨rfl, rfl, rfl, rfl, rfl, rfl, trivial⟩) ⟨(by omega), (by exact (List.length_set).trans hl), (by exact W32.set hx (by assumption)), (by rw [chg_succ]; exact Cn.set hc (by first | assumption | (rw [pluck_t (by assumption)]; assumption) | (rw [pluck_f (by assumption)]; assumption)) _), (Row.congr r9 rfl), (((m5.nt md1).nt m6).then m7 ((aC (.inl (by simp)) aN)))⟩ (by first | (dsimp only; omega) | omega)
  · have hp1 := of_decide_eq_false hb1
    refine CE.cond_f rfl hb1 ?_
    refine CE.exit' ?_
    refine XE.exit_then ?_
    refine XE.exit_then ?_
    refine XE.exit_here ?_
    refine NE.code ?_
    refine CE.seq ?_
    refine CE.region ?_
    refine WL.det (op_loadA (i := 0) (cs := [vS b'1 0 n c'1, vI ((i0 : Nat) : Int), vI tk, vF tc0, vF tc1, vF tc2, vF ts0, vF ts1, vI dk, vF dc0, vF dc1, vF dc2, vF ds0, vF ds1, vF g]) rfl Try.isAgg33 Try.sizeOf33 (r5.mod m5 (nC (lE (lL (lL r1.lt m2.size) ge1)) nN)).rng rfl rfl rfl) rfl rfl rfl ?_
    refine WL.op0 (op_store (i := 0) (cs := [vS b'1 0 n c'1, vI ((i0 : Nat) : Int), vI tk, vF tc0, vF tc1, vF tc2, vF ts0, vF ts1, vI dk, vF dc0, vF dc1, vF dc2, vF ds0, vF ds1, vF g]) rfl rfl rfl Try.sizeOf33 rfl (((r2.ext m3).mod m4 (nC (lG (lL r1.lt lR)) nN)).mod m5 (nC (lE (lL r2.lt ge1)) nN)) rfl (lB rfl) rfl) rfl rfl ?_
    rintro _ w9 ⟨r10, m8, z5⟩
    have r11 : Row w9 w1.heap.size 0 [vS b'1 0 n c'1, vI ((i0 : Nat) : Int), vI tk, vF tc0, vF tc1, vF tc2, vF ts0, vF ts1, vI dk, vF dc0, vF dc1, vF dc2, vF ds0, vF ds1, vF g] := Row.congr r10 rfl
    refine WL.end ?_
    refine NE.code ?_
    refine CE.ret' ?_
    have ei : n = i := by omega
    subst ei
    refine XE.leaveC Try.results65 (res_agg (cs := [vS b'1 0 n c'1, vI ((i0 : Nat) : Int), vI tk, vF tc0, vF tc1, vF tc2, vF ts0, vF ts1, vI dk, vF dc0, vF dc1, vF dc2, vF ds0, vF ds1, vF g]) rfl Try.isAgg33 Try.sizeOf33 r11.rng rfl res_nil) ?_
    refine ⟨b'1, c'1, ys, rfl, ?_, ?_, ?_, (r6.mod m8 (nC (lG (lL r2.lt ge1)) nN)), (lT (lT m1.size m2.size) ge1), (((((((Mod.refl [] w).nt m1).nt m2).nt m3).then m4 ((aC (.inr lR) aN))).then m5 ((aC (.inr (lT (lT m1.size m2.size) ge1)) aN))).then m8 ((aC (.inr (lT m1.size lR)) aN)))⟩
    all_goals first | assumption | rfl

set_option maxRecDepth 100000 in
set_option maxHeartbeats 2000000 in
theorem c_sStrike (n : Nat) (c : Nat) (b : Nat) (xs : List Nat) (i0 : Nat) (tk : Int) (tc0 : Nat) (tc1 : Nat) (tc2 : Nat) (ts0 : Nat) (ts1 : Nat) (dk : Int) (dc0 : Nat) (dc1 : Nat) (dc2 : Nat) (ds0 : Nat) (ds1 : Nat) (g : Nat) (pl : Nat) (m : Nat) (cm : Nat) (bh : Nat) (hs : List Nat) (ln : xs.length = n) (hi0 : i0 < n) (hn : n ≤ 1024) (wx : W32 xs) (h0 : 0 < n) (lts0 : ts0 < wid .f32) (lts1 : ts1 < wid .f32) (lds0 : ds0 < wid .f32) (lds1 : ds1 < wid .f32) (lpl : pl < wid .f32) (hv : vStr n ((i0 : Nat) : Int) tk tc0 tc1 tc2 ts0 ts1 dk dc0 dc1 dc2 ds0 ds1 g = true) (hp : placeF pl = true) (hf : allF hs m = true) (lnh : hs.length = m) (wh : W32 hs) (hm : m ≤ 1048576) (w : World) (r : Rng w b 0 (fl xs)) (rh : Rng w bh 0 (fl hs)) : Cl Try.prog 40 #[.agg #[vS b 0 n c, vI ((i0 : Nat) : Int), vI tk, vF tc0, vF tc1, vF tc2, vF ts0, vF ts1, vI dk, vF dc0, vF dc1, vF dc2, vF ds0, vF ds1, vF g], vF pl, vS bh 0 m cm] w fun v w' => ∃ (b' : Nat) (c' : Nat) (zs : List Nat), v = .tuple #[.agg #[vS b' 0 n c', vI ((i0 : Nat) : Int), vI tk, vF tc0, vF tc1, vF tc2, vF ts0, vF ts1, vI dk, vF dc0, vF dc1, vF dc2, vF ds0, vF ds1, vF g], vI 0] ∧ (zs.length = n) ∧ (W32 zs) ∧ (Cn zs (chg (strikeF hs m (posF (fop .mul .f32 pl (FloatKind.f32.nearest ((n : Nat) : Int))))) n i0 xs n)) ∧ Row w' b' 0 (fl zs) ∧ w.heap.size ≤ b' ∧ Mod [] w w' := by
  have hsp := (Spot.of (place_ge hp) (place_lt hp) (by first | assumption | omega)).le
  refine Cl.of Try.func40 Try.ntmps40 rfl rfl (ρ := [(0, .agg #[vS b 0 n c, vI ((i0 : Nat) : Int), vI tk, vF tc0, vF tc1, vF tc2, vF ts0, vF ts1, vI dk, vF dc0, vF dc1, vF dc2, vF ds0, vF ds1, vF g]), (1, vF pl), (2, vS bh 0 m cm)]) rfl ?_
  refine CE.seq ?_
  refine CE.region ?_
  refine WL.op (op_box (cs := [vS b 0 n c, vI ((i0 : Nat) : Int), vI tk, vF tc0, vF tc1, vF tc2, vF ts0, vF ts1, vI dk, vF dc0, vF dc1, vF dc2, vF ds0, vF ds1, vF g]) rfl rfl) rfl rfl (ltb rfl) ?_
  rintro _ w1 ⟨rfl, r1, m1, z1⟩
  refine WL.op (op_alloc (cs := [.slice none 0 0, vI 0, vI 0, vF 0, vF 0, vF 0, vF 0, vF 0, vI 0, vF 0, vF 0, vF 0, vF 0, vF 0, vF 0]) Try.zeroValue33 rfl) rfl rfl (ltb rfl) ?_
  rintro _ w2 ⟨rfl, r2, m2, z2⟩
  refine WL.det (op_assign rfl) rfl rfl rfl ?_
  refine WL.end ?_
  refine NE.code ?_
  refine CE.seq ?_
  refine CE.seq ?_
  refine CE.region ?_
  refine WL.call (oc_call (vs := [vP w.heap.size 0]) (cap := []) rfl rfl rfl Try.call70 (c_l03Ok n c (some ⟨b, 0, none⟩) ((i0 : Nat) : Int) tk tc0 tc1 tc2 ts0 ts1 dk dc0 dc1 dc2 ds0 ds1 g w.heap.size 0 [vS b 0 n c, vI ((i0 : Nat) : Int), vI tk, vF tc0, vF tc1, vF tc2, vF ts0, vF ts1, vI dk, vF dc0, vF dc1, vF dc2, vF ds0, vF ds1, vF g] (by omega) (lB rfl) w2 (Row.congr (r1.ext m2) rfl).rng)) rfl rfl (ltb rfl) ?_
  rintro _ w3 ⟨rfl, m3⟩
  refine WL.det (op_not rfl) rfl rfl rfl ?_
  refine WL.end ?_
  refine NE.code ?_
  refine CE.cond_f rfl (bnot_t hv) ?_
  refine CE.skip' ?_
  refine NE.code ?_
  refine CE.seq ?_
  refine CE.seq ?_
  refine CE.region ?_
  refine WL.det (op_move rfl) rfl rfl rfl ?_
  refine WL.det (op_fge (c := fGe .f32 pl 0) rfl rfl rfl rfl rfl) rfl rfl rfl ?_
  refine WL.det (op_move rfl) rfl rfl rfl ?_
  refine WL.yes rfl rfl rfl (ltb rfl) rfl (place_ge hp) ?_
  refine WL.det (op_move rfl) rfl rfl rfl ?_
  refine WL.yes rfl rfl rfl (ltb rfl) rfl (place_ge hp) ?_
  refine WL.det (op_flt (c := fLt .f32 pl 1065353216) rfl rfl rfl rfl rfl) rfl rfl rfl ?_
  refine WL.det (op_pick_t rfl (place_ge hp) rfl) rfl rfl rfl ?_
  refine WL.det (op_not rfl) rfl rfl rfl ?_
  refine WL.end ?_
  refine NE.code ?_
  refine CE.cond_f rfl (bnot_t (place_lt hp)) ?_
  refine CE.skip' ?_
  refine NE.code ?_
  refine CE.seq ?_
  refine CE.seq ?_
  refine CE.region ?_
  refine WL.det (op_assign rfl) rfl rfl rfl ?_
  refine WL.end ?_
  refine NE.code ?_
  refine CE.block ?_
  refine CE.loop (fun (i : Nat) => [(8, vI ((i : Nat) : Int)), (1, vF pl), (2, vS bh 0 m cm), (3, vP w.heap.size 0), (6, vP w1.heap.size 0), (7, vI 0)]) (fun (i : Nat) => fun W => (i ≤ m) ∧ (allF hs i = true) ∧ Mod [] w3 W) (fun (i : Nat) => m - i) 0 (⟨rfl, rfl, rfl, rfl, rfl, rfl, trivial⟩) ⟨(by omega), (by rfl), Mod.refl _ _⟩ ?_
  rintro i w4 ⟨hi, hu, m4⟩
  show CE _ _ _ _ [(8, vI ((i : Nat) : Int)), (1, vF pl), (2, vS bh 0 m cm), (3, vP w.heap.size 0), (6, vP w1.heap.size 0), (7, vI 0)] _
  refine CE.seq ?_
  refine CE.seq ?_
  refine CE.region ?_
  refine WL.det (op_move rfl) rfl rfl rfl ?_
  refine WL.det (op_move rfl) rfl rfl rfl ?_
  refine WL.det (op_len rfl Try.runUnderlying24) rfl rfl rfl ?_
  refine WL.det (op_lti rfl rfl) rfl rfl rfl ?_
  refine WL.end ?_
  refine NE.code ?_
  rcases Bool.eq_false_or_eq_true (decide (((i : Nat) : Int) < ((m : Nat) : Int))) with hb1 | hb1
  · have hp1 := of_decide_eq_true hb1
    refine CE.cond_t rfl hb1 ?_
    refine CE.skip' ?_
    refine NE.code ?_
    refine CE.seq ?_
    refine CE.block ?_
    refine CE.seq ?_
    refine CE.region ?_
    refine WL.det (op_move rfl) rfl rfl rfl ?_
    refine WL.det (op_move rfl) rfl rfl rfl ?_
    refine WL.det (op_indexSl (off' := 0 + i) rfl rfl rfl Try.runUnderlying24 Try.sizeOf27 (by omega) (by omega) (by omega)) rfl rfl rfl ?_
    refine WL.det (op_load1 (i := i) rfl Try.isAgg27 ((((rh.ext m1).ext m2).ext m3).ext m4) rfl (fl_get (by have eL : List.length hs = m := lnh; omega))) rfl rfl rfl ?_
    refine WL.call (oc_call (vs := [vF (hs.getD i 0)]) (cap := []) rfl rfl rfl Try.call71 (c_l01Finite (hs.getD i 0) (hs.getD i 0) rfl w4)) rfl rfl (ltb rfl) ?_
    rintro _ w5 ⟨rfl, m5⟩
    refine WL.det (op_not rfl) rfl rfl rfl ?_
    refine WL.end ?_
    refine NE.code ?_
    refine CE.cond_f rfl (bnot_t (allF_get hf (by omega))) ?_
    refine CE.skip' ?_
    refine NE.blk ?_
    refine NE.code ?_
    refine CE.region ?_
    refine WL.det (op_move rfl) rfl rfl rfl ?_
    refine WL.det (op_add (r := ((i + 1 : Nat) : Int)) rfl rfl (w_i64 (by omega) (by omega))) rfl rfl rfl ?_
    refine WL.det (op_assign rfl) rfl rfl rfl ?_
    refine WL.end ?_
    exact NE.again (i + 1) (⟨rfl, rfl, rfl, rfl, rfl, rfl, trivial⟩) ⟨(by omega), (by exact allF_step hu (by first | assumption | exact allF_get hf (by omega))), (m4.nt m5)⟩ (by first | (dsimp only; omega) | omega)
  · have hp1 := of_decide_eq_false hb1
    refine CE.cond_f rfl hb1 ?_
    refine CE.exit' ?_
    refine XE.exit_then ?_
    refine XE.exit_then ?_
    refine XE.exit_here ?_
    refine NE.code ?_
    refine CE.seq ?_
    refine CE.region ?_
    refine WL.call (oc_call (vs := [vP w.heap.size 0]) (cap := []) rfl rfl rfl Try.call72 (c_l03Copy n c b xs ((i0 : Nat) : Int) tk tc0 tc1 tc2 ts0 ts1 dk dc0 dc1 dc2 ds0 ds1 g w.heap.size 0 [vS b 0 n c, vI ((i0 : Nat) : Int), vI tk, vF tc0, vF tc1, vF tc2, vF ts0, vF ts1, vI dk, vF dc0, vF dc1, vF dc2, vF ds0, vF ds1, vF g] ln (by omega) (by omega) (lB rfl) w4 (Row.congr (((r1.ext m2).ext m3).ext m4) rfl).rng ((((r.ext m1).ext m2).ext m3).ext m4))) rfl rfl (ltb rfl) ?_
    rintro _ w6 ⟨b'1, c'1, rfl, r3, ge1, m6⟩
    refine WL.op (op_alloc (cs := [.slice none 0 0, vI 0, vI 0, vF 0, vF 0, vF 0, vF 0, vF 0, vI 0, vF 0, vF 0, vF 0, vF 0, vF 0, vF 0]) Try.zeroValue33 rfl) rfl rfl (ltb rfl) ?_
    rintro _ w7 ⟨rfl, r4, m7, z3⟩
    refine WL.op0 (op_store (i := 0) (cs := [vS b'1 0 n c'1, vI ((i0 : Nat) : Int), vI tk, vF tc0, vF tc1, vF tc2, vF ts0, vF ts1, vI dk, vF dc0, vF dc1, vF dc2, vF ds0, vF ds1, vF g]) rfl rfl rfl Try.sizeOf33 rfl r4 rfl (lB rfl) rfl) rfl rfl ?_
    rintro _ w8 ⟨r5, m8, z4⟩
    have r6 : Row w8 w6.heap.size 0 [vS b'1 0 n c'1, vI ((i0 : Nat) : Int), vI tk, vF tc0, vF tc1, vF tc2, vF ts0, vF ts1, vI dk, vF dc0, vF dc1, vF dc2, vF ds0, vF ds1, vF g] := Row.congr r5 rfl
    refine WL.end ?_
    refine NE.code ?_
    refine CE.seq ?_
    refine CE.region ?_
    refine WL.det (op_fieldAddr (off' := 0) rfl Try.runUnderlying33 rfl rfl Try.sizeOf26 rfl) rfl rfl rfl ?_
    refine WL.det (op_fieldAddr (off' := 0) rfl Try.runUnderlying26 rfl rfl Try.sizeOf24 rfl) rfl rfl rfl ?_
    refine WL.det (op_load1 (i := 0) rfl Try.isAgg24 ((((((r1.ext m2).ext m3).ext m4).ext m6).ext m7).mod m8 (nC (lE (lL (lL r1.lt (lT (lT (lT m2.size m3.size) m4.size) m6.size)) lR)) nN)).rng rfl rfl) rfl rfl rfl ?_
    refine WL.det (op_len rfl Try.runUnderlying24) rfl rfl rfl ?_
    refine WL.det (op_assign rfl) rfl rfl rfl ?_
    refine WL.end ?_
    refine NE.code ?_
    refine CE.seq ?_
    refine CE.region ?_
    refine WL.det (op_move rfl) rfl rfl rfl ?_
    refine WL.det (op_move rfl) rfl rfl rfl ?_
    refine WL.det (op_cvt_if rfl Try.runUnderlying2 Try.runUnderlying27) rfl rfl rfl ?_
    refine WL.op (op_farith (e := (fop .mul .f32 pl (FloatKind.f32.nearest ((n : Nat) : Int)))) (.inr (.inr (.inl rfl))) rfl rfl rfl rfl rfl) rfl rfl (ltb rfl) ?_
    rintro _ w9 ⟨⟨f1, rfl, hf1, lf1⟩, m9⟩
    refine WL.det (op_ftoi rfl Try.runUnderlying27 Try.runUnderlying2 (SpotE.toInt32 hf1 ⟨n, by omega, (Spot.of (place_ge hp) (place_lt hp) (by first | assumption | omega))⟩) (SpotE.bd ⟨n, by omega, (Spot.of (place_ge hp) (place_lt hp) (by first | assumption | omega))⟩)) rfl rfl rfl ?_
    refine WL.det (op_assign rfl) rfl rfl rfl ?_
    refine WL.end ?_
    refine NE.code ?_
    refine CE.seq ?_
    refine CE.seq ?_
    refine CE.region ?_
    refine WL.det (op_assign rfl) rfl rfl rfl ?_
    refine WL.end ?_
    refine NE.code ?_
    refine CE.block ?_
    refine CE.loop (fun (z : Nat × List Nat) => [(12, vI ((z.1 : Nat) : Int)), (2, vS bh 0 m cm), (6, vP w1.heap.size 0), (7, vI 0), (9, vP w6.heap.size 0), (10, vI ((n : Nat) : Int)), (11, vI ((posF (fop .mul .f32 pl (FloatKind.f32.nearest ((n : Nat) : Int))) : Nat) : Int))]) (fun (z : Nat × List Nat) => fun W => (z.1 ≤ m) ∧ ((posF (fop .mul .f32 pl (FloatKind.f32.nearest ((n : Nat) : Int)))) + z.1 ≤ n) ∧ (z.2.length = n) ∧ (W32 z.2) ∧ (Cn z.2 (chg (strikeF hs m (posF (fop .mul .f32 pl (FloatKind.f32.nearest ((n : Nat) : Int))))) n i0 xs ((posF (fop .mul .f32 pl (FloatKind.f32.nearest ((n : Nat) : Int)))) + z.1))) ∧ Row W b'1 0 (fl z.2) ∧ Mod [b'1] w9 W) (fun (z : Nat × List Nat) => m - z.1) (0, xs) (⟨rfl, rfl, rfl, rfl, rfl, rfl, rfl, trivial⟩) ⟨(by omega), (by rw [Nat.add_zero]; exact hsp), (by exact ln), (by exact wx), (by rw [Nat.add_zero, strike_start]; exact Cn.refl _), (Row.congr (((r3.ext m7).mod m8 (nC (lE (lL r3.lt lR)) nN)).ext m9) rfl), Mod.refl _ _⟩ ?_
    rintro ⟨k, ys⟩ w10 ⟨hk, hfk, hl, hx, hc, r7, m10⟩
    replace hk : k ≤ m := hk
    replace hfk : (posF (fop .mul .f32 pl (FloatKind.f32.nearest ((n : Nat) : Int)))) + k ≤ n := hfk
    replace hl : ys.length = n := hl
    replace hx : W32 ys := hx
    replace hc : Cn ys (chg (strikeF hs m (posF (fop .mul .f32 pl (FloatKind.f32.nearest ((n : Nat) : Int))))) n i0 xs ((posF (fop .mul .f32 pl (FloatKind.f32.nearest ((n : Nat) : Int)))) + k)) := hc
    replace r7 : Row w10 b'1 0 (fl ys) := r7
    show CE _ _ _ _ [(12, vI ((k : Nat) : Int)), (2, vS bh 0 m cm), (6, vP w1.heap.size 0), (7, vI 0), (9, vP w6.heap.size 0), (10, vI ((n : Nat) : Int)), (11, vI ((posF (fop .mul .f32 pl (FloatKind.f32.nearest ((n : Nat) : Int))) : Nat) : Int))] _
    refine CE.seq ?_
    refine CE.seq ?_
    refine CE.region ?_
    refine WL.det (op_move rfl) rfl rfl rfl ?_
    refine WL.det (op_move rfl) rfl rfl rfl ?_
    refine WL.det (op_len rfl Try.runUnderlying24) rfl rfl rfl ?_
    refine WL.det (op_lti rfl rfl) rfl rfl rfl ?_
    refine WL.det (op_move rfl) rfl rfl rfl ?_
    rcases Bool.eq_false_or_eq_true (decide (((k : Nat) : Int) < ((m : Nat) : Int))) with hb2 | hb2
    · have hp2 := of_decide_eq_true hb2
      refine WL.yes rfl rfl rfl (ltb rfl) rfl hb2 ?_
      refine WL.det (op_move rfl) rfl rfl rfl ?_
      refine WL.yes rfl rfl rfl (ltb rfl) rfl hb2 ?_
      refine WL.det (op_move rfl) rfl rfl rfl ?_
      refine WL.yes rfl rfl rfl (ltb rfl) rfl hb2 ?_
      refine WL.det (op_add (r := ((posF (fop .mul .f32 pl (FloatKind.f32.nearest ((n : Nat) : Int))) + k : Nat) : Int)) rfl rfl (w_i64 (by omega) (by omega))) rfl rfl rfl ?_
      refine WL.yes rfl rfl rfl (ltb rfl) rfl hb2 ?_
      refine WL.det (op_move rfl) rfl rfl rfl ?_
      refine WL.yes rfl rfl rfl (ltb rfl) rfl hb2 ?_
      refine WL.det (op_lti rfl rfl) rfl rfl rfl ?_
      refine WL.det (op_pick_t rfl hb2 rfl) rfl rfl rfl ?_
      refine WL.end ?_
      refine NE.code ?_
      rcases Bool.eq_false_or_eq_true (decide (((posF (fop .mul .f32 pl (FloatKind.f32.nearest ((n : Nat) : Int))) + k : Nat) : Int) < ((n : Nat) : Int))) with hb3 | hb3
      · have hp3 := of_decide_eq_true hb3
        refine CE.cond_t rfl hb3 ?_
        refine CE.skip' ?_
        refine NE.code ?_
        refine CE.seq ?_
        refine CE.block ?_
        refine CE.region ?_
        refine WL.det (op_fieldAddr (off' := 0) rfl Try.runUnderlying33 rfl rfl Try.sizeOf26 rfl) rfl rfl rfl ?_
        refine WL.det (op_move rfl) rfl rfl rfl ?_
        refine WL.det (op_move rfl) rfl rfl rfl ?_
        refine WL.det (op_add (r := ((posF (fop .mul .f32 pl (FloatKind.f32.nearest ((n : Nat) : Int))) + k : Nat) : Int)) rfl rfl (w_i64 (by omega) (by omega))) rfl rfl rfl ?_
        refine WL.det (op_move rfl) rfl rfl rfl ?_
        refine WL.det (op_move rfl) rfl rfl rfl ?_
        refine WL.det (op_indexSl (off' := 0 + k) rfl rfl rfl Try.runUnderlying24 Try.sizeOf27 (by omega) (by omega) (by omega)) rfl rfl rfl ?_
        refine WL.det (op_load1 (i := k) rfl Try.isAgg27 (Rng.youngS rh ((Rng.youngS rh ((((((rh.ext m1).ext m2).ext m3).ext m4).ext m6).ext m7) m8 (allge_cons (lT (lT (lT (lT (lT m1.size m2.size) m3.size) m4.size) m6.size) lR) allge_nil)).ext m9) m10 (allge_cons (lT (lT (lT (lT m1.size m2.size) m3.size) m4.size) ge1) allge_nil)) rfl (fl_get (by have eL : List.length hs = m := lnh; omega))) rfl rfl rfl ?_
        refine WL.call (oc_call (vs := [vP w6.heap.size 0, vI ((posF (fop .mul .f32 pl (FloatKind.f32.nearest ((n : Nat) : Int))) + k : Nat) : Int), vF (hs.getD k 0)]) (cap := []) rfl rfl rfl Try.call74 (c_l03Add n c'1 b'1 ys (chg (strikeF hs m (posF (fop .mul .f32 pl (FloatKind.f32.nearest ((n : Nat) : Int))))) n i0 xs ((posF (fop .mul .f32 pl (FloatKind.f32.nearest ((n : Nat) : Int)))) + k)) i0 (posF (fop .mul .f32 pl (FloatKind.f32.nearest ((n : Nat) : Int))) + k) w6.heap.size 0 [vS b'1 0 n c'1, vI ((i0 : Nat) : Int), vI tk, vF tc0, vF tc1, vF tc2, vF ts0, vF ts1, vI dk, vF dc0, vF dc1, vF dc2, vF ds0, vF ds1, vF g] (hs.getD k 0) (hs.getD k 0) hl (by omega) (by omega) (by omega) hx hc (lB rfl) rfl (wh.get _) w10 (Row.congr ((r6.ext m9).mod m10 (nC (lG (lL r3.lt lR)) nN)) rfl).rng r7 (lG (lL r3.lt lR)))) rfl rfl (ltb rfl) ?_
        rintro _ w11 ⟨r8, rfl, h1, h2, r9, m11⟩
        refine WL.end ?_
        refine NE.blk ?_
        refine NE.code ?_
        refine CE.region ?_
        refine WL.det (op_move rfl) rfl rfl rfl ?_
        refine WL.det (op_add (r := ((k + 1 : Nat) : Int)) rfl rfl (w_i64 (by omega) (by omega))) rfl rfl rfl ?_
        refine WL.det (op_assign rfl) rfl rfl rfl ?_
        refine WL.end ?_
        exact NE.again ((k + 1), (ys.set ((i0 + (posF (fop .mul .f32 pl (FloatKind.f32.nearest ((n : Nat) : Int))) + k)) % n) r8)) (⟨rfl, rfl, rfl, rfl, rfl, rfl, rfl, trivial⟩) ⟨(by omega), (by omega), (by exact (List.length_set).trans hl), (by exact W32.set hx (by assumption)), (by show Cn (ys.set _ _) (chg _ _ _ _ ((posF (fop .mul .f32 pl (FloatKind.f32.nearest ((n : Nat) : Int)))) + k + 1)); rw [chg_succ, strike_at (by omega)]; exact Cn.set hc (by assumption) _), (Row.congr r9 rfl), (m10.then m11 ((aC (.inl (by simp)) aN)))⟩ (by first | (dsimp only; omega) | omega)
      · have hp3 := of_decide_eq_false hb3
        refine CE.cond_f rfl hb3 ?_
        refine CE.exit' ?_
        refine XE.exit_then ?_
        refine XE.exit_then ?_
        refine XE.exit_here ?_
        refine NE.code ?_
        refine CE.seq ?_
        refine CE.region ?_
        refine WL.det (op_loadA (i := 0) (cs := [vS b'1 0 n c'1, vI ((i0 : Nat) : Int), vI tk, vF tc0, vF tc1, vF tc2, vF ts0, vF ts1, vI dk, vF dc0, vF dc1, vF dc2, vF ds0, vF ds1, vF g]) rfl Try.isAgg33 Try.sizeOf33 ((r6.ext m9).mod m10 (nC (lG (lL r3.lt lR)) nN)).rng rfl rfl rfl) rfl rfl rfl ?_
        refine WL.op0 (op_store (i := 0) (cs := [vS b'1 0 n c'1, vI ((i0 : Nat) : Int), vI tk, vF tc0, vF tc1, vF tc2, vF ts0, vF ts1, vI dk, vF dc0, vF dc1, vF dc2, vF ds0, vF ds1, vF g]) rfl rfl rfl Try.sizeOf33 rfl (((((((r2.ext m3).ext m4).ext m6).ext m7).mod m8 (nC (lE (lL (lL r2.lt (lT (lT m3.size m4.size) m6.size)) lR)) nN)).ext m9).mod m10 (nC (lE (lL (lL r2.lt (lT m3.size m4.size)) ge1)) nN)) rfl (lB rfl) rfl) rfl rfl ?_
        rintro _ w12 ⟨r10, m12, z5⟩
        have r11 : Row w12 w1.heap.size 0 [vS b'1 0 n c'1, vI ((i0 : Nat) : Int), vI tk, vF tc0, vF tc1, vF tc2, vF ts0, vF ts1, vI dk, vF dc0, vF dc1, vF dc2, vF ds0, vF ds1, vF g] := Row.congr r10 rfl
        refine WL.det (op_assign rfl) rfl rfl rfl ?_
        refine WL.end ?_
        refine NE.code ?_
        refine CE.ret' ?_
        refine XE.leaveT Try.results40 (res_agg (cs := [vS b'1 0 n c'1, vI ((i0 : Nat) : Int), vI tk, vF tc0, vF tc1, vF tc2, vF ts0, vF ts1, vI dk, vF dc0, vF dc1, vF dc2, vF ds0, vF ds1, vF g]) rfl Try.isAgg33 Try.sizeOf33 r11.rng rfl (res_tmp rfl res_nil)) ?_
        refine ⟨b'1, c'1, ys, rfl, ?_, ?_, ?_, (r7.mod m12 (nC (lG (lL (lL r2.lt (lT m3.size m4.size)) ge1)) nN)), (lT (lT (lT (lT m1.size m2.size) m3.size) m4.size) ge1), (((((((((((Mod.refl [] w).nt m1).nt m2).nt m3).nt m4).nt m6).nt m7).then m8 ((aC (.inr (lT (lT (lT (lT (lT m1.size m2.size) m3.size) m4.size) m6.size) lR)) aN))).nt m9).then m10 ((aC (.inr (lT (lT (lT (lT m1.size m2.size) m3.size) m4.size) ge1)) aN))).then m12 ((aC (.inr (lT m1.size lR)) aN)))⟩
        all_goals first | assumption | rfl | exact hl | exact hx | (rw [strike_end hk hfk (by omega)]; exact hc)
    · have hp2 := of_decide_eq_false hb2
      refine WL.no rfl rfl rfl (ltb rfl) rfl hb2 rfl (ltb rfl) ?_
      refine WL.no rfl rfl rfl (ltb rfl) rfl hb2 rfl (ltb rfl) ?_
      refine WL.no rfl rfl rfl (ltb rfl) rfl hb2 rfl (ltb rfl) ?_
      refine WL.no rfl rfl rfl (ltb rfl) rfl hb2 rfl (ltb rfl) ?_
      refine WL.no rfl rfl rfl (ltb rfl) rfl hb2 rfl (ltb rfl) ?_
      refine WL.det (op_pick_f rfl hb2 rfl) rfl rfl rfl ?_
      refine WL.end ?_
      refine NE.code ?_
      refine CE.cond_f rfl rfl ?_
      refine CE.exit' ?_
      refine XE.exit_then ?_
      refine XE.exit_then ?_
      refine XE.exit_here ?_
      refine NE.code ?_
      refine CE.seq ?_
      refine CE.region ?_
      refine WL.det (op_loadA (i := 0) (cs := [vS b'1 0 n c'1, vI ((i0 : Nat) : Int), vI tk, vF tc0, vF tc1, vF tc2, vF ts0, vF ts1, vI dk, vF dc0, vF dc1, vF dc2, vF ds0, vF ds1, vF g]) rfl Try.isAgg33 Try.sizeOf33 ((r6.ext m9).mod m10 (nC (lG (lL r3.lt lR)) nN)).rng rfl rfl rfl) rfl rfl rfl ?_
      refine WL.op0 (op_store (i := 0) (cs := [vS b'1 0 n c'1, vI ((i0 : Nat) : Int), vI tk, vF tc0, vF tc1, vF tc2, vF ts0, vF ts1, vI dk, vF dc0, vF dc1, vF dc2, vF ds0, vF ds1, vF g]) rfl rfl rfl Try.sizeOf33 rfl (((((((r2.ext m3).ext m4).ext m6).ext m7).mod m8 (nC (lE (lL (lL r2.lt (lT (lT m3.size m4.size) m6.size)) lR)) nN)).ext m9).mod m10 (nC (lE (lL (lL r2.lt (lT m3.size m4.size)) ge1)) nN)) rfl (lB rfl) rfl) rfl rfl ?_
      rintro _ w13 ⟨r12, m13, z6⟩
      have r13 : Row w13 w1.heap.size 0 [vS b'1 0 n c'1, vI ((i0 : Nat) : Int), vI tk, vF tc0, vF tc1, vF tc2, vF ts0, vF ts1, vI dk, vF dc0, vF dc1, vF dc2, vF ds0, vF ds1, vF g] := Row.congr r12 rfl
      refine WL.det (op_assign rfl) rfl rfl rfl ?_
      refine WL.end ?_
      refine NE.code ?_
      refine CE.ret' ?_
      refine XE.leaveT Try.results40 (res_agg (cs := [vS b'1 0 n c'1, vI ((i0 : Nat) : Int), vI tk, vF tc0, vF tc1, vF tc2, vF ts0, vF ts1, vI dk, vF dc0, vF dc1, vF dc2, vF ds0, vF ds1, vF g]) rfl Try.isAgg33 Try.sizeOf33 r13.rng rfl (res_tmp rfl res_nil)) ?_
      refine ⟨b'1, c'1, ys, rfl, ?_, ?_, ?_, (r7.mod m13 (nC (lG (lL (lL r2.lt (lT m3.size m4.size)) ge1)) nN)), (lT (lT (lT (lT m1.size m2.size) m3.size) m4.size) ge1), (((((((((((Mod.refl [] w).nt m1).nt m2).nt m3).nt m4).nt m6).nt m7).then m8 ((aC (.inr (lT (lT (lT (lT (lT m1.size m2.size) m3.size) m4.size) m6.size) lR)) aN))).nt m9).then m10 ((aC (.inr (lT (lT (lT (lT m1.size m2.size) m3.size) m4.size) ge1)) aN))).then m13 ((aC (.inr (lT m1.size lR)) aN)))⟩
      all_goals first | assumption | rfl | exact hl | exact hx | (rw [strike_end hk hfk (by omega)]; exact hc)

set_option maxRecDepth 100000 in
set_option maxHeartbeats 2000000 in
theorem c_iStrike (n : Nat) (c : Nat) (b : Nat) (xs : List Nat) (i0 : Nat) (tk : Int) (tc0 : Nat) (tc1 : Nat) (tc2 : Nat) (ts0 : Nat) (ts1 : Nat) (dk : Int) (dc0 : Nat) (dc1 : Nat) (dc2 : Nat) (ds0 : Nat) (ds1 : Nat) (g : Nat) (pl : Nat) (m : Nat) (cm : Nat) (bh : Nat) (hs : List Nat) (ln : xs.length = n) (hi0 : i0 < n) (hn : n ≤ 1024) (wx : W32 xs) (h0 : 0 < n) (lts0 : ts0 < wid .f32) (lts1 : ts1 < wid .f32) (lds0 : ds0 < wid .f32) (lds1 : ds1 < wid .f32) (lpl : pl < wid .f32) (hv : vStr n ((i0 : Nat) : Int) tk tc0 tc1 tc2 ts0 ts1 dk dc0 dc1 dc2 ds0 ds1 g = true) (hp : placeF pl = true) (hf : allF hs m = true) (lnh : hs.length = m) (wh : W32 hs) (hm : m ≤ 1048576) (w : World) (r : Rng w b 0 (fl xs)) (rh : Rng w bh 0 (fl hs)) : Cl Try.prog 42 #[.agg #[vS b 0 n c, vI ((i0 : Nat) : Int), vI tk, vF tc0, vF tc1, vF tc2, vF ts0, vF ts1, vI dk, vF dc0, vF dc1, vF dc2, vF ds0, vF ds1, vF g], vF pl, vS bh 0 m cm] w fun v w' => ∃ (b' : Nat) (c' : Nat) (zs : List Nat), v = .tuple #[.agg #[vS b' 0 n c', vI ((i0 : Nat) : Int), vI tk, vF tc0, vF tc1, vF tc2, vF ts0, vF ts1, vI dk, vF dc0, vF dc1, vF dc2, vF ds0, vF ds1, vF g], vI 0] ∧ (zs.length = n) ∧ (W32 zs) ∧ (Cn zs (chg (strikeF hs m (posF (fop .mul .f32 pl (FloatKind.f32.nearest ((n : Nat) : Int))))) n i0 xs n)) ∧ Row w' b' 0 (fl zs) ∧ w.heap.size ≤ b' ∧ Mod [] w w' := by
  have hsp := (Spot.of (place_ge hp) (place_lt hp) (by first | assumption | omega)).le
  refine Cl.of Try.func42 Try.ntmps42 rfl rfl (ρ := [(0, .agg #[vS b 0 n c, vI ((i0 : Nat) : Int), vI tk, vF tc0, vF tc1, vF tc2, vF ts0, vF ts1, vI dk, vF dc0, vF dc1, vF dc2, vF ds0, vF ds1, vF g]), (1, vF pl), (2, vS bh 0 m cm)]) rfl ?_
  refine CE.seq ?_
  refine CE.region ?_
  refine WL.op (op_box (cs := [vS b 0 n c, vI ((i0 : Nat) : Int), vI tk, vF tc0, vF tc1, vF tc2, vF ts0, vF ts1, vI dk, vF dc0, vF dc1, vF dc2, vF ds0, vF ds1, vF g]) rfl rfl) rfl rfl (ltb rfl) ?_
  rintro _ w1 ⟨rfl, r1, m1, z1⟩
  refine WL.op (op_box (cs := [vS bh 0 m cm]) rfl rfl) rfl rfl (ltb rfl) ?_
  rintro _ w2 ⟨rfl, r2, m2, z2⟩
  refine WL.op (op_alloc (cs := [.slice none 0 0, vI 0, vI 0, vF 0, vF 0, vF 0, vF 0, vF 0, vI 0, vF 0, vF 0, vF 0, vF 0, vF 0, vF 0]) Try.zeroValue33 rfl) rfl rfl (ltb rfl) ?_
  rintro _ w3 ⟨rfl, r3, m3, z3⟩
  refine WL.det (op_assign rfl) rfl rfl rfl ?_
  refine WL.end ?_
  refine NE.code ?_
  refine CE.seq ?_
  refine CE.block ?_
  refine CE.seq ?_
  refine CE.region ?_
  refine WL.det (op_loadA (i := 0) (cs := [vS b 0 n c, vI ((i0 : Nat) : Int), vI tk, vF tc0, vF tc1, vF tc2, vF ts0, vF ts1, vI dk, vF dc0, vF dc1, vF dc2, vF ds0, vF ds1, vF g]) rfl Try.isAgg33 Try.sizeOf33 ((r1.ext m2).ext m3).rng rfl rfl rfl) rfl rfl rfl ?_
  refine WL.call (oc_call (vs := [.agg #[vS b 0 n c, vI ((i0 : Nat) : Int), vI tk, vF tc0, vF tc1, vF tc2, vF ts0, vF ts1, vI dk, vF dc0, vF dc1, vF dc2, vF ds0, vF ds1, vF g]]) (cap := []) rfl rfl rfl Try.call63 (c_ValidString n c (some ⟨b, 0, none⟩) ((i0 : Nat) : Int) tk tc0 tc1 tc2 ts0 ts1 dk dc0 dc1 dc2 ds0 ds1 g (by omega) w3)) rfl rfl (ltb rfl) ?_
  rintro _ w4 ⟨rfl, m4⟩
  refine WL.det (op_not rfl) rfl rfl rfl ?_
  refine WL.det (op_assign rfl) rfl rfl rfl ?_
  refine WL.end ?_
  refine NE.code ?_
  refine CE.cond_f rfl (bnot_t hv) ?_
  refine CE.seq ?_
  refine CE.region ?_
  refine WL.det (op_move rfl) rfl rfl rfl ?_
  refine WL.call (oc_call (vs := [vF pl]) (cap := []) rfl rfl rfl Try.call96 (c_isPlace pl w4)) rfl rfl (ltb rfl) ?_
  rintro _ w5 ⟨rfl, m5⟩
  refine WL.det (op_not rfl) rfl rfl rfl ?_
  refine WL.det (op_move rfl) rfl rfl rfl ?_
  refine WL.yes rfl rfl rfl (ltb rfl) rfl (bnot_t hp) ?_
  refine WL.det (op_load1 (i := 0) rfl Try.isAgg24 (((r2.ext m3).ext m4).ext m5).rng rfl rfl) rfl rfl rfl ?_
  refine WL.yes rfl rfl rfl (ltb rfl) rfl (bnot_t hp) ?_
  refine WL.call (oc_call (vs := [vS bh 0 m cm]) (cap := []) rfl rfl rfl Try.call106 (c_areFinite m cm bh hs lnh (by omega) w5 (((((rh.ext m1).ext m2).ext m3).ext m4).ext m5))) rfl rfl (ltb rfl) ?_
  rintro _ w6 ⟨rfl, m6⟩
  refine WL.yes rfl rfl rfl (ltb rfl) rfl (bnot_t hp) ?_
  refine WL.det (op_not rfl) rfl rfl rfl ?_
  refine WL.det (op_pick_f rfl (bnot_t hp) rfl) rfl rfl rfl ?_
  refine WL.det (op_assign rfl) rfl rfl rfl ?_
  refine WL.end ?_
  refine NE.code ?_
  refine CE.cond_f rfl (bnot_t hf) ?_
  refine CE.skip' ?_
  refine NE.blk ?_
  refine NE.code ?_
  refine CE.seq ?_
  refine CE.region ?_
  refine WL.det (op_move rfl) rfl rfl rfl ?_
  refine WL.det (op_fieldAddr (off' := 0) rfl Try.runUnderlying33 rfl rfl Try.sizeOf26 rfl) rfl rfl rfl ?_
  refine WL.det (op_fieldAddr (off' := 0) rfl Try.runUnderlying26 rfl rfl Try.sizeOf24 rfl) rfl rfl rfl ?_
  refine WL.det (op_load1 (i := 0) rfl Try.isAgg24 (((((r1.ext m2).ext m3).ext m4).ext m5).ext m6).rng rfl rfl) rfl rfl rfl ?_
  refine WL.det (op_len rfl Try.runUnderlying24) rfl rfl rfl ?_
  refine WL.det (op_cvt_if rfl Try.runUnderlying3 Try.runUnderlying27) rfl rfl rfl ?_
  refine WL.op (op_farith (e := (fop .mul .f32 pl (FloatKind.f32.nearest ((n : Nat) : Int)))) (.inr (.inr (.inl rfl))) rfl rfl rfl rfl rfl) rfl rfl (ltb rfl) ?_
  rintro _ w7 ⟨⟨f1, rfl, hf1, lf1⟩, m7⟩
  refine WL.op (op_widen (e := (wide (fop .mul .f32 pl (FloatKind.f32.nearest ((n : Nat) : Int))))) rfl hf1 Try.runUnderlying27 Try.runUnderlying67 rfl) rfl rfl (ltb rfl) ?_
  rintro _ w8 ⟨⟨f2, rfl, hf2, lf2⟩, m8⟩
  refine WL.call (oc_call (vs := [.float .f64 f2]) (cap := []) rfl rfl rfl Try.call59 (c_mathFloor f2 (wide (fop .mul .f32 pl (FloatKind.f32.nearest ((n : Nat) : Int)))) hf2 (by exact ⟨_, rfl, n, by omega, (Spot.of (place_ge hp) (place_lt hp) (by first | assumption | omega))⟩) w8)) rfl rfl (ltb rfl) ?_
  rintro _ _ ⟨rfl, rfl⟩
  refine WL.det (op_ftoi rfl Try.runUnderlying67 Try.runUnderlying3 (floorX_wide rfl ⟨n, by omega, (Spot.of (place_ge hp) (place_lt hp) (by first | assumption | omega))⟩) (SpotE.bd ⟨n, by omega, (Spot.of (place_ge hp) (place_lt hp) (by first | assumption | omega))⟩)) rfl rfl rfl ?_
  refine WL.op (op_alloc (cs := [vI 0]) Try.zeroValue3 rfl) rfl rfl (ltb rfl) ?_
  rintro _ w9 ⟨rfl, r4, m9, z4⟩
  refine WL.op0 (op_store (i := 0) (cs := [vI ((posF (fop .mul .f32 pl (FloatKind.f32.nearest ((n : Nat) : Int))) : Nat) : Int)]) rfl rfl rfl Try.sizeOf3 rfl r4 rfl (lB rfl) rfl) rfl rfl ?_
  rintro _ w10 ⟨r5, m10, z5⟩
  have r6 : Row w10 w8.heap.size 0 [vI ((posF (fop .mul .f32 pl (FloatKind.f32.nearest ((n : Nat) : Int))) : Nat) : Int)] := Row.congr r5 rfl
  refine WL.end ?_
  refine NE.code ?_
  refine CE.seq ?_
  refine CE.region ?_
  refine WL.det (op_loadA (i := 0) (cs := [vS b 0 n c, vI ((i0 : Nat) : Int), vI tk, vF tc0, vF tc1, vF tc2, vF ts0, vF ts1, vI dk, vF dc0, vF dc1, vF dc2, vF ds0, vF ds1, vF g]) rfl Try.isAgg33 Try.sizeOf33 (((((((((r1.ext m2).ext m3).ext m4).ext m5).ext m6).ext m7).ext m8).ext m9).mod m10 (nC (lE (lL (lL r1.lt (lT (lT (lT (lT (lT (lT m2.size m3.size) m4.size) m5.size) m6.size) m7.size) m8.size)) lR)) nN)).rng rfl rfl rfl) rfl rfl rfl ?_
  refine WL.det (op_makeFunc (vs := []) (us := [vP w8.heap.size 0, vP w1.heap.size 0]) rfl rfl) rfl rfl rfl ?_
  refine WL.call (oc_call (vs := [.agg #[vS b 0 n c, vI ((i0 : Nat) : Int), vI tk, vF tc0, vF tc1, vF tc2, vF ts0, vF ts1, vI dk, vF dc0, vF dc1, vF dc2, vF ds0, vF ds1, vF g], .func (.func 107) #[] #[vP w8.heap.size 0, vP w1.heap.size 0]]) (cap := []) rfl rfl rfl Try.call65 (c_changedStrike n c b xs i0 tk tc0 tc1 tc2 ts0 ts1 dk dc0 dc1 dc2 ds0 ds1 g w8.heap.size w1.heap.size (posF (fop .mul .f32 pl (FloatKind.f32.nearest ((n : Nat) : Int)))) m cm bh hs ln (by omega) (by omega) wx (by omega) lnh wh (by first | assumption | omega) (by first | assumption | omega) w10 (Rng.youngS r (((((((((r.ext m1).ext m2).ext m3).ext m4).ext m5).ext m6).ext m7).ext m8).ext m9) m10 (allge_cons (lT (lT (lT (lT (lT (lT (lT (lT m1.size m2.size) m3.size) m4.size) m5.size) m6.size) m7.size) m8.size) lR) allge_nil)) r6.rng ((((((((r2.ext m3).ext m4).ext m5).ext m6).ext m7).ext m8).ext m9).mod m10 (nC (lE (lL (lL r2.lt (lT (lT (lT (lT (lT m3.size m4.size) m5.size) m6.size) m7.size) m8.size)) lR)) nN)).rng (Rng.youngS rh (((((((((rh.ext m1).ext m2).ext m3).ext m4).ext m5).ext m6).ext m7).ext m8).ext m9) m10 (allge_cons (lT (lT (lT (lT (lT (lT (lT (lT m1.size m2.size) m3.size) m4.size) m5.size) m6.size) m7.size) m8.size) lR) allge_nil)))) rfl rfl (ltb rfl) ?_
  rintro _ w11 ⟨b'1, c'1, zs1, rfl, h1, h2, h3, r7, ge1, m11⟩
  refine WL.op0 (op_store (i := 0) (cs := [vS b'1 0 n c'1, vI ((i0 : Nat) : Int), vI tk, vF tc0, vF tc1, vF tc2, vF ts0, vF ts1, vI dk, vF dc0, vF dc1, vF dc2, vF ds0, vF ds1, vF g]) rfl rfl rfl Try.sizeOf33 rfl ((((((((r3.ext m4).ext m5).ext m6).ext m7).ext m8).ext m9).mod m10 (nC (lE (lL (lL r3.lt (lT (lT (lT (lT m4.size m5.size) m6.size) m7.size) m8.size)) lR)) nN)).ext m11) rfl (lB rfl) rfl) rfl rfl ?_
  rintro _ w12 ⟨r8, m12, z6⟩
  have r9 : Row w12 w2.heap.size 0 [vS b'1 0 n c'1, vI ((i0 : Nat) : Int), vI tk, vF tc0, vF tc1, vF tc2, vF ts0, vF ts1, vI dk, vF dc0, vF dc1, vF dc2, vF ds0, vF ds1, vF g] := Row.congr r8 rfl
  refine WL.det (op_assign rfl) rfl rfl rfl ?_
  refine WL.end ?_
  refine NE.code ?_
  refine CE.ret' ?_
  refine XE.leaveT Try.results42 (res_agg (cs := [vS b'1 0 n c'1, vI ((i0 : Nat) : Int), vI tk, vF tc0, vF tc1, vF tc2, vF ts0, vF ts1, vI dk, vF dc0, vF dc1, vF dc2, vF ds0, vF ds1, vF g]) rfl Try.isAgg33 Try.sizeOf33 r9.rng rfl (res_tmp rfl res_nil)) ?_
  refine ⟨b'1, c'1, zs1, rfl, ?_, ?_, ?_, (r7.mod m12 (nC (lG (lL (lL r3.lt (lT (lT (lT (lT (lT (lT m4.size m5.size) m6.size) m7.size) m8.size) m9.size) m10.size)) ge1)) nN)), (lT (lT (lT (lT (lT (lT (lT (lT (lT (lT m1.size m2.size) m3.size) m4.size) m5.size) m6.size) m7.size) m8.size) m9.size) m10.size) ge1), (((((((((((((Mod.refl [] w).nt m1).nt m2).nt m3).nt m4).nt m5).nt m6).nt m7).nt m8).nt m9).then m10 ((aC (.inr (lT (lT (lT (lT (lT (lT (lT (lT m1.size m2.size) m3.size) m4.size) m5.size) m6.size) m7.size) m8.size) lR)) aN))).nt m11).then m12 ((aC (.inr (lT (lT m1.size m2.size) lR)) aN)))⟩
  all_goals first | assumption | rfl | exact hl | exact hx | (rw [strike_end hk hfk (by omega)]; exact hc)

end Go.Proofs.Ytabfdgpldcegiaa
