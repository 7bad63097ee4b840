/- Strings that are drawn. -/
import Derived.Test.YtabfdgpldcegiaaD14
import Derived.Test.YtabfdgpldcegiaaD6
import Derived.Test.YtabfdgpldcegiaaF8
set_option linter.unusedVariables false
set_option linter.unusedSimpArgs false
namespace Go.Proofs.Ytabfdgpldcegiaa

theorem rng0S {n b o p : Nat} {xs : List Nat} {w0 w w' : World} {S : List Nat} (ln : xs.length = n) (hne : 0 < n → b ≠ p) (h0 : Rng w0 b o (bys xs)) (h : Rng w b o (bys xs)) (m : Mod (p :: S) w w') (hS : ∀ c, c ∈ S → w0.heap.size ≤ c) : Rng w' b o (bys xs) := by
  intro i v hv
  have hi : i < (bys xs).length := (List.getElem?_eq_some_iff.1 hv).1
  rw [bys_len, ln] at hi
  have hlt := World.block_lt_of_cell? w0 _ (h0 i v hv)
  exact m.cell (h i v hv) fun hc => by
    have h2 : b < w0.heap.size := hlt
    rcases List.mem_cons.1 hc with e | e
    · exact hne (by omega) e
    · have h1 : w0.heap.size ≤ b := hS _ e
      omega
/-- what is drawn for strings: a period of 24 and some eighths, a loss of some 64ths -/
def eigW (u : Nat) : Nat := fop .quo .f32 (FloatKind.f32.nearest (((24 + u : Nat)) : Int)) 1090519040
def eigTab : Bool := (List.range 80).all fun u => perW u == eigW u
theorem eigTab_ok : eigTab = true := by decide +kernel
def lossTab : Bool := (List.range 65).all fun q => !isNaN .f32 (sixW q) && (fGe .f32 (sixW q) 0 && fLe .f32 (sixW q) 1065353216) && finF (sixW q) && decide (sixW q % 2147483648 ≤ 127 * 8388608)
theorem lossTab_ok : lossTab = true := by decide +kernel
def dampTab : Bool := (List.range 33).all fun q => decide (fop .sub .f32 1065353216 (sixW q) % 2147483648 ≤ 127 * 8388608)
theorem dampTab_ok : dampTab = true := by decide +kernel
def tuneB (m : Nat) : Bool := decide (newT (w64 m) % 2147483648 ≤ 127 * 8388608)
def tuneTab (k : Nat) : Bool := (List.range 128).all fun j => tuneB (160 + 128 * k + j)
theorem tuneTab0 : tuneTab 0 = true := by decide +kernel
theorem tuneTab1 : tuneTab 1 = true := by decide +kernel
theorem tuneTab2 : tuneTab 2 = true := by decide +kernel
theorem tuneTab3 : tuneTab 3 = true := by decide +kernel
theorem tuneTab4 : tuneTab 4 = true := by decide +kernel
theorem tuneTab5 : tuneTab 5 = true := by decide +kernel
theorem tune_all {m : Nat} (h1 : 160 ≤ m) (h2 : m < 928) : tuneB m = true := by
  have g : ∀ k, tuneTab k = true → (m - 160) / 128 = k → tuneB m = true := fun k hk hm => by
    have := List.all_eq_true.1 hk ((m - 160) % 128) (by simp; omega)
    rwa [show 160 + 128 * k + (m - 160) % 128 = m by omega] at this
  have e : (m - 160) / 128 = 0 ∨ (m - 160) / 128 = 1 ∨ (m - 160) / 128 = 2 ∨ (m - 160) / 128 = 3 ∨ (m - 160) / 128 = 4 ∨ (m - 160) / 128 = 5 := by omega
  rcases e with h | h | h | h | h | h
  · exact g 0 tuneTab0 h
  · exact g 1 tuneTab1 h
  · exact g 2 tuneTab2 h
  · exact g 3 tuneTab3 h
  · exact g 4 tuneTab4 h
  · exact g 5 tuneTab5 h
/-- a string of the law: its numbers are at most 1 in size -/
structure StrB (n ta da mw lw : Nat) : Prop where
  l : LawS n ta da mw lw
  t : Bd ta 0
  d : Bd da 0
  m : Bd mw 0
  g : Bd lw 0
theorem br_new {u q : Nat} {pw mw : Nat} (hu : u < 80) (hq : q < 33) (h1 : cn .f32 pw = cn .f32 (fop .quo .f32 (FloatKind.f32.nearest (((24 + u : Nat)) : Int)) 1090519040)) (h2 : cn .f32 mw = cn .f32 (fop .quo .f32 (FloatKind.f32.nearest ((q : Nat) : Int)) 1115684864)) : pw = perW u ∧ mw = sixW q := by
  have k := tuned_ok (p := u) (q := q) (by omega) hq
  have e : perW u = eigW u := by
    have := List.all_eq_true.1 eigTab_ok u (by simpa using hu)
    simpa using this
  have e1 : cn .f32 pw = cn .f32 (eigW u) := h1
  rw [← e] at e1
  exact ⟨eq_of_cn e1 k.2.1, eq_of_cn h2 (six_ok (by omega)).1⟩
theorem br_ok {u q : Nat} {pw mw : Nat} (hu : u < 80) (hq : q < 33) (h1 : cn .f32 pw = cn .f32 (fop .quo .f32 (FloatKind.f32.nearest (((24 + u : Nat)) : Int)) 1090519040)) (h2 : cn .f32 mw = cn .f32 (fop .quo .f32 (FloatKind.f32.nearest ((q : Nat) : Int)) 1115684864)) : NewOk pw mw ∧ TunOk (fop .sub .f32 pw mw) := by
  obtain ⟨e1, e2⟩ := br_new hu hq h1 h2
  have k := tuned_ok (p := u) (q := q) (by omega) hq
  rw [e1, e2]; exact ⟨k.1, by rw [k.2.2]; exact TunOk.of (by omega) (by omega)⟩
theorem br_loss {q lw : Nat} (hq : q < 65) (h : cn .f32 lw = cn .f32 (fop .quo .f32 (FloatKind.f32.nearest ((q : Nat) : Int)) 1115684864)) : (fGe .f32 lw 0 && fLe .f32 lw 1065353216) = true ∧ finF lw = true ∧ Bd lw 0 := by
  have t := List.all_eq_true.1 lossTab_ok q (by simpa using hq)
  simp only [Bool.and_eq_true, decide_eq_true_eq, Bool.not_eq_true'] at t
  have e : lw = sixW q := eq_of_cn h t.1.1.1
  rw [e]; exact ⟨by rw [t.1.1.2.1, t.1.1.2.2]; rfl, t.1.2, t.2⟩
theorem br_str {u q l n ta da mw lw pw : Nat} (hu : u < 80) (hq : q < 33) (hl : l < 65) (h1 : cn .f32 pw = cn .f32 (fop .quo .f32 (FloatKind.f32.nearest (((24 + u : Nat)) : Int)) 1090519040)) (h2 : cn .f32 mw = cn .f32 (fop .quo .f32 (FloatKind.f32.nearest ((q : Nat) : Int)) 1115684864)) (h3 : cn .f32 lw = cn .f32 (fop .quo .f32 (FloatKind.f32.nearest ((l : Nat) : Int)) 1115684864)) (e : TunE pw mw n ta da) : StrB n ta da mw lw := by
  obtain ⟨e1, e2⟩ := br_new hu hq h1 h2
  have k := tuned_ok (p := u) (q := q) (by omega) hq
  obtain ⟨b1, b2, b3⟩ := br_loss hl h3
  obtain ⟨hn, ht, hd⟩ := e
  have t : TunOk (w64 (192 + 8 * u - q)) := TunOk.of (by omega) (by omega)
  rw [e1, e2, k.2.2] at hn ht
  rw [e2] at hd
  have fd : finF da = true := by rw [finF_congr hd]; exact k.1.f
  have ed : da = fop .sub .f32 1065353216 (sixW q) := eq_of_cn hd (fin_num k.1.f)
  have td := List.all_eq_true.1 dampTab_ok q (by simpa using hq)
  have tm := List.all_eq_true.1 lossTab_ok q (by simp; omega)
  simp only [Bool.and_eq_true, decide_eq_true_eq] at td tm
  have tt := tune_all (m := 192 + 8 * u - q) (by omega) (by omega)
  simp only [tuneB, decide_eq_true_eq] at tt
  subst hn ht
  exact ⟨⟨by have := t.n2; omega, by have := t.n34; omega, t.ff, fd, by rw [e2]; exact k.1.g, b2⟩, tt, by rw [ed]; exact td, by rw [e2]; exact tm.2, b3⟩
/-- a state on the way, whose samples are at most `2 ^ k` in size -/
structure WayB (n : Nat) (z : StrSt) (k : Nat) : Prop where
  w : Way n z
  x : ∀ j, Bd (z.xs.getD j 0) k
  t0 : Bd z.t0 k
  t1 : Bd z.t1 k
  d0 : Bd z.d0 k
theorem stepY3 (c0 c1 c2 s0 s1 x : Nat) : stepY 3 c0 c1 c2 s0 s1 x = fop .add .f32 (fop .mul .f32 c0 (fop .sub .f32 x s1)) s0 := by simp only [stepY]; rfl
theorem stepY2 (c0 c1 c2 s0 s1 x : Nat) : stepY 2 c0 c1 c2 s0 s1 x = fop .add .f32 (fop .mul .f32 c0 x) (fop .mul .f32 c1 s0) := rfl
theorem WayB.next {n ta da mw lw k x : Nat} {z : StrSt} (h : WayB n z k) (s : StrB n ta da mw lw) (hx : Bd x k) (hk : k ≤ 30) : WayB n (strNext n 3 ta 0 0 2 da mw 0 lw z x) (k + 4) := by
  have o := h.x z.i
  have y1 : Bd (stepY 3 ta 0 0 z.t0 z.t1 (z.xs.getD z.i 0)) (k + 2) := by
    rw [stepY3]
    have a1 := o.sub h.t1 (by omega)
    have a2 := s.t.mul a1 (by omega) (by omega)
    rw [Nat.zero_add] at a2
    exact a2.add (h.t0.mono (by omega)) (by omega)
  have y2 : Bd (stepY 2 da mw 0 z.d0 z.d1 (stepY 3 ta 0 0 z.t0 z.t1 (z.xs.getD z.i 0))) (k + 3) := by
    rw [stepY2]
    have a1 := s.d.mul y1 (by omega) (by omega)
    have a2 := s.m.mul h.d0 (by omega) (by omega)
    rw [Nat.zero_add] at a1 a2
    exact a1.add (a2.mono (by omega)) (by omega)
  have y3 := y2.mul s.g (by omega) (by omega)
  have w : Bd (keptF (fop .add .f32 (fop .mul .f32 (stepY 2 da mw 0 z.d0 z.d1 (stepY 3 ta 0 0 z.t0 z.t1 (z.xs.getD z.i 0))) lw) x)) (k + 4) := (Bd.add y3 (hx.mono (by omega)) (by omega)).kept
  refine ⟨h.w.next, fun j => ?_, (o.kept).mono (by omega), y1.kept.mono (by omega), y1.kept.mono (by omega)⟩
  show Bd ((z.xs.set z.i _).getD j 0) (k + 4)
  by_cases e : z.i = j
  · subst e
    rw [List.getD_eq_getElem?_getD, List.getElem?_set_self (by rw [h.w.l]; exact h.w.i)]
    exact w
  · rw [List.getD_eq_getElem?_getD, List.getElem?_set_ne e, ← List.getD_eq_getElem?_getD]
    exact (h.x j).mono (by omega)
/-- a plain sample -/
def Pl (x : Nat) : Prop := ∃ u, u < 257 ∧ x = plainU u
def plTabB : Bool := (List.range 257).all fun u => decide (plainU u % 2147483648 ≤ 128 * 8388608) && (fop .add .f32 (plainU u) 0 == plainU u) && (fop .add .f32 (plainU u) 2147483648 == plainU u)
theorem plTabB_ok : plTabB = true := by decide +kernel
theorem Pl.bd {x : Nat} (h : Pl x) : Bd x 1 := by
  obtain ⟨u, hu, rfl⟩ := h
  have := List.all_eq_true.1 plTabB_ok u (by simpa using hu)
  simp only [Bool.and_eq_true, decide_eq_true_eq] at this
  exact this.1.1
theorem Pl.zero {x z : Nat} (h : Pl x) (hz : Z0 z) (hw : z < 4294967296) : fop .add .f32 x z = x := by
  obtain ⟨u, hu, rfl⟩ := h
  have := List.all_eq_true.1 plTabB_ok u (by simpa using hu)
  simp only [Bool.and_eq_true, beq_iff_eq] at this
  have e : z = 0 ∨ z = 2147483648 := by unfold Z0 at hz; omega
  rcases e with e | e
  · rw [e]; exact this.1.2
  · rw [e]; exact this.2
theorem plain_pl (xs : List Nat) (n : Nat) : Pl (plainF xs n) := ⟨_, Nat.mod_lt _ (by omega), rfl⟩
theorem WayB.start {n ta da mw lw : Nat} {ys : List Nat} (s : LawS n ta da mw lw) (hl : ys.length = n) (hw : W32 ys) (hb : ∀ j, Bd (ys.getD j 0) 1) : WayB n ⟨ys, 0, 0, 0, 0, 0⟩ 1 := ⟨Way.start s hl hw, hb, Bd.zero, Bd.zero, Bd.zero⟩
theorem bd_set {ys : List Nat} {i x k : Nat} (h : ∀ j, Bd (ys.getD j 0) k) (hx : Bd x k) (j : Nat) : Bd ((ys.set i x).getD j 0) k := by
  rw [List.getD_eq_getElem?_getD, List.getElem?_set]
  split
  · split
    · exact hx
    · exact Bd.zero
  · rw [← List.getD_eq_getElem?_getD]; exact h j
theorem bd_rep {n k : Nat} (j : Nat) : Bd ((List.replicate n 0).getD j 0) k := by rw [rep_get]; exact Bd.zero
/-- what a bridge that shares nothing adds -/
theorem br_zero {a o1 o2 : Nat} (ha : Pl a) (h1 : Bd o1 40) (h2 : Bd o2 40) : fop .add .f32 a (fop .mul .f32 0 (fop .add .f32 o1 o2)) = a := by
  have f := (h1.add h2 (by omega)).fin (by omega)
  have z : Z0 (fop .mul .f32 0 (fop .add .f32 o1 o2)) := Z0.mul_l (fin_of f) (show Z0 0 from rfl)
  have l := fop_lt .mul .f32 0 (fop .add .f32 o1 o2)
  rw [wid32] at l
  exact ha.zero z l
theorem bd_eq {x k : Nat} (h : Bd x k) (hk : k ≤ 100) : fEq .f32 x x = true := by
  rw [fEq_self, isNaN32]; have := h.fin hk; simp; omega

theorem c_sNewStringB (pw : Nat) (mw : Nat) (lw : Nat) (lp : pw < wid .f32) (lm : mw < wid .f32) (ll : lw < wid .f32) (ho : NewOk pw mw) (to : TunOk (fop .sub .f32 pw mw)) (hlw : (fGe .f32 lw 0 && fLe .f32 lw 1065353216) = true) (w : World) : Cl Try.prog 51 #[vF pw, vF mw, vF lw] w fun v w' => ∃ (n' : Nat) (b' : Nat) (ta : Nat) (da : Nat), v = .tuple #[.agg #[vS b' 0 n' n', vI 0, vI 3, vF ta, vF 0, vF 0, vF 0, vF 0, vI 2, vF da, vF mw, vF 0, vF 0, vF 0, vF lw], vI 0] ∧ (TunE pw mw n' ta da) ∧ (1 ≤ n') ∧ (n' ≤ 1024) ∧ Row w' b' 0 (fl (List.replicate n' 0)) ∧ w.heap.size ≤ b' ∧ Mod [] w w' := by
  refine (c_sNewStringX pw mw lw lp lm ll ho to hlw w).mono ?_
  rintro v w' ⟨n', b', ta, da, hv, p0, p1, p2, p3, p4, rest⟩
  exact ⟨n', b', ta, da, hv, p4, p0, p1, rest⟩

set_option maxRecDepth 100000 in
set_option maxHeartbeats 2000000 in
theorem c_pickS (n : Nat) (c : Nat) (A : Option Addr) (b : Nat) (o : Nat) (xs : List Nat) (at_ : Nat) (s : Nat) (p : Nat) (top : Nat) (ln : xs.length = n) (hA : 0 < n → A = some ⟨b, o, none⟩) (hB : ∀ i, xs.getD i 0 < 256) (hn : n ≤ 4611686018427387904) (ha : at_ ≤ 4611686018427386000) (hs : s < 18446744073709551616) (ht : 2 ≤ top) (ht2 : top ≤ 200) (nbp : 0 < n → b ≠ p) (w : World) (q : Row w p 0 [.slice A n c, vI ((at_ : Nat) : Int), .int .u64 ((s : Nat) : Int)]) (r : Rng w b o (bys xs)) : Cl Try.prog 116 #[vP p 0, vI ((top : Nat) : Int)] w fun v w' => ∃ (u : Nat) (s2 : Nat), v = vI ((u : Nat) : Int) ∧ (u < top) ∧ (s2 < 18446744073709551616) ∧ Row w' p 0 [.slice A n c, vI ((at_ + 1 : Nat) : Int), .int .u64 ((s2 : Nat) : Int)] ∧ Mod [p] w w' := by
  refine Cl.of Try.func116 Try.ntmps116 rfl rfl (ρ := [(0, vP p 0), (1, vI ((top : Nat) : Int))]) rfl ?_
  refine CE.seq ?_
  refine CE.region ?_
  refine WL.det (op_assign rfl) rfl rfl rfl ?_
  refine WL.end ?_
  refine NE.code ?_
  refine CE.seq ?_
  refine CE.seq ?_
  refine CE.region ?_
  refine WL.det (op_move rfl) rfl rfl rfl ?_
  refine WL.det (op_lei rfl rfl) rfl rfl rfl ?_
  refine WL.end ?_
  refine NE.code ?_
  refine CE.cond_f rfl (decide_eq_false (by omega)) ?_
  refine CE.skip' ?_
  refine NE.code ?_
  refine CE.seq ?_
  refine CE.region ?_
  refine WL.det (op_move rfl) rfl rfl rfl ?_
  refine WL.call (oc_call (vs := [vP p 0]) (cap := []) rfl rfl rfl Try.call145 (c_nextX n c A b o xs at_ s p ln hA hB (by omega) (by omega) (by omega) w q r)) rfl rfl (ltb rfl) ?_
  rintro _ w1 ⟨vv1, s1, rfl, h1, h2, h3, h4, r1, m1⟩
  refine WL.det (op_assign rfl) rfl rfl rfl ?_
  refine WL.end ?_
  refine NE.code ?_
  refine CE.seq ?_
  refine CE.seq ?_
  refine CE.region ?_
  refine WL.det (op_move rfl) rfl rfl rfl ?_
  refine WL.det (op_gti rfl rfl) rfl rfl rfl ?_
  refine WL.end ?_
  refine NE.code ?_
  refine CE.cond_f rfl (decide_eq_false (by omega)) ?_
  refine CE.skip' ?_
  refine NE.code ?_
  refine CE.seq ?_
  refine CE.region ?_
  refine WL.det (op_move rfl) rfl rfl rfl ?_
  refine WL.det (op_move rfl) rfl rfl rfl ?_
  have hm1 : vv1 % top < top := Nat.mod_lt _ (by omega)
  refine WL.det (op_rem (r := ((vv1 % top : Nat) : Int)) rfl rfl (by omega) rfl) rfl rfl rfl ?_
  refine WL.det (op_assign rfl) rfl rfl rfl ?_
  refine WL.end ?_
  refine NE.code ?_
  refine CE.ret' ?_
  refine XE.leave1 Try.results116 rfl ?_
  refine ⟨(vv1 % top), s1, rfl, ?_, ?_, r1, ((Mod.refl [p] w).then m1 ((aC (.inl (by simp)) aN)))⟩
  all_goals first | assumption | omega | rfl

set_option maxRecDepth 100000 in
set_option maxHeartbeats 2000000 in
theorem c_oneS (n : Nat) (c : Nat) (A : Option Addr) (b : Nat) (o : Nat) (xs : List Nat) (at_ : Nat) (s : Nat) (p : Nat) (top : Nat) (ln : xs.length = n) (hA : 0 < n → A = some ⟨b, o, none⟩) (hB : ∀ i, xs.getD i 0 < 256) (hn : n ≤ 4611686018427387904) (ha : at_ ≤ 4611686018427386000) (hs : s < 18446744073709551616) (ht : 2 ≤ top) (ht2 : top ≤ 100) (nbp : 0 < n → b ≠ p) (w : World) (q : Row w p 0 [.slice A n c, vI ((at_ : Nat) : Int), .int .u64 ((s : Nat) : Int)]) (r : Rng w b o (bys xs)) : Cl Try.prog 137 #[vP p 0, vI ((top : Nat) : Int)] w fun v w' => ∃ (u : Nat) (s2 : Nat), v = .bool (((u : Nat) : Int) == 0) ∧ (u < top) ∧ (s2 < 18446744073709551616) ∧ Row w' p 0 [.slice A n c, vI ((at_ + 1 : Nat) : Int), .int .u64 ((s2 : Nat) : Int)] ∧ Mod [p] w w' := by
  refine Cl.of Try.func137 Try.ntmps137 rfl rfl (ρ := [(0, vP p 0), (1, vI ((top : Nat) : Int))]) rfl ?_
  refine CE.seq ?_
  refine CE.region ?_
  refine WL.det (op_assign rfl) rfl rfl rfl ?_
  refine WL.end ?_
  refine NE.code ?_
  refine CE.seq ?_
  refine CE.region ?_
  refine WL.det (op_move rfl) rfl rfl rfl ?_
  refine WL.det (op_move rfl) rfl rfl rfl ?_
  refine WL.call (oc_call (vs := [vP p 0, vI ((top : Nat) : Int)]) (cap := []) rfl rfl rfl Try.call116 (c_pick n c A b o xs at_ s p top ln hA hB (by omega) (by omega) (by omega) (by omega) (by omega) w q r)) rfl rfl (ltb rfl) ?_
  rintro _ w1 ⟨u1, s1, rfl, h1, h2, r1, m1⟩
  refine WL.det (op_eqi rfl rfl) rfl rfl rfl ?_
  refine WL.det (op_assign rfl) rfl rfl rfl ?_
  refine WL.end ?_
  refine NE.code ?_
  refine CE.ret' ?_
  refine XE.leave1 Try.results137 rfl ?_
  refine ⟨u1, s1, ?_, ?_, ?_, r1, ((Mod.refl [p] w).then m1 ((aC (.inl (by simp)) aN)))⟩
  all_goals first | assumption | rfl

set_option maxRecDepth 100000 in
set_option maxHeartbeats 2000000 in
theorem c_l01PlainB (n : Nat) (c : Nat) (A : Option Addr) (b : Nat) (o : Nat) (xs : List Nat) (at_ : Nat) (s : Nat) (p : Nat) (ln : xs.length = n) (hA : 0 < n → A = some ⟨b, o, none⟩) (hB : ∀ i, xs.getD i 0 < 256) (hn : n ≤ 4611686018427387904) (ha : at_ ≤ 4611686018427386000) (hs : s < 18446744073709551616) (nbp : 0 < n → b ≠ p) (w : World) (q : Row w p 0 [.slice A n c, vI ((at_ : Nat) : Int), .int .u64 ((s : Nat) : Int)]) (r : Rng w b o (bys xs)) : Cl Try.prog 68 #[vP p 0] w fun v w' => ∃ (r_ : Nat) (a2 : Nat) (s2 : Nat), v = vF r_ ∧ (r_ < wid .f32) ∧ (a2 ≤ at_ + 8) ∧ (s2 < 18446744073709551616) ∧ (Pl r_) ∧ Row w' p 0 [.slice A n c, vI ((a2 : Nat) : Int), .int .u64 ((s2 : Nat) : Int)] ∧ Mod [p] w w' := by
  refine Cl.of Try.func68 Try.ntmps68 rfl rfl (ρ := [(0, vP p 0)]) rfl ?_
  refine CE.seq ?_
  refine CE.region ?_
  refine WL.det (op_assign rfl) rfl rfl rfl ?_
  refine WL.end ?_
  refine NE.code ?_
  refine CE.seq ?_
  refine CE.region ?_
  refine WL.det (op_move rfl) rfl rfl rfl ?_
  refine WL.call (oc_call (vs := [vP p 0, vI 257]) (cap := []) rfl rfl rfl Try.call116 (c_pickX n c A b o xs at_ s p 257 ln hA hB (by omega) (by omega) (by omega) (by omega) (by omega) (by first | assumption | (intro h0; have hlt := Rng.lt r (by rw [bys_len, ln]; exact h0); omega)) w q r)) rfl rfl (ltb rfl) ?_
  rintro _ w1 ⟨u1, s1, rfl, h1, h2, h3, r1, m1⟩
  refine WL.det (op_sub (r := (((u1 : Nat) : Int) - (128 : Int))) rfl rfl (w_i64 (by omega) (by omega))) rfl rfl rfl ?_
  refine WL.det (op_cvt_if rfl Try.runUnderlying2 Try.runUnderlying27) rfl rfl rfl ?_
  refine WL.op (op_farith (e := (fop .quo .f32 (FloatKind.f32.nearest (((u1 : Nat) : Int) - (128 : Int))) 1115684864)) (.inr (.inr (.inr rfl))) rfl rfl rfl rfl rfl) rfl rfl (ltb rfl) ?_
  rintro _ w2 ⟨⟨f1, rfl, hf1, lf1⟩, m2⟩
  refine WL.det (op_assign rfl) rfl rfl rfl ?_
  refine WL.end ?_
  refine NE.code ?_
  refine CE.ret' ?_
  refine XE.leave1 Try.results68 rfl ?_
  refine ⟨f1, (at_ + 1 + 1), s1, rfl, lf1, ?_, ?_, ?_, (Row.congr (r1.ext m2) ?_), (((Mod.refl [p] w).then m1 ((aC (.inl (by simp)) aN))).nt m2)⟩
  all_goals first | assumption | rfl | omega | exact ⟨_, by assumption, eq_of_cn (by assumption) (plain_num (by assumption))⟩

set_option maxRecDepth 100000 in
set_option maxHeartbeats 2000000 in
theorem c_l03Drawn (n : Nat) (c : Nat) (A : Option Addr) (b : Nat) (o : Nat) (xs : List Nat) (at_ : Nat) (s : Nat) (p : Nat) (ln : xs.length = n) (hA : 0 < n → A = some ⟨b, o, none⟩) (hB : ∀ i, xs.getD i 0 < 256) (hn : n ≤ 4611686018427387904) (ha : at_ ≤ 1000) (hs : s < 18446744073709551616) (nbp : 0 < n → b ≠ p) (w : World) (q : Row w p 0 [.slice A n c, vI ((at_ : Nat) : Int), .int .u64 ((s : Nat) : Int)]) (r : Rng w b o (bys xs)) : Cl Try.prog 98 #[vP p 0] w fun v w' => ∃ (n' : Nat) (c' : Nat) (b' : Nat) (ta : Nat) (da : Nat) (mw : Nat) (lw : Nat) (zz : StrSt), v = .agg #[vS b' 0 n' c', vI ((zz.i : Nat) : Int), vI 3, vF ta, vF 0, vF 0, vF (zz.t0), vF (zz.t1), vI 2, vF da, vF mw, vF 0, vF (zz.d0), vF (zz.d1), vF lw] ∧ (StrB n' ta da mw lw) ∧ (WayB n' zz 21) ∧ (zz.xs.length = n') ∧ (1 ≤ n') ∧ (n' ≤ 1024) ∧ Row w' b' 0 (fl zz.xs) ∧ w.heap.size ≤ b' ∧ Mod [p] w w' := by
  refine Cl.of Try.func98 Try.ntmps98 rfl rfl (ρ := [(0, vP p 0)]) rfl ?_
  refine CE.seq ?_
  refine CE.region ?_
  refine WL.op (op_alloc (cs := [.slice none 0 0, vI 0, vI 0, vF 0, vF 0, vF 0, vF 0, vF 0, vI 0, vF 0, vF 0, vF 0, vF 0, vF 0, vF 0]) Try.zeroValue33 rfl) rfl rfl (ltb rfl) ?_
  rintro _ w1 ⟨rfl, r1, m1, z1⟩
  refine WL.end ?_
  refine NE.code ?_
  refine CE.seq ?_
  refine CE.region ?_
  refine WL.det (op_move rfl) rfl rfl rfl ?_
  refine WL.call (oc_call (vs := [vP p 0, vI 80]) (cap := []) rfl rfl rfl Try.call116 (c_pickS n c A b o xs at_ s p 80 ln hA hB (by omega) (by omega) (by omega) (by omega) (by omega) (by first | assumption | (intro h0; have hlt := Rng.lt r (by rw [bys_len, ln]; exact h0); omega)) w1 (q.ext m1) (r.ext m1))) rfl rfl (ltb rfl) ?_
  rintro _ w2 ⟨u1, s1, rfl, h1, h2, r2, m2⟩
  refine WL.det (op_add (r := ((24 + u1 : Nat) : Int)) rfl rfl (w_i64 (by omega) (by omega))) rfl rfl rfl ?_
  refine WL.det (op_cvt_if rfl Try.runUnderlying2 Try.runUnderlying27) rfl rfl rfl ?_
  refine WL.op (op_farith (e := (fop .quo .f32 (FloatKind.f32.nearest ((24 + u1 : Nat) : Int)) 1090519040)) (.inr (.inr (.inr rfl))) rfl rfl rfl rfl rfl) rfl rfl (ltb rfl) ?_
  rintro _ w3 ⟨⟨f1, rfl, hf1, lf1⟩, m3⟩
  refine WL.det (op_move rfl) rfl rfl rfl ?_
  refine WL.call (oc_call (vs := [vP p 0, vI 33]) (cap := []) rfl rfl rfl Try.call116 (c_pickS n c A b o xs (at_ + 1) s1 p 33 ln hA hB (by omega) (by omega) (by omega) (by omega) (by omega) (by first | assumption | (intro h0; have hlt := Rng.lt r (by rw [bys_len, ln]; exact h0); omega)) w3 (r2.ext m3) ((rng0 ln nbp (r.ext m1) m2).ext m3))) rfl rfl (ltb rfl) ?_
  rintro _ w4 ⟨u2, s2, rfl, h3, h4, r3, m4⟩
  refine WL.det (op_cvt_if rfl Try.runUnderlying2 Try.runUnderlying27) rfl rfl rfl ?_
  refine WL.op (op_farith (e := (fop .quo .f32 (FloatKind.f32.nearest ((u2 : Nat) : Int)) 1115684864)) (.inr (.inr (.inr rfl))) rfl rfl rfl rfl rfl) rfl rfl (ltb rfl) ?_
  rintro _ w5 ⟨⟨f2, rfl, hf2, lf2⟩, m5⟩
  refine WL.det (op_move rfl) rfl rfl rfl ?_
  refine WL.call (oc_call (vs := [vP p 0, vI 65]) (cap := []) rfl rfl rfl Try.call116 (c_pickS n c A b o xs ((at_ + 1) + 1) s2 p 65 ln hA hB (by omega) (by omega) (by omega) (by omega) (by omega) (by first | assumption | (intro h0; have hlt := Rng.lt r (by rw [bys_len, ln]; exact h0); omega)) w5 (r3.ext m5) ((rng0 ln nbp ((rng0 ln nbp (r.ext m1) m2).ext m3) m4).ext m5))) rfl rfl (ltb rfl) ?_
  rintro _ w6 ⟨u3, s3, rfl, h5, h6, r4, m6⟩
  refine WL.det (op_cvt_if rfl Try.runUnderlying2 Try.runUnderlying27) rfl rfl rfl ?_
  refine WL.op (op_farith (e := (fop .quo .f32 (FloatKind.f32.nearest ((u3 : Nat) : Int)) 1115684864)) (.inr (.inr (.inr rfl))) rfl rfl rfl rfl rfl) rfl rfl (ltb rfl) ?_
  rintro _ w7 ⟨⟨f3, rfl, hf3, lf3⟩, m7⟩
  refine WL.call (oc_call (vs := [vF f1, vF f2, vF f3]) (cap := []) rfl rfl rfl Try.call51 (c_sNewStringB f1 f2 f3 lf1 lf2 lf3 (by exact (br_ok (by assumption) (by assumption) (by assumption) (by assumption)).1) (by exact (br_ok (by assumption) (by assumption) (by assumption) (by assumption)).2) (by exact (br_loss (by assumption) (by assumption)).1) w7)) rfl rfl (ltb rfl) ?_
  rintro _ w8 ⟨n'1, b'1, ta1, da1, rfl, h7, h8, h9, r5, ge1, m8⟩
  refine WL.det (op_move rfl) rfl rfl rfl ?_
  refine WL.det (op_extract rfl rfl) rfl rfl rfl ?_
  refine WL.det (op_extract rfl rfl) rfl rfl rfl ?_
  refine WL.op (op_alloc (cs := [.slice none 0 0, vI 0, vI 0, vF 0, vF 0, vF 0, vF 0, vF 0, vI 0, vF 0, vF 0, vF 0, vF 0, vF 0, vF 0]) Try.zeroValue33 rfl) rfl rfl (ltb rfl) ?_
  rintro _ w9 ⟨rfl, r6, m9, z2⟩
  refine WL.op0 (op_store (i := 0) (cs := [vS b'1 0 n'1 n'1, vI 0, vI 3, vF ta1, vF 0, vF 0, vF 0, vF 0, vI 2, vF da1, vF f2, vF 0, vF 0, vF 0, vF f3]) rfl rfl rfl Try.sizeOf33 rfl r6 rfl (lB rfl) rfl) rfl rfl ?_
  rintro _ w10 ⟨r7, m10, z3⟩
  have r8 : Row w10 w8.heap.size 0 [vS b'1 0 n'1 n'1, vI 0, vI 3, vF ta1, vF 0, vF 0, vF 0, vF 0, vI 2, vF da1, vF f2, vF 0, vF 0, vF 0, vF f3] := Row.congr r7 rfl
  refine WL.det (op_assign rfl) rfl rfl rfl ?_
  refine WL.end ?_
  refine NE.code ?_
  refine CE.seq ?_
  refine CE.seq ?_
  refine CE.region ?_
  refine WL.det (op_move rfl) rfl rfl rfl ?_
  refine WL.det (op_nei rfl rfl) rfl rfl rfl ?_
  refine WL.end ?_
  refine NE.code ?_
  refine CE.cond_f rfl rfl ?_
  refine CE.skip' ?_
  refine NE.code ?_
  refine CE.seq ?_
  refine CE.seq ?_
  refine CE.region ?_
  refine WL.det (op_assign rfl) rfl rfl rfl ?_
  refine WL.end ?_
  refine NE.code ?_
  have hS : StrB n'1 ta1 da1 f2 f3 := br_str (by assumption) (by assumption) (by assumption) (by assumption) (by assumption) (by assumption) (by assumption)
  refine CE.block ?_
  refine CE.loop (fun (z : Nat × Nat × Nat × List Nat) => [(5, vI ((z.1 : Nat) : Int)), (0, vP p 0), (2, vP w.heap.size 0), (3, vP w8.heap.size 0)]) (fun (z : Nat × Nat × Nat × List Nat) => fun W => (z.1 ≤ n'1) ∧ (z.2.1 ≤ at_ + 100 + 100 * z.1) ∧ (z.2.2.1 < 18446744073709551616) ∧ (z.2.2.2.length = n'1) ∧ (W32 z.2.2.2) ∧ (∀ j, Bd (z.2.2.2.getD j 0) 1) ∧ Row W p 0 [.slice A n c, vI ((z.2.1 : Nat) : Int), .int .u64 ((z.2.2.1 : Nat) : Int)] ∧ Row W b'1 0 (fl z.2.2.2) ∧ Mod [p, b'1] w10 W) (fun (z : Nat × Nat × Nat × List Nat) => n'1 - z.1) (0, (((at_ + 1) + 1) + 1), s3, (List.replicate n'1 0)) (⟨rfl, rfl, rfl, rfl, trivial⟩) ⟨(by exact Nat.zero_le _), (by dsimp only; omega), (by assumption), (by exact List.length_replicate), (by exact W32.zeros _), (by exact bd_rep), (Row.congr ((((r4.ext m7).ext m8).ext m9).mod m10 (nC (lE (lL (lL q.lt (lT (lT (lT (lT (lT (lT (lT m1.size m2.size) m3.size) m4.size) m5.size) m6.size) m7.size) m8.size)) lR)) nN)) rfl), (Row.congr ((r5.ext m9).mod m10 (nC (lE (lL r5.lt lR)) nN)) rfl), Mod.refl _ _⟩ ?_
  rintro ⟨i, q9, s9, ys⟩ w11 ⟨hi, hq9, hs9, hly, hwy, hby, r9, r10, m11⟩
  replace hi : i ≤ n'1 := hi
  replace hq9 : q9 ≤ at_ + 100 + 100 * i := hq9
  replace hs9 : s9 < 18446744073709551616 := hs9
  replace hly : ys.length = n'1 := hly
  replace hwy : W32 ys := hwy
  replace hby : ∀ j, Bd (ys.getD j 0) 1 := hby
  replace r9 : Row w11 p 0 [.slice A n c, vI ((q9 : Nat) : Int), .int .u64 ((s9 : Nat) : Int)] := r9
  replace r10 : Row w11 b'1 0 (fl ys) := r10
  show CE _ _ _ _ [(5, vI ((i : Nat) : Int)), (0, vP p 0), (2, vP w.heap.size 0), (3, vP w8.heap.size 0)] _
  refine CE.seq ?_
  refine CE.seq ?_
  refine CE.region ?_
  refine WL.det (op_move rfl) rfl rfl rfl ?_
  refine WL.det (op_fieldAddr (off' := 0) rfl Try.runUnderlying33 rfl rfl Try.sizeOf26 rfl) rfl rfl rfl ?_
  refine WL.det (op_fieldAddr (off' := 0) rfl Try.runUnderlying26 rfl rfl Try.sizeOf24 rfl) rfl rfl rfl ?_
  refine WL.det (op_load1 (i := 0) rfl Try.isAgg24 (r8.mod m11 (nC (lG (lL (lL q.lt (lT (lT (lT (lT (lT (lT (lT m1.size m2.size) m3.size) m4.size) m5.size) m6.size) m7.size) m8.size)) lR)) (nC (lG (lL r5.lt lR)) nN))).rng rfl rfl) rfl rfl rfl ?_
  refine WL.det (op_len rfl Try.runUnderlying24) rfl rfl rfl ?_
  refine WL.det (op_lti rfl rfl) rfl rfl rfl ?_
  refine WL.end ?_
  refine NE.code ?_
  rcases Bool.eq_false_or_eq_true (decide (((i : Nat) : Int) < ((n'1 : Nat) : Int))) with hb1 | hb1
  · have hp1 := of_decide_eq_true hb1
    refine CE.cond_t rfl hb1 ?_
    refine CE.skip' ?_
    refine NE.code ?_
    refine CE.seq ?_
    refine CE.block ?_
    refine CE.seq ?_
    refine CE.region ?_
    refine WL.det (op_move rfl) rfl rfl rfl ?_
    refine WL.call (oc_call (vs := [vP p 0, vI 2]) (cap := []) rfl rfl rfl Try.call137 (c_oneS n c A b o xs q9 s9 p 2 ln hA hB (by omega) (by omega) (by omega) (by omega) (by omega) (by first | assumption | (intro h0; have hlt := Rng.lt r (by rw [bys_len, ln]; exact h0); omega)) w11 r9 (rng0S ln nbp r (Rng.youngS r ((((rng0 ln nbp ((rng0 ln nbp ((rng0 ln nbp (r.ext m1) m2).ext m3) m4).ext m5) m6).ext m7).ext m8).ext m9) m10 (allge_cons (lT (lT (lT (lT (lT (lT (lT (lT m1.size m2.size) m3.size) m4.size) m5.size) m6.size) m7.size) m8.size) lR) allge_nil)) m11 (allge_cons (lT (lT (lT (lT (lT (lT (lT m1.size m2.size) m3.size) m4.size) m5.size) m6.size) m7.size) ge1) allge_nil)))) rfl rfl (ltb rfl) ?_
    rintro _ w12 ⟨u4, s4, rfl, h10, h11, r11, m12⟩
    refine WL.end ?_
    refine NE.code ?_
    rcases Bool.eq_false_or_eq_true ((((u4 : Nat) : Int) == 0)) with hb2 | hb2
    · have hp2 := eq_of_beq hb2
      refine CE.cond_t rfl hb2 ?_
      refine CE.draw (fun | 5 => some (fun _ wA uA wB => ∃ (r_ : Nat) (a2 : Nat) (s2 : Nat), uA = vF r_ ∧ (r_ < wid .f32) ∧ (a2 ≤ (q9 + 1) + 8) ∧ (s2 < 18446744073709551616) ∧ (Pl r_) ∧ Row wB p 0 [.slice A n c, vI ((a2 : Nat) : Int), .int .u64 ((s2 : Nat) : Int)] ∧ Mod [p] wA wB) | _ => none) [0, 1, 2, 3, 4, 5] [6, 7] [p] (by kernel_rfl) (by kernel_rfl) ?_
      have md1 : Mod [] w12 w12.drew := (Mod.refl _ _).drew
      generalize w12.drew = w13 at md1 ⊢
      refine DR.det (i := 0) rfl rfl (by kernel_rfl) (.free rfl) rfl rfl (fun wD mD => op_fieldAddr (off' := 0) rfl Try.runUnderlying33 rfl rfl Try.sizeOf26 rfl) ?_
      refine DR.det (i := 1) rfl rfl (by kernel_rfl) (.free rfl) rfl rfl (fun wD mD => op_fieldAddr (off' := 0) rfl Try.runUnderlying26 rfl rfl Try.sizeOf24 rfl) ?_
      refine DR.det (i := 2) rfl rfl (by kernel_rfl) (.free rfl) rfl rfl (fun wD mD => op_load1 (i := 0) rfl Try.isAgg24 ((((r8.mod m11 (nC (lG (lL (lL q.lt (lT (lT (lT (lT (lT (lT (lT m1.size m2.size) m3.size) m4.size) m5.size) m6.size) m7.size) m8.size)) lR)) (nC (lG (lL r5.lt lR)) nN))).mod m12 (nC (lG (lL (lL q.lt (lT (lT (lT (lT (lT (lT (lT m1.size m2.size) m3.size) m4.size) m5.size) m6.size) m7.size) m8.size)) lR)) nN)).ext md1).mod mD (nC (lG (lL (lL q.lt (lT (lT (lT (lT (lT (lT (lT m1.size m2.size) m3.size) m4.size) m5.size) m6.size) m7.size) m8.size)) lR)) nN)).rng rfl rfl) ?_
      refine DR.det (i := 3) rfl rfl (by kernel_rfl) (.free rfl) rfl rfl (fun wD mD => op_move rfl) ?_
      refine DR.det (i := 4) rfl rfl (by kernel_rfl) (.free rfl) rfl rfl (fun wD mD => op_move rfl) ?_
      refine DR.one (i := 5) rfl rfl (by kernel_rfl) (.free rfl) rfl (ltb rfl) (vs := [.func (.func 68) #[] #[], vP p 0]) rfl ?_
      intro w14 m13
      refine ⟨oc_call (vs := [vP p 0]) (cap := []) rfl rfl rfl Try.call68 (c_l01PlainB n c A b o xs (q9 + 1) s4 p ln hA hB (by omega) (by omega) (by omega) (by first | assumption | (intro h0; have hlt := Rng.lt r (by rw [bys_len, ln]; exact h0); omega)) w14 ((r11.ext md1).ext m13) (((rng0 ln nbp (rng0S ln nbp r (Rng.youngS r ((((rng0 ln nbp ((rng0 ln nbp ((rng0 ln nbp (r.ext m1) m2).ext m3) m4).ext m5) m6).ext m7).ext m8).ext m9) m10 (allge_cons (lT (lT (lT (lT (lT (lT (lT (lT m1.size m2.size) m3.size) m4.size) m5.size) m6.size) m7.size) m8.size) lR) allge_nil)) m11 (allge_cons (lT (lT (lT (lT (lT (lT (lT m1.size m2.size) m3.size) m4.size) m5.size) m6.size) m7.size) ge1) allge_nil)) m12).ext md1).ext m13)), ?_⟩
      rintro _ w15 ⟨r_1, a1, s5, rfl, h12, h13, h14, h15, r12, m14⟩
      refine ⟨(((Mod.refl [p] w13).nt m13).then m14 ((aC (.inl (by simp)) aN))), ?_⟩
      refine DR.done rfl ?_
      intro w16 m15
      refine WO.det (op_indexSl (off' := 0 + i) rfl rfl rfl Try.runUnderlying24 Try.sizeOf27 (by omega) (by omega) (by omega)) rfl (.free rfl) rfl rfl ?_
      refine WO.op0 rfl (.free rfl) rfl (op_store (i := i) (cs := [vF r_1]) rfl rfl rfl Try.sizeOf27 rfl (((((r10.mod m12 (nC (lG (lL (lL q.lt (lT (lT (lT (lT (lT (lT m1.size m2.size) m3.size) m4.size) m5.size) m6.size) m7.size)) ge1)) nN)).ext md1).ext m13).mod m14 (nC (lG (lL (lL q.lt (lT (lT (lT (lT (lT (lT m1.size m2.size) m3.size) m4.size) m5.size) m6.size) m7.size)) ge1)) nN)).ext m15) rfl (by rw [fl_length]; have eL : List.length ys = n'1 := hly; omega) rfl) ?_
      rintro _ w17 ⟨r13, m16, z4⟩
      have r14 : Row w17 b'1 0 (fl (ys.set i r_1)) := Row.congr r13 (fl_splice (by have eL : List.length ys = n'1 := hly; omega))
      refine WO.end ?_
      refine NE.blk ?_
      refine NE.code ?_
      refine CE.region ?_
      refine WL.det (op_move rfl) rfl rfl rfl ?_
      refine WL.det (op_add (r := ((i + 1 : Nat) : Int)) rfl rfl (w_i64 (by omega) (by omega))) rfl rfl rfl ?_
      refine WL.det (op_assign rfl) rfl rfl rfl ?_
      refine WL.end ?_
      exact NE.again ((i + 1), a1, s5, (ys.set i r_1)) (⟨rfl, rfl, rfl, rfl, trivial⟩) ⟨(by dsimp only; omega), (by dsimp only; omega), (by assumption), (by first | exact (List.length_set).trans hly | exact hly), (by first | exact W32.set hwy (by assumption) | exact hwy), (by first | exact bd_set hby (Pl.bd (by assumption)) | exact hby), (Row.congr ((r12.ext m15).mod m16 (nC (lE (lL (lL q.lt (lT (lT (lT (lT (lT (lT m1.size m2.size) m3.size) m4.size) m5.size) m6.size) m7.size)) ge1)) nN)) rfl), (Row.congr r14 rfl), ((((((m11.then m12 ((aC (.inl (by simp)) aN))).nt md1).nt m13).then m14 ((aC (.inl (by simp)) aN))).nt m15).then m16 ((aC (.inl (by simp)) aN)))⟩ (by first | (dsimp only; omega) | omega)
    · have hp2 := ne_of_beq_false hb2
      refine CE.cond_f rfl hb2 ?_
      refine CE.skip' ?_
      refine NE.blk ?_
      refine NE.code ?_
      refine CE.region ?_
      refine WL.det (op_move rfl) rfl rfl rfl ?_
      refine WL.det (op_add (r := ((i + 1 : Nat) : Int)) rfl rfl (w_i64 (by omega) (by omega))) rfl rfl rfl ?_
      refine WL.det (op_assign rfl) rfl rfl rfl ?_
      refine WL.end ?_
      exact NE.again ((i + 1), (q9 + 1), s4, ys) (⟨rfl, rfl, rfl, rfl, trivial⟩) ⟨(by dsimp only; omega), (by dsimp only; omega), (by assumption), (by first | exact (List.length_set).trans hly | exact hly), (by first | exact W32.set hwy (by assumption) | exact hwy), (by first | exact bd_set hby (Pl.bd (by assumption)) | exact hby), (Row.congr r11 rfl), (Row.congr (r10.mod m12 (nC (lG (lL (lL q.lt (lT (lT (lT (lT (lT (lT m1.size m2.size) m3.size) m4.size) m5.size) m6.size) m7.size)) ge1)) nN)) rfl), (m11.then m12 ((aC (.inl (by simp)) aN)))⟩ (by first | (dsimp only; omega) | omega)
  · have hp1 := of_decide_eq_false hb1
    refine CE.cond_f rfl hb1 ?_
    refine CE.exit' ?_
    refine XE.exit_then ?_
    refine XE.exit_then ?_
    refine XE.exit_here ?_
    refine NE.code ?_
    refine CE.seq ?_
    refine CE.seq ?_
    refine CE.region ?_
    refine WL.det (op_move rfl) rfl rfl rfl ?_
    refine WL.call (oc_call (vs := [vP p 0, vI 6]) (cap := []) rfl rfl rfl Try.call116 (c_pickS n c A b o xs q9 s9 p 6 ln hA hB (by omega) (by omega) (by omega) (by omega) (by omega) (by first | assumption | (intro h0; have hlt := Rng.lt r (by rw [bys_len, ln]; exact h0); omega)) w11 r9 (rng0S ln nbp r (Rng.youngS r ((((rng0 ln nbp ((rng0 ln nbp ((rng0 ln nbp (r.ext m1) m2).ext m3) m4).ext m5) m6).ext m7).ext m8).ext m9) m10 (allge_cons (lT (lT (lT (lT (lT (lT (lT (lT m1.size m2.size) m3.size) m4.size) m5.size) m6.size) m7.size) m8.size) lR) allge_nil)) m11 (allge_cons (lT (lT (lT (lT (lT (lT (lT m1.size m2.size) m3.size) m4.size) m5.size) m6.size) m7.size) ge1) allge_nil)))) rfl rfl (ltb rfl) ?_
    rintro _ w18 ⟨u5, s6, rfl, h16, h17, r15, m17⟩
    refine WL.det (op_assign rfl) rfl rfl rfl ?_
    refine WL.end ?_
    refine NE.code ?_
    refine CE.block ?_
    refine CE.loop (fun (z : Nat × Nat × Nat × Nat × StrSt) => [(6, vI ((z.1 : Nat) : Int)), (0, vP p 0), (2, vP w.heap.size 0), (3, vP w8.heap.size 0)]) (fun (z : Nat × Nat × Nat × Nat × StrSt) => fun W => (z.1 + z.2.1 ≤ 5) ∧ (z.2.2.1 ≤ at_ + 2000000 + 100 * z.2.1) ∧ (z.2.2.2.1 < 18446744073709551616) ∧ (WayB n'1 z.2.2.2.2 (1 + 4 * z.2.1)) ∧ (z.2.2.2.2.t0 < wid .f32) ∧ (z.2.2.2.2.t1 < wid .f32) ∧ (z.2.2.2.2.d0 < wid .f32) ∧ (z.2.2.2.2.d1 < wid .f32) ∧ (z.2.2.2.2.xs.length = n'1) ∧ (W32 z.2.2.2.2.xs) ∧ (z.2.2.2.2.i < n'1) ∧ Row W p 0 [.slice A n c, vI ((z.2.2.1 : Nat) : Int), .int .u64 ((z.2.2.2.1 : Nat) : Int)] ∧ Row W w8.heap.size 0 [vS b'1 0 n'1 n'1, vI ((z.2.2.2.2.i : Nat) : Int), vI 3, vF ta1, vF 0, vF 0, vF (z.2.2.2.2.t0), vF (z.2.2.2.2.t1), vI 2, vF da1, vF f2, vF 0, vF (z.2.2.2.2.d0), vF (z.2.2.2.2.d1), vF f3] ∧ Row W b'1 0 (fl z.2.2.2.2.xs) ∧ Mod [p, w8.heap.size, b'1] w18 W) (fun (z : Nat × Nat × Nat × Nat × StrSt) => z.1) (u5, 0, (q9 + 1), s6, (StrSt.mk ys 0 0 0 0 0)) (⟨rfl, rfl, rfl, rfl, trivial⟩) ⟨(by dsimp only; omega), (by dsimp only; omega), (by assumption), (by exact WayB.start hS.l hly hwy hby), (by exact zw9), (by exact zw9), (by exact zw9), (by exact zw9), (by exact hly), (by exact hwy), (by exact hS.l.n1), (Row.congr r15 rfl), (Row.congr ((r8.mod m11 (nC (lG (lL (lL q.lt (lT (lT (lT (lT (lT (lT (lT m1.size m2.size) m3.size) m4.size) m5.size) m6.size) m7.size) m8.size)) lR)) (nC (lG (lL r5.lt lR)) nN))).mod m17 (nC (lG (lL (lL q.lt (lT (lT (lT (lT (lT (lT (lT m1.size m2.size) m3.size) m4.size) m5.size) m6.size) m7.size) m8.size)) lR)) nN)) rfl), (Row.congr (r10.mod m17 (nC (lG (lL (lL q.lt (lT (lT (lT (lT (lT (lT m1.size m2.size) m3.size) m4.size) m5.size) m6.size) m7.size)) ge1)) nN)) rfl), Mod.refl _ _⟩ ?_
    rintro ⟨k, j, q8, s8, z⟩ w19 ⟨hk, hq8, hs8, hw, vb0, vb1, vb2, vb3, hlz, hwz, hiz, r16, r17, r18, m18⟩
    replace hk : k + j ≤ 5 := hk
    replace hq8 : q8 ≤ at_ + 2000000 + 100 * j := hq8
    replace hs8 : s8 < 18446744073709551616 := hs8
    replace hw : WayB n'1 z (1 + 4 * j) := hw
    replace vb0 : z.t0 < wid .f32 := vb0
    replace vb1 : z.t1 < wid .f32 := vb1
    replace vb2 : z.d0 < wid .f32 := vb2
    replace vb3 : z.d1 < wid .f32 := vb3
    replace hlz : z.xs.length = n'1 := hlz
    replace hwz : W32 z.xs := hwz
    replace hiz : z.i < n'1 := hiz
    replace r16 : Row w19 p 0 [.slice A n c, vI ((q8 : Nat) : Int), .int .u64 ((s8 : Nat) : Int)] := r16
    replace r17 : Row w19 w8.heap.size 0 [vS b'1 0 n'1 n'1, vI ((z.i : Nat) : Int), vI 3, vF ta1, vF 0, vF 0, vF (z.t0), vF (z.t1), vI 2, vF da1, vF f2, vF 0, vF (z.d0), vF (z.d1), vF f3] := r17
    replace r18 : Row w19 b'1 0 (fl z.xs) := r18
    show CE _ _ _ _ [(6, vI ((k : Nat) : Int)), (0, vP p 0), (2, vP w.heap.size 0), (3, vP w8.heap.size 0)] _
    refine CE.seq ?_
    refine CE.seq ?_
    refine CE.region ?_
    refine WL.det (op_move rfl) rfl rfl rfl ?_
    refine WL.det (op_gti rfl rfl) rfl rfl rfl ?_
    refine WL.end ?_
    refine NE.code ?_
    rcases Bool.eq_false_or_eq_true (decide ((0 : Int) < ((k : Nat) : Int))) with hb3 | hb3
    · have hp3 := of_decide_eq_true hb3
      refine CE.cond_t rfl hb3 ?_
      refine CE.skip' ?_
      refine NE.code ?_
      refine CE.seq ?_
      refine CE.block ?_
      refine CE.region ?_
      refine WL.det (op_move rfl) rfl rfl rfl ?_
      refine WL.call (oc_call (vs := [vP p 0]) (cap := []) rfl rfl rfl Try.call68 (c_l01PlainB n c A b o xs q8 s8 p ln hA hB (by omega) (by omega) (by omega) (by first | assumption | (intro h0; have hlt := Rng.lt r (by rw [bys_len, ln]; exact h0); omega)) w19 r16 (rng0S ln nbp r (rng0 ln nbp (rng0S ln nbp r (Rng.youngS r ((((rng0 ln nbp ((rng0 ln nbp ((rng0 ln nbp (r.ext m1) m2).ext m3) m4).ext m5) m6).ext m7).ext m8).ext m9) m10 (allge_cons (lT (lT (lT (lT (lT (lT (lT (lT m1.size m2.size) m3.size) m4.size) m5.size) m6.size) m7.size) m8.size) lR) allge_nil)) m11 (allge_cons (lT (lT (lT (lT (lT (lT (lT m1.size m2.size) m3.size) m4.size) m5.size) m6.size) m7.size) ge1) allge_nil)) m17) m18 (allge_cons (lT (lT (lT (lT (lT (lT (lT (lT m1.size m2.size) m3.size) m4.size) m5.size) m6.size) m7.size) m8.size) lR) (allge_cons (lT (lT (lT (lT (lT (lT (lT m1.size m2.size) m3.size) m4.size) m5.size) m6.size) m7.size) ge1) allge_nil))))) rfl rfl (ltb rfl) ?_
      rintro _ w20 ⟨r_2, a2, s7, rfl, h18, h19, h20, h21, r19, m19⟩
      refine WL.call (oc_call (vs := [vP w8.heap.size 0, vF r_2]) (cap := []) rfl rfl rfl Try.call87 (c_l03Step n'1 n'1 b'1 z.xs z.i (3 : Int) ta1 0 0 (z.t0) (z.t1) (2 : Int) da1 f2 0 (z.d0) (z.d1) f3 w8.heap.size 0 [vS b'1 0 n'1 n'1, vI ((z.i : Nat) : Int), vI 3, vF ta1, vF 0, vF 0, vF (z.t0), vF (z.t1), vI 2, vF da1, vF f2, vF 0, vF (z.d0), vF (z.d1), vF f3] r_2 r_2 hlz (by first | omega | exact Nat.mod_lt _ (by omega)) (by omega) vb0 vb1 vb2 vb3 (lB rfl) rfl h18 hwz w20 (Row.congr (r17.mod m19 (nC (lG (lL (lL q.lt (lT (lT (lT (lT (lT (lT (lT m1.size m2.size) m3.size) m4.size) m5.size) m6.size) m7.size) m8.size)) lR)) nN)) rfl) (r18.mod m19 (nC (lG (lL (lL q.lt (lT (lT (lT (lT (lT (lT m1.size m2.size) m3.size) m4.size) m5.size) m6.size) m7.size)) ge1)) nN)) (lG (lL r5.lt lR)))) rfl rfl (ltb rfl) ?_
      rintro _ w21 ⟨rfl, h22, h23, h24, h25, h26, r20, r21, m20⟩
      have r22 : Row w21 w8.heap.size 0 [vS b'1 0 n'1 n'1, vI (((z.i + 1) % n'1 : Nat) : Int), vI 3, vF ta1, vF 0, vF 0, vF (stepS (3 : Int) ta1 0 0 (z.t0) (z.t1) (z.xs.getD z.i 0)), vF (stepT (3 : Int) ta1 0 0 (z.t0) (z.t1) (z.xs.getD z.i 0)), vI 2, vF da1, vF f2, vF 0, vF (stepS (2 : Int) da1 f2 0 (z.d0) (z.d1) (stepY (3 : Int) ta1 0 0 (z.t0) (z.t1) (z.xs.getD z.i 0))), vF (stepT (2 : Int) da1 f2 0 (z.d0) (z.d1) (stepY (3 : Int) ta1 0 0 (z.t0) (z.t1) (z.xs.getD z.i 0))), vF f3] := r20
      refine WL.end ?_
      refine NE.blk ?_
      refine NE.code ?_
      refine CE.region ?_
      refine WL.det (op_move rfl) rfl rfl rfl ?_
      refine WL.det (op_sub (r := ((k - 1 : Nat) : Int)) rfl rfl (w_nsub (l := k) (n := 1) (by omega) (by omega))) rfl rfl rfl ?_
      refine WL.det (op_assign rfl) rfl rfl rfl ?_
      refine WL.end ?_
      exact NE.again ((k - 1), (j + 1), a2, s7, (strNext n'1 3 ta1 0 0 2 da1 f2 0 f3 z r_2)) (⟨rfl, rfl, rfl, rfl, trivial⟩) ⟨(by dsimp only; omega), (by dsimp only; omega), (by assumption), (by exact WayB.next hw hS ((Pl.bd (by assumption)).mono (Nat.le_add_right 1 (4 * j))) (show 1 + 4 * j ≤ 30 by omega)), (by assumption), (by assumption), (by assumption), (by assumption), (by exact (List.length_set).trans hlz), (by exact W32.set hwz (by assumption)), (by exact Nat.mod_lt _ hS.l.n1), (Row.congr (r19.mod m20 (nC (lE (lL (lL q.lt (lT (lT (lT (lT (lT (lT (lT m1.size m2.size) m3.size) m4.size) m5.size) m6.size) m7.size) m8.size)) lR)) (nC (lE (lL (lL q.lt (lT (lT (lT (lT (lT (lT m1.size m2.size) m3.size) m4.size) m5.size) m6.size) m7.size)) ge1)) nN))) rfl), (Row.congr r22 rfl), (Row.congr r21 rfl), ((m18.then m19 ((aC (.inl (by simp)) aN))).then m20 ((aC (.inl (by simp)) (aC (.inl (by simp)) aN))))⟩ (by first | (dsimp only; omega) | omega)
    · have hp3 := of_decide_eq_false hb3
      refine CE.cond_f rfl hb3 ?_
      refine CE.exit' ?_
      refine XE.exit_then ?_
      refine XE.exit_then ?_
      refine XE.exit_here ?_
      refine NE.code ?_
      refine CE.seq ?_
      refine CE.region ?_
      refine WL.det (op_loadA (i := 0) (cs := [vS b'1 0 n'1 n'1, vI ((z.i : Nat) : Int), vI 3, vF ta1, vF 0, vF 0, vF (z.t0), vF (z.t1), vI 2, vF da1, vF f2, vF 0, vF (z.d0), vF (z.d1), vF f3]) rfl Try.isAgg33 Try.sizeOf33 r17.rng rfl rfl rfl) rfl rfl rfl ?_
      refine WL.op0 (op_store (i := 0) (cs := [vS b'1 0 n'1 n'1, vI ((z.i : Nat) : Int), vI 3, vF ta1, vF 0, vF 0, vF (z.t0), vF (z.t1), vI 2, vF da1, vF f2, vF 0, vF (z.d0), vF (z.d1), vF f3]) rfl rfl rfl Try.sizeOf33 rfl ((((((((((((r1.mod m2 (nC (lG (lL q.lt lR)) nN)).ext m3).mod m4 (nC (lG (lL q.lt lR)) nN)).ext m5).mod m6 (nC (lG (lL q.lt lR)) nN)).ext m7).ext m8).ext m9).mod m10 (nC (lE (lL (lL r1.lt (lT (lT (lT (lT (lT (lT m2.size m3.size) m4.size) m5.size) m6.size) m7.size) m8.size)) lR)) nN)).mod m11 (nC (lG (lL q.lt lR)) (nC (lE (lL (lL r1.lt (lT (lT (lT (lT (lT m2.size m3.size) m4.size) m5.size) m6.size) m7.size)) ge1)) nN))).mod m17 (nC (lG (lL q.lt lR)) nN)).mod m18 (nC (lG (lL q.lt lR)) (nC (lE (lL (lL r1.lt (lT (lT (lT (lT (lT (lT m2.size m3.size) m4.size) m5.size) m6.size) m7.size) m8.size)) lR)) (nC (lE (lL (lL r1.lt (lT (lT (lT (lT (lT m2.size m3.size) m4.size) m5.size) m6.size) m7.size)) ge1)) nN)))) rfl (lB rfl) rfl) rfl rfl ?_
      rintro _ w22 ⟨r23, m21, z5⟩
      have r24 : Row w22 w.heap.size 0 [vS b'1 0 n'1 n'1, vI ((z.i : Nat) : Int), vI 3, vF ta1, vF 0, vF 0, vF (z.t0), vF (z.t1), vI 2, vF da1, vF f2, vF 0, vF (z.d0), vF (z.d1), vF f3] := Row.congr r23 rfl
      refine WL.end ?_
      refine NE.code ?_
      refine CE.ret' ?_
      refine XE.leaveC Try.results98 (res_agg (cs := [vS b'1 0 n'1 n'1, vI ((z.i : Nat) : Int), vI 3, vF ta1, vF 0, vF 0, vF (z.t0), vF (z.t1), vI 2, vF da1, vF f2, vF 0, vF (z.d0), vF (z.d1), vF f3]) rfl Try.isAgg33 Try.sizeOf33 r24.rng rfl res_nil) ?_
      refine ⟨n'1, n'1, b'1, ta1, da1, f2, f3, z, ?_, ?_, ?_, ?_, ?_, ?_, (r18.mod m21 (nC (lG (lL (lL r1.lt (lT (lT (lT (lT (lT m2.size m3.size) m4.size) m5.size) m6.size) m7.size)) ge1)) nN)), (lT (lT (lT (lT (lT (lT (lT m1.size m2.size) m3.size) m4.size) m5.size) m6.size) m7.size) ge1), (((((((((((((((Mod.refl [p] w).nt m1).then m2 ((aC (.inl (by simp)) aN))).nt m3).then m4 ((aC (.inl (by simp)) aN))).nt m5).then m6 ((aC (.inl (by simp)) aN))).nt m7).nt m8).nt m9).then m10 ((aC (.inr (lT (lT (lT (lT (lT (lT (lT (lT m1.size m2.size) m3.size) m4.size) m5.size) m6.size) m7.size) m8.size) lR)) aN))).then m11 ((aC (.inl (by simp)) (aC (.inr (lT (lT (lT (lT (lT (lT (lT m1.size m2.size) m3.size) m4.size) m5.size) m6.size) m7.size) ge1)) aN)))).then m17 ((aC (.inl (by simp)) aN))).then m18 ((aC (.inl (by simp)) (aC (.inr (lT (lT (lT (lT (lT (lT (lT (lT m1.size m2.size) m3.size) m4.size) m5.size) m6.size) m7.size) m8.size) lR)) (aC (.inr (lT (lT (lT (lT (lT (lT (lT m1.size m2.size) m3.size) m4.size) m5.size) m6.size) m7.size) ge1)) aN))))).then m21 ((aC (.inr lR) aN)))⟩
      all_goals first | assumption | exact hS | exact hS.l.n1 | exact hS.l.n2 | exact ⟨hw.w, fun j => (hw.x j).mono (by omega), hw.t0.mono (by omega), hw.t1.mono (by omega), hw.d0.mono (by omega)⟩ | rfl

set_option maxRecDepth 100000 in
set_option maxHeartbeats 2000000 in
theorem c_A2String (n : Nat) (c : Nat) (A : Option Addr) (b : Nat) (o : Nat) (xs : List Nat) (ln : xs.length = n) (hA : 0 < n → A = some ⟨b, o, none⟩) (hB : ∀ i, xs.getD i 0 < 256) (hn : n ≤ 4611686018427387904) (w : World) (r : Rng w b o (bys xs)) : Cl Try.prog 32 #[.slice A n c] w fun v w' => ∃ (n' : Nat) (c' : Nat) (b' : Nat) (ta : Nat) (da : Nat) (mw : Nat) (lw : Nat) (zz : StrSt), v = .agg #[vS b' 0 n' c', vI ((zz.i : Nat) : Int), vI 3, vF ta, vF 0, vF 0, vF (zz.t0), vF (zz.t1), vI 2, vF da, vF mw, vF 0, vF (zz.d0), vF (zz.d1), vF lw] ∧ (StrB n' ta da mw lw) ∧ (WayB n' zz 21) ∧ (zz.xs.length = n') ∧ (1 ≤ n') ∧ (n' ≤ 1024) ∧ Row w' b' 0 (fl zz.xs) ∧ w.heap.size ≤ b' ∧ Mod [] w w' := by
  refine Cl.of Try.func32 Try.ntmps32 rfl rfl (ρ := [(0, .slice A n c)]) rfl ?_
  refine CE.seq ?_
  refine CE.region ?_
  refine WL.op (op_alloc (cs := [.slice none 0 0, vI 0, vI 0, vF 0, vF 0, vF 0, vF 0, vF 0, vI 0, vF 0, vF 0, vF 0, vF 0, vF 0, vF 0]) Try.zeroValue33 rfl) rfl rfl (ltb rfl) ?_
  rintro _ w1 ⟨rfl, r1, m1, z1⟩
  refine WL.end ?_
  refine NE.code ?_
  refine CE.seq ?_
  refine CE.region ?_
  refine WL.det (op_move rfl) rfl rfl rfl ?_
  refine WL.call (oc_call (vs := [.slice A n c]) (cap := []) rfl rfl rfl Try.call69 (c_l00From n c A b o hA w1)) rfl rfl (ltb rfl) ?_
  rintro _ w2 ⟨p'1, rfl, r2, ge1, m2⟩
  refine WL.call (oc_call (vs := [vP p'1 0]) (cap := []) rfl rfl rfl Try.call98 (c_l03Drawn n c A b o xs 0 0 p'1 ln hA hB (by omega) (by omega) (by omega) (by first | assumption | (intro h0; have hlt := Rng.lt r (by rw [bys_len, ln]; exact h0); omega)) w2 r2 ((r.ext m1).ext m2))) rfl rfl (ltb rfl) ?_
  rintro _ w3 ⟨n'1, c'1, b'1, ta1, da1, mw1, lw1, zz1, rfl, h1, h2, h3, h4, h5, r3, ge2, m3⟩
  refine WL.op0 (op_store (i := 0) (cs := [vS b'1 0 n'1 c'1, vI ((zz1.i : Nat) : Int), vI 3, vF ta1, vF 0, vF 0, vF (zz1.t0), vF (zz1.t1), vI 2, vF da1, vF mw1, vF 0, vF (zz1.d0), vF (zz1.d1), vF lw1]) rfl rfl rfl Try.sizeOf33 rfl ((r1.ext m2).mod m3 (nC (lE (lL r1.lt ge1)) nN)) rfl (lB rfl) rfl) rfl rfl ?_
  rintro _ w4 ⟨r4, m4, z2⟩
  have r5 : Row w4 w.heap.size 0 [vS b'1 0 n'1 c'1, vI ((zz1.i : Nat) : Int), vI 3, vF ta1, vF 0, vF 0, vF (zz1.t0), vF (zz1.t1), vI 2, vF da1, vF mw1, vF 0, vF (zz1.d0), vF (zz1.d1), vF lw1] := Row.congr r4 rfl
  refine WL.end ?_
  refine NE.code ?_
  refine CE.ret' ?_
  refine XE.leaveC Try.results32 (res_agg (cs := [vS b'1 0 n'1 c'1, vI ((zz1.i : Nat) : Int), vI 3, vF ta1, vF 0, vF 0, vF (zz1.t0), vF (zz1.t1), vI 2, vF da1, vF mw1, vF 0, vF (zz1.d0), vF (zz1.d1), vF lw1]) rfl Try.isAgg33 Try.sizeOf33 r5.rng rfl res_nil) ?_
  refine ⟨n'1, c'1, b'1, ta1, da1, mw1, lw1, zz1, ?_, ?_, ?_, ?_, ?_, ?_, (r3.mod m4 (nC (lG (lL (lL r1.lt m2.size) ge2)) nN)), (lT (lT m1.size m2.size) ge2), (((((Mod.refl [] w).nt m1).nt m2).then m3 ((aC (.inr (lT m1.size ge1)) aN))).then m4 ((aC (.inr lR) aN)))⟩
  all_goals first | assumption | rfl

end Go.Proofs.Ytabfdgpldcegiaa
