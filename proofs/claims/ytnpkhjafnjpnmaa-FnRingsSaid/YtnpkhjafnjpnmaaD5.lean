/- What the law on rings calls. -/
import Derived.Test.YtnpkhjafnjpnmaaD3
import Derived.Test.YtnpkhjafnjpnmaaG1
import Derived.Test.YtnpkhjafnjpnmaaE26
import Derived.Test.YtnpkhjafnjpnmaaK1
set_option linter.unusedVariables false
set_option linter.unusedSimpArgs false
set_option maxRecDepth 100000
set_option maxHeartbeats 8000000
namespace Go.Proofs.Ytnpkhjafnjpnmaa

theorem x123n : Extern.findNext Try.f123 = none := by kernel_rfl
theorem x123e : Extern.find Try.f123 = some (Extern.MathFloor.toIntegral "math.archFloor" .down) := by kernel_rfl
def SpotE (p : Nat) : Prop := ∃ n, n ≤ 1048576 ∧ Spot p n
theorem SpotE.bd {p : Nat} (h : SpotE p) : posF p ≤ 9223372036854775807 := by obtain ⟨n, h1, h2⟩ := h; exact Nat.le_trans h2.le (by omega)
theorem SpotE.toInt32 {a p : Nat} (ha : cn .f32 a = cn .f32 p) (h : SpotE p) : (FloatKind.f32.decode a).toInt .zero = some ((posF p : Nat) : Int) := by obtain ⟨n, h1, h2⟩ := h; exact spot_toInt ha h2
theorem SpotE.toInt64 {p : Nat} (h : SpotE p) : (FloatKind.f64.decode (floorW p)).toInt .zero = some ((posF p : Nat) : Int) := by obtain ⟨n, h1, h2⟩ := h; exact h2.toInt64 h1
def SpotW (x : Nat) : Prop := ∃ p, x = wide p ∧ SpotE p
/-- the whole number below a wide word's number -/
def floorX (x : Nat) : Nat := FloatKind.f64.encode ((FloatKind.f64.decode x).integral .down)
theorem SpotW.run {P : Program} {a x : Nat} {w : World} (ha : cn .f64 a = cn .f64 x) (h : SpotW x) : (Extern.MathFloor.toIntegral "math.archFloor" .down #[.float .f64 a]).run P w = .ok (.float .f64 (floorX x)) w := by
  obtain ⟨p, rfl, n, h1, h2⟩ := h
  exact floor_run ha h2
theorem floorX_wide {a p : Nat} (ha : cn .f64 a = cn .f64 (floorX (wide p))) (h : SpotE p) : (FloatKind.f64.decode a).toInt .zero = some ((posF p : Nat) : Int) := by
  have hn : isNaN .f64 (floorX (wide p)) = false := by
    obtain ⟨n, h1, h2⟩ := h
    obtain ⟨s, e, _, _⟩ := h2.floor
    unfold floorX
    rw [e]; exact read_nearest_noNaN FloatKind.f64.format s (posF p) 0
  rw [eq_of_cn ha hn]; exact h.toInt64

def spotB (p : Nat) : Bool := decide (p < 2139095040) && decide (posF p ≤ 1024)
theorem spotB_of {p : Nat} (h : spotB p = true) : SpotE p := by
  simp only [spotB, Bool.and_eq_true, decide_eq_true_eq] at h
  have e : p % 2147483648 = p := Nat.mod_eq_of_lt (by omega)
  exact ⟨1024, by omega, by rw [e]; exact h.1, .inl (by simp; omega), h.2⟩
/-- places that are whole numbers up to 12 -/
def betB (k : Nat) : Bool := (fGe .f32 (FloatKind.f32.nearest ((k : Nat) : Int)) 1065353216 && (spotB (FloatKind.f32.nearest ((k : Nat) : Int)) && decide (posF (FloatKind.f32.nearest ((k : Nat) : Int)) = k))) && fEq .f32 (fop .sub .f32 (FloatKind.f32.nearest ((k : Nat) : Int)) (FloatKind.f32.nearest ((k : Nat) : Int))) 0
def betT : Bool := (List.range 12).all fun a => betB (a + 1) && (List.range 12).all fun b => decide (b < a) || fLe .f32 (FloatKind.f32.nearest (((a + 1 : Nat)) : Int)) (FloatKind.f32.nearest (((b + 1 : Nat)) : Int))
theorem betT_ok : betT = true := by decide +kernel
structure BetOk (n k d : Nat) : Prop where
  g : fGe .f32 d 1065353216 = true
  l : fLe .f32 d (FloatKind.f32.nearest ((n : Nat) : Int)) = true
  s : SpotE d
  p : posF d = k
  z : fEq .f32 (fop .sub .f32 d (FloatKind.f32.nearest ((k : Nat) : Int))) 0 = true
theorem BetOk.of {n k : Nat} (h1 : 1 ≤ k) (h2 : k ≤ n) (h3 : n ≤ 12) : BetOk n k (FloatKind.f32.nearest ((k : Nat) : Int)) := by
  have h := List.all_eq_true.1 betT_ok (k - 1) (by simp; omega)
  rw [show k - 1 + 1 = k by omega, Bool.and_eq_true] at h
  have h4 := List.all_eq_true.1 h.2 (n - 1) (by simp; omega)
  rw [show n - 1 + 1 = n by omega, Bool.or_eq_true] at h4
  have h5 := h.1
  simp only [betB, Bool.and_eq_true, decide_eq_true_eq] at h5
  refine ⟨h5.1.1, ?_, spotB_of h5.1.2.1, h5.1.2.2, h5.2⟩
  rcases h4 with h4 | h4
  · rw [decide_eq_true_eq] at h4; omega
  · exact h4
theorem rg_over {n1 n2 : Nat} (h : 3000 < n1 ∨ 3000 < n2) : (decide ((3000 : Int) < ((n1 : Nat) : Int)) || decide ((3000 : Int) < ((n2 : Nat) : Int))) = true := by
  simp; omega
theorem rg_in {n1 n2 : Nat} (h : n1 ≤ 3000) (h2 : n2 ≤ 3000) : (decide ((3000 : Int) < ((n1 : Nat) : Int)) || decide ((3000 : Int) < ((n2 : Nat) : Int))) = false := by
  simp; omega
theorem fl_snoc (ys : List Nat) (f : Nat) : fl ys ++ [Value.float .f32 f] = fl (ys ++ [f]) := by simp [fl]
theorem W32.snoc {ys : List Nat} {f : Nat} (h : W32 ys) (hf : f < wid .f32) : W32 (ys ++ [f]) := fun x hx => by
  rcases List.mem_append.1 hx with hx | hx
  · exact h x hx
  · rw [List.mem_singleton.1 hx]; exact hf
section
variable {n m i k p : Nat} {xs L : List Nat}
theorem old_none (hx : xs = rgF n L i) (hp : p = i % n) (h0 : 0 < n) (h : i < n) : (cn .f32 (xs.getD p 0) == cn .f32 0) = true := by
  rw [hx, hp, rgF_old h0, due_out (by omega)]; exact beq_self_eq_true _
theorem old_some (hx : xs = rgF n L i) (hp : p = i % n) (h0 : 0 < n) (h : n ≤ i) : (cn .f32 (xs.getD p 0) == cn .f32 (L.getD (i - n) 0)) = true := by
  rw [hx, hp, rgF_old h0, due_in h]; exact beq_self_eq_true _
theorem bk_none (hx : xs = rgF n L m) (hp : p = m % n) (h1 : 1 ≤ k) (h2 : k ≤ n) (h : m < k) : (cn .f32 (xs.getD ((p + n - k) % n) 0) == cn .f32 0) = true := by
  rw [hx, hp, rgF_back (by omega) m k h1 h2, due_out (by omega)]; exact beq_self_eq_true _
theorem bk_some (hx : xs = rgF n L m) (hp : p = m % n) (h1 : 1 ≤ k) (h2 : k ≤ n) (h : k ≤ m) : (cn .f32 (xs.getD ((p + n - k) % n) 0) == cn .f32 (L.getD (m - k) 0)) = true := by
  rw [hx, hp, rgF_back (by omega) m k h1 h2, due_in h]; exact beq_self_eq_true _
theorem turn_last : (cn .f32 (xs.getD 0 0) == cn .f32 (xs.getD ((0 + n - n) % n) 0)) = true := by
  rw [show 0 + n - n = 0 by omega, Nat.zero_mod]; exact beq_self_eq_true _
end

theorem c_l01PlainS (n : Nat) (c : Nat) (A : Option Addr) (b : Nat) (o : Nat) (xs : List Nat) (at_ : Nat) (s : Nat) (p : Nat) (ln : xs.length = n) (hA : 0 < n → A = some ⟨b, o, none⟩) (hB : ∀ i, xs.getD i 0 < 256) (hn : n ≤ 4611686018427387904) (ha : at_ ≤ 4611686018427387000) (hs : s < 18446744073709551616) (nbp : 0 < n → b ≠ p) (w : World) (q : Row w p 0 [.slice A n c, vI ((at_ : Nat) : Int), .int .u64 ((s : Nat) : Int)]) (r : Rng w b o (bys xs)) : Cl Try.prog 49 #[vP p 0] w fun v w' => ∃ (r_ : Nat) (a2 : Nat) (s2 : Nat), v = vF r_ ∧ (r_ < wid .f32) ∧ (a2 ≤ at_ + 8) ∧ (s2 < 18446744073709551616) ∧ Row w' p 0 [.slice A n c, vI ((a2 : Nat) : Int), .int .u64 ((s2 : Nat) : Int)] ∧ Mod [p] w w' := by
 refine Cl.of Try.func49 Try.ntmps49 rfl rfl (ρ := [(0, vP p 0)]) rfl ?_
 refine CE.seq (CE.region ?_)
 refine WL.det (op_assign rfl) rfl rfl rfl ?_
 refine WL.end (NE.code (CE.seq (CE.region ?_)))
 refine WL.det (op_move rfl) rfl rfl rfl ?_
 refine WL.call (oc_call (vs := [vP p 0, vI 257]) (cap := []) rfl rfl rfl Try.call58 (c_pickB n c A b o xs at_ s p 257 ln hA hB (by omega) (by omega) (by omega) (by omega) (by omega) (by first | assumption | (intro h0; have hlt := Rng.lt r (by rw [bys_len, ln]; exact h0); omega)) w q r)) rfl rfl (ltb rfl) ?_
 rintro _ w1 ⟨u1, s1, rfl, h1, h2, r1, m1⟩
 refine WL.det (op_sub (r := (((u1 : Nat) : Int) - (128 : Int))) rfl rfl (w_i64 (by omega) (by omega))) rfl rfl rfl ?_
 refine WL.det (op_cvt_if rfl Try.runUnderlying2 Try.runUnderlying24) rfl rfl rfl ?_
 refine WL.op (op_farith (e := (fop .quo .f32 (FloatKind.f32.nearest (((u1 : Nat) : Int) - (128 : Int))) 1115684864)) (.inr (.inr (.inr rfl))) rfl rfl rfl rfl rfl) rfl rfl (ltb rfl) ?_
 rintro _ w2 ⟨⟨f1, rfl, hf1, lf1⟩, m2⟩
 refine WL.det (op_assign rfl) rfl rfl rfl ?_
 refine WL.end (NE.code (CE.ret' ?_))
 refine XE.leave1 Try.results49 rfl ?_
 refine ⟨f1, (at_ + 1 + 1), s1, rfl, lf1, ?_, ?_, (Row.congr (r1.ext m2) ?_), (((Mod.refl [p] w).then m1 ((aC (.inl (by simp)) aN))).nt m2)⟩
 all_goals first | assumption | rfl | omega

theorem c_l01AnyS (n : Nat) (c : Nat) (A : Option Addr) (b : Nat) (o : Nat) (xs : List Nat) (at_ : Nat) (s : Nat) (p : Nat) (ln : xs.length = n) (hA : 0 < n → A = some ⟨b, o, none⟩) (hB : ∀ i, xs.getD i 0 < 256) (hn : n ≤ 4611686018427387904) (ha : at_ ≤ 4611686018427386000) (hs : s < 18446744073709551616) (nbp : 0 < n → b ≠ p) (w : World) (q : Row w p 0 [.slice A n c, vI ((at_ : Nat) : Int), .int .u64 ((s : Nat) : Int)]) (r : Rng w b o (bys xs)) : Cl Try.prog 57 #[vP p 0] w fun v w' => ∃ (r_ : Nat) (a2 : Nat) (s2 : Nat), v = vF r_ ∧ (r_ < wid .f32) ∧ (a2 ≤ at_ + 16) ∧ (s2 < 18446744073709551616) ∧ Row w' p 0 [.slice A n c, vI ((a2 : Nat) : Int), .int .u64 ((s2 : Nat) : Int)] ∧ Mod [p] w w' := by
 refine Cl.of Try.func57 Try.ntmps57 rfl rfl (ρ := [(0, vP p 0)]) rfl ?_
 refine CE.seq (CE.region ?_)
 refine WL.det (op_assign rfl) rfl rfl rfl ?_
 refine WL.end (NE.code (CE.seq (CE.seq (CE.region ?_))))
 refine WL.det (op_move rfl) rfl rfl rfl ?_
 refine WL.call (oc_call (vs := [vP p 0, vI 14]) (cap := []) rfl rfl rfl Try.call58 (c_pick n c A b o xs at_ s p 14 ln hA hB (by omega) (by omega) (by omega) (by omega) (by omega) w q r)) rfl rfl (ltb rfl) ?_
 rintro _ w1 ⟨u1, s1, rfl, h1, h2, r1, m1⟩
 refine WL.end (NE.code (CE.block (CE.seq (CE.region ?_))))
 refine WL.det (op_eqi rfl rfl) rfl rfl rfl ?_
 refine WL.det (op_assign rfl) rfl rfl rfl ?_
 refine WL.end (NE.code ?_)
 rcases Bool.eq_false_or_eq_true ((((u1 : Nat) : Int) == (0 : Int))) with hb1 | hb1
 ·have hp1 := eq_of_beq hb1
  refine CE.cond_t rfl hb1 ?_
  refine CE.seq (CE.region ?_)
  refine WL.call (oc_call (vs := []) (cap := []) rfl rfl rfl Try.call90 (c_mathNaN w1)) rfl rfl (ltb rfl) ?_
  rintro _ _ ⟨rfl, rfl⟩
  refine WL.op (op_narrow (e := 2143289344) rfl rfl Try.runUnderlying109 Try.runUnderlying24 (.inl ⟨by decide +kernel, by decide +kernel⟩)) rfl rfl (ltb rfl) ?_
  rintro _ w2 ⟨⟨f1, rfl, hf1, lf1⟩, m2⟩
  refine WL.det (op_assign rfl) rfl rfl rfl ?_
  refine WL.end (NE.code (CE.ret' (XE.ret_blk (XE.ret_then ?_))))
  refine XE.leave1 Try.results57 rfl ?_
  refine ⟨f1, (at_ + 1), s1, rfl, lf1, ?_, ?_, (Row.congr (r1.ext m2) ?_), (((Mod.refl [p] w).then m1 ((aC (.inl (by simp)) aN))).nt m2)⟩
  all_goals first | assumption | rfl | omega | (rw [wid32]; omega)
 ·have hp1 := ne_of_beq_false hb1
  refine CE.cond_f rfl hb1 ?_
  refine CE.seq (CE.region ?_)
  refine WL.det (op_eqi rfl rfl) rfl rfl rfl ?_
  refine WL.det (op_assign rfl) rfl rfl rfl ?_
  refine WL.end (NE.code ?_)
  rcases Bool.eq_false_or_eq_true ((((u1 : Nat) : Int) == (1 : Int))) with hb2 | hb2
  ·have hp2 := eq_of_beq hb2
   refine CE.cond_t rfl hb2 ?_
   refine CE.seq (CE.region ?_)
   refine WL.call (oc_call (vs := [vI 1]) (cap := []) rfl rfl rfl Try.call91 (c_mathInf1 w1)) rfl rfl (ltb rfl) ?_
   rintro _ _ ⟨rfl, rfl⟩
   refine WL.op (op_narrow (e := 2139095040) rfl rfl Try.runUnderlying109 Try.runUnderlying24 (.inr (by decide +kernel))) rfl rfl (ltb rfl) ?_
   rintro _ w3 ⟨⟨f2, rfl, hf2, lf2⟩, m3⟩
   refine WL.det (op_assign rfl) rfl rfl rfl ?_
   refine WL.end (NE.code (CE.ret' (XE.ret_blk (XE.ret_then ?_))))
   refine XE.leave1 Try.results57 rfl ?_
   refine ⟨f2, (at_ + 1), s1, rfl, lf2, ?_, ?_, (Row.congr (r1.ext m3) ?_), (((Mod.refl [p] w).then m1 ((aC (.inl (by simp)) aN))).nt m3)⟩
   all_goals first | assumption | rfl | omega | (rw [wid32]; omega)
  ·have hp2 := ne_of_beq_false hb2
   refine CE.cond_f rfl hb2 ?_
   refine CE.seq (CE.region ?_)
   refine WL.det (op_eqi rfl rfl) rfl rfl rfl ?_
   refine WL.det (op_assign rfl) rfl rfl rfl ?_
   refine WL.end (NE.code ?_)
   rcases Bool.eq_false_or_eq_true ((((u1 : Nat) : Int) == (2 : Int))) with hb3 | hb3
   ·have hp3 := eq_of_beq hb3
    refine CE.cond_t rfl hb3 ?_
    refine CE.seq (CE.region ?_)
    refine WL.call (oc_call (vs := [vI (-1)]) (cap := []) rfl rfl rfl Try.call91 (c_mathInf2 w1)) rfl rfl (ltb rfl) ?_
    rintro _ _ ⟨rfl, rfl⟩
    refine WL.op (op_narrow (e := 4286578688) rfl rfl Try.runUnderlying109 Try.runUnderlying24 (.inr (by decide +kernel))) rfl rfl (ltb rfl) ?_
    rintro _ w4 ⟨⟨f3, rfl, hf3, lf3⟩, m4⟩
    refine WL.det (op_assign rfl) rfl rfl rfl ?_
    refine WL.end (NE.code (CE.ret' (XE.ret_blk (XE.ret_then ?_))))
    refine XE.leave1 Try.results57 rfl ?_
    refine ⟨f3, (at_ + 1), s1, rfl, lf3, ?_, ?_, (Row.congr (r1.ext m4) ?_), (((Mod.refl [p] w).then m1 ((aC (.inl (by simp)) aN))).nt m4)⟩
    all_goals first | assumption | rfl | omega | (rw [wid32]; omega)
   ·have hp3 := ne_of_beq_false hb3
    refine CE.cond_f rfl hb3 ?_
    refine CE.seq (CE.region ?_)
    refine WL.det (op_eqi rfl rfl) rfl rfl rfl ?_
    refine WL.det (op_assign rfl) rfl rfl rfl ?_
    refine WL.end (NE.code ?_)
    rcases Bool.eq_false_or_eq_true ((((u1 : Nat) : Int) == (3 : Int))) with hb4 | hb4
    ·have hp4 := eq_of_beq hb4
     refine CE.cond_t rfl hb4 ?_
     refine CE.seq (CE.region ?_)
     refine WL.det (op_extern (vs := [.int .u32 2147483648]) Try.func92 rfl rfl x92n x92e rfl (fun _ => rfl)) rfl rfl rfl ?_
     refine WL.det (op_assign rfl) rfl rfl rfl ?_
     refine WL.end (NE.code (CE.ret' (XE.ret_blk (XE.ret_then ?_))))
     refine XE.leave1 Try.results57 rfl ?_
     refine ⟨2147483648, (at_ + 1), s1, rfl, (by decide +kernel), ?_, ?_, (Row.congr r1 ?_), ((Mod.refl [p] w).then m1 ((aC (.inl (by simp)) aN)))⟩
     all_goals first | assumption | rfl | omega | (rw [wid32]; omega)
    ·have hp4 := ne_of_beq_false hb4
     refine CE.cond_f rfl hb4 ?_
     refine CE.seq (CE.region ?_)
     refine WL.det (op_eqi rfl rfl) rfl rfl rfl ?_
     refine WL.det (op_assign rfl) rfl rfl rfl ?_
     refine WL.end (NE.code ?_)
     rcases Bool.eq_false_or_eq_true ((((u1 : Nat) : Int) == (4 : Int))) with hb5 | hb5
     ·have hp5 := eq_of_beq hb5
      refine CE.cond_t rfl hb5 ?_
      refine CE.seq (CE.region ?_)
      refine WL.det (op_move rfl) rfl rfl rfl ?_
      refine WL.call (oc_call (vs := [vP p 0, vI 16777220]) (cap := []) rfl rfl rfl Try.call58 (c_pickB n c A b o xs (at_ + 1) s1 p 16777220 ln hA hB (by omega) (by omega) (by omega) (by omega) (by omega) (by first | assumption | (intro h0; have hlt := Rng.lt r (by rw [bys_len, ln]; exact h0); omega)) w1 r1 (rng0 ln nbp r m1))) rfl rfl (ltb rfl) ?_
      rintro _ w5 ⟨u2, s2, rfl, h3, h4, r2, m5⟩
      refine WL.det (op_cvt_ii (r := ((u2 : Nat) : Int)) rfl Try.runUnderlying2 Try.runUnderlying99 (w_u32 (by omega) (by omega))) rfl rfl rfl ?_
      refine WL.det (op_extern (vs := [.int .u32 ((u2 : Nat) : Int)]) Try.func92 rfl rfl x92n x92e rfl (fun _ => rfl)) rfl rfl rfl ?_
      refine WL.det (op_assign rfl) rfl rfl rfl ?_
      refine WL.end (NE.code (CE.ret' (XE.ret_blk (XE.ret_then ?_))))
      refine XE.leave1 Try.results57 rfl ?_
      refine ⟨u2, ((at_ + 1) + 1 + 1), s2, rfl, ?_, ?_, ?_, (Row.congr r2 ?_), (((Mod.refl [p] w).then m1 ((aC (.inl (by simp)) aN))).then m5 ((aC (.inl (by simp)) aN)))⟩
      all_goals first | assumption | rfl | omega | (rw [wid32]; omega)
     ·have hp5 := ne_of_beq_false hb5
      refine CE.cond_f rfl hb5 ?_
      refine CE.seq (CE.region ?_)
      refine WL.det (op_eqi rfl rfl) rfl rfl rfl ?_
      refine WL.det (op_assign rfl) rfl rfl rfl ?_
      refine WL.end (NE.code ?_)
      rcases Bool.eq_false_or_eq_true ((((u1 : Nat) : Int) == (5 : Int))) with hb6 | hb6
      ·have hp6 := eq_of_beq hb6
       refine CE.cond_t rfl hb6 ?_
       refine CE.seq (CE.region ?_)
       refine WL.det (op_move rfl) rfl rfl rfl ?_
       refine WL.call (oc_call (vs := [vP p 0, vI 8388612]) (cap := []) rfl rfl rfl Try.call58 (c_pickB n c A b o xs (at_ + 1) s1 p 8388612 ln hA hB (by omega) (by omega) (by omega) (by omega) (by omega) (by first | assumption | (intro h0; have hlt := Rng.lt r (by rw [bys_len, ln]; exact h0); omega)) w1 r1 (rng0 ln nbp r m1))) rfl rfl (ltb rfl) ?_
       rintro _ w6 ⟨u3, s3, rfl, h5, h6, r3, m6⟩
       refine WL.det (op_cvt_ii (r := ((u3 : Nat) : Int)) rfl Try.runUnderlying2 Try.runUnderlying99 (w_u32 (by omega) (by omega))) rfl rfl rfl ?_
       refine WL.det (op_add (r := ((2147483648 + u3 : Nat) : Int)) rfl rfl (w_u32 (by omega) (by omega))) rfl rfl rfl ?_
       refine WL.det (op_extern (vs := [.int .u32 ((2147483648 + u3 : Nat) : Int)]) Try.func92 rfl rfl x92n x92e rfl (fun _ => rfl)) rfl rfl rfl ?_
       refine WL.det (op_assign rfl) rfl rfl rfl ?_
       refine WL.end (NE.code (CE.ret' (XE.ret_blk (XE.ret_then ?_))))
       refine XE.leave1 Try.results57 rfl ?_
       refine ⟨(2147483648 + u3), ((at_ + 1) + 1 + 1), s3, rfl, ?_, ?_, ?_, (Row.congr r3 ?_), (((Mod.refl [p] w).then m1 ((aC (.inl (by simp)) aN))).then m6 ((aC (.inl (by simp)) aN)))⟩
       all_goals first | assumption | rfl | omega | (rw [wid32]; omega)
      ·have hp6 := ne_of_beq_false hb6
       refine CE.cond_f rfl hb6 ?_
       refine CE.seq (CE.region ?_)
       refine WL.det (op_eqi rfl rfl) rfl rfl rfl ?_
       refine WL.det (op_assign rfl) rfl rfl rfl ?_
       refine WL.end (NE.code ?_)
       rcases Bool.eq_false_or_eq_true ((((u1 : Nat) : Int) == (6 : Int))) with hb7 | hb7
       ·have hp7 := eq_of_beq hb7
        refine CE.cond_t rfl hb7 ?_
        refine CE.seq (CE.region ?_)
        refine WL.det (op_move rfl) rfl rfl rfl ?_
        refine WL.call (oc_call (vs := [vP p 0, vI 1073741824]) (cap := []) rfl rfl rfl Try.call58 (c_pickB n c A b o xs (at_ + 1) s1 p 1073741824 ln hA hB (by omega) (by omega) (by omega) (by omega) (by omega) (by first | assumption | (intro h0; have hlt := Rng.lt r (by rw [bys_len, ln]; exact h0); omega)) w1 r1 (rng0 ln nbp r m1))) rfl rfl (ltb rfl) ?_
        rintro _ w7 ⟨u4, s4, rfl, h7, h8, r4, m7⟩
        refine WL.det (op_cvt_ii (r := ((u4 : Nat) : Int)) rfl Try.runUnderlying2 Try.runUnderlying99 (w_u32 (by omega) (by omega))) rfl rfl rfl ?_
        refine WL.det (op_mul (r := ((u4 * 4 : Nat) : Int)) rfl rfl (w_u32 (by omega) (by omega))) rfl rfl rfl ?_
        refine WL.det (op_move rfl) rfl rfl rfl ?_
        refine WL.call (oc_call (vs := [vP p 0, vI 4]) (cap := []) rfl rfl rfl Try.call58 (c_pick n c A b o xs ((at_ + 1) + 1 + 1) s4 p 4 ln hA hB (by omega) (by omega) (by omega) (by omega) (by omega) w7 r4 (rng0 ln nbp (rng0 ln nbp r m1) m7))) rfl rfl (ltb rfl) ?_
        rintro _ w8 ⟨u5, s5, rfl, h9, h10, r5, m8⟩
        refine WL.det (op_cvt_ii (r := ((u5 : Nat) : Int)) rfl Try.runUnderlying2 Try.runUnderlying99 (w_u32 (by omega) (by omega))) rfl rfl rfl ?_
        refine WL.det (op_add (r := ((u4 * 4 + u5 : Nat) : Int)) rfl rfl (w_u32 (by omega) (by omega))) rfl rfl rfl ?_
        refine WL.det (op_extern (vs := [.int .u32 ((u4 * 4 + u5 : Nat) : Int)]) Try.func92 rfl rfl x92n x92e rfl (fun _ => rfl)) rfl rfl rfl ?_
        refine WL.det (op_assign rfl) rfl rfl rfl ?_
        refine WL.end (NE.code (CE.ret' (XE.ret_blk (XE.ret_then ?_))))
        refine XE.leave1 Try.results57 rfl ?_
        refine ⟨(u4 * 4 + u5), (((at_ + 1) + 1 + 1) + 1), s5, rfl, ?_, ?_, ?_, (Row.congr r5 ?_), ((((Mod.refl [p] w).then m1 ((aC (.inl (by simp)) aN))).then m7 ((aC (.inl (by simp)) aN))).then m8 ((aC (.inl (by simp)) aN)))⟩
        all_goals first | assumption | rfl | omega | (rw [wid32]; omega)
       ·have hp7 := ne_of_beq_false hb7
        refine CE.cond_f rfl hb7 ?_
        refine CE.seq (CE.region ?_)
        refine WL.det (op_eqi rfl rfl) rfl rfl rfl ?_
        refine WL.det (op_assign rfl) rfl rfl rfl ?_
        refine WL.end (NE.code ?_)
        rcases Bool.eq_false_or_eq_true ((((u1 : Nat) : Int) == (7 : Int))) with hb8 | hb8
        ·have hp8 := eq_of_beq hb8
         refine CE.cond_t rfl hb8 ?_
         refine CE.seq (CE.region ?_)
         refine WL.det (op_move rfl) rfl rfl rfl ?_
         refine WL.call (oc_call (vs := [vP p 0, vI 2000000]) (cap := []) rfl rfl rfl Try.call58 (c_pickB n c A b o xs (at_ + 1) s1 p 2000000 ln hA hB (by omega) (by omega) (by omega) (by omega) (by omega) (by first | assumption | (intro h0; have hlt := Rng.lt r (by rw [bys_len, ln]; exact h0); omega)) w1 r1 (rng0 ln nbp r m1))) rfl rfl (ltb rfl) ?_
         rintro _ w9 ⟨u6, s6, rfl, h11, h12, r6, m9⟩
         refine WL.det (op_sub (r := (((u6 : Nat) : Int) - (1000000 : Int))) rfl rfl (w_i64 (by omega) (by omega))) rfl rfl rfl ?_
         refine WL.det (op_cvt_if rfl Try.runUnderlying2 Try.runUnderlying24) rfl rfl rfl ?_
         refine WL.op (op_farith (e := (fop .quo .f32 (FloatKind.f32.nearest (((u6 : Nat) : Int) - (1000000 : Int))) 1232348160)) (.inr (.inr (.inr rfl))) rfl rfl rfl rfl rfl) rfl rfl (ltb rfl) ?_
         rintro _ w10 ⟨⟨f4, rfl, hf4, lf4⟩, m10⟩
         refine WL.det (op_assign rfl) rfl rfl rfl ?_
         refine WL.end (NE.code (CE.ret' (XE.ret_blk (XE.ret_then ?_))))
         refine XE.leave1 Try.results57 rfl ?_
         refine ⟨f4, ((at_ + 1) + 1 + 1), s6, rfl, lf4, ?_, ?_, (Row.congr (r6.ext m10) ?_), ((((Mod.refl [p] w).then m1 ((aC (.inl (by simp)) aN))).then m9 ((aC (.inl (by simp)) aN))).nt m10)⟩
         all_goals first | assumption | rfl | omega | (rw [wid32]; omega)
        ·have hp8 := ne_of_beq_false hb8
         refine CE.cond_f rfl hb8 ?_
         refine CE.seq (CE.region ?_)
         refine WL.det (op_eqi rfl rfl) rfl rfl rfl ?_
         refine WL.det (op_assign rfl) rfl rfl rfl ?_
         refine WL.end (NE.code ?_)
         rcases Bool.eq_false_or_eq_true ((((u1 : Nat) : Int) == (8 : Int))) with hb9 | hb9
         ·have hp9 := eq_of_beq hb9
          refine CE.cond_t rfl hb9 ?_
          refine CE.seq (CE.region ?_)
          refine WL.det (op_move rfl) rfl rfl rfl ?_
          refine WL.call (oc_call (vs := [vP p 0, vI 65538]) (cap := []) rfl rfl rfl Try.call58 (c_pickB n c A b o xs (at_ + 1) s1 p 65538 ln hA hB (by omega) (by omega) (by omega) (by omega) (by omega) (by first | assumption | (intro h0; have hlt := Rng.lt r (by rw [bys_len, ln]; exact h0); omega)) w1 r1 (rng0 ln nbp r m1))) rfl rfl (ltb rfl) ?_
          rintro _ w11 ⟨u7, s7, rfl, h13, h14, r7, m11⟩
          refine WL.det (op_sub (r := (((u7 : Nat) : Int) - (32769 : Int))) rfl rfl (w_i64 (by omega) (by omega))) rfl rfl rfl ?_
          refine WL.det (op_cvt_if rfl Try.runUnderlying2 Try.runUnderlying24) rfl rfl rfl ?_
          refine WL.op (op_farith (e := (fop .add .f32 (FloatKind.f32.nearest (((u7 : Nat) : Int) - (32769 : Int))) 1056964608)) (.inl rfl) rfl rfl rfl rfl rfl) rfl rfl (ltb rfl) ?_
          rintro _ w12 ⟨⟨f5, rfl, hf5, lf5⟩, m12⟩
          refine WL.op (op_farith (e := (fop .quo .f32 (fop .add .f32 (FloatKind.f32.nearest (((u7 : Nat) : Int) - (32769 : Int))) 1056964608) 1191182336)) (.inr (.inr (.inr rfl))) rfl rfl hf5 rfl rfl) rfl rfl (ltb rfl) ?_
          rintro _ w13 ⟨⟨f6, rfl, hf6, lf6⟩, m13⟩
          refine WL.det (op_assign rfl) rfl rfl rfl ?_
          refine WL.end (NE.code (CE.ret' (XE.ret_blk (XE.ret_then ?_))))
          refine XE.leave1 Try.results57 rfl ?_
          refine ⟨f6, ((at_ + 1) + 1 + 1), s7, rfl, lf6, ?_, ?_, (Row.congr ((r7.ext m12).ext m13) ?_), (((((Mod.refl [p] w).then m1 ((aC (.inl (by simp)) aN))).then m11 ((aC (.inl (by simp)) aN))).nt m12).nt m13)⟩
          all_goals first | assumption | rfl | omega | (rw [wid32]; omega)
         ·have hp9 := ne_of_beq_false hb9
          refine CE.cond_f rfl hb9 ?_
          refine CE.skip' (NE.blk (NE.code (CE.seq (CE.region ?_))))
          refine WL.det (op_move rfl) rfl rfl rfl ?_
          refine WL.call (oc_call (vs := [vP p 0]) (cap := []) rfl rfl rfl Try.call49 (c_l01PlainS n c A b o xs (at_ + 1) s1 p ln hA hB (by omega) (by omega) (by omega) (by first | assumption | (intro h0; have hlt := Rng.lt r (by rw [bys_len, ln]; exact h0); omega)) w1 r1 (rng0 ln nbp r m1))) rfl rfl (ltb rfl) ?_
          rintro _ w14 ⟨r_1, a1, s8, rfl, h15, h16, h17, r8, m14⟩
          refine WL.det (op_assign rfl) rfl rfl rfl ?_
          refine WL.end (NE.code (CE.ret' ?_))
          refine XE.leave1 Try.results57 rfl ?_
          refine ⟨r_1, a1, s8, rfl, h15, ?_, ?_, r8, (((Mod.refl [p] w).then m1 ((aC (.inl (by simp)) aN))).then m14 ((aC (.inl (by simp)) aN)))⟩
          all_goals first | assumption | rfl | omega | (rw [wid32]; omega)

theorem c_A2Samples (n : Nat) (c : Nat) (A : Option Addr) (b : Nat) (o : Nat) (xs : List Nat) (ln : xs.length = n) (hA : 0 < n → A = some ⟨b, o, none⟩) (hB : ∀ i, xs.getD i 0 < 256) (hn : n ≤ 4611686018427387904) (w : World) (r : Rng w b o (bys xs)) : Cl Try.prog 18 #[.slice A n c, vI 40] w fun v w' => ∃ (mq : Nat) (Lq : List Nat) (b' : Nat) (c' : Nat) (A' : Option Addr), v = .slice A' mq c' ∧ (Lq.length = mq) ∧ (mq ≤ 40) ∧ (W32 Lq) ∧ (0 < mq → A' = some ⟨b', 0, none⟩) ∧ Row w' b' 0 (fl Lq) ∧ w.heap.size ≤ b' ∧ Mod [] w w' := by
 refine Cl.of Try.func18 Try.ntmps18 rfl rfl (ρ := [(0, .slice A n c), (1, vI 40)]) rfl ?_
 refine CE.seq (CE.region ?_)
 refine WL.det (op_assign rfl) rfl rfl rfl ?_
 refine WL.end (NE.code (CE.seq (CE.region ?_)))
 refine WL.det (op_move rfl) rfl rfl rfl ?_
 refine WL.call (oc_call (vs := [.slice A n c]) (cap := []) rfl rfl rfl Try.call50 (c_l00From n c A b o hA w)) rfl rfl (ltb rfl) ?_
 rintro _ w1 ⟨p'1, rfl, r1, ge1, m1⟩
 refine WL.det (op_assign rfl) rfl rfl rfl ?_
 refine WL.end (NE.code (CE.seq (CE.region ?_)))
 refine WL.op (op_emptySl rfl Try.runUnderlying38 Try.sizeOf24) rfl rfl (ltb rfl) ?_
 rintro _ w2 ⟨rfl, r2, m2, z1⟩
 refine WL.det (op_assign rfl) rfl rfl rfl ?_
 refine WL.end (NE.code (CE.seq (CE.seq (CE.region ?_))))
 iterate 2 refine WL.det (op_move rfl) rfl rfl rfl ?_
 refine WL.det (op_add (r := 41) rfl rfl (by decide)) rfl rfl rfl ?_
 refine WL.call (oc_call (vs := [vP p'1 0, vI 41]) (cap := []) rfl rfl rfl Try.call58 (c_pick n c A b o xs 0 0 p'1 41 ln hA hB (by omega) (by omega) (by omega) (by omega) (by omega) w2 (r1.ext m2) ((r.ext m1).ext m2))) rfl rfl (ltb rfl) ?_
 rintro _ w3 ⟨u1, s1, rfl, h1, h2, r3, m3⟩
 refine WL.det (op_assign rfl) rfl rfl rfl ?_
 refine WL.end (NE.code (CE.block ?_))
 refine CE.loop (fun (z : Nat × Nat × Nat × Nat × Option Addr × Nat × List Nat) => [(7, vI ((z.1 : Nat) : Int)), (6, .slice z.2.2.2.2.1 z.2.1 z.2.2.2.2.2.1), (4, .slice none 0 0), (5, vP p'1 0)]) (fun (z : Nat × Nat × Nat × Nat × Option Addr × Nat × List Nat) => fun W => (z.1 + z.2.1 ≤ 40) ∧ (z.2.2.1 ≤ 100 + 100 * z.2.1) ∧ (z.2.2.2.1 < 18446744073709551616) ∧ (z.2.2.2.2.2.2.length = z.2.1) ∧ (W32 z.2.2.2.2.2.2) ∧ Row W p'1 0 [.slice A n c, vI ((z.2.2.1 : Nat) : Int), .int .u64 ((z.2.2.2.1 : Nat) : Int)] ∧ Own 24 1 w3.heap.size W z.2.2.2.2.1 z.2.1 z.2.2.2.2.2.1 (fl z.2.2.2.2.2.2) ∧ Mod [p'1] w3 W) (fun (z : Nat × Nat × Nat × Nat × Option Addr × Nat × List Nat) => z.1) (u1, 0, (0 + 1), s1, (some ⟨w1.heap.size, 0, none⟩), 0, []) (⟨rfl, rfl, rfl, rfl, trivial⟩) ⟨(by dsimp only; omega), (by dsimp only; omega), (by omega), (by rfl), (by exact W32.nil), (Row.congr r3 rfl), (Own.congr Own.emp (rfl)), Mod.refl _ _⟩ ?_
 rintro ⟨k, i, at_, s, A2, cc, ys⟩ w4 ⟨hk, ha, hs, hly, hwy, r4, ow1, m4⟩
 replace hk : k + i ≤ 40 := hk
 replace ha : at_ ≤ 100 + 100 * i := ha
 replace hs : s < 18446744073709551616 := hs
 replace hly : ys.length = i := hly
 replace hwy : W32 ys := hwy
 replace r4 : Row w4 p'1 0 [.slice A n c, vI ((at_ : Nat) : Int), .int .u64 ((s : Nat) : Int)] := r4
 replace ow1 : Own 24 1 w3.heap.size w4 A2 i cc (fl ys) := ow1
 show CE _ _ _ _ [(7, vI ((k : Nat) : Int)), (6, .slice A2 i cc), (4, .slice none 0 0), (5, vP p'1 0)] _
 refine CE.seq (CE.seq (CE.region ?_))
 refine WL.det (op_move rfl) rfl rfl rfl ?_
 refine WL.det (op_gti rfl rfl) rfl rfl rfl ?_
 refine WL.end (NE.code ?_)
 rcases Bool.eq_false_or_eq_true (decide ((0 : Int) < ((k : Nat) : Int))) with hb1 | hb1
 ·have hp1 := of_decide_eq_true hb1
  refine CE.cond_t rfl hb1 ?_
  refine CE.skip' (NE.code (CE.seq (CE.block (CE.region ?_))))
  iterate 2 refine WL.det (op_move rfl) rfl rfl rfl ?_
  refine WL.call (oc_call (vs := [vP p'1 0]) (cap := []) rfl rfl rfl Try.call57 (c_l01AnyS n c A b o xs at_ s p'1 ln hA hB (by omega) (by omega) (by omega) (by first | assumption | (intro h0; have hlt := Rng.lt r (by rw [bys_len, ln]; exact h0); omega)) w4 r4 (Rng.youngS r (Rng.youngS r ((r.ext m1).ext m2) m3 (allge_cons ge1 allge_nil)) m4 (allge_cons ge1 allge_nil)))) rfl rfl (ltb rfl) ?_
  rintro _ w5 ⟨r_1, a1, s2, rfl, h3, h4, h5, r5, m5⟩
  refine WL.op (op_buildSl (qs := [(0, vF r_1)]) (cells := #[vF r_1]) rfl Try.runUnderlying38 Try.sizeOf24 Try.zeroValue24 (by decide) (by decide) (by kernel_rfl)) rfl rfl (ltb rfl) ?_
  rintro _ w6 ⟨rfl, r6, m6, z2⟩
  refine WL.op (op_app (i := Try.t24) (m := 1) (bt := 4) (news := [vF r_1]) rfl rfl Try.underlying38 rfl rfl rfl rfl rfl (by decide) r6.rng rfl rfl ((ow1.mod m5 (altC (lL r1.lt (lT m2.size m3.size)) altN)).ext m6) (lT (lT m4.size m5.size) m6.size) (by omega) (by decide)) rfl rfl (ltb rfl) ?_
  rintro _ w7 ⟨A1, c1, b1, rfl, ow2, ge2, m7⟩
  refine WL.det (op_assign rfl) rfl rfl rfl ?_
  refine WL.end (NE.blk (NE.code (CE.region ?_)))
  refine WL.det (op_move rfl) rfl rfl rfl ?_
  refine WL.det (op_sub (r := ((k - 1 : Nat) : Int)) rfl rfl (w_nsub (l := k) (n := 1) (by omega) (by omega))) rfl rfl rfl ?_
  refine WL.det (op_assign rfl) rfl rfl rfl ?_
  refine WL.end ?_
  exact NE.again ((k - 1), (i + 1), a1, s2, A1, c1, (ys ++ [r_1])) (⟨rfl, rfl, rfl, rfl, trivial⟩) ⟨(by dsimp only; omega), (by dsimp only; omega), (by omega), (by simp [hly]), (by exact W32.snoc hwy (by assumption)), (Row.congr ((r5.ext m6).mod m7 (nC (lE (lL (lL r1.lt (lT m2.size m3.size)) ge2)) nN)) rfl), (Own.congr ow2 (fl_snoc _ _)), (((m4.then m5 ((aC (.inl (by simp)) aN))).nt m6).then m7 ((aC (.inr ge2) aN)))⟩ (by first | (dsimp only; omega) | omega)
 ·have hp1 := of_decide_eq_false hb1
  refine CE.cond_f rfl hb1 ?_
  refine CE.exit' (XE.exit_then (XE.exit_then (XE.exit_here (NE.code (CE.seq (CE.region ?_))))))
  refine WL.det (op_move rfl) rfl rfl rfl ?_
  refine WL.det (op_assign rfl) rfl rfl rfl ?_
  refine WL.end (NE.code (CE.ret' ?_))
  obtain ⟨b2, hA1, r7, hq1⟩ := Own.out ow1 r4
  refine XE.leave1 Try.results18 rfl ?_
  refine ⟨i, ys, b2, cc, A2, rfl, ?_, ?_, ?_, hA1, r7, (own_ge hq1 ge1 (lT (lT m1.size m2.size) m3.size)), (((((Mod.refl [] w).nt m1).nt m2).then m3 ((aC (.inr ge1) aN))).then m4 ((aC (.inr ge1) aN)))⟩
  all_goals first | assumption | rfl | omega

theorem c_backR (n : Nat) (c : Nat) (b : Nat) (xs : List Nat) (i : Nat) (k : Nat) (ln : xs.length = n) (hi : i < n) (hn : n ≤ 1024) (h1 : 1 ≤ k) (h2 : k ≤ n) (w : World) (r : Rng w b 0 (fl xs)) : Cl Try.prog 63 #[.agg #[vS b 0 n c, vI ((i : Nat) : Int)], vI ((k : Nat) : Int)] w fun v w' => v = vF (xs.getD ((i + n - k) % n) 0) ∧ Mod [] w w' := by
 refine Cl.of Try.func63 Try.ntmps63 rfl rfl (ρ := [(0, .agg #[vS b 0 n c, vI ((i : Nat) : Int)]), (1, vI ((k : Nat) : Int))]) rfl ?_
 refine CE.seq (CE.region ?_)
 refine WL.op (op_box (cs := [vS b 0 n c, vI ((i : Nat) : Int)]) rfl rfl) rfl rfl (ltb rfl) ?_
 rintro _ w1 ⟨rfl, r1, m1, z1⟩
 refine WL.det (op_assign rfl) rfl rfl rfl ?_
 refine WL.end (NE.code (CE.seq (CE.region ?_)))
 refine WL.det (op_fieldAddr (off' := 0) rfl Try.runUnderlying40 rfl rfl Try.sizeOf38 rfl) rfl rfl rfl ?_
 refine WL.det (op_load1 (i := 0) rfl Try.isAgg38 r1.rng rfl rfl) rfl rfl rfl ?_
 refine WL.call (oc_call (vs := [vS b 0 n c]) (cap := []) rfl rfl rfl Try.call59 (c_length32 n c (some ⟨b, 0, none⟩) w1)) rfl rfl (ltb rfl) ?_
 rintro _ _ ⟨rfl, rfl⟩
 refine WL.det (op_assign rfl) rfl rfl rfl ?_
 refine WL.end (NE.code (CE.seq ?_))
 refine CE.draw (fun _ => none) [0, 1, 2, 3, 4, 5, 6, 7, 8, 9] [10, 11, 12] [] (by kernel_rfl) (by kernel_rfl) ?_
 have md1 : Mod [] w1 w1.drew := (Mod.refl _ _).drew
 generalize w1.drew = w2 at md1 ⊢
 refine DR.det (i := 0) rfl rfl (by kernel_rfl) (.free rfl) rfl rfl (fun wD mD => op_fieldAddr (off' := 0) rfl Try.runUnderlying40 rfl rfl Try.sizeOf38 rfl) ?_
 refine DR.det (i := 1) rfl rfl (by kernel_rfl) (.free rfl) rfl rfl (fun wD mD => op_load1 (i := 0) rfl Try.isAgg38 ((r1.ext md1).ext mD).rng rfl rfl) ?_
 refine DR.det (i := 2) rfl rfl (by kernel_rfl) (.free rfl) rfl rfl (fun wD mD => op_fieldAddr (off' := 1) rfl Try.runUnderlying40 rfl rfl Try.sizeOf2 rfl) ?_
 refine DR.det (i := 3) rfl rfl (by kernel_rfl) (.free rfl) rfl rfl (fun wD mD => op_load1 (i := 1) rfl Try.isAgg2 ((r1.ext md1).ext mD).rng rfl rfl) ?_
 refine DR.det (i := 4) rfl rfl (by kernel_rfl) (.free rfl) rfl rfl (fun wD mD => op_move rfl) ?_
 refine DR.det (i := 5) rfl rfl (by kernel_rfl) (.free rfl) rfl rfl (fun wD mD => op_sub (r := (((i : Nat) : Int) - ((k : Nat) : Int))) rfl rfl (w_i64 (by omega) (by omega))) ?_
 refine DR.det (i := 6) rfl rfl (by kernel_rfl) (.free rfl) rfl rfl (fun wD mD => op_move rfl) ?_
 refine DR.det (i := 7) rfl rfl (by kernel_rfl) (.free rfl) rfl rfl (fun wD mD => op_add (r := ((((i : Nat) : Int) - ((k : Nat) : Int)) + ((n : Nat) : Int))) rfl rfl (w_i64 (by omega) (by omega))) ?_
 refine DR.det (i := 8) rfl rfl (by kernel_rfl) (.free rfl) rfl rfl (fun wD mD => op_move rfl) ?_
 have hm1 : (i + n - k) % n < n := Nat.mod_lt _ (by omega)
 refine DR.det (i := 9) rfl rfl (by kernel_rfl) (.free rfl) rfl rfl (fun wD mD => op_rem (r := (((i + n - k) % n : Nat) : Int)) rfl rfl (by omega) (rem_nat (by omega))) ?_
 refine DR.done rfl ?_
 intro w3 m2
 refine WO.det (op_indexSl (off' := 0 + ((i + n - k) % n)) rfl rfl rfl Try.runUnderlying38 Try.sizeOf24 (by omega) (by omega) (by omega)) rfl (.free rfl) rfl rfl ?_
 refine WO.det (op_load1 (i := ((i + n - k) % n)) rfl Try.isAgg24 (((r.ext m1).ext md1).ext m2) rfl (fl_get (by have eL : List.length xs = n := ln; omega))) rfl (.free rfl) rfl rfl ?_
 refine WO.det (op_assign rfl) rfl (.free rfl) rfl rfl ?_
 refine WO.end (NE.code (CE.ret' ?_))
 refine XE.leave1 Try.results63 rfl ?_
 refine ⟨?_, ((((Mod.refl [] w).nt m1).nt md1).nt m2)⟩
 all_goals simp_all

theorem c_ReadBack (n : Nat) (c : Nat) (b : Nat) (xs : List Nat) (i : Nat) (k : Nat) (ln : xs.length = n) (hi : i < n) (hn : n ≤ 1024) (h1 : 1 ≤ k) (h2 : k ≤ n) (w : World) (r : Rng w b 0 (fl xs)) : Cl Try.prog 22 #[.agg #[vS b 0 n c, vI ((i : Nat) : Int)], vI ((k : Nat) : Int)] w fun v w' => v = .tuple #[vF (xs.getD ((i + n - k) % n) 0), vI 0] ∧ Mod [] w w' := by
 refine Cl.of Try.func22 Try.ntmps22 rfl rfl (ρ := [(0, .agg #[vS b 0 n c, vI ((i : Nat) : Int)]), (1, vI ((k : Nat) : Int))]) rfl ?_
 refine CE.seq (CE.region ?_)
 refine WL.op (op_box (cs := [vS b 0 n c, vI ((i : Nat) : Int)]) rfl rfl) rfl rfl (ltb rfl) ?_
 rintro _ w1 ⟨rfl, r1, m1, z1⟩
 iterate 2 refine WL.det (op_assign rfl) rfl rfl rfl ?_
 refine WL.end (NE.code (CE.seq (CE.block (CE.seq (CE.region ?_)))))
 refine WL.det (op_loadA (i := 0) (cs := [vS b 0 n c, vI ((i : Nat) : Int)]) rfl Try.isAgg40 Try.sizeOf40 r1.rng rfl rfl rfl) rfl rfl rfl ?_
 refine WL.call (oc_call (vs := [.agg #[vS b 0 n c, vI ((i : Nat) : Int)]]) (cap := []) rfl rfl rfl Try.call19 (c_ValidRing n c (some ⟨b, 0, none⟩) ((i : Nat) : Int) (by omega) w1)) rfl rfl (ltb rfl) ?_
 rintro _ w2 ⟨rfl, m2⟩
 refine WL.det (op_not rfl) rfl rfl rfl ?_
 refine WL.det (op_assign rfl) rfl rfl rfl ?_
 refine WL.end (NE.code ?_)
 refine CE.cond_f rfl (bnot_t (vRing_i hi hn)) ?_
 refine CE.seq (CE.region ?_)
 refine WL.det (op_move rfl) rfl rfl rfl ?_
 refine WL.det (op_fieldAddr (off' := 0) rfl Try.runUnderlying40 rfl rfl Try.sizeOf38 rfl) rfl rfl rfl ?_
 refine WL.det (op_load1 (i := 0) rfl Try.isAgg38 (r1.ext m2).rng rfl rfl) rfl rfl rfl ?_
 refine WL.call (oc_call (vs := [vS b 0 n c]) (cap := []) rfl rfl rfl Try.call59 (c_length32 n c (some ⟨b, 0, none⟩) w2)) rfl rfl (ltb rfl) ?_
 rintro _ _ ⟨rfl, rfl⟩
 refine WL.call (oc_call (vs := [vI ((k : Nat) : Int), vI 1, vI ((n : Nat) : Int)]) (cap := []) rfl rfl rfl Try.call51 (c_within ((k : Nat) : Int) (1 : Int) ((n : Nat) : Int) w2)) rfl rfl (ltb rfl) ?_
 rintro _ _ ⟨rfl, rfl⟩
 refine WL.det (op_not rfl) rfl rfl rfl ?_
 refine WL.det (op_assign rfl) rfl rfl rfl ?_
 refine WL.end (NE.code ?_)
 refine CE.cond_f rfl (bnot_t ((vIn_t _ _ _).2 ⟨by omega, by omega⟩)) ?_
 refine CE.skip' (NE.blk (NE.code (CE.seq (CE.region ?_))))
 refine WL.det (op_loadA (i := 0) (cs := [vS b 0 n c, vI ((i : Nat) : Int)]) rfl Try.isAgg40 Try.sizeOf40 (r1.ext m2).rng rfl rfl rfl) rfl rfl rfl ?_
 refine WL.det (op_move rfl) rfl rfl rfl ?_
 refine WL.call (oc_call (vs := [.agg #[vS b 0 n c, vI ((i : Nat) : Int)], vI ((k : Nat) : Int)]) (cap := []) rfl rfl rfl Try.call63 (c_backR n c b xs i k ln (by first | assumption | omega) (by omega) (by omega) (by omega) w2 ((r.ext m1).ext m2))) rfl rfl (ltb rfl) ?_
 rintro _ w3 ⟨rfl, m3⟩
 iterate 2 refine WL.det (op_assign rfl) rfl rfl rfl ?_
 refine WL.end (NE.code (CE.ret' ?_))
 refine XE.leaveT Try.results22 (res_tmp rfl (res_tmp rfl res_nil)) ?_
 refine ⟨rfl, ((((Mod.refl [] w).nt m1).nt m2).nt m3)⟩

theorem c_ReadBack_out (n : Nat) (c : Nat) (b : Nat) (xs : List Nat) (i : Nat) (k : Nat) (ln : xs.length = n) (hi : i < n) (hn : n ≤ 1024) (h2 : n < k) (w : World) (r : Rng w b 0 (fl xs)) : Cl Try.prog 22 #[.agg #[vS b 0 n c, vI ((i : Nat) : Int)], vI ((k : Nat) : Int)] w fun v w' => v = .tuple #[vF 0, vI 2] ∧ Mod [] w w' := by
 refine Cl.of Try.func22 Try.ntmps22 rfl rfl (ρ := [(0, .agg #[vS b 0 n c, vI ((i : Nat) : Int)]), (1, vI ((k : Nat) : Int))]) rfl ?_
 refine CE.seq (CE.region ?_)
 refine WL.op (op_box (cs := [vS b 0 n c, vI ((i : Nat) : Int)]) rfl rfl) rfl rfl (ltb rfl) ?_
 rintro _ w1 ⟨rfl, r1, m1, z1⟩
 iterate 2 refine WL.det (op_assign rfl) rfl rfl rfl ?_
 refine WL.end (NE.code (CE.seq (CE.block (CE.seq (CE.region ?_)))))
 refine WL.det (op_loadA (i := 0) (cs := [vS b 0 n c, vI ((i : Nat) : Int)]) rfl Try.isAgg40 Try.sizeOf40 r1.rng rfl rfl rfl) rfl rfl rfl ?_
 refine WL.call (oc_call (vs := [.agg #[vS b 0 n c, vI ((i : Nat) : Int)]]) (cap := []) rfl rfl rfl Try.call19 (c_ValidRing n c (some ⟨b, 0, none⟩) ((i : Nat) : Int) (by omega) w1)) rfl rfl (ltb rfl) ?_
 rintro _ w2 ⟨rfl, m2⟩
 refine WL.det (op_not rfl) rfl rfl rfl ?_
 refine WL.det (op_assign rfl) rfl rfl rfl ?_
 refine WL.end (NE.code ?_)
 refine CE.cond_f rfl (bnot_t (vRing_i hi hn)) ?_
 refine CE.seq (CE.region ?_)
 refine WL.det (op_move rfl) rfl rfl rfl ?_
 refine WL.det (op_fieldAddr (off' := 0) rfl Try.runUnderlying40 rfl rfl Try.sizeOf38 rfl) rfl rfl rfl ?_
 refine WL.det (op_load1 (i := 0) rfl Try.isAgg38 (r1.ext m2).rng rfl rfl) rfl rfl rfl ?_
 refine WL.call (oc_call (vs := [vS b 0 n c]) (cap := []) rfl rfl rfl Try.call59 (c_length32 n c (some ⟨b, 0, none⟩) w2)) rfl rfl (ltb rfl) ?_
 rintro _ _ ⟨rfl, rfl⟩
 refine WL.call (oc_call (vs := [vI ((k : Nat) : Int), vI 1, vI ((n : Nat) : Int)]) (cap := []) rfl rfl rfl Try.call51 (c_within ((k : Nat) : Int) (1 : Int) ((n : Nat) : Int) w2)) rfl rfl (ltb rfl) ?_
 rintro _ _ ⟨rfl, rfl⟩
 refine WL.det (op_not rfl) rfl rfl rfl ?_
 refine WL.det (op_assign rfl) rfl rfl rfl ?_
 refine WL.end (NE.code ?_)
 refine CE.cond_t rfl (bnot_f (by rw [Bool.eq_false_iff]; intro h; rw [vIn_t] at h; omega)) ?_
 refine CE.seq (CE.region ?_)
 iterate 2 refine WL.det (op_assign rfl) rfl rfl rfl ?_
 refine WL.end (NE.code (CE.ret' (XE.ret_blk (XE.ret_then ?_))))
 refine XE.leaveT Try.results22 (res_tmp rfl (res_tmp rfl res_nil)) ?_
 refine ⟨rfl, (((Mod.refl [] w).nt m1).nt m2)⟩

theorem c_mathFloorR (a : Nat) (x : Nat) (ha : cn .f64 a = cn .f64 x) (hs : SpotW x) (w : World) : Cl Try.prog 96 #[.float .f64 a] w fun v w' => v = .float .f64 (floorX x) ∧ w = w' := by
 refine Cl.of Try.func96 Try.ntmps96 rfl rfl (ρ := [(0, .float .f64 a)]) rfl ?_
 refine CE.seq (CE.region ?_)
 refine WL.det (op_assign rfl) rfl rfl rfl ?_
 refine WL.end (NE.code (CE.seq ?_))
 refine CE.cond_t rfl rfl ?_
 refine CE.seq (CE.region ?_)
 refine WL.det (op_move rfl) rfl rfl rfl ?_
 refine WL.det (op_extern (vs := [.float .f64 a]) Try.func123 rfl rfl x123n x123e rfl (fun _ => SpotW.run ha hs)) rfl rfl rfl ?_
 refine WL.det (op_assign rfl) rfl rfl rfl ?_
 refine WL.end (NE.code (CE.ret' (XE.ret_then ?_)))
 refine XE.leave1 Try.results96 rfl ?_
 refine ⟨rfl, rfl⟩

theorem c_between (n : Nat) (c : Nat) (b : Nat) (xs : List Nat) (i : Nat) (k : Nat) (d : Nat) (ln : xs.length = n) (hi : i < n) (hn : n ≤ 1024) (hb : BetOk n k d) (h1 : 1 ≤ k) (h2 : k ≤ n) (hk : k ≤ 1024) (w : World) (r : Rng w b 0 (fl xs)) : Cl Try.prog 64 #[.agg #[vS b 0 n c, vI ((i : Nat) : Int)], vF d] w fun v w' => v = vF (xs.getD ((i + n - k) % n) 0) ∧ Mod [] w w' := by
 have hp9 : posF d = k := hb.p
 refine Cl.of Try.func64 Try.ntmps64 rfl rfl (ρ := [(0, .agg #[vS b 0 n c, vI ((i : Nat) : Int)]), (1, vF d)]) rfl ?_
 refine CE.seq (CE.region ?_)
 refine WL.op (op_box (cs := [vS b 0 n c, vI ((i : Nat) : Int)]) rfl rfl) rfl rfl (ltb rfl) ?_
 rintro _ w1 ⟨rfl, r1, m1, z1⟩
 refine WL.det (op_assign rfl) rfl rfl rfl ?_
 refine WL.end (NE.code (CE.seq (CE.region ?_)))
 refine WL.det (op_move rfl) rfl rfl rfl ?_
 refine WL.op (op_widen (e := (wide d)) rfl rfl Try.runUnderlying24 Try.runUnderlying109 rfl) rfl rfl (ltb rfl) ?_
 rintro _ w2 ⟨⟨f1, rfl, hf1, lf1⟩, m2⟩
 refine WL.call (oc_call (vs := [.float .f64 f1]) (cap := []) rfl rfl rfl Try.call96 (c_mathFloorR f1 (wide d) hf1 (by exact ⟨_, rfl, hb.s⟩) w2)) rfl rfl (ltb rfl) ?_
 rintro _ _ ⟨rfl, rfl⟩
 refine WL.det (op_ftoi rfl Try.runUnderlying109 Try.runUnderlying2 (floorX_wide rfl hb.s) (SpotE.bd hb.s)) rfl rfl rfl ?_
 refine WL.det (op_assign rfl) rfl rfl rfl ?_
 refine WL.end (NE.code (CE.seq (CE.region ?_)))
 iterate 2 refine WL.det (op_move rfl) rfl rfl rfl ?_
 refine WL.det (op_cvt_if rfl Try.runUnderlying2 Try.runUnderlying24) rfl rfl rfl ?_
 refine WL.op (op_farith (e := (fop .sub .f32 d (FloatKind.f32.nearest ((posF d : Nat) : Int)))) (.inr (.inl rfl)) rfl rfl rfl rfl rfl) rfl rfl (ltb rfl) ?_
 rintro _ w3 ⟨⟨f2, rfl, hf2, lf2⟩, m3⟩
 refine WL.det (op_assign rfl) rfl rfl rfl ?_
 refine WL.end (NE.code (CE.seq (CE.region ?_)))
 refine WL.det (op_loadA (i := 0) (cs := [vS b 0 n c, vI ((i : Nat) : Int)]) rfl Try.isAgg40 Try.sizeOf40 ((r1.ext m2).ext m3).rng rfl rfl rfl) rfl rfl rfl ?_
 refine WL.det (op_move rfl) rfl rfl rfl ?_
 refine WL.call (oc_call (vs := [.agg #[vS b 0 n c, vI ((i : Nat) : Int)], vI ((posF d : Nat) : Int)]) (cap := []) rfl rfl rfl Try.call63 (c_backR n c b xs i (posF d) ln (by first | assumption | omega) (by omega) (by omega) (by omega) w3 (((r.ext m1).ext m2).ext m3))) rfl rfl (ltb rfl) ?_
 rintro _ w4 ⟨rfl, m4⟩
 refine WL.det (op_assign rfl) rfl rfl rfl ?_
 refine WL.end (NE.code (CE.seq (CE.seq (CE.region ?_))))
 refine WL.det (op_move rfl) rfl rfl rfl ?_
 refine WL.det (op_feq (c := fEq .f32 (fop .sub .f32 d (FloatKind.f32.nearest ((posF d : Nat) : Int))) 0) rfl rfl hf2 rfl rfl) rfl rfl rfl ?_
 refine WL.end (NE.code ?_)
 refine CE.cond_t rfl (by rw [hp9]; exact hb.z) ?_
 refine CE.seq (CE.region ?_)
 refine WL.det (op_move rfl) rfl rfl rfl ?_
 refine WL.det (op_assign rfl) rfl rfl rfl ?_
 refine WL.end (NE.code (CE.ret' (XE.ret_then ?_)))
 refine XE.leave1 Try.results64 rfl ?_
 refine ⟨?_, (((((Mod.refl [] w).nt m1).nt m2).nt m3).nt m4)⟩
 all_goals (rw [hp9])

theorem c_ReadBetween (n : Nat) (c : Nat) (b : Nat) (xs : List Nat) (i : Nat) (k : Nat) (d : Nat) (ln : xs.length = n) (hi : i < n) (hn : n ≤ 1024) (hb : BetOk n k d) (h1 : 1 ≤ k) (h2 : k ≤ n) (hk : k ≤ 1024) (w : World) (r : Rng w b 0 (fl xs)) : Cl Try.prog 23 #[.agg #[vS b 0 n c, vI ((i : Nat) : Int)], vF d] w fun v w' => v = .tuple #[vF (xs.getD ((i + n - k) % n) 0), vI 0] ∧ Mod [] w w' := by
 refine Cl.of Try.func23 Try.ntmps23 rfl rfl (ρ := [(0, .agg #[vS b 0 n c, vI ((i : Nat) : Int)]), (1, vF d)]) rfl ?_
 refine CE.seq (CE.region ?_)
 refine WL.op (op_box (cs := [vS b 0 n c, vI ((i : Nat) : Int)]) rfl rfl) rfl rfl (ltb rfl) ?_
 rintro _ w1 ⟨rfl, r1, m1, z1⟩
 iterate 2 refine WL.det (op_assign rfl) rfl rfl rfl ?_
 refine WL.end (NE.code (CE.seq (CE.block (CE.seq (CE.region ?_)))))
 refine WL.det (op_loadA (i := 0) (cs := [vS b 0 n c, vI ((i : Nat) : Int)]) rfl Try.isAgg40 Try.sizeOf40 r1.rng rfl rfl rfl) rfl rfl rfl ?_
 refine WL.call (oc_call (vs := [.agg #[vS b 0 n c, vI ((i : Nat) : Int)]]) (cap := []) rfl rfl rfl Try.call19 (c_ValidRing n c (some ⟨b, 0, none⟩) ((i : Nat) : Int) (by omega) w1)) rfl rfl (ltb rfl) ?_
 rintro _ w2 ⟨rfl, m2⟩
 refine WL.det (op_not rfl) rfl rfl rfl ?_
 refine WL.det (op_assign rfl) rfl rfl rfl ?_
 refine WL.end (NE.code ?_)
 refine CE.cond_f rfl (bnot_t (vRing_i hi hn)) ?_
 refine CE.seq (CE.region ?_)
 refine WL.det (op_move rfl) rfl rfl rfl ?_
 refine WL.det (op_fge (c := fGe .f32 d 1065353216) rfl rfl rfl rfl rfl) rfl rfl rfl ?_
 refine WL.det (op_move rfl) rfl rfl rfl ?_
 refine WL.yes rfl rfl rfl (ltb rfl) rfl hb.g ?_
 refine WL.det (op_move rfl) rfl rfl rfl ?_
 refine WL.yes rfl rfl rfl (ltb rfl) rfl hb.g ?_
 refine WL.det (op_fieldAddr (off' := 0) rfl Try.runUnderlying40 rfl rfl Try.sizeOf38 rfl) rfl rfl rfl ?_
 refine WL.yes rfl rfl rfl (ltb rfl) rfl hb.g ?_
 refine WL.det (op_load1 (i := 0) rfl Try.isAgg38 (r1.ext m2).rng rfl rfl) rfl rfl rfl ?_
 refine WL.yes rfl rfl rfl (ltb rfl) rfl hb.g ?_
 refine WL.det (op_len rfl Try.runUnderlying38) rfl rfl rfl ?_
 refine WL.yes rfl rfl rfl (ltb rfl) rfl hb.g ?_
 refine WL.det (op_cvt_if rfl Try.runUnderlying3 Try.runUnderlying24) rfl rfl rfl ?_
 refine WL.yes rfl rfl rfl (ltb rfl) rfl hb.g ?_
 refine WL.det (op_fle (c := fLe .f32 d (FloatKind.f32.nearest ((n : Nat) : Int))) rfl rfl rfl rfl rfl) rfl rfl rfl ?_
 refine WL.det (op_pick_t rfl hb.g rfl) rfl rfl rfl ?_
 refine WL.det (op_not rfl) rfl rfl rfl ?_
 refine WL.det (op_assign rfl) rfl rfl rfl ?_
 refine WL.end (NE.code ?_)
 refine CE.cond_f rfl (bnot_t hb.l) ?_
 refine CE.skip' (NE.blk (NE.code (CE.seq (CE.region ?_))))
 refine WL.det (op_loadA (i := 0) (cs := [vS b 0 n c, vI ((i : Nat) : Int)]) rfl Try.isAgg40 Try.sizeOf40 (r1.ext m2).rng rfl rfl rfl) rfl rfl rfl ?_
 refine WL.det (op_move rfl) rfl rfl rfl ?_
 refine WL.call (oc_call (vs := [.agg #[vS b 0 n c, vI ((i : Nat) : Int)], vF d]) (cap := []) rfl rfl rfl Try.call64 (c_between n c b xs i k d ln (by first | assumption | omega) (by omega) (by first | assumption | exact BetOk.of (by omega) (by omega) (by omega)) (by omega) (by omega) (by omega) w2 ((r.ext m1).ext m2))) rfl rfl (ltb rfl) ?_
 rintro _ w3 ⟨rfl, m3⟩
 iterate 2 refine WL.det (op_assign rfl) rfl rfl rfl ?_
 refine WL.end (NE.code (CE.ret' ?_))
 refine XE.leaveT Try.results23 (res_tmp rfl (res_tmp rfl res_nil)) ?_
 refine ⟨rfl, ((((Mod.refl [] w).nt m1).nt m2).nt m3)⟩

theorem c_GrowNil (m : Nat) (h0 : 0 < m) (hm : m ≤ 1048576) (w : World) : Cl Try.prog 97 #[.slice none 0 0, vI ((m : Nat) : Int)] w fun v w' => ∃ (b' : Nat) (c' : Nat), v = vS b' 0 0 c' ∧ (Room 24 w.heap.size w' b' c') ∧ w.heap.size ≤ b' ∧ Mod [] w w' := by
 refine Cl.of Try.func97 Try.ntmps97 rfl rfl (ρ := [(0, .slice none 0 0), (1, vI ((m : Nat) : Int))]) rfl ?_
 refine CE.seq (CE.region ?_)
 refine WL.det (op_assign rfl) rfl rfl rfl ?_
 refine WL.end (NE.code (CE.seq (CE.seq (CE.region ?_))))
 refine WL.det (op_move rfl) rfl rfl rfl ?_
 refine WL.det (op_lti_f rfl rfl (by omega)) rfl rfl rfl ?_
 refine WL.end (NE.code ?_)
 refine CE.cond_f rfl rfl ?_
 refine CE.skip' (NE.code (CE.seq (CE.seq (CE.region ?_))))
 iterate 2 refine WL.det (op_move rfl) rfl rfl rfl ?_
 refine WL.det (op_cap rfl Try.runUnderlying38) rfl rfl rfl ?_
 refine WL.det (op_move rfl) rfl rfl rfl ?_
 refine WL.det (op_len rfl Try.runUnderlying38) rfl rfl rfl ?_
 refine WL.det (op_sub (r := 0) rfl rfl (by decide)) rfl rfl rfl ?_
 refine WL.det (op_sub (r := ((m - 0 : Nat) : Int)) rfl rfl (w_nsub (l := m) (n := 0) (by omega) (by omega))) rfl rfl rfl ?_
 refine WL.det (op_assign rfl) rfl rfl rfl ?_
 refine WL.end (NE.code (CE.seq (CE.region ?_)))
 refine WL.det (op_move rfl) rfl rfl rfl ?_
 refine WL.det (op_gti rfl rfl) rfl rfl rfl ?_
 refine WL.end (NE.code ?_)
 refine CE.cond_t rfl (decide_eq_true (by omega)) ?_
 refine CE.region ?_
 iterate 2 refine WL.det (op_move rfl) rfl rfl rfl ?_
 refine WL.det (op_cap rfl Try.runUnderlying38) rfl rfl rfl ?_
 refine WL.det (op_slNil rfl rfl Try.runUnderlying38 Try.sizeOf24) rfl rfl rfl ?_
 refine WL.det (op_move rfl) rfl rfl rfl ?_
 refine WL.op (op_appZ (i := Try.t24) (m := m - 0) rfl rfl rfl Try.underlying38 Try.underlying3 rfl rfl rfl rfl rfl (by omega) (by omega) (by decide)) rfl rfl (ltb rfl) ?_
 rintro _ w1 ⟨b1, c1, rfl, ow1, ge1, m1⟩
 refine WL.det (op_move rfl) rfl rfl rfl ?_
 refine WL.det (op_len rfl Try.runUnderlying38) rfl rfl rfl ?_
 refine WL.det (op_slHi (j := 0) rfl rfl rfl Try.runUnderlying38 Try.sizeOf24 (by omega)) rfl rfl rfl ?_
 refine WL.det (op_assign rfl) rfl rfl rfl ?_
 refine WL.end (NE.code (CE.seq (CE.region ?_)))
 refine WL.det (op_move rfl) rfl rfl rfl ?_
 refine WL.det (op_assign rfl) rfl rfl rfl ?_
 refine WL.end (NE.code (CE.ret' ?_))
 refine XE.leave1 Try.results97 rfl ?_
 refine ⟨b1, c1, rfl, ?_, ge1, ((Mod.refl [] w).nt m1)⟩
 all_goals first | assumption

theorem c_ConcatRing (n : Nat) (c : Nat) (b : Nat) (xs : List Nat) (i : Nat) (cv : Nat) (v : Nat) (ln : xs.length = n) (hi : i < n) (hn : n ≤ 1024) (w : World) (rv : Rng w v 0 [vS b (0 + i) (n - i) (c - i), vS b 0 i c]) (r : Rng w b 0 (fl xs)) : Cl Try.prog 65 #[vS v 0 2 cv] w fun v w' => ∃ (b' : Nat) (c' : Nat) (zs : List Nat), v = vS b' 0 n c' ∧ (zs.length = n) ∧ Row w' b' 0 (fl zs) ∧ w.heap.size ≤ b' ∧ Mod [] w w' := by
 refine Cl.of Try.func65 Try.ntmps65 rfl rfl (ρ := [(0, vS v 0 2 cv)]) rfl ?_
 refine CE.seq (CE.region ?_)
 refine WL.det (op_assign rfl) rfl rfl rfl ?_
 refine WL.end (NE.code (CE.seq (CE.region ?_)))
 refine WL.det (op_assign rfl) rfl rfl rfl ?_
 refine WL.end (NE.code (CE.seq (CE.seq (CE.region ?_))))
 refine WL.det (op_move rfl) rfl rfl rfl ?_
 refine WL.det (op_len rfl Try.runUnderlying132) rfl rfl rfl ?_
 refine WL.det (op_move rfl) rfl rfl rfl ?_
 refine WL.end (NE.code (CE.block ?_))
 refine CE.rounds 3 ?_
 refine RN.one (CE.seq (CE.region ?_))
 refine WL.det (op_lti rfl rfl) rfl rfl rfl ?_
 refine WL.end (NE.code (CE.seq ?_))
 refine CE.cond_t rfl rfl ?_
 refine CE.skip' (NE.code (CE.seq (CE.block (CE.seq (CE.region ?_)))))
 refine WL.det (op_indexSl (off' := 0) rfl rfl rfl Try.runUnderlying132 Try.sizeOf38 (by omega) (by omega) rfl) rfl rfl rfl ?_
 refine WL.det (op_load1 (i := 0) rfl Try.isAgg38 rv rfl rfl) rfl rfl rfl ?_
 refine WL.det (op_assign rfl) rfl rfl rfl ?_
 refine WL.end (NE.code (CE.seq (CE.region ?_)))
 iterate 2 refine WL.det (op_move rfl) rfl rfl rfl ?_
 refine WL.det (op_len rfl Try.runUnderlying38) rfl rfl rfl ?_
 refine WL.det (op_add (r := ((0 + (n - i) : Nat) : Int)) rfl rfl (w_i64 (by omega) (by omega))) rfl rfl rfl ?_
 refine WL.det (op_assign rfl) rfl rfl rfl ?_
 refine WL.end (NE.code (CE.seq (CE.region ?_)))
 refine WL.det (op_move rfl) rfl rfl rfl ?_
 refine WL.det (op_lti_f rfl rfl (by omega)) rfl rfl rfl ?_
 refine WL.end (NE.code ?_)
 refine CE.cond_f rfl rfl ?_
 refine CE.skip' (NE.blk (NE.code (CE.region ?_)))
 refine WL.det (op_add (r := 1) rfl rfl (by decide)) rfl rfl rfl ?_
 refine WL.det (op_move rfl) rfl rfl rfl ?_
 refine WL.end (NE.round (RN.one (CE.seq (CE.region ?_))))
 refine WL.det (op_lti rfl rfl) rfl rfl rfl ?_
 refine WL.end (NE.code (CE.seq ?_))
 refine CE.cond_t rfl rfl ?_
 refine CE.skip' (NE.code (CE.seq (CE.block (CE.seq (CE.region ?_)))))
 refine WL.det (op_indexSl (off' := 1) rfl rfl rfl Try.runUnderlying132 Try.sizeOf38 (by omega) (by omega) rfl) rfl rfl rfl ?_
 refine WL.det (op_load1 (i := 1) rfl Try.isAgg38 rv rfl rfl) rfl rfl rfl ?_
 refine WL.det (op_assign rfl) rfl rfl rfl ?_
 refine WL.end (NE.code (CE.seq (CE.region ?_)))
 iterate 2 refine WL.det (op_move rfl) rfl rfl rfl ?_
 refine WL.det (op_len rfl Try.runUnderlying38) rfl rfl rfl ?_
 refine WL.det (op_add (r := ((0 + (n - i) + i : Nat) : Int)) rfl rfl (w_i64 (by omega) (by omega))) rfl rfl rfl ?_
 refine WL.det (op_assign rfl) rfl rfl rfl ?_
 refine WL.end (NE.code (CE.seq (CE.region ?_)))
 refine WL.det (op_move rfl) rfl rfl rfl ?_
 refine WL.det (op_lti_f rfl rfl (by omega)) rfl rfl rfl ?_
 refine WL.end (NE.code ?_)
 refine CE.cond_f rfl rfl ?_
 refine CE.skip' (NE.blk (NE.code (CE.region ?_)))
 refine WL.det (op_add (r := 2) rfl rfl (by decide)) rfl rfl rfl ?_
 refine WL.det (op_move rfl) rfl rfl rfl ?_
 refine WL.end (NE.round (RN.one (CE.seq (CE.region ?_))))
 refine WL.det (op_lti rfl rfl) rfl rfl rfl ?_
 refine WL.end (NE.code (CE.seq ?_))
 refine CE.cond_f rfl rfl ?_
 refine CE.exit' (XE.exit_then (XE.exit_then (XE.exit_here (NE.code (CE.seq (CE.region ?_))))))
 refine WL.det (op_move rfl) rfl rfl rfl ?_
 refine WL.call (oc_call (vs := [.slice none 0 0, vI ((0 + (n - i) + i : Nat) : Int)]) (cap := []) rfl rfl rfl Try.call97 (c_GrowNil (0 + (n - i) + i) (by omega) (by omega) w)) rfl rfl (ltb rfl) ?_
 rintro _ w1 ⟨b'1, c'1, rfl, h1, ge1, m1⟩
 refine WL.det (op_assign rfl) rfl rfl rfl ?_
 refine WL.end (NE.code (CE.seq (CE.seq (CE.region ?_))))
 refine WL.det (op_move rfl) rfl rfl rfl ?_
 refine WL.det (op_len rfl Try.runUnderlying132) rfl rfl rfl ?_
 refine WL.det (op_move rfl) rfl rfl rfl ?_
 refine WL.end (NE.code (CE.block ?_))
 refine CE.rounds 3 ?_
 refine RN.one (CE.seq (CE.region ?_))
 refine WL.det (op_lti rfl rfl) rfl rfl rfl ?_
 refine WL.end (NE.code (CE.seq ?_))
 refine CE.cond_t rfl rfl ?_
 refine CE.skip' (NE.code (CE.seq (CE.block (CE.seq (CE.region ?_)))))
 refine WL.det (op_indexSl (off' := 0) rfl rfl rfl Try.runUnderlying132 Try.sizeOf38 (by omega) (by omega) rfl) rfl rfl rfl ?_
 refine WL.det (op_load1 (i := 0) rfl Try.isAgg38 (rv.ext m1) rfl rfl) rfl rfl rfl ?_
 refine WL.det (op_assign rfl) rfl rfl rfl ?_
 refine WL.end (NE.code (CE.region ?_))
 iterate 2 refine WL.det (op_move rfl) rfl rfl rfl ?_
 refine WL.op (op_appG (i := Try.t24) (m := 1) (bt := 4) (r := (n - i)) (news := fl ((xs.drop i).take (n - i))) rfl rfl Try.underlying38 rfl rfl rfl rfl rfl (by decide) (rng_part (r.ext m1) i (n - i)) (by rw [Nat.mul_one]; exact fl_len (part_len ln (by omega))) (fl_one _) h1.2 h1.1 (by omega) m1.size (by omega) (by omega) (by omega) (by decide)) rfl rfl (ltb rfl) ?_
 rintro _ w2 ⟨b1, c1, rfl, ow1, h2, ge2, m2⟩
 have ow2 : Own 24 1 w.heap.size w2 (some ⟨b1, 0, none⟩) (n - i) c1 (fl ((xs.drop i).take (n - i))) := Own.congr ow1 rfl
 refine WL.det (op_assign rfl) rfl rfl rfl ?_
 refine WL.end (NE.blk (NE.code (CE.region ?_)))
 refine WL.det (op_add (r := 1) rfl rfl (by decide)) rfl rfl rfl ?_
 refine WL.det (op_move rfl) rfl rfl rfl ?_
 refine WL.end (NE.round (RN.one (CE.seq (CE.region ?_))))
 refine WL.det (op_lti rfl rfl) rfl rfl rfl ?_
 refine WL.end (NE.code (CE.seq ?_))
 refine CE.cond_t rfl rfl ?_
 refine CE.skip' (NE.code (CE.seq (CE.block (CE.seq (CE.region ?_)))))
 refine WL.det (op_indexSl (off' := 1) rfl rfl rfl Try.runUnderlying132 Try.sizeOf38 (by omega) (by omega) rfl) rfl rfl rfl ?_
 refine WL.det (op_load1 (i := 1) rfl Try.isAgg38 (Rng.youngS rv (rv.ext m1) m2 (allge_cons ge1 allge_nil)) rfl rfl) rfl rfl rfl ?_
 refine WL.det (op_assign rfl) rfl rfl rfl ?_
 refine WL.end (NE.code (CE.region ?_))
 iterate 2 refine WL.det (op_move rfl) rfl rfl rfl ?_
 refine WL.op (op_appG (i := Try.t24) (m := 1) (bt := 4) (r := n) (news := fl (xs.take i)) rfl rfl Try.underlying38 rfl rfl rfl rfl rfl (by decide) (rng_head (Rng.youngS r (r.ext m1) m2 (allge_cons ge1 allge_nil)) i) (by rw [Nat.mul_one]; exact fl_len (head_len ln (by omega))) (fl_one _) ow2 h2 (by omega) (lT m1.size m2.size) (by omega) (by omega) (by omega) (by decide)) rfl rfl (ltb rfl) ?_
 rintro _ w3 ⟨b2, c2, rfl, ow3, h3, ge3, m3⟩
 have ow4 : Own 24 1 w.heap.size w3 (some ⟨b2, 0, none⟩) n c2 (fl (((xs.drop i).take (n - i)) ++ (xs.take i))) := Own.congr ow3 (fl_app _ _)
 refine WL.det (op_assign rfl) rfl rfl rfl ?_
 refine WL.end (NE.blk (NE.code (CE.region ?_)))
 refine WL.det (op_add (r := 2) rfl rfl (by decide)) rfl rfl rfl ?_
 refine WL.det (op_move rfl) rfl rfl rfl ?_
 refine WL.end (NE.round (RN.one (CE.seq (CE.region ?_))))
 refine WL.det (op_lti rfl rfl) rfl rfl rfl ?_
 refine WL.end (NE.code (CE.seq ?_))
 refine CE.cond_f rfl rfl ?_
 refine CE.exit' (XE.exit_then (XE.exit_then (XE.exit_here (NE.code (CE.seq (CE.region ?_))))))
 refine WL.det (op_move rfl) rfl rfl rfl ?_
 refine WL.det (op_assign rfl) rfl rfl rfl ?_
 refine WL.end (NE.code (CE.ret' ?_))
 have r1 : Row w3 b2 0 (fl (((xs.drop i).take (n - i)) ++ (xs.take i))) := (Own.row0 ow4 h3).1
 refine XE.leave1 Try.results65 rfl ?_
 refine ⟨b2, c2, (((xs.drop i).take (n - i)) ++ (xs.take i)), rfl, ?_, r1, ge3, ((((Mod.refl [] w).nt m1).then m2 ((aC (.inr ge1) aN))).then m3 ((aC (.inr ge2) aN)))⟩
 all_goals first | assumption | rfl | (rw [List.length_append, head_len ln (by omega), part_len ln (by omega)]; omega)

theorem c_TurnRing (n : Nat) (c : Nat) (b : Nat) (xs : List Nat) (i : Nat) (ln : xs.length = n) (hi : i < n) (hn : n ≤ 1024) (hnc : n ≤ c) (w : World) (r : Rng w b 0 (fl xs)) : Cl Try.prog 24 #[.agg #[vS b 0 n c, vI ((i : Nat) : Int)]] w fun v w' => ∃ (b' : Nat) (c' : Nat) (zs : List Nat), v = .tuple #[.agg #[vS b' 0 n c', vI 0], vI 0] ∧ (zs.length = n) ∧ Row w' b' 0 (fl zs) ∧ w.heap.size ≤ b' ∧ Mod [] w w' := by
 refine Cl.of Try.func24 Try.ntmps24 rfl rfl (ρ := [(0, .agg #[vS b 0 n c, vI ((i : Nat) : Int)])]) rfl ?_
 refine CE.seq (CE.region ?_)
 refine WL.op (op_box (cs := [vS b 0 n c, vI ((i : Nat) : Int)]) rfl rfl) rfl rfl (ltb rfl) ?_
 rintro _ w1 ⟨rfl, r1, m1, z1⟩
 refine WL.op (op_alloc (cs := [.slice none 0 0, vI 0]) Try.zeroValue40 rfl) rfl rfl (ltb rfl) ?_
 rintro _ w2 ⟨rfl, r2, m2, z2⟩
 refine WL.det (op_assign rfl) rfl rfl rfl ?_
 refine WL.end (NE.code (CE.seq (CE.seq (CE.region ?_))))
 refine WL.det (op_loadA (i := 0) (cs := [vS b 0 n c, vI ((i : Nat) : Int)]) rfl Try.isAgg40 Try.sizeOf40 (r1.ext m2).rng rfl rfl rfl) rfl rfl rfl ?_
 refine WL.call (oc_call (vs := [.agg #[vS b 0 n c, vI ((i : Nat) : Int)]]) (cap := []) rfl rfl rfl Try.call19 (c_ValidRing n c (some ⟨b, 0, none⟩) ((i : Nat) : Int) (by omega) w2)) rfl rfl (ltb rfl) ?_
 rintro _ w3 ⟨rfl, m3⟩
 refine WL.det (op_not rfl) rfl rfl rfl ?_
 refine WL.end (NE.code ?_)
 refine CE.cond_f rfl (bnot_t (vRing_i hi hn)) ?_
 refine CE.skip' (NE.code (CE.seq ?_))
 refine CE.draw (fun _ => none) [0, 1, 2, 3, 4, 5, 6, 7, 8, 9] [10, 11, 12, 13, 14] [] (by kernel_rfl) (by kernel_rfl) ?_
 have md1 : Mod [] w3 w3.drew := (Mod.refl _ _).drew
 generalize w3.drew = w4 at md1 ⊢
 refine DR.det (i := 0) rfl rfl (by kernel_rfl) (.free rfl) rfl rfl (fun wD mD => op_fieldAddr (off' := 0) rfl Try.runUnderlying40 rfl rfl Try.sizeOf38 rfl) ?_
 refine DR.det (i := 1) rfl rfl (by kernel_rfl) (.free rfl) rfl rfl (fun wD mD => op_load1 (i := 0) rfl Try.isAgg38 ((((r1.ext m2).ext m3).ext md1).ext mD).rng rfl rfl) ?_
 refine DR.det (i := 2) rfl rfl (by kernel_rfl) (.free rfl) rfl rfl (fun wD mD => op_fieldAddr (off' := 1) rfl Try.runUnderlying40 rfl rfl Try.sizeOf2 rfl) ?_
 refine DR.det (i := 3) rfl rfl (by kernel_rfl) (.free rfl) rfl rfl (fun wD mD => op_load1 (i := 1) rfl Try.isAgg2 ((((r1.ext m2).ext m3).ext md1).ext mD).rng rfl rfl) ?_
 refine DR.det (i := 4) rfl rfl (by kernel_rfl) (.free rfl) rfl rfl (fun wD mD => op_slLo (i := i) rfl rfl rfl Try.runUnderlying38 Try.sizeOf24 (by omega) (by omega)) ?_
 refine DR.det (i := 5) rfl rfl (by kernel_rfl) (.free rfl) rfl rfl (fun wD mD => op_fieldAddr (off' := 0) rfl Try.runUnderlying40 rfl rfl Try.sizeOf38 rfl) ?_
 refine DR.det (i := 6) rfl rfl (by kernel_rfl) (.free rfl) rfl rfl (fun wD mD => op_load1 (i := 0) rfl Try.isAgg38 ((((r1.ext m2).ext m3).ext md1).ext mD).rng rfl rfl) ?_
 refine DR.det (i := 7) rfl rfl (by kernel_rfl) (.free rfl) rfl rfl (fun wD mD => op_fieldAddr (off' := 1) rfl Try.runUnderlying40 rfl rfl Try.sizeOf2 rfl) ?_
 refine DR.det (i := 8) rfl rfl (by kernel_rfl) (.free rfl) rfl rfl (fun wD mD => op_load1 (i := 1) rfl Try.isAgg2 ((((r1.ext m2).ext m3).ext md1).ext mD).rng rfl rfl) ?_
 refine DR.det (i := 9) rfl rfl (by kernel_rfl) (.free rfl) rfl rfl (fun wD mD => op_slHi (j := i) rfl rfl rfl Try.runUnderlying38 Try.sizeOf24 (by omega)) ?_
 refine DR.done rfl ?_
 intro w5 m4
 refine WO.op rfl (.free rfl) rfl (ltb rfl) (op_buildSl (qs := [(0, vS b (0 + i) (n - i) (c - i)), (1, vS b 0 i c)]) (cells := #[vS b (0 + i) (n - i) (c - i), vS b 0 i c]) rfl Try.runUnderlying132 Try.sizeOf38 Try.zeroValue38 (by decide) (by decide) (by kernel_rfl)) ?_
 rintro _ w6 ⟨rfl, r3, m5, z3⟩
 refine WO.call rfl (.free rfl) rfl (ltb rfl) (oc_call (vs := [vS w5.heap.size 0 2 2]) (cap := []) rfl rfl rfl Try.call65 (c_ConcatRing n c b xs i 2 w5.heap.size ln (by first | assumption | omega) (by omega) w6 r3.rng ((((((r.ext m1).ext m2).ext m3).ext md1).ext m4).ext m5))) ?_
 rintro _ w7 ⟨b'1, c'1, zs1, rfl, h1, r4, ge1, m6⟩
 refine WO.det (op_build (qs := [(0, vS b'1 0 n c'1)]) (cells := #[vS b'1 0 n c'1, vI 0]) rfl (by kernel_rfl)) rfl (.free rfl) rfl rfl ?_
 refine WO.op0 rfl (.free rfl) rfl (op_store (i := 0) (cs := [vS b'1 0 n c'1, vI 0]) rfl rfl rfl Try.sizeOf40 rfl (((((r2.ext m3).ext md1).ext m4).ext m5).ext m6) rfl (lB rfl) rfl) ?_
 rintro _ w8 ⟨r5, m7, z4⟩
 have r6 : Row w8 w1.heap.size 0 [vS b'1 0 n c'1, vI 0] := Row.congr r5 rfl
 refine WO.det (op_assign rfl) rfl (.free rfl) rfl rfl ?_
 refine WO.end (NE.code (CE.ret' ?_))
 refine XE.leaveT Try.results24 (res_agg (cs := [vS b'1 0 n c'1, vI 0]) rfl Try.isAgg40 Try.sizeOf40 r6.rng rfl (res_tmp rfl res_nil)) ?_
 refine ⟨b'1, c'1, zs1, rfl, ?_, (r4.mod m7 (nC (lG (lL (lL r2.lt (lT (lT (lT m3.size md1.size) m4.size) m5.size)) ge1)) nN)), (lT (lT (lT (lT (lT (lT m1.size m2.size) m3.size) md1.size) m4.size) m5.size) ge1), (((((((((Mod.refl [] w).nt m1).nt m2).nt m3).nt md1).nt m4).nt m5).nt m6).then m7 ((aC (.inr (lT m1.size lR)) aN)))⟩
 all_goals simp_all

theorem c_Clone32c (n : Nat) (c : Nat) (b : Nat) (xs : List Nat) (ln : xs.length = n) (h0 : 0 < n) (hn : n ≤ 1048576) (w : World) (r : Rng w b 0 (fl xs)) : Cl Try.prog 94 #[vS b 0 n c] w fun v w' => ∃ (b' : Nat) (c' : Nat), v = vS b' 0 n c' ∧ (n ≤ c') ∧ Row w' b' 0 (fl xs) ∧ w.heap.size ≤ b' ∧ Mod [] w w' := by
 refine Cl.of Try.func94 Try.ntmps94 rfl rfl (ρ := [(0, vS b 0 n c)]) rfl ?_
 refine CE.seq (CE.region ?_)
 refine WL.det (op_assign rfl) rfl rfl rfl ?_
 refine WL.end (NE.code (CE.seq (CE.seq (CE.region ?_))))
 refine WL.det (op_move rfl) rfl rfl rfl ?_
 refine WL.det (op_sl_nil rfl rfl Try.underlying38) rfl rfl rfl ?_
 refine WL.end (NE.code ?_)
 refine CE.cond_f rfl rfl ?_
 refine CE.skip' (NE.code (CE.seq (CE.region ?_)))
 refine WL.op (op_emptySl rfl Try.runUnderlying38 Try.sizeOf24) rfl rfl (ltb rfl) ?_
 rintro _ w1 ⟨rfl, r1, m1, z1⟩
 refine WL.det (op_move rfl) rfl rfl rfl ?_
 refine WL.op (op_appendFc (i := Try.t24) rfl rfl Try.underlying38 rfl rfl rfl rfl (r.ext m1) ln (by omega) (by omega)) rfl rfl (ltb rfl) ?_
 rintro _ w2 ⟨b1, c1, rfl, hc1, ge1, r2, m2⟩
 refine WL.det (op_assign rfl) rfl rfl rfl ?_
 refine WL.end (NE.code (CE.ret' ?_))
 refine XE.leave1 Try.results94 rfl ?_
 refine ⟨b1, c1, rfl, ?_, r2, (lT m1.size ge1), (((Mod.refl [] w).nt m1).nt m2)⟩
 all_goals assumption

theorem c_cloneRingc (n : Nat) (c : Nat) (b : Nat) (xs : List Nat) (j : Int) (ln : xs.length = n) (h0 : 0 < n) (hn : n ≤ 1048576) (w : World) (r : Rng w b 0 (fl xs)) : Cl Try.prog 60 #[.agg #[vS b 0 n c, vI j]] w fun v w' => ∃ (b' : Nat) (c' : Nat), v = .agg #[vS b' 0 n c', vI j] ∧ (n ≤ c') ∧ Row w' b' 0 (fl xs) ∧ w.heap.size ≤ b' ∧ Mod [] w w' := by
 refine Cl.of Try.func60 Try.ntmps60 rfl rfl (ρ := [(0, .agg #[vS b 0 n c, vI j])]) rfl ?_
 refine CE.seq (CE.region ?_)
 refine WL.op (op_box (cs := [vS b 0 n c, vI j]) rfl rfl) rfl rfl (ltb rfl) ?_
 rintro _ w1 ⟨rfl, r1, m1, z1⟩
 refine WL.op (op_alloc (cs := [.slice none 0 0, vI 0]) Try.zeroValue40 rfl) rfl rfl (ltb rfl) ?_
 rintro _ w2 ⟨rfl, r2, m2, z2⟩
 refine WL.end (NE.code (CE.seq ?_))
 refine CE.draw (fun | 2 => some (fun _ wA uA wB => ∃ (b' : Nat) (c' : Nat), uA = vS b' 0 n c' ∧ (n ≤ c') ∧ Row wB b' 0 (fl xs) ∧ wA.heap.size ≤ b' ∧ Mod [] wA wB) | _ => none) [0, 1, 2, 3, 4] [5, 6] [] (by kernel_rfl) (by kernel_rfl) ?_
 have md1 : Mod [] w2 w2.drew := (Mod.refl _ _).drew
 generalize w2.drew = w3 at md1 ⊢
 refine DR.det (i := 0) rfl rfl (by kernel_rfl) (.free rfl) rfl rfl (fun wD mD => op_fieldAddr (off' := 0) rfl Try.runUnderlying40 rfl rfl Try.sizeOf38 rfl) ?_
 refine DR.det (i := 1) rfl rfl (by kernel_rfl) (.free rfl) rfl rfl (fun wD mD => op_load1 (i := 0) rfl Try.isAgg38 (((r1.ext m2).ext md1).ext mD).rng rfl rfl) ?_
 refine DR.det (i := 3) rfl rfl (by kernel_rfl) (.free rfl) rfl rfl (fun wD mD => op_fieldAddr (off' := 1) rfl Try.runUnderlying40 rfl rfl Try.sizeOf2 rfl) ?_
 refine DR.det (i := 4) rfl rfl (by kernel_rfl) (.free rfl) rfl rfl (fun wD mD => op_load1 (i := 1) rfl Try.isAgg2 (((r1.ext m2).ext md1).ext mD).rng rfl rfl) ?_
 refine DR.one (i := 2) rfl rfl (by kernel_rfl) (.free rfl) rfl (ltb rfl) (vs := [.func (.func 94) #[] #[], vS b 0 n c]) rfl ?_
 intro w4 m3
 refine ⟨oc_call (vs := [vS b 0 n c]) (cap := []) rfl rfl rfl Try.call94 (c_Clone32c n c b xs ln (by omega) (by omega) w4 ((((r.ext m1).ext m2).ext md1).ext m3)), ?_⟩
 rintro _ w5 ⟨b'1, c'1, rfl, h1, r3, ge1, m4⟩
 refine ⟨(((Mod.refl [] w3).nt m3).nt m4), ?_⟩
 refine DR.done rfl ?_
 intro w6 m5
 refine WO.det (op_build (qs := [(0, vS b'1 0 n c'1), (1, vI j)]) (cells := #[vS b'1 0 n c'1, vI j]) rfl (by kernel_rfl)) rfl (.free rfl) rfl rfl ?_
 refine WO.op0 rfl (.free rfl) rfl (op_store (i := 0) (cs := [vS b'1 0 n c'1, vI j]) rfl rfl rfl Try.sizeOf40 rfl ((((r2.ext md1).ext m3).ext m4).ext m5) rfl (lB rfl) rfl) ?_
 rintro _ w7 ⟨r4, m6, z3⟩
 have r5 : Row w7 w1.heap.size 0 [vS b'1 0 n c'1, vI j] := Row.congr r4 rfl
 refine WO.end (NE.code (CE.ret' ?_))
 refine XE.leaveC Try.results60 (res_agg (cs := [vS b'1 0 n c'1, vI j]) rfl Try.isAgg40 Try.sizeOf40 r5.rng rfl res_nil) ?_
 refine ⟨b'1, c'1, rfl, ?_, ((r3.ext m5).mod m6 (nC (lG (lL (lL r2.lt (lT md1.size m3.size)) ge1)) nN)), (lT (lT (lT (lT m1.size m2.size) md1.size) m3.size) ge1), ((((((((Mod.refl [] w).nt m1).nt m2).nt md1).nt m3).nt m4).nt m5).then m6 ((aC (.inr (lT m1.size lR)) aN)))⟩
 all_goals assumption

theorem c_iPushc (n : Nat) (c : Nat) (b : Nat) (xs : List Nat) (i : Nat) (a : Nat) (ln : xs.length = n) (hi : i < n) (hn : n ≤ 1024) (w : World) (r : Rng w b 0 (fl xs)) : Cl Try.prog 20 #[.agg #[vS b 0 n c, vI ((i : Nat) : Int)], vF a] w fun v w' => ∃ (b' : Nat) (c' : Nat), v = .tuple #[.agg #[vS b' 0 n c', vI (((i + 1) % n : Nat) : Int)], vF (xs.getD i 0), vI 0] ∧ (n ≤ c') ∧ Row w' b' 0 (fl (xs.set i a)) ∧ w.heap.size ≤ b' ∧ Mod [] w w' := by
 refine Cl.of Try.func20 Try.ntmps20 rfl rfl (ρ := [(0, .agg #[vS b 0 n c, vI ((i : Nat) : Int)]), (1, vF a)]) rfl ?_
 refine CE.seq (CE.region ?_)
 refine WL.op (op_box (cs := [vS b 0 n c, vI ((i : Nat) : Int)]) rfl rfl) rfl rfl (ltb rfl) ?_
 rintro _ w1 ⟨rfl, r1, m1, z1⟩
 refine WL.op (op_alloc (cs := [.slice none 0 0, vI 0]) Try.zeroValue40 rfl) rfl rfl (ltb rfl) ?_
 rintro _ w2 ⟨rfl, r2, m2, z2⟩
 iterate 2 refine WL.det (op_assign rfl) rfl rfl rfl ?_
 refine WL.end (NE.code (CE.seq (CE.seq (CE.region ?_))))
 refine WL.det (op_loadA (i := 0) (cs := [vS b 0 n c, vI ((i : Nat) : Int)]) rfl Try.isAgg40 Try.sizeOf40 (r1.ext m2).rng rfl rfl rfl) rfl rfl rfl ?_
 refine WL.call (oc_call (vs := [.agg #[vS b 0 n c, vI ((i : Nat) : Int)]]) (cap := []) rfl rfl rfl Try.call19 (c_ValidRing n c (some ⟨b, 0, none⟩) ((i : Nat) : Int) (by omega) w2)) rfl rfl (ltb rfl) ?_
 rintro _ w3 ⟨rfl, m3⟩
 refine WL.det (op_not rfl) rfl rfl rfl ?_
 refine WL.end (NE.code ?_)
 refine CE.cond_f rfl (bnot_t (vRing_i hi hn)) ?_
 refine CE.skip' (NE.code (CE.seq (CE.region ?_)))
 refine WL.det (op_loadA (i := 0) (cs := [vS b 0 n c, vI ((i : Nat) : Int)]) rfl Try.isAgg40 Try.sizeOf40 ((r1.ext m2).ext m3).rng rfl rfl rfl) rfl rfl rfl ?_
 refine WL.call (oc_call (vs := [.agg #[vS b 0 n c, vI ((i : Nat) : Int)]]) (cap := []) rfl rfl rfl Try.call60 (c_cloneRingc n c b xs ((i : Nat) : Int) ln (by omega) (by omega) w3 (((r.ext m1).ext m2).ext m3))) rfl rfl (ltb rfl) ?_
 rintro _ w4 ⟨b'1, c'1, rfl, h1, r3, ge1, m4⟩
 refine WL.op (op_alloc (cs := [.slice none 0 0, vI 0]) Try.zeroValue40 rfl) rfl rfl (ltb rfl) ?_
 rintro _ w5 ⟨rfl, r4, m5, z3⟩
 refine WL.op0 (op_store (i := 0) (cs := [vS b'1 0 n c'1, vI ((i : Nat) : Int)]) rfl rfl rfl Try.sizeOf40 rfl r4 rfl (lB rfl) rfl) rfl rfl ?_
 rintro _ w6 ⟨r5, m6, z4⟩
 have r6 : Row w6 w4.heap.size 0 [vS b'1 0 n c'1, vI ((i : Nat) : Int)] := Row.congr r5 rfl
 refine WL.end (NE.code (CE.seq (CE.region ?_)))
 refine WL.det (op_move rfl) rfl rfl rfl ?_
 refine WL.call (oc_call (vs := [vP w4.heap.size 0, vF a]) (cap := []) rfl rfl rfl Try.call61 (c_push n c'1 b'1 xs i w4.heap.size 0 [vS b'1 0 n c'1, vI ((i : Nat) : Int)] a ln (by omega) (by omega) (lB rfl) w6 (Row.congr r6 rfl) ((r3.ext m5).mod m6 (nC (lE (lL r3.lt lR)) nN)) (lG (lL r3.lt lR)))) rfl rfl (ltb rfl) ?_
 rintro _ w7 ⟨rfl, r7, r8, m7⟩
 have r9 : Row w7 w4.heap.size 0 [vS b'1 0 n c'1, vI (((i + 1) % n : Nat) : Int)] := r7
 refine WL.det (op_assign rfl) rfl rfl rfl ?_
 refine WL.end (NE.code (CE.seq (CE.region ?_)))
 refine WL.det (op_loadA (i := 0) (cs := [vS b'1 0 n c'1, vI (((i + 1) % n : Nat) : Int)]) rfl Try.isAgg40 Try.sizeOf40 r9.rng rfl rfl rfl) rfl rfl rfl ?_
 refine WL.det (op_move rfl) rfl rfl rfl ?_
 refine WL.op0 (op_store (i := 0) (cs := [vS b'1 0 n c'1, vI (((i + 1) % n : Nat) : Int)]) rfl rfl rfl Try.sizeOf40 rfl (((((r2.ext m3).ext m4).ext m5).mod m6 (nC (lE (lL (lL r2.lt (lT m3.size m4.size)) lR)) nN)).mod m7 (nC (lE (lL (lL r2.lt (lT m3.size m4.size)) lR)) (nC (lE (lL (lL r2.lt m3.size) ge1)) nN))) rfl (lB rfl) rfl) rfl rfl ?_
 rintro _ w8 ⟨r10, m8, z5⟩
 have r11 : Row w8 w1.heap.size 0 [vS b'1 0 n c'1, vI (((i + 1) % n : Nat) : Int)] := Row.congr r10 rfl
 iterate 2 refine WL.det (op_assign rfl) rfl rfl rfl ?_
 refine WL.end (NE.code (CE.ret' ?_))
 refine XE.leaveT Try.results20 (res_agg (cs := [vS b'1 0 n c'1, vI (((i + 1) % n : Nat) : Int)]) rfl Try.isAgg40 Try.sizeOf40 r11.rng rfl (res_tmp rfl (res_tmp rfl res_nil))) ?_
 refine ⟨b'1, c'1, rfl, ?_, (r8.mod m8 (nC (lG (lL (lL r2.lt m3.size) ge1)) nN)), (lT (lT (lT m1.size m2.size) m3.size) ge1), (((((((((Mod.refl [] w).nt m1).nt m2).nt m3).nt m4).nt m5).then m6 ((aC (.inr (lT (lT (lT (lT m1.size m2.size) m3.size) m4.size) lR)) aN))).then m7 ((aC (.inr (lT (lT (lT (lT m1.size m2.size) m3.size) m4.size) lR)) (aC (.inr (lT (lT (lT m1.size m2.size) m3.size) ge1)) aN)))).then m8 ((aC (.inr (lT m1.size lR)) aN)))⟩
 all_goals assumption

theorem c_EqSelf (n : Nat) (c : Nat) (b : Nat) (xs : List Nat) (ln : xs.length = n) (hn : n ≤ 1048576) (w : World) (r : Rng w b 0 (fl xs)) : Cl Try.prog 98 #[vS b 0 n c, vS b 0 n c, .func (.func 21) #[] #[]] w fun v w' => v = .bool true ∧ Mod [] w w' := by
 refine Cl.of Try.func98 Try.ntmps98 rfl rfl (ρ := [(0, vS b 0 n c), (1, vS b 0 n c), (2, .func (.func 21) #[] #[])]) rfl ?_
 refine CE.seq (CE.region ?_)
 refine WL.det (op_assign rfl) rfl rfl rfl ?_
 refine WL.end (NE.code (CE.seq (CE.seq (CE.region ?_))))
 refine WL.det (op_move rfl) rfl rfl rfl ?_
 refine WL.det (op_len rfl Try.runUnderlying38) rfl rfl rfl ?_
 refine WL.det (op_move rfl) rfl rfl rfl ?_
 refine WL.det (op_len rfl Try.runUnderlying38) rfl rfl rfl ?_
 refine WL.det (op_nei_f rfl rfl rfl) rfl rfl rfl ?_
 refine WL.end (NE.code ?_)
 refine CE.cond_f rfl rfl ?_
 refine CE.skip' (NE.code (CE.seq (CE.seq (CE.region ?_))))
 refine WL.det (op_move rfl) rfl rfl rfl ?_
 refine WL.det (op_len rfl Try.runUnderlying38) rfl rfl rfl ?_
 refine WL.det (op_move rfl) rfl rfl rfl ?_
 refine WL.end (NE.code (CE.block ?_))
 refine CE.loop (fun (i : Nat) => [(17, vI ((i : Nat) : Int)), (1, vS b 0 n c), (2, .func (.func 21) #[] #[]), (6, .bool false), (15, vS b 0 n c), (16, vI ((n : Nat) : Int))]) (fun (i : Nat) => fun W => (i ≤ n) ∧ Mod [] w W) (fun (i : Nat) => n - i) 0 (⟨rfl, rfl, rfl, rfl, rfl, rfl, trivial⟩) ⟨(by omega), Mod.refl _ _⟩ ?_
 rintro i w1 ⟨hi, m1⟩
 show CE _ _ _ _ [(17, vI ((i : Nat) : Int)), (1, vS b 0 n c), (2, .func (.func 21) #[] #[]), (6, .bool false), (15, vS b 0 n c), (16, vI ((n : Nat) : Int))] _
 refine CE.seq (CE.region ?_)
 refine WL.det (op_lti rfl rfl) rfl rfl rfl ?_
 refine WL.end (NE.code (CE.seq ?_))
 rcases Bool.eq_false_or_eq_true (decide (((i : Nat) : Int) < ((n : Nat) : Int))) with hb1 | hb1
 ·have hp1 := of_decide_eq_true hb1
  refine CE.cond_t rfl hb1 ?_
  refine CE.skip' (NE.code (CE.seq (CE.block (CE.seq (CE.region ?_)))))
  refine WL.det (op_move rfl) rfl rfl rfl ?_
  refine WL.det (op_indexSl (off' := 0 + i) rfl rfl rfl Try.runUnderlying38 Try.sizeOf24 (by omega) (by omega) (by omega)) rfl rfl rfl ?_
  refine WL.det (op_load1 (i := i) rfl Try.isAgg24 (r.ext m1) rfl (fl_get (by have eL : List.length xs = n := ln; omega))) rfl rfl rfl ?_
  iterate 2 refine WL.det (op_assign rfl) rfl rfl rfl ?_
  refine WL.end (NE.code (CE.seq (CE.region ?_)))
  iterate 2 refine WL.det (op_move rfl) rfl rfl rfl ?_
  refine WL.det (op_indexSl (off' := 0 + i) rfl rfl rfl Try.runUnderlying38 Try.sizeOf24 (by omega) (by omega) (by omega)) rfl rfl rfl ?_
  refine WL.det (op_load1 (i := i) rfl Try.isAgg24 (r.ext m1) rfl (fl_get (by have eL : List.length xs = n := ln; omega))) rfl rfl rfl ?_
  refine WL.det (op_assign rfl) rfl rfl rfl ?_
  refine WL.end (NE.code (CE.seq (CE.region ?_)))
  iterate 3 refine WL.det (op_move rfl) rfl rfl rfl ?_
  refine WL.call (oc_call (vs := [vF (xs.getD i 0), vF (xs.getD i 0)]) (cap := []) rfl rfl rfl Try.call21 (c_SameSample (xs.getD i 0) (xs.getD i 0) (xs.getD i 0) (xs.getD i 0) rfl rfl w1)) rfl rfl (ltb rfl) ?_
  rintro _ _ ⟨rfl, rfl⟩
  refine WL.det (op_not rfl) rfl rfl rfl ?_
  refine WL.end (NE.code ?_)
  refine CE.cond_f rfl (bnot_t (beq_self_eq_true _)) ?_
  refine CE.skip' (NE.blk (NE.code (CE.region ?_)))
  refine WL.det (op_add (r := ((i + 1 : Nat) : Int)) rfl rfl (w_i64 (by omega) (by omega))) rfl rfl rfl ?_
  refine WL.det (op_move rfl) rfl rfl rfl ?_
  refine WL.end ?_
  exact NE.again (i + 1) (⟨rfl, rfl, rfl, rfl, rfl, rfl, trivial⟩) ⟨(by omega), m1⟩ (by first | (dsimp only; omega) | omega)
 ·have hp1 := of_decide_eq_false hb1
  refine CE.cond_f rfl hb1 ?_
  refine CE.exit' (XE.exit_then (XE.exit_then (XE.exit_here (NE.code (CE.seq (CE.region ?_))))))
  refine WL.det (op_assign rfl) rfl rfl rfl ?_
  refine WL.end (NE.code (CE.ret' ?_))
  refine XE.leave1 Try.results98 rfl ?_
  refine ⟨rfl, ((Mod.refl [] w).nt m1)⟩

theorem c_sameSelf (n : Nat) (c : Nat) (b : Nat) (xs : List Nat) (ln : xs.length = n) (hn : n ≤ 1048576) (w : World) (r : Rng w b 0 (fl xs)) : Cl Try.prog 66 #[vS b 0 n c, vS b 0 n c] w fun v w' => v = .bool true ∧ Mod [] w w' := by
 refine Cl.of Try.func66 Try.ntmps66 rfl rfl (ρ := [(0, vS b 0 n c), (1, vS b 0 n c)]) rfl ?_
 refine CE.seq (CE.region ?_)
 refine WL.det (op_assign rfl) rfl rfl rfl ?_
 refine WL.end (NE.code (CE.seq (CE.region ?_)))
 iterate 2 refine WL.det (op_move rfl) rfl rfl rfl ?_
 refine WL.call (oc_call (vs := [vS b 0 n c, vS b 0 n c, .func (.func 21) #[] #[]]) (cap := []) rfl rfl rfl Try.call98 (c_EqSelf n c b xs ln (by omega) w r)) rfl rfl (ltb rfl) ?_
 rintro _ w1 ⟨rfl, m1⟩
 refine WL.det (op_assign rfl) rfl rfl rfl ?_
 refine WL.end (NE.code (CE.ret' ?_))
 refine XE.leave1 Try.results66 rfl ?_
 refine ⟨rfl, ((Mod.refl [] w).nt m1)⟩

theorem c_SameRingSelf (n : Nat) (c : Nat) (b : Nat) (xs : List Nat) (j : Int) (ln : xs.length = n) (hn : n ≤ 1048576) (w : World) (r : Rng w b 0 (fl xs)) : Cl Try.prog 25 #[.agg #[vS b 0 n c, vI j], .agg #[vS b 0 n c, vI j]] w fun v w' => v = .bool true ∧ Mod [] w w' := by
 refine Cl.of Try.func25 Try.ntmps25 rfl rfl (ρ := [(0, .agg #[vS b 0 n c, vI j]), (1, .agg #[vS b 0 n c, vI j])]) rfl ?_
 refine CE.seq (CE.region ?_)
 refine WL.op (op_box (cs := [vS b 0 n c, vI j]) rfl rfl) rfl rfl (ltb rfl) ?_
 rintro _ w1 ⟨rfl, r1, m1, z1⟩
 refine WL.op (op_box (cs := [vS b 0 n c, vI j]) rfl rfl) rfl rfl (ltb rfl) ?_
 rintro _ w2 ⟨rfl, r2, m2, z2⟩
 refine WL.det (op_assign rfl) rfl rfl rfl ?_
 refine WL.end (NE.code (CE.seq (CE.region ?_)))
 refine WL.det (op_fieldAddr (off' := 0) rfl Try.runUnderlying40 rfl rfl Try.sizeOf38 rfl) rfl rfl rfl ?_
 refine WL.det (op_load1 (i := 0) rfl Try.isAgg38 (r1.ext m2).rng rfl rfl) rfl rfl rfl ?_
 refine WL.det (op_fieldAddr (off' := 0) rfl Try.runUnderlying40 rfl rfl Try.sizeOf38 rfl) rfl rfl rfl ?_
 refine WL.det (op_load1 (i := 0) rfl Try.isAgg38 r2.rng rfl rfl) rfl rfl rfl ?_
 refine WL.call (oc_call (vs := [vS b 0 n c, vS b 0 n c]) (cap := []) rfl rfl rfl Try.call66 (c_sameSelf n c b xs ln (by omega) w2 ((r.ext m1).ext m2))) rfl rfl (ltb rfl) ?_
 rintro _ w3 ⟨rfl, m3⟩
 refine WL.det (op_move rfl) rfl rfl rfl ?_
 refine WL.yes rfl rfl rfl (ltb rfl) rfl rfl ?_
 refine WL.det (op_fieldAddr (off' := 1) rfl Try.runUnderlying40 rfl rfl Try.sizeOf2 rfl) rfl rfl rfl ?_
 refine WL.yes rfl rfl rfl (ltb rfl) rfl rfl ?_
 refine WL.det (op_load1 (i := 1) rfl Try.isAgg2 ((r1.ext m2).ext m3).rng rfl rfl) rfl rfl rfl ?_
 refine WL.yes rfl rfl rfl (ltb rfl) rfl rfl ?_
 refine WL.det (op_fieldAddr (off' := 1) rfl Try.runUnderlying40 rfl rfl Try.sizeOf2 rfl) rfl rfl rfl ?_
 refine WL.yes rfl rfl rfl (ltb rfl) rfl rfl ?_
 refine WL.det (op_load1 (i := 1) rfl Try.isAgg2 (r2.ext m3).rng rfl rfl) rfl rfl rfl ?_
 refine WL.yes rfl rfl rfl (ltb rfl) rfl rfl ?_
 refine WL.det (op_eqi_t rfl rfl rfl) rfl rfl rfl ?_
 refine WL.det (op_pick_t rfl rfl rfl) rfl rfl rfl ?_
 refine WL.det (op_assign rfl) rfl rfl rfl ?_
 refine WL.end (NE.code (CE.ret' ?_))
 refine XE.leave1 Try.results25 rfl ?_
 refine ⟨rfl, ((((Mod.refl [] w).nt m1).nt m2).nt m3)⟩

end Go.Proofs.Ytnpkhjafnjpnmaa
