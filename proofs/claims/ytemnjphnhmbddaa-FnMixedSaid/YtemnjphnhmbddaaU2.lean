/- What the functions on combs compute. -/
import Derived.Test.YtemnjphnhmbddaaG1
import Derived.Test.YtemnjphnhmbddaaU1
import Derived.Test.YtemnjphnhmbddaaB3
import Derived.Test.YtemnjphnhmbddaaF6
import Derived.Test.YtemnjphnhmbddaaF14
set_option linter.unusedVariables false
set_option linter.unusedSimpArgs false
namespace Go.Proofs.Ytemnjphnhmbddaa

def vComb (n : Nat) (j : Int) (xs : List Nat) (g : Nat) : Bool := vRingF n j xs && finF g
def combW (g : Nat) (xs : List Nat) (i x : Nat) : Nat := fop .add .f32 x (fop .mul .f32 g (xs.getD i 0))
def combY (g : Nat) (xs : List Nat) (i x : Nat) : Nat := fop .sub .f32 (xs.getD i 0) (fop .mul .f32 g (combW g xs i x))

set_option maxRecDepth 100000 in
set_option maxHeartbeats 2000000 in
theorem c_ValidComb (n : Nat) (c : Nat) (b : Nat) (xs : List Nat) (j : Int) (g : Nat) (ln : xs.length = n) (hn : n ≤ 1048576) (w : World) (r : Rng w b 0 (fl xs)) : Cl Try.prog 36 #[.agg #[vS b 0 n c, vI j, vF g]] w fun v w' => v = .bool (vComb n j xs g) ∧ Mod [] w w' := by
  refine Cl.of Try.func36 Try.ntmps36 rfl rfl (ρ := [(0, .agg #[vS b 0 n c, vI j, vF g])]) rfl ?_
  refine CE.seq ?_
  refine CE.region ?_
  refine WL.op (op_box (cs := [vS b 0 n c, vI j, vF g]) rfl rfl) rfl rfl (ltb rfl) ?_
  rintro _ w1 ⟨rfl, r1, m1, z1⟩
  refine WL.det (op_assign rfl) rfl rfl rfl ?_
  refine WL.end ?_
  refine NE.code ?_
  refine CE.seq ?_
  refine CE.region ?_
  refine WL.det (op_fieldAddr (off' := 0) rfl Try.runUnderlying34 rfl rfl Try.sizeOf31 rfl) rfl rfl rfl ?_
  refine WL.det (op_loadA (i := 0) (cs := [vS b 0 n c, vI j]) rfl Try.isAgg31 Try.sizeOf31 r1.rng rfl rfl rfl) rfl rfl rfl ?_
  refine WL.call (oc_call (vs := [.agg #[vS b 0 n c, vI j]]) (cap := []) rfl rfl rfl Try.call34 (c_isRing n c b xs j ln (by omega) w1 (r.ext m1))) rfl rfl (ltb rfl) ?_
  rintro _ w2 ⟨rfl, m2⟩
  refine WL.det (op_move rfl) rfl rfl rfl ?_
  rcases Bool.eq_false_or_eq_true (vRingF n j xs) with hb1 | hb1
  · refine WL.yes rfl rfl rfl (ltb rfl) rfl hb1 ?_
    refine WL.det (op_fieldAddr (off' := 2) rfl Try.runUnderlying34 rfl rfl Try.sizeOf24 rfl) rfl rfl rfl ?_
    refine WL.yes rfl rfl rfl (ltb rfl) rfl hb1 ?_
    refine WL.det (op_load1 (i := 2) rfl Try.isAgg24 (r1.ext m2).rng rfl rfl) rfl rfl rfl ?_
    refine WL.yes rfl rfl rfl (ltb rfl) rfl hb1 ?_
    refine WL.call (oc_call (vs := [vF g]) (cap := []) rfl rfl rfl Try.call20 (c_isFinite g g rfl w2)) rfl rfl (ltb rfl) ?_
    rintro _ w3 ⟨rfl, m3⟩
    refine WL.det (op_pick_t rfl hb1 rfl) rfl rfl rfl ?_
    refine WL.det (op_assign rfl) rfl rfl rfl ?_
    refine WL.end ?_
    refine NE.code ?_
    refine CE.ret' ?_
    refine XE.leave1 Try.results36 rfl ?_
    refine ⟨?_, ((((Mod.refl [] w).nt m1).nt m2).nt m3)⟩
    all_goals simp_all [vComb]
  · refine WL.no rfl rfl rfl (ltb rfl) rfl hb1 rfl (ltb rfl) ?_
    refine WL.no rfl rfl rfl (ltb rfl) rfl hb1 rfl (ltb rfl) ?_
    refine WL.no rfl rfl rfl (ltb rfl) rfl hb1 rfl (ltb rfl) ?_
    refine WL.det (op_pick_f rfl hb1 rfl) rfl rfl rfl ?_
    refine WL.det (op_assign rfl) rfl rfl rfl ?_
    refine WL.end ?_
    refine NE.code ?_
    refine CE.ret' ?_
    refine XE.leave1 Try.results36 rfl ?_
    refine ⟨?_, (((Mod.refl [] w).nt m1).nt m2)⟩
    all_goals simp_all [vComb]

end Go.Proofs.Ytemnjphnhmbddaa

/- Bounds: halves, gains, what a comb, a filter of one pole and a mix of four samples make. -/
set_option linter.unusedVariables false
set_option linter.unusedSimpArgs false
namespace Go.Proofs.Ytemnjphnhmbddaa
open Ieee

theorem pl_bd_t : (List.range 257).all (fun j => decide (wq (2 * (((j : Nat) : Int) - 128)) % 2147483648 ≤ (127 + 1) * 8388608)) = true := by decide +kernel
theorem pl_bd {d : Nat} (h : d < 257) : Bd (wq (2 * (((d : Nat) : Int) - 128))) 1 := by
  unfold Bd
  exact of_decide_eq_true (List.all_eq_true.1 pl_bd_t d (List.mem_range.2 h))
/-- a float of 32 bits that is at most `2 ^ k` -/
def Bw (x k : Nat) : Prop := x < wid .f32 ∧ Bd x k
def LBw (xs : List Nat) (k : Nat) : Prop := ∀ j, Bw (xs.getD j 0) k
theorem Bd.half {x k : Nat} (h : Bd x (k + 1)) (hk : k ≤ 99) : Bd (fop .mul .f32 1056964608 x) k := by
  have hx := h.fin (by omega)
  have hv := h.val
  have hr : (127 + k) * 8388608 < 2139095040 := by omega
  have e0 : rungVal (1056964608 % 2147483648) = 2 ^ 148 := by decide +kernel
  obtain ⟨b, hb, e⟩ := mul_leS (c := 1056964608) (s := x) (r := (127 + k) * 8388608) (by decide) hx hr (by
    rw [e0, rung_two, ← Nat.pow_add, show k + 149 + 149 = 148 + (k + 1 + 149) by omega, Nat.pow_add]
    exact Nat.mul_le_mul_left _ hv)
  rw [e]
  exact Bd.word hb (by omega)
theorem Bw.nan {x k : Nat} (h : Bw x k) (hk : k ≤ 100) : isNaN .f32 x = false := by
  have := h.2.fin hk
  rw [isNaN32]; simp; omega
theorem Bw.of_cn {x e k : Nat} (h : cn .f32 x = cn .f32 e) (he : Bd e k) (hw : e < wid .f32) (hk : k ≤ 100) : x = e := eq_of_cn h (Bw.nan ⟨hw, he⟩ hk)
theorem Bw.mono {x k l : Nat} (h : Bw x k) (hl : k ≤ l) : Bw x l := ⟨h.1, h.2.mono hl⟩
theorem Bw.zero {k : Nat} : Bw 0 k := ⟨by decide +kernel, Bd.zero⟩
theorem LBw.mono {xs : List Nat} {k l : Nat} (h : LBw xs k) (hl : k ≤ l) : LBw xs l := fun j => (h j).mono hl
theorem LBw.set {xs : List Nat} {k i x : Nat} (h : LBw xs k) (hx : Bw x k) : LBw (xs.set i x) k := by
  intro j
  rw [List.getD_eq_getElem?_getD, List.getElem?_set]
  by_cases hij : i = j
  · subst hij
    rw [if_pos rfl]
    split
    · exact hx
    · exact Bw.zero
  · rw [if_neg hij, ← List.getD_eq_getElem?_getD]; exact h j
theorem LBw.zeros {n k : Nat} : LBw (List.replicate n 0) k := by
  intro j
  rw [List.getD_eq_getElem?_getD, List.getElem?_replicate]
  split <;> exact Bw.zero
theorem Bw.add {x y k : Nat} (hx : Bw x k) (hy : Bw y k) (hk : k ≤ 99) : Bw (fop .add .f32 x y) (k + 1) := ⟨fop_lt _ _ _ _, hx.2.add2 hy.2 (by omega)⟩
theorem Bw.sub {x y k : Nat} (hx : Bw x k) (hy : Bw y k) (hk : k ≤ 99) : Bw (fop .sub .f32 x y) (k + 1) := ⟨fop_lt _ _ _ _, hx.2.sub2 hy.2 (by omega)⟩
theorem Bw.half {x k : Nat} (h : Bw x (k + 1)) (hk : k ≤ 99) : Bw (fop .mul .f32 1056964608 x) k := ⟨fop_lt _ _ _ _, h.2.half hk⟩
theorem Bw.gain {g x k : Nat} (hg : Bw g 0) (h : Bw x k) (hk : k ≤ 100) : Bw (fop .mul .f32 g x) k := ⟨fop_lt _ _ _ _, by have := hg.2.mul2 h.2 (by omega); rw [Nat.zero_add] at this; exact this⟩
theorem Bw.kept {x k : Nat} (h : Bw x k) : Bw (keptF x) k := ⟨keptF_lt h.1, h.2.kept⟩
theorem comb_w {xs : List Nat} {i x k : Nat} (hL : LBw xs (k + 1)) (hx : Bw x k) (hk : k ≤ 90) : Bw (combW 1056964608 xs i x) (k + 1) := hx.add ((hL i).half (by omega)) (by omega)
theorem comb_y {xs : List Nat} {i x k : Nat} (hL : LBw xs (k + 1)) (hx : Bw x k) (hk : k ≤ 90) : Bw (combY 1056964608 xs i x) (k + 2) := (hL i).sub (((comb_w hL hx hk).half (by omega)).mono (by omega)) (by omega)
theorem pole_y {s x k : Nat} {s1 : Nat} (hs : Bw s (k + 1)) (hx : Bw x (k + 1)) (hk : k ≤ 90) : Bw (stepY 1 1056964608 1056964608 0 s s1 x) (k + 1) := (hx.half (by omega)).add (hs.half (by omega)) (by omega)
theorem sV_z {t : Nat} (h : Z0 t) : sV t = 0 := by
  have e : rungVal 0 = 0 := by decide +kernel
  unfold sV
  rw [show t % 2147483648 = 0 from h, e]
  split <;> rfl
theorem zero_add_z {t : Nat} (h : Z0 t) : fop .add .f32 0 t = 0 := add_ex (by decide) (by decide) h.fin (by decide) (by decide) (by decide) (by decide) (by rw [sV_z h]; rw [sV_z (t := 0) rfl]; rfl)
/-- what a room without a wet share makes -/
theorem dry_out {a S k : Nat} (ha : PlQ a) (hS : Bw S k) (hk : k ≤ 100) : fop .add .f32 (fop .mul .f32 1065353216 a) (fop .mul .f32 0 S) = a := by
  obtain ⟨d, hd, rfl⟩ := ha
  obtain ⟨a1, a2, a3, a4⟩ := wq_ok (m := 2 * ((d : Int) - 128)) (by omega) (by omega)
  rw [(ha_ok (by omega) (by omega)).2.2]
  have hz : Z0 (fop .mul .f32 0 S) := Z0.mul_l (c := S) (fin_of (hS.2.fin hk)) rfl
  by_cases h0 : wq (2 * ((d : Int) - 128)) % 2147483648 = 0
  · have e : wq (2 * ((d : Int) - 128)) = 0 := by omega
    rw [e]
    exact zero_add_z hz
  · obtain ⟨K, hK⟩ : ∃ K, K = 925 := ⟨_, rfl⟩
    exact add_zero_r hK a1 a2 h0 hz
end Go.Proofs.Ytemnjphnhmbddaa
