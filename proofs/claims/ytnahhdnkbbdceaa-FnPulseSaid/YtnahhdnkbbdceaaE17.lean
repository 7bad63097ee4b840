/- What the checks on pairs of rings and on kinds of filters compute. -/
import Derived.Test.YtnahhdnkbbdceaaB3
import Derived.Test.YtnahhdnkbbdceaaG1
import Derived.Test.YtnahhdnkbbdceaaE15
import Derived.Maps.AppendAt
import Derived.Deep.Upon
set_option linter.unusedVariables false
set_option linter.unusedSimpArgs false
set_option maxRecDepth 100000
set_option maxHeartbeats 8000000
namespace Go.Proofs.Ytnahhdnkbbdceaa

theorem c_isFilter (kd : Int) (c0 : Nat) (c1 : Nat) (c2 : Nat) (s0 : Nat) (s1 : Nat) (kk : Int) (w : World) : Cl Try.prog 101 #[.agg #[vI kd, vF c0, vF c1, vF c2, vF s0, vF s1], vI kk] w fun v w' => v = .bool (vFil kd c0 c1 c2 s0 s1 && (kd == kk)) ∧ Mod [] w w' := by
 refine Cl.of Try.func101 Try.ntmps101 rfl rfl (ρ := [(0, .agg #[vI kd, vF c0, vF c1, vF c2, vF s0, vF s1]), (1, vI kk)]) rfl ?_
 refine CE.seq (CE.region ?_)
 refine WL.op (op_box (cs := [vI kd, vF c0, vF c1, vF c2, vF s0, vF s1]) rfl rfl) rfl rfl (ltb rfl) ?_
 rintro _ w1 ⟨rfl, r1, m1, z1⟩
 refine WD (op_assign rfl) rfl ?_
 refine WL.end (NE.code (CE.seq (CE.region ?_)))
 refine WD (op_loadA (i := 0) (cs := [vI kd, vF c0, vF c1, vF c2, vF s0, vF s1]) rfl Try.isAgg31 Try.sizeOf31 r1.rng rfl rfl rfl) rfl ?_
 refine WL.call (oc_call (vs := [.agg #[vI kd, vF c0, vF c1, vF c2, vF s0, vF s1]]) (cap := []) rfl rfl rfl Try.call145 (c_ValidFilter kd c0 c1 c2 s0 s1 w1)) rfl rfl (ltb rfl) ?_
 rintro _ w2 ⟨rfl, m2⟩
 refine WD (op_move rfl) rfl ?_
 rcases Bool.eq_false_or_eq_true (vFil kd c0 c1 c2 s0 s1) with hb1 | hb1
 ·refine WL.yes rfl rfl rfl (ltb rfl) rfl hb1 ?_
  refine WD (op_fieldAddr (off' := 0) rfl Try.runUnderlying31 rfl rfl Try.sizeOf2 rfl) rfl ?_
  refine WL.yes rfl rfl rfl (ltb rfl) rfl hb1 ?_
  refine WD (op_load1 (i := 0) rfl Try.isAgg2 (r1.ext m2).rng rfl rfl) rfl ?_
  refine WL.yes rfl rfl rfl (ltb rfl) rfl hb1 ?_
  refine WD (op_move rfl) rfl ?_
  refine WL.yes rfl rfl rfl (ltb rfl) rfl hb1 ?_
  refine WD (op_eqi rfl rfl) rfl ?_
  refine WD (op_pick_t rfl hb1 rfl) rfl ?_
  refine WD (op_assign rfl) rfl ?_
  refine WL.end (NE.code (CE.ret' ?_))
  refine XE.leave1 Try.results101 rfl ?_
  refine ⟨?_, (((Mod.refl [] w).nt m1).nt m2)⟩
  all_goals simp_all
 ·refine WL.no rfl rfl rfl (ltb rfl) rfl hb1 rfl (ltb rfl) ?_
  iterate 3 refine WL.no rfl rfl rfl (ltb rfl) rfl hb1 rfl (ltb rfl) ?_
  refine WD (op_pick_f rfl hb1 rfl) rfl ?_
  refine WD (op_assign rfl) rfl ?_
  refine WL.end (NE.code (CE.ret' ?_))
  refine XE.leave1 Try.results101 rfl ?_
  refine ⟨?_, (((Mod.refl [] w).nt m1).nt m2)⟩
  all_goals simp_all

end Go.Proofs.Ytnahhdnkbbdceaa

/- The engine of this claim's walks, sixteenth part: lists of rings that are filled, ring by ring, and rings that are overwritten. -/
namespace Go.Proofs.Ytnahhdnkbbdceaa

section
variable {D : List RD} {P : List BC} {n i k : Nat} {lo : Nat} {w w' : World} {S : List Nat}

/-- a ring that came in lies in this world -/
def RiR.Ok (w : World) (e : RiR) : Prop := e.xs.length = e.n ∧ (0 < e.n → e.A = some ⟨e.b, e.o, none⟩) ∧ W32 e.xs ∧ Rng w e.b e.o (fl e.xs) ∧ e.n ≤ 9223372036854775807
theorem RiR.of {w : World} (cs : List Value) (h : Cells w [isSl [isF .f32], isI .i64] cs) : ∃ a, cs = RiR.cells a ∧ RiR.Ok w a := by
  obtain ⟨u0, r0, rfl, s0, k0⟩ := Cells.cons h
  obtain ⟨u1, r1, rfl, ⟨i, rfl, h0, h1⟩, k1⟩ := Cells.cons k0
  obtain rfl := Cells.nil k1
  obtain ⟨A, n, c, b, o, xs, rfl, hA, hn, hc, hz, hl, hr, hw⟩ := isSl_floats s0
  exact ⟨⟨A, n, c, b, o, xs, i⟩, rfl, hl, hA, hw, hr, Nat.le_trans hn hc⟩
theorem InF.of {w : World} {es : List RiR} (h : ∀ x ∈ es, RiR.Ok w x) : InF w es := by
  have k : ∀ i, RiR.Ok w (es.getD i RiR.d) := fun i => getD_all h ⟨rfl, fun h => absurd h (Nat.lt_irrefl _), W32.nil, Rng.nil _ _ _, Nat.zero_le _⟩ i
  exact ⟨fun i => (k i).1, fun i => (k i).2.1, fun i => (k i).2.2.1, fun i => (k i).2.2.2.1, fun i => (k i).2.2.2.2⟩

/-- an empty ring -/
def zf (_ : Unit) : List Value := [.slice none 0 0, vI 0]
/-- the cells of a list of `n` rings of which the first ones are filled -/
def olz (n : Nat) (D : List RD) (P : List BC) : List Value := olc D P ++ cat zf (List.replicate (n - D.length) ())
/-- a ring's samples are others, as many as before -/
theorem olc_same {xs' : List Nat} (hl : D.length = n) (hp : P.length = n) (hi : i < n) (hm : xs'.length = (D.getD i RD.d).xs.length) : olc D P = olc (D.set i ⟨xs', (D.getD i RD.d).at_⟩) P :=
  (olc_part hl hp hi rfl).trans (olc_put (k := i * 2) hl hp hi rfl hm)
end
end Go.Proofs.Ytnahhdnkbbdceaa

/- What the functions on lists of rings compute: sizes, copies, comparisons and marks. -/
set_option linter.unusedVariables false
set_option linter.unusedSimpArgs false
set_option maxRecDepth 100000
set_option maxHeartbeats 8000000
namespace Go.Proofs.Ytnahhdnkbbdceaa

/-- the number of samples of the first `i` rings -/
def sumR (es : List RiR) : Nat → Nat
  | 0 => 0
  | i + 1 => sumR es i + (es.getD i RiR.d).n
theorem rd_small {w : World} {es : List RiR} (h : InF w es) (hz : ∀ i, (es.getD i RiR.d).n ≤ 1048576) (i : Nat) : ((es.map RiR.rd).getD i RD.d).xs.length ≤ 1048576 := by
  rw [InF.rd]; exact Nat.le_trans (Nat.le_of_eq (h.len i)) (hz i)
theorem OF.congr {lo : Nat} {w : World} {D D' : List RD} {P : List BC} (h : OF lo w D P) (e : D = D') : OF lo w D' P := e ▸ h
end Go.Proofs.Ytnahhdnkbbdceaa

/- What the functions on pipes compute: sizes, copies, comparisons, marks; pipes that have not the right numbers of rings. -/
set_option linter.unusedVariables false
set_option linter.unusedSimpArgs false
set_option maxRecDepth 100000
set_option maxHeartbeats 8000000
namespace Go.Proofs.Ytnahhdnkbbdceaa

end Go.Proofs.Ytnahhdnkbbdceaa

/- The engine of this claim's walks, seventeenth part: slices that are appended to, one by one, at places that are told. -/
namespace Go.Proofs.Ytnahhdnkbbdceaa

section
variable {e : TypeId} {m lo : Nat} {w w' : World} {A : Option Addr} {n c b : Nat} {xs : List Value}
theorem Own.modb {S : List Nat} (h : Own e m lo w (some ⟨b, 0, none⟩) n c xs) (k : Mod S w w') (hS : b ∉ S) : Own e m lo w' (some ⟨b, 0, none⟩) n c xs := by
  refine ⟨h.len, ?_⟩
  rcases h.own with h1 | ⟨g, cur, h1, h2, h3, h4⟩
  · exact .inl h1
  · obtain rfl : b = g := by simpa using h1
    refine .inr ⟨b, cur, rfl, h2, ?_, h4⟩
    rw [k.block b (Array.getElem?_eq_some_iff.1 h3).1 hS]
    exact h3
theorem Own.row1 (h : Own e m lo w (some ⟨b, 0, none⟩) (n + 1) c xs) : Row w b 0 xs ∧ lo ≤ b := by
  rcases h.own with ⟨h1, _⟩ | ⟨g, cur, h1, h2, h3, h4, _, h6, h7⟩
  · omega
  · obtain rfl : b = g := by simpa using h1
    refine ⟨⟨cur, e, h3, fun i v hv => ?_⟩, h2⟩
    rw [← h7, List.getElem?_take] at hv
    split at hv
    · simpa using hv
    · cases hv
end

section
variable {P : Program} {n : Nat} {ρ : Env} {w : World} {dst : Option Tmp} {ty : TypeId} {pos : String} {af : Array Edge} {g : Option (Nat × Bool)}
/-- the first elements -/
theorem op_app0 {t e b o m bt c' q : Nat} {x y : Operand} {i : TypeInfo} {z : Value} {A : Option Addr} {news : List Value} (hA : A = none ∨ ∃ g, A = some ⟨g, 0, none⟩) (hx : ev ρ x = some (.slice A 0 0)) (hy : ev ρ y = some (.slice (some ⟨b, o, none⟩) (q + 1) c'))
    (ht : P.underlying t = some (.slice e)) (hi : P.info? e = some i) (hz : i.zero = some z) (hs : i.size = m) (hby : i.bytes = bt) (hzs : z.cells.size = m) (hm : 0 < m)
    (hr : Rng w b o news) (hl : news.length = (q + 1) * m) (h1 : news.all Value.oneCell' = true) (hq : q ≤ 4096) (hbt : bt ≤ 4096) :
    Op1 P n ⟨dst, .call { callee := .builtin .append, args := #[x, y], argTypes := #[t, t] }, ty, pos, af, g⟩ ρ w
      (fun u w' => ∃ b' c', u = .slice (some ⟨b', 0, none⟩) (q + 1) c' ∧ Own e m w.heap.size w' (some ⟨b', 0, none⟩) (q + 1) c' news ∧ w.heap.size ≤ b' ∧ Mod [] w w') := by
  have hnews : ∀ j v, news[j]? = some v → w.cell? ((⟨b, o, none⟩ : Addr).add j) = some v := fun j v hv => by rw [addr_add]; exact hr j v hv
  have hone : ∀ u ∈ news, u.oneCell' = true := fun u hu => List.all_eq_true.1 h1 u hu
  have hmx : 0 + (q + 1) ≤ maxLen := by simp only [maxLen]; omega
  have hbb : (0 + (q + 1)) * bt ≤ 140737488355328 := Nat.le_trans (Nat.mul_le_mul_left _ hbt) (by omega)
  have fin : ∀ v' w', (Builtin.append_ #[t, t] ty #[.slice A 0 0, .slice (some ⟨b, o, none⟩) (q + 1) c']).run P w = .ok v' w' →
      (∃ b' c', v' = .slice (some ⟨b', 0, none⟩) (q + 1) c' ∧ Own e m w.heap.size w' (some ⟨b', 0, none⟩) (q + 1) c' news ∧ w.heap.size ≤ b' ∧ Mod [] w w') →
      Op1 P n ⟨dst, .call { callee := .builtin .append, args := #[x, y], argTypes := #[t, t] }, ty, pos, af, g⟩ ρ w
      (fun u w' => ∃ b' c', u = .slice (some ⟨b', 0, none⟩) (q + 1) c' ∧ Own e m w.heap.size w' (some ⟨b', 0, none⟩) (q + 1) c' news ∧ w.heap.size ≤ b' ∧ Mod [] w w') := fun v' w' hrun hp =>
    op_run (fun a ha => by simp only [execOp, resolve, invoke, builtin, List.map_toArray, List.map_cons, List.map_nil, ha.ev hx, ha.ev hy, Sem.run_bind, Sem.run_pure, Result.andThen_ok, hrun]) hp
  rcases hA with rfl | ⟨g0, rfl⟩
  · obtain ⟨v', w', hrun, h2, h3, h4, h5⟩ := run_append_own_at (P := P) w w.heap.size t ty e i z m bt ht hi hz hs hby hzs hm (.slice none 0 0) 0 [] ⟨by simp, .inl ⟨rfl, rfl⟩⟩ ⟨b, o, none⟩ (q + 1) c' news hl hnews hone hmx hbb (Nat.le_refl _)
    refine fin v' w' hrun ?_
    rcases h2.2 with ⟨h6, h⟩ | ⟨g', cap, cur, rfl, a1, a2, a3, a4, a5, a6⟩
    · have := h4.1 h6; omega
    · rw [Nat.zero_add] at a3 a6
      refine ⟨g', cap, by rw [Nat.zero_add], ⟨by simpa using hl, .inr ⟨g', cur, rfl, a1, a2, a3, a4, a5, a6⟩⟩, a1, h3.os, h3.tape, h3.output, h3.size, fun j hj _ => h3.block j hj (by simp [Value.ownBlock])⟩
  · have hc : Builtin.nextslicecap (0 + (q + 1)) 0 * i.bytes ≤ 281474976710656 := by
      rw [Nat.zero_add, nextslicecap_zero (by omega), hby]
      exact Nat.le_trans (Nat.mul_le_mul_left _ hbt) (by omega)
    have hrun := run_append_grow (P := P) w t ty e i z ht hi hz ⟨g0, 0, none⟩ 0 0 [] (by simp) (by simp) ⟨b, o, none⟩ (q + 1) c' news (by rw [hl, hs]) hnews (by omega) (by omega) hc
    refine fin _ _ hrun ⟨w.heap.size, _, by rw [Nat.zero_add], ⟨hl, .inr ⟨w.heap.size, _, rfl, Nat.le_refl _, heap_alloc_new w.drew _, ?_, grownCap_le_maxLen w (0 + (q + 1)) 0 e hmx, ?_, ?_⟩⟩, Nat.le_refl _, (((Mod.refl [] w).drew).trans (Mod.alloc _ _)).wide (by simp)⟩
    · have := grownCap_ge w (0 + (q + 1)) 0 e
      simpa using this
    · have hge := grownCap_ge w (0 + (q + 1)) 0 e
      simp only [Array.size_append, List.size_toArray, size_zeroCells, hzs, hl, List.length_nil, Nat.zero_add]
      simp only [Nat.zero_add] at hge
      rw [Nat.sub_mul]
      have : (q + 1) * m ≤ grownCap w (q + 1) 0 e * m := Nat.mul_le_mul_right _ hge
      omega
    · simp only [Array.toList_append, List.nil_append]
      rw [← hl]; exact List.take_left

/-- nothing is appended -/
theorem op_appN {t e b o c c' k : Nat} {x y : Operand} {i : TypeInfo} {A : Option Addr} (hx : ev ρ x = some (.slice A k c)) (hy : ev ρ y = some (.slice (some ⟨b, o, none⟩) 0 c')) (hk : k ≤ c)
    (ht : P.underlying t = some (.slice e)) (hi : P.info? e = some i) :
    Op1 P n ⟨dst, .call { callee := .builtin .append, args := #[x, y], argTypes := #[t, t] }, ty, pos, af, g⟩ ρ w (Det (.slice A k c) w) := by
  have hrun := run_append_nothing (P := P) w t t ty e i ht hi A k c hk _ (Src.ofSlice w (news := []) ht ⟨b, o, none⟩ 0 c' (by simp) (by simp) (by simp))
  exact op_run (fun a ha => by simp only [execOp, resolve, invoke, builtin, List.map_toArray, List.map_cons, List.map_nil, ha.ev hx, ha.ev hy, Sem.run_bind, Sem.run_pure, Result.andThen_ok, hrun]) ⟨rfl, rfl⟩

/-- further elements -/
theorem op_appk {t e b0 b o m bt c c' k q lo : Nat} {x y : Operand} {i : TypeInfo} {z : Value} {xs news : List Value} (hx : ev ρ x = some (.slice (some ⟨b0, 0, none⟩) (k + 1) c)) (hy : ev ρ y = some (.slice (some ⟨b, o, none⟩) (q + 1) c'))
    (ht : P.underlying t = some (.slice e)) (hi : P.info? e = some i) (hz : i.zero = some z) (hs : i.size = m) (hby : i.bytes = bt) (hzs : z.cells.size = m) (hm : 0 < m)
    (hr : Rng w b o news) (hl : news.length = (q + 1) * m) (h1 : news.all Value.oneCell' = true) (how : Own e m lo w (some ⟨b0, 0, none⟩) (k + 1) c xs) (hlo : lo ≤ w.heap.size) (hk : k ≤ 16777216) (hq : q ≤ 4096) (hbt : bt ≤ 4096) :
    Op1 P n ⟨dst, .call { callee := .builtin .append, args := #[x, y], argTypes := #[t, t] }, ty, pos, af, g⟩ ρ w
      (fun u w' => ∃ b' c', u = .slice (some ⟨b', 0, none⟩) (k + 1 + (q + 1)) c' ∧ Own e m lo w' (some ⟨b', 0, none⟩) (k + 1 + (q + 1)) c' (xs ++ news) ∧ (b' = b0 ∨ w.heap.size ≤ b') ∧ Mod [b0] w w') := by
  have hnews : ∀ j v, news[j]? = some v → w.cell? ((⟨b, o, none⟩ : Addr).add j) = some v := fun j v hv => by rw [addr_add]; exact hr j v hv
  have hone : ∀ u ∈ news, u.oneCell' = true := fun u hu => List.all_eq_true.1 h1 u hu
  have hmx : k + 1 + (q + 1) ≤ maxLen := by simp only [maxLen]; omega
  have hbb : (k + 1 + (q + 1)) * bt ≤ 140737488355328 := Nat.le_trans (Nat.mul_le_mul_left _ hbt) (by omega)
  obtain ⟨cur0, d1, d2, d3, d4, d5, d6⟩ : ∃ cur, lo ≤ b0 ∧ w.heap[b0]? = some (.cells cur e (0, 0)) ∧ k + 1 ≤ c ∧ c ≤ maxLen ∧ cur.size = c * m ∧ cur.toList.take ((k + 1) * m) = xs := by
    rcases how.own with ⟨h1, _⟩ | ⟨g, cur, h1, h2⟩
    · omega
    · obtain rfl : b0 = g := by simpa using h1
      exact ⟨cur, h2⟩
  obtain ⟨v', w', hrun, h2, h3, h4, h5⟩ := run_append_own_at (P := P) w lo t ty e i z m bt ht hi hz hs hby hzs hm (.slice (some ⟨b0, 0, none⟩) (k + 1) c) (k + 1) xs ⟨how.len, .inr ⟨b0, c, cur0, rfl, d1, d2, d3, d4, d5, d6⟩⟩ ⟨b, o, none⟩ (q + 1) c' news hl hnews hone hmx hbb hlo
  refine op_run (v := v') (w' := w') (fun a ha => by simp only [execOp, resolve, invoke, builtin, List.map_toArray, List.map_cons, List.map_nil, ha.ev hx, ha.ev hy, Sem.run_bind, Sem.run_pure, Result.andThen_ok, hrun]) ?_
  rcases h2.2 with ⟨h6, h⟩ | ⟨g', cap, cur, rfl, a1, a2, a3, a4, a5, a6⟩
  · have := h4.1 h6; omega
  · refine ⟨g', cap, rfl, ⟨h2.1, .inr ⟨g', cur, rfl, a1, a2, a3, a4, a5, a6⟩⟩, ?_, h3.os, h3.tape, h3.output, h3.size, fun j hj hn => h3.block j hj (by simp only [Value.ownBlock]; intro h; simp at h hn; exact hn h)⟩
    simp only [Value.ownBlock] at h5
    rcases h5 with h5 | h5
    · exact .inl (by simpa using h5)
    · exact .inr (by simp at h5; omega)
end
end Go.Proofs.Ytnahhdnkbbdceaa
