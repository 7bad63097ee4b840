/- The engine of this claim's walks, eighteenth part: lists of rings that are appended to. -/
import Derived.Test.YtnahhdnkbbdceaaE17
import Derived.Test.YtnahhdnkbbdceaaS1
namespace Go.Proofs.Ytnahhdnkbbdceaa

section
variable {D : List RD} {P : List BC} {n i c g lo : Nat} {e : TypeId} {w0 w w' : World} {S : List Nat} {A : Option Addr}

theorem olc_push {xs : List Nat} {a : Int} {b c m : Nat} (hl : D.length = n) (hp : P.length = n) (hm : xs.length = m) : olc D P ++ [vS b 0 m c, vI a] = olc (D ++ [⟨xs, a⟩]) (P ++ [⟨b, c⟩]) := by
  subst hm
  unfold olc
  rw [List.zip_append (by omega), cat_app]
  rfl
theorem take_D (hl : D.length = n) (hi : i < n) : D.take i ++ [(⟨(D.getD i RD.d).xs, (D.getD i RD.d).at_⟩ : RD)] = D.take (i + 1) := by
  have h : D[i]? = some (D.getD i RD.d) := by
    have : i < D.length := by omega
    simp [this]
  rw [List.take_add_one, h]
  rfl
theorem take_Dall (hl : D.length = n) : D.take n = D := List.take_of_length_le (by omega)

/-- a list of rings that is appended to: it lies at the front of the block `g`, each ring in a block of its own -/
structure OwnL (e : TypeId) (lo : Nat) (w : World) (A : Option Addr) (n c g : Nat) (D : List RD) (P : List BC) : Prop where
  own : Own e 2 lo w A n c (olc D P)
  lD : D.length = n
  lP : P.length = n
  fam : OF lo w D P
  adr : 0 < n → A = some ⟨g, 0, none⟩
  ne : 0 < n → ∀ i, i < n → (P.getD i BC.d).b ≠ g
  z : n = 0 → c = 0 ∧ (A = none ∨ ∃ g, A = some ⟨g, 0, none⟩)

theorem OwnL.nil : OwnL e lo w none 0 0 0 [] [] := ⟨Own.nil, rfl, rfl, OF.nil, fun h => absurd h (Nat.lt_irrefl _), fun h => absurd h (Nat.lt_irrefl _), fun _ => ⟨rfl, .inl rfl⟩⟩
theorem OwnL.emp {g0 : Nat} : OwnL e lo w (some ⟨g0, 0, none⟩) 0 0 0 [] [] := ⟨Own.emp, rfl, rfl, OF.nil, fun h => absurd h (Nat.lt_irrefl _), fun h => absurd h (Nat.lt_irrefl _), fun _ => ⟨rfl, .inr ⟨_, rfl⟩⟩⟩
theorem OwnL.congr {D' : List RD} (h : OwnL e lo w A n c g D P) (k : D = D') : OwnL e lo w A n c g D' P := k ▸ h
theorem Own.low {m k : Nat} {xs : List Value} (h : Own e m lo w A n c xs) (hk : k ≤ lo) : Own e m k w A n c xs := by
  refine ⟨h.len, ?_⟩
  rcases h.own with h1 | ⟨g, cur, h1, h2, h3⟩
  · exact .inl h1
  · exact .inr ⟨g, cur, h1, Nat.le_trans hk h2, h3⟩
theorem OwnL.out (h : OwnL e lo w A n c g D P) (hn : 0 < n) : A = some ⟨g, 0, none⟩ ∧ Row w g 0 (olc D P) ∧ lo ≤ g := by
  obtain ⟨k, rfl⟩ : ∃ k, n = k + 1 := ⟨n - 1, by omega⟩
  have ha := h.adr hn
  have ho := h.own
  rw [ha] at ho
  exact ⟨ha, Own.row1 ho⟩
theorem OwnL.mod (h0 : OwnL e lo w0 A n c g D P) (h : OwnL e lo w A n c g D P) (m : Mod S w w') (hS : ∀ x, x ∈ S → x < lo ∨ w0.heap.size ≤ x) : OwnL e lo w' A n c g D P := by
  refine ⟨?_, h.lD, h.lP, h.fam.mod m fun i hi hm => ?_, h.adr, h.ne, h.z⟩
  · rcases Nat.eq_zero_or_pos n with h1 | h1
    · exact ⟨h.own.len, .inl ⟨h1, (h.z h1).1, (h.z h1).2⟩⟩
    · obtain ⟨ha, hr, hg⟩ := h0.out h1
      have ho := h.own
      rw [ha] at ho ⊢
      exact ho.modb m fun hm => by
        have := hr.lt
        rcases hS _ hm with hx | hx <;> omega
  · have h1 := h0.fam.ge i hi
    have h2 := h0.fam.lt hi
    rcases hS _ hm with hx | hx <;> omega
end

theorem aoN {k l : Nat} : ∀ x, x ∈ ([] : List Nat) → x < k ∨ l ≤ x := fun x hx => by cases hx
theorem aoC {k l b : Nat} {S : List Nat} (h : b < k ∨ l ≤ b) (hs : ∀ x, x ∈ S → x < k ∨ l ≤ x) : ∀ x, x ∈ b :: S → x < k ∨ l ≤ x := fun x hx => by
  rcases List.mem_cons.1 hx with rfl | hx
  · exact h
  · exact hs x hx

section
variable {P0 : Program} {n : Nat} {ρ : Env} {w w0 : World} {dst : Option Tmp} {ty : TypeId} {pos : String} {af : Array Edge} {g : Option (Nat × Bool)}
/-- one ring is appended -/
theorem op_appL {t e b bs os bt c c' c2 m k lo g0 : Nat} {a : Int} {x y : Operand} {i : TypeInfo} {z : Value} {A : Option Addr} {D : List RD} {P : List BC} {xs : List Nat} (hx : ev ρ x = some (.slice A k c)) (hy : ev ρ y = some (.slice (some ⟨bs, os, none⟩) 1 c'))
    (ht : P0.underlying t = some (.slice e)) (hi : P0.info? e = some i) (hz : i.zero = some z) (hs : i.size = 2) (hby : i.bytes = bt) (hzs : z.cells.size = 2)
    (hr : Rng w bs os [vS b 0 m c2, vI a]) (rb : Row w b 0 (fl xs)) (hm : xs.length = m) (h0 : OwnL e lo w0 A k c g0 D P) (how : OwnL e lo w A k c g0 D P) (hlo : lo ≤ w0.heap.size) (hlw : lo ≤ w.heap.size) (hb : w0.heap.size ≤ b) (hk : k ≤ 16777216) (hbt : bt ≤ 4096) :
    Op1 P0 n ⟨dst, .call { callee := .builtin .append, args := #[x, y], argTypes := #[t, t] }, ty, pos, af, g⟩ ρ w
      (fun u w' => ∃ A' c' g' h, u = .slice A' (k + 1) c' ∧ OwnL e lo w' A' (k + 1) c' g' (D ++ [⟨xs, a⟩]) (P ++ [⟨b, c2⟩]) ∧ lo ≤ h ∧ Mod [h] w w') := by
  have hD : (D ++ [(⟨xs, a⟩ : RD)]).length = k + 1 := by simp [how.lD]
  have hP : (P ++ [(⟨b, c2⟩ : BC)]).length = k + 1 := by simp [how.lP]
  have gp : (P ++ [(⟨b, c2⟩ : BC)]).getD k BC.d = ⟨b, c2⟩ := by have := how.lP; subst this; simp [List.getD_eq_getElem?_getD]
  have gq : ∀ j, j < k → (P ++ [(⟨b, c2⟩ : BC)]).getD j BC.d = P.getD j BC.d := fun j hj => by simp only [List.getD_eq_getElem?_getD, List.getElem?_append_left (show j < P.length by rw [how.lP]; exact hj)]
  have hne : ∀ j, j < D.length → (P.getD j BC.d).b ≠ b := fun j hj => by have := h0.fam.lt hj; omega
  rcases Nat.eq_zero_or_pos k with h1 | h1
  · subst h1
    obtain ⟨rfl, hA⟩ := how.z rfl
    obtain rfl : D = [] := List.eq_nil_of_length_eq_zero how.lD
    obtain rfl : P = [] := List.eq_nil_of_length_eq_zero how.lP
    refine Op1.mono (op_app0 (q := 0) hA hx hy ht hi hz hs hby hzs (by decide) hr rfl rfl (by decide) hbt) fun u w' h => ?_
    obtain ⟨b', c'', rfl, ho, hge, hmod⟩ := h
    refine ⟨_, c'', b', w.heap.size, by rw [Nat.zero_add], ⟨Own.congr (Own.low (by rw [Nat.zero_add]; exact ho) hlw) (by subst hm; rfl), hD, hP, OF.push (n := 0) rfl rfl OF.nil (rb.ext hmod) (Nat.le_trans hlo hb) (fun i hi => by simp at hi), fun _ => rfl, fun _ j hj => ?_, fun h => by omega⟩, hlw, hmod.wide (by simp)⟩
    obtain rfl : j = 0 := by omega
    rw [gp]
    have := rb.lt
    show b ≠ b'
    omega
  · obtain ⟨q, rfl⟩ : ∃ q, k = q + 1 := ⟨k - 1, by omega⟩
    obtain ⟨ha, hr0, hg0⟩ := h0.out h1
    have hbg : b ≠ g0 := by have := hr0.lt; omega
    have ho := how.own
    rw [ha] at ho hx
    refine Op1.mono (op_appk (q := 0) hx hy ht hi hz hs hby hzs (by decide) hr rfl rfl ho hlw (by omega) (by decide) hbt) fun u w' h => ?_
    obtain ⟨b', c'', rfl, ho', hb', hmod⟩ := h
    have hgw : g0 < w.heap.size := by have := (how.out h1).2.1.lt; exact this
    refine ⟨_, c'', b', g0, rfl, ⟨Own.congr ho' (olc_push how.lD how.lP hm), hD, hP, OF.push how.lD how.lP (how.fam.mod hmod fun j hj hmem => ?_) (rb.mod hmod fun hmem => ?_) (Nat.le_trans hlo hb) hne, fun _ => rfl, fun _ j hj => ?_, fun h => by omega⟩, hg0, hmod⟩
    · exact h0.ne h1 j (by have := how.lD; omega) (by simpa using hmem)
    · exact hbg (by simpa using hmem)
    · rcases Nat.lt_or_ge j (q + 1) with hj' | hj'
      · rw [gq j hj']
        have h2 := how.fam.lt (i := j) (by rw [how.lD]; exact hj')
        have h3 := how.ne h1 j hj'
        rcases hb' with rfl | hb'
        · exact h3
        · omega
      · obtain rfl : j = q + 1 := by omega
        rw [gp]
        have := rb.lt
        show b ≠ b'
        rcases hb' with rfl | hb'
        · exact hbg
        · omega
end
end Go.Proofs.Ytnahhdnkbbdceaa

/- What copying lists of rings does. -/
set_option linter.unusedVariables false
set_option linter.unusedSimpArgs false
set_option maxRecDepth 100000
set_option maxHeartbeats 8000000
namespace Go.Proofs.Ytnahhdnkbbdceaa

theorem vRings_pos {D : List RD} {n : Nat} (h : vRings D n = true) (i : Nat) (hi : i < n) : 0 < (D.getD i RD.d).xs.length := by
  have := vRings_get h hi
  simp only [vRingF, Bool.and_eq_true] at this
  exact (vRing_t this.1).1

theorem c_l04CopiesS (n : Nat) (c : Nat) (b : Nat) (D : List RD) (P : List BC) (lo : Nat) (lD : D.length = n) (lP : P.length = n) (hz : ∀ i, (D.getD i RD.d).xs.length ≤ 1048576) (hn : n ≤ 1048576) (h0n : 0 < n) (hp : ∀ i, i < n → 0 < (D.getD i RD.d).xs.length) (w : World) (r : Rng w b 0 (olc D P))  (F : OF lo w D P) : Cl Try.prog 111 #[vS b 0 n c] w fun v w' => ∃ (b' : Nat) (c' : Nat) (P' : List BC), v = vS b' 0 n c' ∧ (P'.length = n) ∧ Row w' b' 0 (olc D P') ∧ w.heap.size ≤ b' ∧ OF w.heap.size w' D P' ∧ (∀ i, i < n → (P'.getD i BC.d).b ≠ b') ∧ Mod [] w w' := by
 refine Cl.of Try.func111 Try.ntmps111 rfl rfl (ρ := [(0, vS b 0 n c)]) rfl ?_
 refine CE.seq (CE.region ?_)
 refine WD (op_assign rfl) rfl ?_
 refine WL.end (NE.code (CE.seq (CE.region ?_)))
 refine WL.op (op_emptySl rfl Try.runUnderlying25 Try.sizeOf60) rfl rfl (ltb rfl) ?_
 rintro _ w1 ⟨rfl, r1, m1, z1⟩
 refine WD (op_assign rfl) rfl ?_
 refine WL.end (NE.code (CE.seq (CE.seq (CE.region ?_))))
 refine WD (op_assign rfl) rfl ?_
 refine WL.end (NE.code (CE.block ?_))
 refine CE.loop (fun (z : Nat × Option Addr × Nat × Nat × List BC) => [(4, vI ((z.1 : Nat) : Int)), (3, .slice z.2.1 z.1 z.2.2.1), (0, vS b 0 n c), (2, .slice none 0 0)]) (fun (z : Nat × Option Addr × Nat × Nat × List BC) => fun W => (z.1 ≤ n) ∧ OwnL 60 w1.heap.size W z.2.1 z.1 z.2.2.1 z.2.2.2.1 (D.take z.1) z.2.2.2.2 ∧ Mod [] w1 W) (fun (z : Nat × Option Addr × Nat × Nat × List BC) => n - z.1) (0, (some ⟨w.heap.size, 0, none⟩), 0, 0, []) (⟨rfl, rfl, rfl, rfl, trivial⟩) ⟨(by omega), OwnL.emp, Mod.refl _ _⟩ ?_
 rintro ⟨i, A, cc, g, Q⟩ w2 ⟨hi, ow1, m2⟩
 replace hi : i ≤ n := hi
 replace ow1 : OwnL 60 w1.heap.size w2 A i cc g (D.take i) Q := ow1
 have hzi := hz i
 have hpi := hp i
 show CE _ _ _ _ [(4, vI ((i : Nat) : Int)), (3, .slice A i cc), (0, vS b 0 n c), (2, .slice none 0 0)] _
 refine CE.seq (CE.seq (CE.region ?_))
 iterate 2 refine WD (op_move rfl) rfl ?_
 refine WD (op_len rfl Try.runUnderlying25) rfl ?_
 refine WD (op_lti rfl rfl) rfl ?_
 refine WL.end (NE.code ?_)
 rcases Bool.eq_false_or_eq_true (decide (((i : Nat) : Int) < ((n : Nat) : Int))) with hb1 | hb1
 ·have hp1 := of_decide_eq_true hb1
  refine CE.cond_t rfl hb1 ?_
  refine CE.skip' (NE.code (CE.seq (CE.block (CE.region ?_))))
  iterate 3 refine WD (op_move rfl) rfl ?_
  refine WD (op_indexSl (off' := 0 + i * 2) rfl rfl rfl Try.runUnderlying25 Try.sizeOf60 (by omega) (by omega) (by omega)) rfl ?_
  refine WL.call (oc_call (vs := [vP b (0 + i * 2)]) (cap := []) rfl rfl rfl Try.call150 (c_l02Copy ((D.getD i RD.d).xs.length) ((P.getD i BC.d).c) ((P.getD i BC.d).b) ((D.getD i RD.d).xs) ((D.getD i RD.d).at_) b (0 + i * 2) (olc D P) rfl (by omega) (by omega) (olc_fit lD lP (show i < n by omega) (Nat.zero_add _)) w2 (Rng.congr ((r.ext m1).ext m2) (olc_part lD lP (show i < n by omega) (Nat.zero_add _))) (((OF.row F i (lQ (show i < n by omega) lD.symm)).ext m1).ext m2).rng)) rfl rfl (ltb rfl) ?_
  rintro _ w3 ⟨b'1, c'1, rfl, r2, ge1, m3⟩
  refine WL.op (op_buildSl (qs := [(0, .agg #[vS b'1 0 ((D.getD i RD.d).xs.length) c'1, vI ((D.getD i RD.d).at_)])]) (cells := #[vS b'1 0 ((D.getD i RD.d).xs.length) c'1, vI ((D.getD i RD.d).at_)]) rfl Try.runUnderlying25 Try.sizeOf60 Try.zeroValue60 (by decide) (by decide) (by kernel_rfl)) rfl rfl (ltb rfl) ?_
  rintro _ w4 ⟨rfl, r3, m4, z2⟩
  have sz1 := (lT (lT m2.size m3.size) m4.size)
  refine WL.op (op_appL (i := Try.t60) (bt := 32) rfl rfl Try.underlying25 rfl rfl rfl rfl rfl r3.rng (r2.ext m4) rfl ow1 (OwnL.mod ow1 (OwnL.mod ow1 ow1 m3 aoN) m4 aoN) m2.size sz1 ge1 (by omega) (by decide)) rfl rfl (ltb rfl) ?_
  rintro _ w5 ⟨A1, c1, g1, b1, rfl, ow2, ge2, m5⟩
  refine WD (op_assign rfl) rfl ?_
  refine WL.end (NE.blk (NE.code (CE.region ?_)))
  refine WD (op_move rfl) rfl ?_
  refine WD (op_add (r := ((i + 1 : Nat) : Int)) rfl rfl (w_i64 (by omega) (by omega))) rfl ?_
  refine WD (op_assign rfl) rfl ?_
  refine WL.end ?_
  exact NE.again ((i + 1), A1, c1, g1, (Q ++ [⟨b'1, c'1⟩])) (⟨rfl, rfl, rfl, rfl, trivial⟩) ⟨(by omega), (OwnL.congr ow2 (take_D lD (by omega))), (((m2.nt m3).nt m4).then m5 ((aC (.inr ge2) aN)))⟩ (by first | (dsimp only; omega) | omega)
 ·have hp1 := of_decide_eq_false hb1
  refine CE.cond_f rfl hb1 ?_
  refine CE.exit' (XE.exit_then (XE.exit_then (XE.exit_here (NE.code (CE.seq (CE.region ?_))))))
  refine WD (op_move rfl) rfl ?_
  refine WD (op_assign rfl) rfl ?_
  refine WL.end (NE.code (CE.ret' ?_))
  have ei : n = i := by omega
  subst ei
  have hL1 := OwnL.congr ow1 (take_Dall lD)
  obtain ⟨rfl, r4, hG1⟩ := OwnL.out hL1 h0n
  refine XE.leave1 Try.results111 rfl ?_
  refine ⟨g, cc, Q, rfl, hL1.lP, r4, (lT m1.size hG1), (OF.low hL1.fam m1.size), (fun j hj => ((hL1.ne h0n) j (show j < n by omega))), (((Mod.refl [] w).nt m1).nt m2)⟩

theorem c_cloneRingsS (n : Nat) (c : Nat) (b : Nat) (D : List RD) (P : List BC) (lo : Nat) (lD : D.length = n) (lP : P.length = n) (hz : ∀ i, (D.getD i RD.d).xs.length ≤ 1048576) (hn : n ≤ 1048576) (h0n : 0 < n) (hp : ∀ i, i < n → 0 < (D.getD i RD.d).xs.length) (w : World) (r : Rng w b 0 (olc D P))  (F : OF lo w D P) : Cl Try.prog 116 #[vS b 0 n c] w fun v w' => ∃ (b' : Nat) (c' : Nat) (P' : List BC), v = vS b' 0 n c' ∧ (P'.length = n) ∧ Row w' b' 0 (olc D P') ∧ w.heap.size ≤ b' ∧ OF w.heap.size w' D P' ∧ (∀ i, i < n → (P'.getD i BC.d).b ≠ b') ∧ Mod [] w w' := by
 refine Cl.of Try.func116 Try.ntmps116 rfl rfl (ρ := [(0, vS b 0 n c)]) rfl ?_
 refine CE.seq (CE.region ?_)
 refine WD (op_assign rfl) rfl ?_
 refine WL.end (NE.code (CE.seq (CE.region ?_)))
 refine WD (op_assign rfl) rfl ?_
 refine WL.end (NE.code (CE.seq (CE.seq (CE.region ?_))))
 refine WD (op_move rfl) rfl ?_
 refine WD (op_len rfl Try.runUnderlying25) rfl ?_
 refine WD (op_move rfl) rfl ?_
 refine WL.end (NE.code (CE.block ?_))
 refine CE.loop (fun (z : Nat × Option Addr × Nat × Nat × List BC) => [(8, vI ((z.1 : Nat) : Int)), (3, .slice z.2.1 z.1 z.2.2.1), (2, .slice none 0 0), (6, vS b 0 n c), (7, vI ((n : Nat) : Int))]) (fun (z : Nat × Option Addr × Nat × Nat × List BC) => fun W => (z.1 ≤ n) ∧ OwnL 60 w.heap.size W z.2.1 z.1 z.2.2.1 z.2.2.2.1 (D.take z.1) z.2.2.2.2 ∧ Mod [] w W) (fun (z : Nat × Option Addr × Nat × Nat × List BC) => n - z.1) (0, none, 0, 0, []) (⟨rfl, rfl, rfl, rfl, rfl, trivial⟩) ⟨(by omega), OwnL.nil, Mod.refl _ _⟩ ?_
 rintro ⟨i, A, cc, g, Q⟩ w1 ⟨hi, ow1, m1⟩
 replace hi : i ≤ n := hi
 replace ow1 : OwnL 60 w.heap.size w1 A i cc g (D.take i) Q := ow1
 have hzi := hz i
 have hpi := hp i
 show CE _ _ _ _ [(8, vI ((i : Nat) : Int)), (3, .slice A i cc), (2, .slice none 0 0), (6, vS b 0 n c), (7, vI ((n : Nat) : Int))] _
 refine CE.seq (CE.region ?_)
 refine WD (op_lti rfl rfl) rfl ?_
 refine WL.end (NE.code (CE.seq ?_))
 rcases Bool.eq_false_or_eq_true (decide (((i : Nat) : Int) < ((n : Nat) : Int))) with hb1 | hb1
 ·have hp1 := of_decide_eq_true hb1
  refine CE.cond_t rfl hb1 ?_
  refine CE.skip' (NE.code (CE.seq (CE.block (CE.seq (CE.region ?_)))))
  refine WD (op_indexSl (off' := 0 + i * 2) rfl rfl rfl Try.runUnderlying25 Try.sizeOf60 (by omega) (by omega) (by omega)) rfl ?_
  refine WD (op_loadA (i := i * 2) (cs := [vS ((P.getD i BC.d).b) 0 ((D.getD i RD.d).xs.length) ((P.getD i BC.d).c), vI ((D.getD i RD.d).at_)]) rfl Try.isAgg60 Try.sizeOf60 (r.ext m1) rfl (olc_at lD lP (show i < n by omega)) rfl) rfl ?_
  refine WL.op (op_alloc (cs := [.slice none 0 0, vI 0]) Try.zeroValue60 rfl) rfl rfl (ltb rfl) ?_
  rintro _ w2 ⟨rfl, r1, m2, z1⟩
  refine WL.op0 (op_store (i := 0) (cs := [vS ((P.getD i BC.d).b) 0 ((D.getD i RD.d).xs.length) ((P.getD i BC.d).c), vI ((D.getD i RD.d).at_)]) rfl rfl rfl Try.sizeOf60 rfl r1 rfl (lB rfl) rfl) rfl rfl ?_
  rintro _ w3 ⟨r2, m3, z2⟩
  have r3 : Row w3 w1.heap.size 0 [vS ((P.getD i BC.d).b) 0 ((D.getD i RD.d).xs.length) ((P.getD i BC.d).c), vI ((D.getD i RD.d).at_)] := Row.congr r2 rfl
  refine WL.end (NE.code (CE.region ?_))
  refine WD (op_move rfl) rfl ?_
  refine WD (op_loadA (i := 0) (cs := [vS ((P.getD i BC.d).b) 0 ((D.getD i RD.d).xs.length) ((P.getD i BC.d).c), vI ((D.getD i RD.d).at_)]) rfl Try.isAgg60 Try.sizeOf60 r3.rng rfl rfl rfl) rfl ?_
  refine WL.call (oc_call (vs := [.agg #[vS ((P.getD i BC.d).b) 0 ((D.getD i RD.d).xs.length) ((P.getD i BC.d).c), vI ((D.getD i RD.d).at_)]]) (cap := []) rfl rfl rfl Try.call152 (c_cloneRing ((D.getD i RD.d).xs.length) ((P.getD i BC.d).c) ((P.getD i BC.d).b) ((D.getD i RD.d).xs) ((D.getD i RD.d).at_) rfl (by omega) (by omega) w3 ((((OF.row F i (lQ (show i < n by omega) lD.symm)).ext m1).ext m2).mod m3 (nC (lE (lL (OF.lt F (lQ (show i < n by omega) lD.symm)) (lT m1.size lR))) nN)).rng)) rfl rfl (ltb rfl) ?_
  rintro _ w4 ⟨b'1, c'1, rfl, r4, ge1, m4⟩
  refine WL.op (op_buildSl (qs := [(0, .agg #[vS b'1 0 ((D.getD i RD.d).xs.length) c'1, vI ((D.getD i RD.d).at_)])]) (cells := #[vS b'1 0 ((D.getD i RD.d).xs.length) c'1, vI ((D.getD i RD.d).at_)]) rfl Try.runUnderlying25 Try.sizeOf60 Try.zeroValue60 (by decide) (by decide) (by kernel_rfl)) rfl rfl (ltb rfl) ?_
  rintro _ w5 ⟨rfl, r5, m5, z3⟩
  have sz1 := (lT (lT (lT (lT m1.size m2.size) m3.size) m4.size) m5.size)
  refine WL.op (op_appL (i := Try.t60) (bt := 32) rfl rfl Try.underlying25 rfl rfl rfl rfl rfl r5.rng (r4.ext m5) rfl ow1 (OwnL.mod ow1 (OwnL.mod ow1 (OwnL.mod ow1 (OwnL.mod ow1 ow1 m2 aoN) m3 (aoC (.inr lR) aoN)) m4 aoN) m5 aoN) m1.size sz1 (lT (lT m2.size m3.size) ge1) (by omega) (by decide)) rfl rfl (ltb rfl) ?_
  rintro _ w6 ⟨A1, c1, g1, b1, rfl, ow2, ge2, m6⟩
  refine WD (op_assign rfl) rfl ?_
  refine WL.end (NE.blk (NE.code (CE.region ?_)))
  refine WD (op_add (r := ((i + 1 : Nat) : Int)) rfl rfl (w_i64 (by omega) (by omega))) rfl ?_
  refine WD (op_move rfl) rfl ?_
  refine WL.end ?_
  exact NE.again ((i + 1), A1, c1, g1, (Q ++ [⟨b'1, c'1⟩])) (⟨rfl, rfl, rfl, rfl, rfl, trivial⟩) ⟨(by omega), (OwnL.congr ow2 (take_D lD (by omega))), (((((m1.nt m2).then m3 ((aC (.inr (lT m1.size lR)) aN))).nt m4).nt m5).then m6 ((aC (.inr ge2) aN)))⟩ (by first | (dsimp only; omega) | omega)
 ·have hp1 := of_decide_eq_false hb1
  refine CE.cond_f rfl hb1 ?_
  refine CE.exit' (XE.exit_then (XE.exit_then (XE.exit_here (NE.code (CE.seq (CE.region ?_))))))
  refine WD (op_move rfl) rfl ?_
  refine WD (op_assign rfl) rfl ?_
  refine WL.end (NE.code (CE.ret' ?_))
  have ei : n = i := by omega
  subst ei
  have hL1 := OwnL.congr ow1 (take_Dall lD)
  obtain ⟨rfl, r6, hG1⟩ := OwnL.out hL1 h0n
  refine XE.leave1 Try.results116 rfl ?_
  refine ⟨g, cc, Q, rfl, hL1.lP, r6, hG1, (OF.low hL1.fam lR), (fun j hj => ((hL1.ne h0n) j (show j < n by omega))), ((Mod.refl [] w).nt m1)⟩

end Go.Proofs.Ytnahhdnkbbdceaa
