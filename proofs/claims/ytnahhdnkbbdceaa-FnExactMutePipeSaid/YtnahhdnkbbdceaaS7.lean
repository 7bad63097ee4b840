/- What muting lists of rings does. -/
import Derived.Test.YtnahhdnkbbdceaaS3
set_option linter.unusedVariables false
set_option linter.unusedSimpArgs false
namespace Go.Proofs.Ytnahhdnkbbdceaa

/-- rings without sound, as long as before -/
def muteD (D : List RD) : List RD := D.map fun r => ⟨List.replicate r.xs.length 0, r.at_⟩
theorem muteD_len {D : List RD} {n : Nat} (hl : D.length = n) : (muteD D).length = n := by simpa [muteD] using hl
theorem muteD_get {D : List RD} {i : Nat} (hi : i < D.length) : (muteD D).getD i RD.d = ⟨List.replicate (D.getD i RD.d).xs.length 0, (D.getD i RD.d).at_⟩ := by
  simp [muteD, List.getD_eq_getElem?_getD, hi]
theorem muteD_small {D : List RD} {m : Nat} (hz : ∀ j, (D.getD j RD.d).xs.length ≤ m) (j : Nat) : ((muteD D).getD j RD.d).xs.length ≤ m := by
  by_cases h : j < D.length
  · rw [muteD_get h]; show (List.replicate _ _).length ≤ m; rw [List.length_replicate]; exact hz j
  · have : (muteD D).getD j RD.d = RD.d := by simp [List.getD_eq_getElem?_getD, List.getElem?_eq_none (show (muteD D).length ≤ j by rw [muteD_len rfl]; omega)]
    rw [this]; exact Nat.zero_le _
theorem muteD_take {D : List RD} {i n : Nat} (hl : D.length = n) (hi : i < n) : (muteD D).take i ++ [(⟨List.replicate (D.getD i RD.d).xs.length 0, (D.getD i RD.d).at_⟩ : RD)] = (muteD D).take (i + 1) := by
  rw [← take_D (muteD_len hl) hi, muteD_get (by omega)]

set_option maxRecDepth 100000 in
set_option maxHeartbeats 2000000 in
theorem c_l04MuteS (n : Nat) (c : Nat) (b : Nat) (D : List RD) (P : List BC) (lo : Nat) (lD : D.length = n) (lP : P.length = n) (hz : ∀ i, (D.getD i RD.d).xs.length ≤ 1048576) (hn : n ≤ 1048576) (h0n : 0 < n) (w : World) (r : Rng w b 0 (olc D P))  (F : OF lo w D P) : Cl Try.prog 88 #[vS b 0 n c] w fun v w' => ∃ (b' : Nat) (c' : Nat) (P' : List BC), v = vS b' 0 n c' ∧ (P'.length = n) ∧ Row w' b' 0 (olc (muteD D) P') ∧ w.heap.size ≤ b' ∧ OF w.heap.size w' (muteD D) P' ∧ (∀ i, i < n → (P'.getD i BC.d).b ≠ b') ∧ Mod [] w w' := by
  refine Cl.of Try.func88 Try.ntmps88 rfl rfl (ρ := [(0, vS b 0 n c)]) rfl ?_
  refine CE.seq ?_
  refine CE.region ?_
  refine WL.det (op_assign rfl) rfl rfl rfl ?_
  refine WL.end ?_
  refine NE.code ?_
  refine CE.seq ?_
  refine CE.region ?_
  refine WL.op (op_emptySl rfl Try.runUnderlying25 Try.sizeOf60) rfl rfl (ltb rfl) ?_
  rintro _ w1 ⟨rfl, r1, m1, z1⟩
  refine WL.det (op_assign rfl) rfl rfl rfl ?_
  refine WL.end ?_
  refine NE.code ?_
  iterate 2 refine CE.seq ?_
  refine CE.region ?_
  refine WL.det (op_assign rfl) rfl rfl rfl ?_
  refine WL.end ?_
  refine NE.code ?_
  refine CE.block ?_
  refine CE.loop (fun (z : Nat × Option Addr × Nat × Nat × List BC) => [(4, vI ((z.1 : Nat) : Int)), (3, .slice z.2.1 z.1 z.2.2.1), (0, vS b 0 n c), (2, .slice none 0 0)]) (fun (z : Nat × Option Addr × Nat × Nat × List BC) => fun W => (z.1 ≤ n) ∧ OwnL 60 w1.heap.size W z.2.1 z.1 z.2.2.1 z.2.2.2.1 ((muteD D).take z.1) z.2.2.2.2 ∧ Mod [] w1 W) (fun (z : Nat × Option Addr × Nat × Nat × List BC) => n - z.1) (0, (some ⟨w.heap.size, 0, none⟩), 0, 0, []) (⟨rfl, rfl, rfl, rfl, trivial⟩) ⟨(by omega), OwnL.emp, Mod.refl _ _⟩ ?_
  rintro ⟨i, A, cc, g, Q⟩ w2 ⟨hi, ow1, m2⟩
  replace hi : i ≤ n := hi
  replace ow1 : OwnL 60 w1.heap.size w2 A i cc g ((muteD D).take i) Q := ow1
  have hzi := hz i
  show CE _ _ _ _ [(4, vI ((i : Nat) : Int)), (3, .slice A i cc), (0, vS b 0 n c), (2, .slice none 0 0)] _
  iterate 2 refine CE.seq ?_
  refine CE.region ?_
  iterate 2 refine WL.det (op_move rfl) rfl rfl rfl ?_
  refine WL.det (op_len rfl Try.runUnderlying25) rfl rfl rfl ?_
  refine WL.det (op_lti rfl rfl) rfl rfl rfl ?_
  refine WL.end ?_
  refine NE.code ?_
  rcases Bool.eq_false_or_eq_true (decide (((i : Nat) : Int) < ((n : Nat) : Int))) with hb1 | hb1
  · have hp1 := of_decide_eq_true hb1
    refine CE.cond_t rfl hb1 ?_
    refine CE.skip' ?_
    refine NE.code ?_
    refine CE.seq ?_
    refine CE.block ?_
    refine CE.draw (fun _ => none) [0, 1, 2, 3, 4, 5, 6, 7, 8, 9, 10, 11, 12, 13, 14] [15, 16] [] (by kernel_rfl) (by kernel_rfl) ?_
    have md1 : Mod [] w2 w2.drew := (Mod.refl _ _).drew
    generalize w2.drew = w3 at md1 ⊢
    refine DR.det (i := 0) rfl rfl (by kernel_rfl) (.free rfl) rfl rfl (fun wD mD => op_move rfl) ?_
    refine DR.det (i := 1) rfl rfl (by kernel_rfl) (.free rfl) rfl rfl (fun wD mD => op_move rfl) ?_
    refine DR.det (i := 2) rfl rfl (by kernel_rfl) (.free rfl) rfl rfl (fun wD mD => op_move rfl) ?_
    refine DR.det (i := 3) rfl rfl (by kernel_rfl) (.free rfl) rfl rfl (fun wD mD => op_indexSl (off' := 0 + i * 2) rfl rfl rfl Try.runUnderlying25 Try.sizeOf60 (by omega) (by omega) (by omega)) ?_
    refine DR.det (i := 4) rfl rfl (by kernel_rfl) (.free rfl) rfl rfl (fun wD mD => op_fieldAddr (off' := 0 + i * 2) rfl Try.runUnderlying60 rfl rfl Try.sizeOf26 rfl) ?_
    refine DR.det (i := 5) rfl rfl (by kernel_rfl) (.free rfl) rfl rfl (fun wD mD => op_load1 (i := i * 2) rfl Try.isAgg26 ((((r.ext m1).ext m2).ext md1).ext mD) rfl (olc_get0 lD lP (show i < n by omega))) ?_
    refine DR.det (i := 6) rfl rfl (by kernel_rfl) (.free rfl) rfl rfl (fun wD mD => op_len rfl Try.runUnderlying26) ?_
    refine DR.det (i := 8) rfl rfl (by kernel_rfl) (.free rfl) rfl rfl (fun wD mD => op_move rfl) ?_
    refine DR.det (i := 9) rfl rfl (by kernel_rfl) (.free rfl) rfl rfl (fun wD mD => op_move rfl) ?_
    refine DR.det (i := 10) rfl rfl (by kernel_rfl) (.free rfl) rfl rfl (fun wD mD => op_indexSl (off' := 0 + i * 2) rfl rfl rfl Try.runUnderlying25 Try.sizeOf60 (by omega) (by omega) (by omega)) ?_
    refine DR.det (i := 11) rfl rfl (by kernel_rfl) (.free rfl) rfl rfl (fun wD mD => op_fieldAddr (off' := 0 + i * 2 + 1) rfl Try.runUnderlying60 rfl rfl Try.sizeOf2 rfl) ?_
    refine DR.det (i := 12) rfl rfl (by kernel_rfl) (.free rfl) rfl rfl (fun wD mD => op_load1 (i := i * 2 + 1) rfl Try.isAgg2 ((((r.ext m1).ext m2).ext md1).ext mD) rfl (olc_get1 lD lP (show i < n by omega))) ?_
    refine DR.one1 (i := 7) rfl rfl (by kernel_rfl) (.free rfl) rfl (ltb rfl) ?_
    intro w4 m3
    refine Op1.mono (op_makeF (i := Try.t27) rfl rfl rfl rfl Try.underlying26 rfl rfl rfl rfl (by omega)) ?_
    rintro _ w5 ⟨rfl, r2, m4, z2⟩
    refine ⟨(((Mod.refl [] w3).nt m3).nt m4), ?_⟩
    refine DR.rebase ?_
    refine DR.det (i := 13) rfl rfl (by kernel_rfl) (.free rfl) rfl rfl (fun wD mD => op_build (qs := [(0, vS w4.heap.size 0 ((D.getD i RD.d).xs.length) ((D.getD i RD.d).xs.length)), (1, vI ((D.getD i RD.d).at_))]) (cells := #[vS w4.heap.size 0 ((D.getD i RD.d).xs.length) ((D.getD i RD.d).xs.length), vI ((D.getD i RD.d).at_)]) rfl (by kernel_rfl)) ?_
    refine DR.one1 (i := 14) rfl rfl (by kernel_rfl) (.free rfl) rfl (ltb rfl) ?_
    intro w6 m5
    refine Op1.mono (op_buildSl (qs := [(0, .agg #[vS w4.heap.size 0 ((D.getD i RD.d).xs.length) ((D.getD i RD.d).xs.length), vI ((D.getD i RD.d).at_)])]) (cells := #[vS w4.heap.size 0 ((D.getD i RD.d).xs.length) ((D.getD i RD.d).xs.length), vI ((D.getD i RD.d).at_)]) rfl Try.runUnderlying25 Try.sizeOf60 Try.zeroValue60 (by decide) (by decide) (by kernel_rfl)) ?_
    rintro _ w7 ⟨rfl, r3, m6, z3⟩
    refine ⟨(((Mod.refl [] w5).nt m5).nt m6), ?_⟩
    refine DR.done rfl ?_
    intro w8 m7
    have r4 := (((r2.ext m5).ext m6).ext m7)
    have sz1 := (lT (lT (lT (lT (lT (lT m2.size md1.size) m3.size) m4.size) m5.size) m6.size) m7.size)
    refine WO.op rfl (.free rfl) rfl (ltb rfl) (op_appL (i := Try.t60) (bt := 32) rfl rfl Try.underlying25 rfl rfl rfl rfl rfl (r3.ext m7).rng r4 List.length_replicate ow1 (OwnL.mod ow1 (OwnL.mod ow1 (OwnL.mod ow1 (OwnL.mod ow1 (OwnL.mod ow1 (OwnL.mod ow1 ow1 md1 aoN) m3 aoN) m4 aoN) m5 aoN) m6 aoN) m7 aoN) m2.size sz1 (lT (lT md1.size m3.size) lR) (by omega) (by decide)) ?_
    rintro _ w9 ⟨A1, c1, g1, b1, rfl, ow2, ge1, m8⟩
    refine WO.det (op_assign rfl) rfl (.free rfl) rfl rfl ?_
    refine WO.end ?_
    refine NE.blk ?_
    refine NE.code ?_
    refine CE.region ?_
    refine WL.det (op_move rfl) rfl rfl rfl ?_
    refine WL.det (op_add (r := ((i + 1 : Nat) : Int)) rfl rfl (w_i64 (by omega) (by omega))) rfl rfl rfl ?_
    refine WL.det (op_assign rfl) rfl rfl rfl ?_
    refine WL.end ?_
    exact NE.again ((i + 1), A1, c1, g1, (Q ++ [⟨w4.heap.size, (D.getD i RD.d).xs.length⟩])) (⟨rfl, rfl, rfl, rfl, trivial⟩) ⟨(by omega), (OwnL.congr ow2 (muteD_take lD (by omega))), (((((((m2.nt md1).nt m3).nt m4).nt m5).nt m6).nt m7).then m8 ((aC (.inr ge1) aN)))⟩ (by first | (dsimp only; omega) | omega)
  · have hp1 := of_decide_eq_false hb1
    refine CE.cond_f rfl hb1 ?_
    refine CE.exit' ?_
    iterate 2 refine XE.exit_then ?_
    refine XE.exit_here ?_
    refine NE.code ?_
    refine CE.seq ?_
    refine CE.region ?_
    refine WL.det (op_move rfl) rfl rfl rfl ?_
    refine WL.det (op_assign rfl) rfl rfl rfl ?_
    refine WL.end ?_
    refine NE.code ?_
    refine CE.ret' ?_
    have ei : n = i := by omega
    subst ei
    have hL1 := OwnL.congr ow1 (take_Dall (muteD_len lD))
    obtain ⟨rfl, r5, hG1⟩ := OwnL.out hL1 h0n
    refine XE.leave1 Try.results88 rfl ?_
    refine ⟨g, cc, Q, rfl, hL1.lP, r5, (lT m1.size hG1), (OF.low hL1.fam m1.size), (fun j hj => ((hL1.ne h0n) j (show j < n by omega))), (((Mod.refl [] w).nt m1).nt m2)⟩

end Go.Proofs.Ytnahhdnkbbdceaa
