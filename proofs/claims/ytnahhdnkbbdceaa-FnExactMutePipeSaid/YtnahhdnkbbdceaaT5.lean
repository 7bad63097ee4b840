/- What muting a pipe does. -/
import Derived.Test.YtnahhdnkbbdceaaS7
import Derived.Test.YtnahhdnkbbdceaaE17
import Derived.Test.YtnahhdnkbbdceaaE21
set_option linter.unusedVariables false
set_option linter.unusedSimpArgs false
namespace Go.Proofs.Ytnahhdnkbbdceaa

theorem mute_set {D : List RD} {i m : Nat} {a : Int} (hz : ∀ j, (D.getD j RD.d).xs.length ≤ m) (j : Nat) : ((D.set i ⟨List.replicate (D.getD i RD.d).xs.length 0, a⟩).getD j RD.d).xs.length ≤ m := small_set hz (by rw [List.length_replicate]; exact hz i) j
theorem mute1 {D : List RD} (h : D.length = 1) : D.set 0 ⟨List.replicate (D.getD 0 RD.d).xs.length 0, (D.getD 0 RD.d).at_⟩ = muteD D := by
  match D, h with
  | [a], _ => rfl
theorem mute2 {D : List RD} (h : D.length = 2) : (D.set 0 ⟨List.replicate (D.getD 0 RD.d).xs.length 0, (D.getD 0 RD.d).at_⟩).set 1 ⟨List.replicate ((D.set 0 ⟨List.replicate (D.getD 0 RD.d).xs.length 0, (D.getD 0 RD.d).at_⟩).getD 1 RD.d).xs.length 0, ((D.set 0 ⟨List.replicate (D.getD 0 RD.d).xs.length 0, (D.getD 0 RD.d).at_⟩).getD 1 RD.d).at_⟩ = muteD D := by
  match D, h with
  | [a, b], _ => rfl
theorem mute3 {D : List RD} (h : D.length = 3) : ((D.set 0 ⟨List.replicate (D.getD 0 RD.d).xs.length 0, (D.getD 0 RD.d).at_⟩).set 1 ⟨List.replicate ((D.set 0 ⟨List.replicate (D.getD 0 RD.d).xs.length 0, (D.getD 0 RD.d).at_⟩).getD 1 RD.d).xs.length 0, ((D.set 0 ⟨List.replicate (D.getD 0 RD.d).xs.length 0, (D.getD 0 RD.d).at_⟩).getD 1 RD.d).at_⟩).set 2 ⟨List.replicate (((D.set 0 ⟨List.replicate (D.getD 0 RD.d).xs.length 0, (D.getD 0 RD.d).at_⟩).set 1 ⟨List.replicate ((D.set 0 ⟨List.replicate (D.getD 0 RD.d).xs.length 0, (D.getD 0 RD.d).at_⟩).getD 1 RD.d).xs.length 0, ((D.set 0 ⟨List.replicate (D.getD 0 RD.d).xs.length 0, (D.getD 0 RD.d).at_⟩).getD 1 RD.d).at_⟩).getD 2 RD.d).xs.length 0, (((D.set 0 ⟨List.replicate (D.getD 0 RD.d).xs.length 0, (D.getD 0 RD.d).at_⟩).set 1 ⟨List.replicate ((D.set 0 ⟨List.replicate (D.getD 0 RD.d).xs.length 0, (D.getD 0 RD.d).at_⟩).getD 1 RD.d).xs.length 0, ((D.set 0 ⟨List.replicate (D.getD 0 RD.d).xs.length 0, (D.getD 0 RD.d).at_⟩).getD 1 RD.d).at_⟩).getD 2 RD.d).at_⟩ = muteD D := by
  match D, h with
  | [a, b, c], _ => rfl

set_option maxRecDepth 100000 in
set_option maxHeartbeats 2000000 in
theorem c_muteR (n : Nat) (c : Nat) (b : Nat) (j : Int) (p : Nat) (k : Nat) (vs : List Value) (hn : n ≤ 1048576) (hk : k + 2 ≤ vs.length) (w : World) (q : Row w p 0 (splice vs k [vS b 0 n c, vI j])) : Cl Try.prog 89 #[vP p k] w fun v w' => ∃ (b' : Nat), v = .tuple #[] ∧ Row w' p 0 (splice vs k [vS b' 0 n n, vI j]) ∧ Row w' b' 0 (fl (List.replicate n 0)) ∧ w.heap.size ≤ b' ∧ Mod [p] w w' := by
  refine Cl.of Try.func89 Try.ntmps89 rfl rfl (ρ := [(0, vP p k)]) rfl ?_
  refine CE.region ?_
  iterate 2 refine WL.det (op_move rfl) rfl rfl rfl ?_
  refine WL.det (op_nilCheck rfl) rfl rfl rfl ?_
  refine WL.det (op_fieldAddr (off' := k) rfl Try.runUnderlying60 rfl rfl Try.sizeOf26 rfl) rfl rfl rfl ?_
  refine WL.det (op_load1 (i := k) rfl Try.isAgg26 q.rng (Nat.zero_add _) (sub_get (i := 0) hk rfl)) rfl rfl rfl ?_
  refine WL.det (op_len rfl Try.runUnderlying26) rfl rfl rfl ?_
  refine WL.op (op_makeF (i := Try.t27) rfl rfl rfl rfl Try.underlying26 rfl rfl rfl rfl (by omega)) rfl rfl (ltb rfl) ?_
  rintro _ w1 ⟨rfl, r1, m1, z1⟩
  refine WL.det (op_nilCheck rfl) rfl rfl rfl ?_
  refine WL.det (op_fieldAddr (off' := k) rfl Try.runUnderlying60 rfl rfl Try.sizeOf26 rfl) rfl rfl rfl ?_
  refine WL.op0 (op_store (i := k) (cs := [vS w.heap.size 0 n n]) rfl rfl rfl Try.sizeOf26 rfl (q.ext m1) (Nat.zero_add _) (sub_fit (i := 0) hk (lB rfl)) rfl) rfl rfl ?_
  rintro _ w2 ⟨r2, m2, z2⟩
  have r3 : Row w2 p 0 (splice vs k [vS w.heap.size 0 n n, vI j]) := Row.congr r2 (sub_put (i := 0) hk (lB rfl) rfl)
  refine WL.end ?_
  refine NE.leave0 Try.results89 ?_
  refine ⟨w.heap.size, rfl, r3, (r1.mod m2 (nC (lG (lL q.lt lR)) nN)), lR, (((Mod.refl [p] w).nt m1).then m2 ((aC (.inl (by simp)) aN)))⟩

set_option maxRecDepth 100000 in
set_option maxHeartbeats 2000000 in
theorem c_rings1 (cR : Nat) (bR : Nat) (cL : Nat) (bL : Nat) (cS : Nat) (bS : Nat) (k : Int) (kc0 : Nat) (kc1 : Nat) (kc2 : Nat) (ks0 : Nat) (ks1 : Nat) (op : Bool) (lo : Nat) (re : Nat) (sl : Nat) (p : Nat) (w : World) (q : Rng w p 0 [vS bR 0 1 cR, vS bL 0 1 cL, vS bS 0 0 cS, vI k, vF kc0, vF kc1, vF kc2, vF ks0, vF ks1, .bool op, vF lo, vF re, vF sl]) : Cl Try.prog 65 #[vP p 0] w fun v w' => ∃ (b' : Nat) (c' : Nat), v = vS b' 0 2 c' ∧ Row w' b' 0 [vP bR 0, vP bL 0] ∧ w.heap.size ≤ b' ∧ Mod [] w w' := by
  refine Cl.of Try.func65 Try.ntmps65 rfl rfl (ρ := [(0, vP p 0)]) rfl ?_
  refine CE.seq ?_
  refine CE.region ?_
  refine WL.det (op_assign rfl) rfl rfl rfl ?_
  refine WL.end ?_
  refine NE.code ?_
  refine CE.seq ?_
  refine CE.region ?_
  refine WL.det (op_assign rfl) rfl rfl rfl ?_
  refine WL.end ?_
  refine NE.code ?_
  iterate 2 refine CE.seq ?_
  refine CE.region ?_
  refine WL.det (op_move rfl) rfl rfl rfl ?_
  refine WL.det (op_nilCheck rfl) rfl rfl rfl ?_
  refine WL.det (op_fieldAddr (off' := 0) rfl Try.runUnderlying33 rfl rfl Try.sizeOf25 rfl) rfl rfl rfl ?_
  refine WL.det (op_load1 (i := 0) rfl Try.isAgg25 q rfl rfl) rfl rfl rfl ?_
  refine WL.det (op_len rfl Try.runUnderlying25) rfl rfl rfl ?_
  refine WL.det (op_move rfl) rfl rfl rfl ?_
  refine WL.end ?_
  refine NE.code ?_
  refine CE.block ?_
  refine CE.rounds 2 ?_
  refine RN.one ?_
  refine CE.seq ?_
  refine CE.region ?_
  refine WL.det (op_lti rfl rfl) rfl rfl rfl ?_
  refine WL.end ?_
  refine NE.code ?_
  refine CE.seq ?_
  refine CE.cond_t rfl rfl ?_
  refine CE.skip' ?_
  refine NE.code ?_
  refine CE.seq ?_
  refine CE.block ?_
  refine CE.seq ?_
  refine CE.region ?_
  refine WL.det (op_move rfl) rfl rfl rfl ?_
  refine WL.det (op_assign rfl) rfl rfl rfl ?_
  refine WL.end ?_
  refine NE.code ?_
  refine CE.draw (fun _ => none) [0, 1, 2, 3, 4, 5, 6, 7, 8, 9, 10, 11, 12, 13] [14, 15] [] (by kernel_rfl) (by kernel_rfl) ?_
  have md1 : Mod [] w w.drew := (Mod.refl _ _).drew
  generalize w.drew = w1 at md1 ⊢
  refine DR.det (i := 0) rfl rfl (by kernel_rfl) (.free rfl) rfl rfl (fun wD mD => op_move rfl) ?_
  refine DR.det (i := 1) rfl rfl (by kernel_rfl) (.free rfl) rfl rfl (fun wD mD => op_move rfl) ?_
  refine DR.det (i := 2) rfl rfl (by kernel_rfl) (.free rfl) rfl rfl (fun wD mD => op_nilCheck rfl) ?_
  refine DR.det (i := 3) rfl rfl (by kernel_rfl) (.free rfl) rfl rfl (fun wD mD => op_fieldAddr (off' := 0) rfl Try.runUnderlying33 rfl rfl Try.sizeOf25 rfl) ?_
  refine DR.det (i := 4) rfl rfl (by kernel_rfl) (.free rfl) rfl rfl (fun wD mD => op_load1 (i := 0) rfl Try.isAgg25 ((q.ext md1).ext mD) rfl rfl) ?_
  refine DR.det (i := 5) rfl rfl (by kernel_rfl) (.free rfl) rfl rfl (fun wD mD => op_move rfl) ?_
  refine DR.det (i := 6) rfl rfl (by kernel_rfl) (.free rfl) rfl rfl (fun wD mD => op_indexSl (off' := 0) rfl rfl rfl Try.runUnderlying25 Try.sizeOf60 (by omega) (by omega) rfl) ?_
  refine DR.det (i := 7) rfl rfl (by kernel_rfl) (.free rfl) rfl rfl (fun wD mD => op_move rfl) ?_
  refine DR.det (i := 8) rfl rfl (by kernel_rfl) (.free rfl) rfl rfl (fun wD mD => op_nilCheck rfl) ?_
  refine DR.det (i := 9) rfl rfl (by kernel_rfl) (.free rfl) rfl rfl (fun wD mD => op_fieldAddr (off' := 1) rfl Try.runUnderlying33 rfl rfl Try.sizeOf25 rfl) ?_
  refine DR.det (i := 10) rfl rfl (by kernel_rfl) (.free rfl) rfl rfl (fun wD mD => op_load1 (i := 1) rfl Try.isAgg25 ((q.ext md1).ext mD) rfl rfl) ?_
  refine DR.det (i := 11) rfl rfl (by kernel_rfl) (.free rfl) rfl rfl (fun wD mD => op_move rfl) ?_
  refine DR.det (i := 12) rfl rfl (by kernel_rfl) (.free rfl) rfl rfl (fun wD mD => op_indexSl (off' := 0) rfl rfl rfl Try.runUnderlying25 Try.sizeOf60 (by omega) (by omega) rfl) ?_
  refine DR.one1 (i := 13) rfl rfl (by kernel_rfl) (.free rfl) rfl (ltb rfl) ?_
  intro w2 m1
  refine Op1.mono (op_buildSl (qs := [(0, vP bR 0), (1, vP bL 0)]) (cells := #[vP bR 0, vP bL 0]) rfl Try.runUnderlying97 Try.sizeOf112 Try.zeroValue112 (by decide) (by decide) (by kernel_rfl)) ?_
  rintro _ w3 ⟨rfl, r1, m2, z1⟩
  refine ⟨(((Mod.refl [] w1).nt m1).nt m2), ?_⟩
  refine DR.done rfl ?_
  intro w4 m3
  refine WO.op rfl (.free rfl) rfl (ltb rfl) (op_app0 (i := Try.t112) (m := 1) (bt := 8) (news := [vP bR 0, vP bL 0]) (q := 1) (.inl rfl) rfl rfl Try.underlying97 rfl rfl rfl rfl rfl (by decide) (r1.ext m3).rng rfl rfl (by omega) (by decide)) ?_
  rintro _ w5 ⟨b1, c1, rfl, ow1, ge1, m4⟩
  have r2 : Row w5 b1 0 [vP bR 0, vP bL 0] := (Own.row1 ow1).1
  refine WO.det (op_assign rfl) rfl (.free rfl) rfl rfl ?_
  refine WO.end ?_
  refine NE.blk ?_
  refine NE.code ?_
  refine CE.region ?_
  refine WL.det (op_add (r := 1) rfl rfl (by decide)) rfl rfl rfl ?_
  refine WL.det (op_move rfl) rfl rfl rfl ?_
  refine WL.end ?_
  refine NE.round ?_
  refine RN.one ?_
  refine CE.seq ?_
  refine CE.region ?_
  refine WL.det (op_lti rfl rfl) rfl rfl rfl ?_
  refine WL.end ?_
  refine NE.code ?_
  refine CE.seq ?_
  refine CE.cond_f rfl rfl ?_
  refine CE.exit' ?_
  iterate 2 refine XE.exit_then ?_
  refine XE.exit_here ?_
  refine NE.code ?_
  refine CE.seq ?_
  refine CE.region ?_
  refine WL.det (op_move rfl) rfl rfl rfl ?_
  refine WL.det (op_assign rfl) rfl rfl rfl ?_
  refine WL.end ?_
  refine NE.code ?_
  refine CE.ret' ?_
  refine XE.leave1 Try.results65 rfl ?_
  have sz1 := (lT (lT (lT md1.size m1.size) m2.size) m3.size)
  refine ⟨b1, c1, rfl, r2, (lT sz1 ge1), ((((((Mod.refl [] w).nt md1).nt m1).nt m2).nt m3).nt m4)⟩

set_option maxRecDepth 100000 in
set_option maxHeartbeats 2000000 in
theorem c_iMute1 (GR : List RD) (GL : List RD) (xS : List Nat) (cR : Nat) (bR : Nat) (PR : List BC) (loR : Nat) (cL : Nat) (bL : Nat) (PL : List BC) (loL : Nat) (cS : Nat) (bS : Nat) (k : Int) (kc0 : Nat) (kc1 : Nat) (kc2 : Nat) (ks0 : Nat) (ks1 : Nat) (op : Bool) (lo : Nat) (re : Nat) (sl : Nat) (ZR : List RD) (ZL : List RD) (lDR : GR.length = 1) (lDL : GL.length = 1) (lnS : xS.length = 0) (hzR : ∀ i, (GR.getD i RD.d).xs.length ≤ 1048576) (hzL : ∀ i, (GL.getD i RD.d).xs.length ≤ 1048576) (lPR : PR.length = 1) (lPL : PL.length = 1) (hpR : ∀ i, i < 1 → 0 < (GR.getD i RD.d).xs.length) (hpL : ∀ i, i < 1 → 0 < (GL.getD i RD.d).xs.length) (hv : vPipe 1 1 0 GR GL xS k kc0 kc1 kc2 ks0 ks1 lo re sl = true) (eZR : ZR = muteD GR) (eZL : ZL = muteD GL) (lZR : ZR.length = 1) (lZL : ZL.length = 1) (w : World) (rR : Rng w bR 0 (olc GR PR)) (rL : Rng w bL 0 (olc GL PL)) (rS : Rng w bS 0 (fl xS))  (FR : OF loR w GR PR) (FL : OF loL w GL PL) : Cl Try.prog 32 #[.agg #[vS bR 0 1 cR, vS bL 0 1 cL, vS bS 0 0 cS, vI k, vF kc0, vF kc1, vF kc2, vF ks0, vF ks1, .bool op, vF lo, vF re, vF sl]] w fun v w' => ∃ (bR' : Nat) (cR' : Nat) (PR' : List BC) (bL' : Nat) (cL' : Nat) (PL' : List BC) (bS' : Nat) (cS' : Nat), v = .tuple #[.agg #[vS bR' 0 1 cR', vS bL' 0 1 cL', vS bS' 0 0 cS', vI k, vF kc0, vF kc1, vF kc2, vF 0, vF 0, .bool op, vF lo, vF re, vF sl], vI 0] ∧ (PR'.length = 1) ∧ (PL'.length = 1) ∧ Row w' bR' 0 (olc ZR PR') ∧ Row w' bL' 0 (olc ZL PL') ∧ Row w' bS' 0 (fl xS) ∧ w.heap.size ≤ bR' ∧ w.heap.size ≤ bL' ∧ w.heap.size ≤ bS' ∧ bR' ≠ bL' ∧ bR' ≠ bS' ∧ bL' ≠ bS' ∧ OF w.heap.size w' ZR PR' ∧ (∀ i, i < 1 → (PR'.getD i BC.d).b ≠ bR') ∧ (∀ i, i < 1 → (PR'.getD i BC.d).b ≠ bL') ∧ (∀ i, i < 1 → (PR'.getD i BC.d).b ≠ bS') ∧ (∀ i j, i < 1 → j < 1 → (PR'.getD i BC.d).b ≠ (PL'.getD j BC.d).b) ∧ OF w.heap.size w' ZL PL' ∧ (∀ i, i < 1 → (PL'.getD i BC.d).b ≠ bR') ∧ (∀ i, i < 1 → (PL'.getD i BC.d).b ≠ bL') ∧ (∀ i, i < 1 → (PL'.getD i BC.d).b ≠ bS') ∧ Mod [] w w' := by
  have hs : 1 ≤ 1 ∧ 1 ≤ 3 ∧ 1 = 1 ∧ 0 + 1 = 1 := by omega
  refine Cl.of Try.func32 Try.ntmps32 rfl rfl (ρ := [(0, .agg #[vS bR 0 1 cR, vS bL 0 1 cL, vS bS 0 0 cS, vI k, vF kc0, vF kc1, vF kc2, vF ks0, vF ks1, .bool op, vF lo, vF re, vF sl])]) rfl ?_
  refine CE.seq ?_
  refine CE.region ?_
  refine WL.op (op_box (cs := [vS bR 0 1 cR, vS bL 0 1 cL, vS bS 0 0 cS, vI k, vF kc0, vF kc1, vF kc2, vF ks0, vF ks1, .bool op, vF lo, vF re, vF sl]) rfl rfl) rfl rfl (ltb rfl) ?_
  rintro _ w1 ⟨rfl, r1, m1, z1⟩
  refine WL.op (op_alloc (cs := [.slice none 0 0, .slice none 0 0, .slice none 0 0, vI 0, vF 0, vF 0, vF 0, vF 0, vF 0, .bool false, vF 0, vF 0, vF 0]) Try.zeroValue33 rfl) rfl rfl (ltb rfl) ?_
  rintro _ w2 ⟨rfl, r2, m2, z2⟩
  refine WL.det (op_assign rfl) rfl rfl rfl ?_
  refine WL.end ?_
  refine NE.code ?_
  iterate 2 refine CE.seq ?_
  refine CE.region ?_
  refine WL.det (op_loadA (i := 0) (cs := [vS bR 0 1 cR, vS bL 0 1 cL, vS bS 0 0 cS, vI k, vF kc0, vF kc1, vF kc2, vF ks0, vF ks1, .bool op, vF lo, vF re, vF sl]) rfl Try.isAgg33 Try.sizeOf33 (r1.ext m2).rng rfl rfl rfl) rfl rfl rfl ?_
  refine WL.call (oc_call (vs := [.agg #[vS bR 0 1 cR, vS bL 0 1 cL, vS bS 0 0 cS, vI k, vF kc0, vF kc1, vF kc2, vF ks0, vF ks1, .bool op, vF lo, vF re, vF sl]]) (cap := []) rfl rfl rfl Try.call44 (c_ValidPipeS 1 GR 1 GL 0 xS cR bR PR loR cL bL PL loL cS bS k kc0 kc1 kc2 ks0 ks1 op lo re sl lDR lDL lnS (by first | assumption | exact rd_small (by assumption) (by assumption) | exact markD_small (by first | assumption | exact rd_small (by assumption) (by assumption)) _) (by first | assumption | exact rd_small (by assumption) (by assumption) | exact markD_small (by first | assumption | exact rd_small (by assumption) (by assumption)) _) lPR lPL (by first | assumption | omega) (by first | assumption | omega) (by first | assumption | omega) (by omega) w2 ((rR.ext m1).ext m2) ((rL.ext m1).ext m2) ((rS.ext m1).ext m2) ((FR.ext m1).ext m2) ((FL.ext m1).ext m2))) rfl rfl (ltb rfl) ?_
  rintro _ w3 ⟨rfl, m3⟩
  refine WL.det (op_not rfl) rfl rfl rfl ?_
  refine WL.end ?_
  refine NE.code ?_
  refine CE.cond_f rfl (bnot_t hv) ?_
  refine CE.skip' ?_
  refine NE.code ?_
  refine CE.seq ?_
  refine CE.region ?_
  refine WL.det (op_loadA (i := 0) (cs := [vS bR 0 1 cR, vS bL 0 1 cL, vS bS 0 0 cS, vI k, vF kc0, vF kc1, vF kc2, vF ks0, vF ks1, .bool op, vF lo, vF re, vF sl]) rfl Try.isAgg33 Try.sizeOf33 ((r1.ext m2).ext m3).rng rfl rfl rfl) rfl rfl rfl ?_
  have r3 := (((rR.ext m1).ext m2).ext m3)
  have r4 := (((rL.ext m1).ext m2).ext m3)
  have r5 := (((rS.ext m1).ext m2).ext m3)
  refine WL.call (oc_call (vs := [.agg #[vS bR 0 1 cR, vS bL 0 1 cL, vS bS 0 0 cS, vI k, vF kc0, vF kc1, vF kc2, vF ks0, vF ks1, .bool op, vF lo, vF re, vF sl]]) (cap := []) rfl rfl rfl Try.call63 (c_clonePipeS0 1 GR 1 GL xS cR bR PR loR cL bL PL loL cS bS k kc0 kc1 kc2 ks0 ks1 op lo re sl lDR lDL lnS (by first | assumption | exact rd_small (by assumption) (by assumption) | exact markD_small (by first | assumption | exact rd_small (by assumption) (by assumption)) _) (by first | assumption | exact rd_small (by assumption) (by assumption) | exact markD_small (by first | assumption | exact rd_small (by assumption) (by assumption)) _) lPR lPL (by first | assumption | omega) (by first | assumption | omega) (by omega) (by omega) (by first | assumption | exact vRings_pos (by assumption)) (by first | assumption | exact vRings_pos (by assumption)) w3 r3 r4 r5 (((FR.ext m1).ext m2).ext m3) (((FL.ext m1).ext m2).ext m3))) rfl rfl (ltb rfl) ?_
  rintro _ w4 ⟨bR'1, cR'1, PR'1, bL'1, cL'1, PL'1, bS'1, cS'1, rfl, h1, h2, r6, r7, r8, ge1, ge2, ge3, ne1, ne2, ne3, fm1, fn1, fn2, fn3, fn4, fm2, fn5, fn6, fn7, m4⟩
  have r9 := (((r1.ext m2).ext m3).ext m4)
  refine WL.op0 (op_store (i := 0) (cs := [vS bR'1 0 1 cR'1, vS bL'1 0 1 cL'1, vS bS'1 0 0 cS'1, vI k, vF kc0, vF kc1, vF kc2, vF ks0, vF ks1, .bool op, vF lo, vF re, vF sl]) rfl rfl rfl Try.sizeOf33 rfl r9 rfl (lB rfl) rfl) rfl rfl ?_
  rintro _ w5 ⟨r10, m5, z3⟩
  have r11 : Row w5 w.heap.size 0 [vS bR'1 0 1 cR'1, vS bL'1 0 1 cL'1, vS bS'1 0 0 cS'1, vI k, vF kc0, vF kc1, vF kc2, vF ks0, vF ks1, .bool op, vF lo, vF re, vF sl] := Row.congr r10 rfl
  refine WL.end ?_
  refine NE.code ?_
  iterate 2 refine CE.seq ?_
  refine CE.region ?_
  refine WL.call (oc_call (vs := [vP w.heap.size 0]) (cap := []) rfl rfl rfl Try.call65 (c_rings1 cR'1 bR'1 cL'1 bL'1 cS'1 bS'1 k kc0 kc1 kc2 ks0 ks1 op lo re sl w.heap.size w5 r11.rng)) rfl rfl (ltb rfl) ?_
  rintro _ w6 ⟨b'1, c'1, rfl, r12, ge4, m6⟩
  refine WL.det (op_len rfl Try.runUnderlying97) rfl rfl rfl ?_
  refine WL.det (op_move rfl) rfl rfl rfl ?_
  refine WL.end ?_
  refine NE.code ?_
  refine CE.block ?_
  refine CE.rounds 3 ?_
  refine RN.one ?_
  refine CE.seq ?_
  refine CE.region ?_
  refine WL.det (op_lti rfl rfl) rfl rfl rfl ?_
  refine WL.end ?_
  refine NE.code ?_
  refine CE.seq ?_
  refine CE.cond_t rfl rfl ?_
  refine CE.skip' ?_
  refine NE.code ?_
  refine CE.seq ?_
  refine CE.block ?_
  refine CE.seq ?_
  refine CE.region ?_
  refine WL.det (op_indexSl (off' := 0) rfl rfl rfl Try.runUnderlying97 Try.sizeOf112 (by omega) (by omega) rfl) rfl rfl rfl ?_
  refine WL.det (op_load1 (i := 0) rfl Try.isAgg112 r12.rng rfl rfl) rfl rfl rfl ?_
  refine WL.det (op_assign rfl) rfl rfl rfl ?_
  refine WL.end ?_
  refine NE.code ?_
  refine CE.region ?_
  refine WL.det (op_move rfl) rfl rfl rfl ?_
  have r13 := ((r6.mod m5 (nC (lG (lL (lL r1.lt (lT m2.size m3.size)) ge1)) nN)).ext m6)
  refine WL.call (oc_call (vs := [vP bR'1 0]) (cap := []) rfl rfl rfl Try.call89 (c_muteR ((GR.getD 0 RD.d).xs.length) ((PR'1.getD 0 BC.d).c) ((PR'1.getD 0 BC.d).b) ((GR.getD 0 RD.d).at_) bR'1 0 (olc GR PR'1) (by first | omega | exact hzR _ | exact hzL _ | exact mute_set hzR _ | exact mute_set hzL _ | exact mute_set (mute_set hzR) _ | exact mute_set (mute_set hzL) _) (olc_fit lDR h1 (show 0 < 1 by omega) rfl) w6 (Row.congr r13 (olc_part lDR h1 (show 0 < 1 by omega) rfl)))) rfl rfl (ltb rfl) ?_
  rintro _ w7 ⟨b'2, rfl, r14, r15, ge5, m7⟩
  have sz1 := (lT (lT m4.size m5.size) m6.size)
  have fm3 : OF w3.heap.size w7 (GR.set 0 ⟨List.replicate ((GR.getD 0 RD.d).xs.length) 0, ((GR.getD 0 RD.d).at_)⟩) (PR'1.set 0 ⟨b'2, (GR.getD 0 RD.d).xs.length⟩) := OF.renew ((fm1.mod m5 (fun j hj => (nC (lG (lL (lL r1.lt (lT m2.size m3.size)) (fm1.ge j (Nat.lt_of_lt_of_eq (Nat.lt_of_lt_of_eq hj lDR) lDR.symm)))) nN))).ext m6) lDR h1 (show 0 < 1 by omega) m7 (fun j hj => (nC (fn1 j hj) nN)) r15 ge5 sz1
  have fn8 : (∀ j, j < 1 → ((PR'1.set 0 ⟨b'2, (GR.getD 0 RD.d).xs.length⟩).getD j BC.d).b ≠ bR'1) := fun j hj => set_ne (c := bR'1) h1 (fun hj => fn1 j hj) (lG (lL (lL r6.lt (lT m5.size m6.size)) ge5)) hj
  have fn9 : (∀ j, j < 1 → ((PR'1.set 0 ⟨b'2, (GR.getD 0 RD.d).xs.length⟩).getD j BC.d).b ≠ bL'1) := fun j hj => set_ne (c := bL'1) h1 (fun hj => fn2 j hj) (lG (lL (lL r7.lt (lT m5.size m6.size)) ge5)) hj
  have fn10 : (∀ j, j < 1 → ((PR'1.set 0 ⟨b'2, (GR.getD 0 RD.d).xs.length⟩).getD j BC.d).b ≠ bS'1) := fun j hj => set_ne (c := bS'1) h1 (fun hj => fn3 j hj) (lG (lL (lL r8.lt (lT m5.size m6.size)) ge5)) hj
  have fn11 : (∀ j q, j < 1 → q < 1 → ((PR'1.set 0 ⟨b'2, (GR.getD 0 RD.d).xs.length⟩).getD j BC.d).b ≠ (PL'1.getD q BC.d).b) := fun j q hj hq => set_ne (c := (PL'1.getD q BC.d).b) h1 (fun hj => fn4 j q hj hq) (Ne.symm (lE (lL (OF.lt fm2 (Nat.lt_of_lt_of_eq hq lDL.symm)) (lT (lT m5.size m6.size) ge5)))) hj
  have r16 : Row w7 bR'1 0 (olc (GR.set 0 ⟨List.replicate ((GR.getD 0 RD.d).xs.length) 0, ((GR.getD 0 RD.d).at_)⟩) (PR'1.set 0 ⟨b'2, (GR.getD 0 RD.d).xs.length⟩)) := Row.congr r14 (olc_renew lDR h1 (show 0 < 1 by omega) rfl List.length_replicate)
  refine WL.end ?_
  refine NE.blk ?_
  refine NE.code ?_
  refine CE.region ?_
  refine WL.det (op_add (r := 1) rfl rfl (by decide)) rfl rfl rfl ?_
  refine WL.det (op_move rfl) rfl rfl rfl ?_
  refine WL.end ?_
  refine NE.round ?_
  refine RN.one ?_
  refine CE.seq ?_
  refine CE.region ?_
  refine WL.det (op_lti rfl rfl) rfl rfl rfl ?_
  refine WL.end ?_
  refine NE.code ?_
  refine CE.seq ?_
  refine CE.cond_t rfl rfl ?_
  refine CE.skip' ?_
  refine NE.code ?_
  refine CE.seq ?_
  refine CE.block ?_
  refine CE.seq ?_
  refine CE.region ?_
  refine WL.det (op_indexSl (off' := 1) rfl rfl rfl Try.runUnderlying97 Try.sizeOf112 (by omega) (by omega) rfl) rfl rfl rfl ?_
  refine WL.det (op_load1 (i := 1) rfl Try.isAgg112 (r12.mod m7 (nC (lG (lL (lL r6.lt m5.size) ge4)) nN)).rng rfl rfl) rfl rfl rfl ?_
  refine WL.det (op_assign rfl) rfl rfl rfl ?_
  refine WL.end ?_
  refine NE.code ?_
  refine CE.region ?_
  refine WL.det (op_move rfl) rfl rfl rfl ?_
  have r17 := (((r7.mod m5 (nC (lG (lL (lL r1.lt (lT m2.size m3.size)) ge2)) nN)).ext m6).mod m7 (nC (Ne.symm ne1) nN))
  refine WL.call (oc_call (vs := [vP bL'1 0]) (cap := []) rfl rfl rfl Try.call89 (c_muteR ((GL.getD 0 RD.d).xs.length) ((PL'1.getD 0 BC.d).c) ((PL'1.getD 0 BC.d).b) ((GL.getD 0 RD.d).at_) bL'1 0 (olc GL PL'1) (by first | omega | exact hzR _ | exact hzL _ | exact mute_set hzR _ | exact mute_set hzL _ | exact mute_set (mute_set hzR) _ | exact mute_set (mute_set hzL) _) (olc_fit lDL h2 (show 0 < 1 by omega) rfl) w7 (Row.congr r17 (olc_part lDL h2 (show 0 < 1 by omega) rfl)))) rfl rfl (ltb rfl) ?_
  rintro _ w8 ⟨b'3, rfl, r18, r19, ge6, m8⟩
  have fm4 : OF w3.heap.size w8 (GL.set 0 ⟨List.replicate ((GL.getD 0 RD.d).xs.length) 0, ((GL.getD 0 RD.d).at_)⟩) (PL'1.set 0 ⟨b'3, (GL.getD 0 RD.d).xs.length⟩) := OF.renew (((fm2.mod m5 (fun j hj => (nC (lG (lL (lL r1.lt (lT m2.size m3.size)) (fm2.ge j (Nat.lt_of_lt_of_eq (Nat.lt_of_lt_of_eq hj lDL) lDL.symm)))) nN))).ext m6).mod m7 (fun j hj => (nC (fn5 j (Nat.lt_of_lt_of_eq hj lDL)) nN))) lDL h2 (show 0 < 1 by omega) m8 (fun j hj => (nC (fn6 j hj) nN)) r19 ge6 (lT sz1 m7.size)
  have sz2 := (lT (lT m5.size m6.size) m7.size)
  have fn12 : (∀ j, j < 1 → ((PL'1.set 0 ⟨b'3, (GL.getD 0 RD.d).xs.length⟩).getD j BC.d).b ≠ bR'1) := fun j hj => set_ne (c := bR'1) h2 (fun hj => fn5 j hj) (lG (lL (lL r6.lt sz2) ge6)) hj
  have fn13 : (∀ j, j < 1 → ((PL'1.set 0 ⟨b'3, (GL.getD 0 RD.d).xs.length⟩).getD j BC.d).b ≠ bL'1) := fun j hj => set_ne (c := bL'1) h2 (fun hj => fn6 j hj) (lG (lL (lL r7.lt sz2) ge6)) hj
  have fn14 : (∀ j, j < 1 → ((PL'1.set 0 ⟨b'3, (GL.getD 0 RD.d).xs.length⟩).getD j BC.d).b ≠ bS'1) := fun j hj => set_ne (c := bS'1) h2 (fun hj => fn7 j hj) (lG (lL (lL r8.lt sz2) ge6)) hj
  have fn15 : (∀ j q, j < 1 → q < 1 → ((PR'1.set 0 ⟨b'2, (GR.getD 0 RD.d).xs.length⟩).getD j BC.d).b ≠ ((PL'1.set 0 ⟨b'3, (GL.getD 0 RD.d).xs.length⟩).getD q BC.d).b) := fun j q hj hq => Ne.symm (set_ne (c := ((PR'1.set 0 ⟨b'2, (GR.getD 0 RD.d).xs.length⟩).getD j BC.d).b) h2 (fun hq => Ne.symm (fn11 j q hj hq)) (lG (lL (OF.lt fm3 (Nat.lt_of_lt_of_eq hj ((List.length_set).trans lDR).symm)) (lT lR ge6))) hq)
  have r20 : Row w8 bL'1 0 (olc (GL.set 0 ⟨List.replicate ((GL.getD 0 RD.d).xs.length) 0, ((GL.getD 0 RD.d).at_)⟩) (PL'1.set 0 ⟨b'3, (GL.getD 0 RD.d).xs.length⟩)) := Row.congr r18 (olc_renew lDL h2 (show 0 < 1 by omega) rfl List.length_replicate)
  refine WL.end ?_
  refine NE.blk ?_
  refine NE.code ?_
  refine CE.region ?_
  refine WL.det (op_add (r := 2) rfl rfl (by decide)) rfl rfl rfl ?_
  refine WL.det (op_move rfl) rfl rfl rfl ?_
  refine WL.end ?_
  refine NE.round ?_
  refine RN.one ?_
  refine CE.seq ?_
  refine CE.region ?_
  refine WL.det (op_lti rfl rfl) rfl rfl rfl ?_
  refine WL.end ?_
  refine NE.code ?_
  refine CE.seq ?_
  refine CE.cond_f rfl rfl ?_
  refine CE.exit' ?_
  iterate 2 refine XE.exit_then ?_
  refine XE.exit_here ?_
  refine NE.code ?_
  refine CE.seq ?_
  refine CE.region ?_
  refine WL.det (op_build (qs := []) (cells := #[vF 0, vF 0]) rfl (by kernel_rfl)) rfl rfl rfl ?_
  refine WL.det (op_fieldAddr (off' := 3) rfl Try.runUnderlying33 rfl rfl Try.sizeOf31 rfl) rfl rfl rfl ?_
  refine WL.det (op_fieldAddr (off' := 7) rfl Try.runUnderlying31 rfl rfl Try.sizeOf29 rfl) rfl rfl rfl ?_
  have r21 := (((r11.ext m6).mod m7 (nC (lE (lL (lL r1.lt (lT m2.size m3.size)) ge1)) nN)).mod m8 (nC (lE (lL (lL r1.lt (lT m2.size m3.size)) ge2)) nN))
  refine WL.op0 (op_store (i := 7) (cs := [vF 0, vF 0]) rfl rfl rfl Try.sizeOf29 rfl r21 rfl (lB rfl) rfl) rfl rfl ?_
  rintro _ w9 ⟨r22, m9, z4⟩
  have r23 : Row w9 w.heap.size 0 [vS bR'1 0 1 cR'1, vS bL'1 0 1 cL'1, vS bS'1 0 0 cS'1, vI k, vF kc0, vF kc1, vF kc2, vF 0, vF 0, .bool op, vF lo, vF re, vF sl] := Row.congr r22 rfl
  refine WL.end ?_
  refine NE.code ?_
  refine CE.seq ?_
  refine CE.region ?_
  refine WL.det (op_loadA (i := 0) (cs := [vS bR'1 0 1 cR'1, vS bL'1 0 1 cL'1, vS bS'1 0 0 cS'1, vI k, vF kc0, vF kc1, vF kc2, vF 0, vF 0, .bool op, vF lo, vF re, vF sl]) rfl Try.isAgg33 Try.sizeOf33 r23.rng rfl rfl rfl) rfl rfl rfl ?_
  have r24 := (((((((r2.ext m3).ext m4).mod m5 (nC (lG (lL r1.lt lR)) nN)).ext m6).mod m7 (nC (lE (lL (lL r2.lt m3.size) ge1)) nN)).mod m8 (nC (lE (lL (lL r2.lt m3.size) ge2)) nN)).mod m9 (nC (lG (lL r1.lt lR)) nN))
  refine WL.op0 (op_store (i := 0) (cs := [vS bR'1 0 1 cR'1, vS bL'1 0 1 cL'1, vS bS'1 0 0 cS'1, vI k, vF kc0, vF kc1, vF kc2, vF 0, vF 0, .bool op, vF lo, vF re, vF sl]) rfl rfl rfl Try.sizeOf33 rfl r24 rfl (lB rfl) rfl) rfl rfl ?_
  rintro _ w10 ⟨r25, m10, z5⟩
  have r26 : Row w10 w1.heap.size 0 [vS bR'1 0 1 cR'1, vS bL'1 0 1 cL'1, vS bS'1 0 0 cS'1, vI k, vF kc0, vF kc1, vF kc2, vF 0, vF 0, .bool op, vF lo, vF re, vF sl] := Row.congr r25 rfl
  refine WL.det (op_assign rfl) rfl rfl rfl ?_
  refine WL.end ?_
  refine NE.code ?_
  refine CE.ret' ?_
  refine XE.leaveT Try.results32 (res_agg (cs := [vS bR'1 0 1 cR'1, vS bL'1 0 1 cL'1, vS bS'1 0 0 cS'1, vI k, vF kc0, vF kc1, vF kc2, vF 0, vF 0, .bool op, vF lo, vF re, vF sl]) rfl Try.isAgg33 Try.sizeOf33 r26.rng rfl (res_tmp rfl res_nil)) ?_
  have r27 := (((r16.mod m8 (nC ne1 nN)).mod m9 (nC (lG (lL (lL r1.lt (lT m2.size m3.size)) ge1)) nN)).mod m10 (nC (lG (lL (lL r2.lt m3.size) ge1)) nN))
  have r28 := ((r20.mod m9 (nC (lG (lL (lL r1.lt (lT m2.size m3.size)) ge2)) nN)).mod m10 (nC (lG (lL (lL r2.lt m3.size) ge2)) nN))
  have r29 := ((((((r8.mod m5 (nC (lG (lL (lL r1.lt (lT m2.size m3.size)) ge3)) nN)).ext m6).mod m7 (nC (Ne.symm ne2) nN)).mod m8 (nC (Ne.symm ne3) nN)).mod m9 (nC (lG (lL (lL r1.lt (lT m2.size m3.size)) ge3)) nN)).mod m10 (nC (lG (lL (lL r2.lt m3.size) ge3)) nN))
  have sz3 := (lT (lT m1.size m2.size) m3.size)
  refine ⟨bR'1, cR'1, (PR'1.set 0 ⟨b'2, (GR.getD 0 RD.d).xs.length⟩), bL'1, cL'1, (PL'1.set 0 ⟨b'3, (GL.getD 0 RD.d).xs.length⟩), bS'1, cS'1, rfl, ((List.length_set).trans h1), ((List.length_set).trans h2), (Row.congr r27 ?_), (Row.congr r28 ?_), r29, (lT sz3 ge1), (lT sz3 ge2), (lT sz3 ge3), ne1, ne2, ne3, (OF.congr (OF.low (((fm3.mod m8 (fun j hj => (nC (fn9 j (Nat.lt_of_lt_of_eq hj ((List.length_set).trans lDR))) nN))).mod m9 (fun j hj => (nC (lG (lL (lL r1.lt (lT m2.size m3.size)) (fm3.ge j (Nat.lt_of_lt_of_eq (Nat.lt_of_lt_of_eq hj ((List.length_set).trans lDR)) ((List.length_set).trans lDR).symm)))) nN))).mod m10 (fun j hj => (nC (lG (lL (lL r2.lt m3.size) (fm3.ge j (Nat.lt_of_lt_of_eq (Nat.lt_of_lt_of_eq hj ((List.length_set).trans lDR)) ((List.length_set).trans lDR).symm)))) nN))) sz3) (by first | (rw [eZR]; exact mute1 lDR) | (rw [eZL]; exact mute1 lDL))), (fun j hj => (fn8 j (show j < 1 by omega))), (fun j hj => (fn9 j (show j < 1 by omega))), (fun j hj => (fn10 j (show j < 1 by omega))), (fun j q hj hq => (fn15 j q (show j < 1 by omega) (show q < 1 by omega))), (OF.congr (OF.low ((fm4.mod m9 (fun j hj => (nC (lG (lL (lL r1.lt (lT m2.size m3.size)) (fm4.ge j (Nat.lt_of_lt_of_eq (Nat.lt_of_lt_of_eq hj ((List.length_set).trans lDL)) ((List.length_set).trans lDL).symm)))) nN))).mod m10 (fun j hj => (nC (lG (lL (lL r2.lt m3.size) (fm4.ge j (Nat.lt_of_lt_of_eq (Nat.lt_of_lt_of_eq hj ((List.length_set).trans lDL)) ((List.length_set).trans lDL).symm)))) nN))) sz3) (by first | (rw [eZR]; exact mute1 lDR) | (rw [eZL]; exact mute1 lDL))), (fun j hj => (fn12 j (show j < 1 by omega))), (fun j hj => (fn13 j (show j < 1 by omega))), (fun j hj => (fn14 j (show j < 1 by omega))), (((((((((((Mod.refl [] w).nt m1).nt m2).nt m3).nt m4).then m5 ((aC (.inr lR) aN))).nt m6).then m7 ((aC (.inr (lT sz3 ge1)) aN))).then m8 ((aC (.inr (lT sz3 ge2)) aN))).then m9 ((aC (.inr lR) aN))).then m10 ((aC (.inr (lT m1.size lR)) aN)))⟩
  all_goals subst eZR
  all_goals subst eZL
  all_goals first | rfl | (rw [mute1 lDR]; done) | (rw [mute1 lDL]; done)

set_option maxRecDepth 100000 in
set_option maxHeartbeats 2000000 in
theorem c_rings2 (cR : Nat) (bR : Nat) (cL : Nat) (bL : Nat) (cS : Nat) (bS : Nat) (k : Int) (kc0 : Nat) (kc1 : Nat) (kc2 : Nat) (ks0 : Nat) (ks1 : Nat) (op : Bool) (lo : Nat) (re : Nat) (sl : Nat) (p : Nat) (w : World) (q : Rng w p 0 [vS bR 0 2 cR, vS bL 0 2 cL, vS bS 0 1 cS, vI k, vF kc0, vF kc1, vF kc2, vF ks0, vF ks1, .bool op, vF lo, vF re, vF sl]) : Cl Try.prog 65 #[vP p 0] w fun v w' => ∃ (b' : Nat) (c' : Nat), v = vS b' 0 4 c' ∧ Row w' b' 0 [vP bR 0, vP bL 0, vP bR 2, vP bL 2] ∧ w.heap.size ≤ b' ∧ Mod [] w w' := by
  refine Cl.of Try.func65 Try.ntmps65 rfl rfl (ρ := [(0, vP p 0)]) rfl ?_
  refine CE.seq ?_
  refine CE.region ?_
  refine WL.det (op_assign rfl) rfl rfl rfl ?_
  refine WL.end ?_
  refine NE.code ?_
  refine CE.seq ?_
  refine CE.region ?_
  refine WL.det (op_assign rfl) rfl rfl rfl ?_
  refine WL.end ?_
  refine NE.code ?_
  iterate 2 refine CE.seq ?_
  refine CE.region ?_
  refine WL.det (op_move rfl) rfl rfl rfl ?_
  refine WL.det (op_nilCheck rfl) rfl rfl rfl ?_
  refine WL.det (op_fieldAddr (off' := 0) rfl Try.runUnderlying33 rfl rfl Try.sizeOf25 rfl) rfl rfl rfl ?_
  refine WL.det (op_load1 (i := 0) rfl Try.isAgg25 q rfl rfl) rfl rfl rfl ?_
  refine WL.det (op_len rfl Try.runUnderlying25) rfl rfl rfl ?_
  refine WL.det (op_move rfl) rfl rfl rfl ?_
  refine WL.end ?_
  refine NE.code ?_
  refine CE.block ?_
  refine CE.rounds 3 ?_
  refine RN.one ?_
  refine CE.seq ?_
  refine CE.region ?_
  refine WL.det (op_lti rfl rfl) rfl rfl rfl ?_
  refine WL.end ?_
  refine NE.code ?_
  refine CE.seq ?_
  refine CE.cond_t rfl rfl ?_
  refine CE.skip' ?_
  refine NE.code ?_
  refine CE.seq ?_
  refine CE.block ?_
  refine CE.seq ?_
  refine CE.region ?_
  refine WL.det (op_move rfl) rfl rfl rfl ?_
  refine WL.det (op_assign rfl) rfl rfl rfl ?_
  refine WL.end ?_
  refine NE.code ?_
  refine CE.draw (fun _ => none) [0, 1, 2, 3, 4, 5, 6, 7, 8, 9, 10, 11, 12, 13] [14, 15] [] (by kernel_rfl) (by kernel_rfl) ?_
  have md1 : Mod [] w w.drew := (Mod.refl _ _).drew
  generalize w.drew = w1 at md1 ⊢
  refine DR.det (i := 0) rfl rfl (by kernel_rfl) (.free rfl) rfl rfl (fun wD mD => op_move rfl) ?_
  refine DR.det (i := 1) rfl rfl (by kernel_rfl) (.free rfl) rfl rfl (fun wD mD => op_move rfl) ?_
  refine DR.det (i := 2) rfl rfl (by kernel_rfl) (.free rfl) rfl rfl (fun wD mD => op_nilCheck rfl) ?_
  refine DR.det (i := 3) rfl rfl (by kernel_rfl) (.free rfl) rfl rfl (fun wD mD => op_fieldAddr (off' := 0) rfl Try.runUnderlying33 rfl rfl Try.sizeOf25 rfl) ?_
  refine DR.det (i := 4) rfl rfl (by kernel_rfl) (.free rfl) rfl rfl (fun wD mD => op_load1 (i := 0) rfl Try.isAgg25 ((q.ext md1).ext mD) rfl rfl) ?_
  refine DR.det (i := 5) rfl rfl (by kernel_rfl) (.free rfl) rfl rfl (fun wD mD => op_move rfl) ?_
  refine DR.det (i := 6) rfl rfl (by kernel_rfl) (.free rfl) rfl rfl (fun wD mD => op_indexSl (off' := 0) rfl rfl rfl Try.runUnderlying25 Try.sizeOf60 (by omega) (by omega) rfl) ?_
  refine DR.det (i := 7) rfl rfl (by kernel_rfl) (.free rfl) rfl rfl (fun wD mD => op_move rfl) ?_
  refine DR.det (i := 8) rfl rfl (by kernel_rfl) (.free rfl) rfl rfl (fun wD mD => op_nilCheck rfl) ?_
  refine DR.det (i := 9) rfl rfl (by kernel_rfl) (.free rfl) rfl rfl (fun wD mD => op_fieldAddr (off' := 1) rfl Try.runUnderlying33 rfl rfl Try.sizeOf25 rfl) ?_
  refine DR.det (i := 10) rfl rfl (by kernel_rfl) (.free rfl) rfl rfl (fun wD mD => op_load1 (i := 1) rfl Try.isAgg25 ((q.ext md1).ext mD) rfl rfl) ?_
  refine DR.det (i := 11) rfl rfl (by kernel_rfl) (.free rfl) rfl rfl (fun wD mD => op_move rfl) ?_
  refine DR.det (i := 12) rfl rfl (by kernel_rfl) (.free rfl) rfl rfl (fun wD mD => op_indexSl (off' := 0) rfl rfl rfl Try.runUnderlying25 Try.sizeOf60 (by omega) (by omega) rfl) ?_
  refine DR.one1 (i := 13) rfl rfl (by kernel_rfl) (.free rfl) rfl (ltb rfl) ?_
  intro w2 m1
  refine Op1.mono (op_buildSl (qs := [(0, vP bR 0), (1, vP bL 0)]) (cells := #[vP bR 0, vP bL 0]) rfl Try.runUnderlying97 Try.sizeOf112 Try.zeroValue112 (by decide) (by decide) (by kernel_rfl)) ?_
  rintro _ w3 ⟨rfl, r1, m2, z1⟩
  refine ⟨(((Mod.refl [] w1).nt m1).nt m2), ?_⟩
  refine DR.done rfl ?_
  intro w4 m3
  refine WO.op rfl (.free rfl) rfl (ltb rfl) (op_app0 (i := Try.t112) (m := 1) (bt := 8) (news := [vP bR 0, vP bL 0]) (q := 1) (.inl rfl) rfl rfl Try.underlying97 rfl rfl rfl rfl rfl (by decide) (r1.ext m3).rng rfl rfl (by omega) (by decide)) ?_
  rintro _ w5 ⟨b1, c1, rfl, ow1, ge1, m4⟩
  have r2 : Row w5 b1 0 [vP bR 0, vP bL 0] := (Own.row1 ow1).1
  refine WO.det (op_assign rfl) rfl (.free rfl) rfl rfl ?_
  refine WO.end ?_
  refine NE.blk ?_
  refine NE.code ?_
  refine CE.region ?_
  refine WL.det (op_add (r := 1) rfl rfl (by decide)) rfl rfl rfl ?_
  refine WL.det (op_move rfl) rfl rfl rfl ?_
  refine WL.end ?_
  refine NE.round ?_
  refine RN.one ?_
  refine CE.seq ?_
  refine CE.region ?_
  refine WL.det (op_lti rfl rfl) rfl rfl rfl ?_
  refine WL.end ?_
  refine NE.code ?_
  refine CE.seq ?_
  refine CE.cond_t rfl rfl ?_
  refine CE.skip' ?_
  refine NE.code ?_
  refine CE.seq ?_
  refine CE.block ?_
  refine CE.seq ?_
  refine CE.region ?_
  refine WL.det (op_move rfl) rfl rfl rfl ?_
  refine WL.det (op_assign rfl) rfl rfl rfl ?_
  refine WL.end ?_
  refine NE.code ?_
  refine CE.draw (fun _ => none) [0, 1, 2, 3, 4, 5, 6, 7, 8, 9, 10, 11, 12, 13] [14, 15] [] (by kernel_rfl) (by kernel_rfl) ?_
  have md2 : Mod [] w5 w5.drew := (Mod.refl _ _).drew
  generalize w5.drew = w6 at md2 ⊢
  refine DR.det (i := 0) rfl rfl (by kernel_rfl) (.free rfl) rfl rfl (fun wD mD => op_move rfl) ?_
  refine DR.det (i := 1) rfl rfl (by kernel_rfl) (.free rfl) rfl rfl (fun wD mD => op_move rfl) ?_
  refine DR.det (i := 2) rfl rfl (by kernel_rfl) (.free rfl) rfl rfl (fun wD mD => op_nilCheck rfl) ?_
  refine DR.det (i := 3) rfl rfl (by kernel_rfl) (.free rfl) rfl rfl (fun wD mD => op_fieldAddr (off' := 0) rfl Try.runUnderlying33 rfl rfl Try.sizeOf25 rfl) ?_
  refine DR.det (i := 4) rfl rfl (by kernel_rfl) (.free rfl) rfl rfl (fun wD mD => op_load1 (i := 0) rfl Try.isAgg25 (((((((q.ext md1).ext m1).ext m2).ext m3).ext m4).ext md2).ext mD) rfl rfl) ?_
  refine DR.det (i := 5) rfl rfl (by kernel_rfl) (.free rfl) rfl rfl (fun wD mD => op_move rfl) ?_
  refine DR.det (i := 6) rfl rfl (by kernel_rfl) (.free rfl) rfl rfl (fun wD mD => op_indexSl (off' := 2) rfl rfl rfl Try.runUnderlying25 Try.sizeOf60 (by omega) (by omega) rfl) ?_
  refine DR.det (i := 7) rfl rfl (by kernel_rfl) (.free rfl) rfl rfl (fun wD mD => op_move rfl) ?_
  refine DR.det (i := 8) rfl rfl (by kernel_rfl) (.free rfl) rfl rfl (fun wD mD => op_nilCheck rfl) ?_
  refine DR.det (i := 9) rfl rfl (by kernel_rfl) (.free rfl) rfl rfl (fun wD mD => op_fieldAddr (off' := 1) rfl Try.runUnderlying33 rfl rfl Try.sizeOf25 rfl) ?_
  refine DR.det (i := 10) rfl rfl (by kernel_rfl) (.free rfl) rfl rfl (fun wD mD => op_load1 (i := 1) rfl Try.isAgg25 (((((((q.ext md1).ext m1).ext m2).ext m3).ext m4).ext md2).ext mD) rfl rfl) ?_
  refine DR.det (i := 11) rfl rfl (by kernel_rfl) (.free rfl) rfl rfl (fun wD mD => op_move rfl) ?_
  refine DR.det (i := 12) rfl rfl (by kernel_rfl) (.free rfl) rfl rfl (fun wD mD => op_indexSl (off' := 2) rfl rfl rfl Try.runUnderlying25 Try.sizeOf60 (by omega) (by omega) rfl) ?_
  refine DR.one1 (i := 13) rfl rfl (by kernel_rfl) (.free rfl) rfl (ltb rfl) ?_
  intro w7 m5
  refine Op1.mono (op_buildSl (qs := [(0, vP bR 2), (1, vP bL 2)]) (cells := #[vP bR 2, vP bL 2]) rfl Try.runUnderlying97 Try.sizeOf112 Try.zeroValue112 (by decide) (by decide) (by kernel_rfl)) ?_
  rintro _ w8 ⟨rfl, r3, m6, z2⟩
  refine ⟨(((Mod.refl [] w6).nt m5).nt m6), ?_⟩
  refine DR.done rfl ?_
  intro w9 m7
  have sz1 := (lT (lT (lT (lT m4.size md2.size) m5.size) m6.size) m7.size)
  refine WO.op rfl (.free rfl) rfl (ltb rfl) (op_appk (i := Try.t112) (m := 1) (bt := 8) (news := [vP bR 2, vP bL 2]) (q := 1) rfl rfl Try.underlying97 rfl rfl rfl rfl rfl (by decide) (r3.ext m7).rng rfl rfl (Own.modb (Own.modb (Own.modb (Own.modb ow1 md2 nN) m5 nN) m6 nN) m7 nN) sz1 (by omega) (by omega) (by decide)) ?_
  have sz2 := (lT (lT (lT md1.size m1.size) m2.size) m3.size)
  have sz3 := (lT (lT (lT (lT (lT sz2 m4.size) md2.size) m5.size) m6.size) m7.size)
  have sz4 := (lT (lT (lT (lT (lT m3.size m4.size) md2.size) m5.size) m6.size) m7.size)
  rintro _ w10 ⟨b2, c2, rfl, ow2, hb1, m8⟩
  have r4 : Row w10 b2 0 [vP bR 0, vP bL 0, vP bR 2, vP bL 2] := (Own.row1 ow2).1
  refine WO.det (op_assign rfl) rfl (.free rfl) rfl rfl ?_
  refine WO.end ?_
  refine NE.blk ?_
  refine NE.code ?_
  refine CE.region ?_
  refine WL.det (op_add (r := 2) rfl rfl (by decide)) rfl rfl rfl ?_
  refine WL.det (op_move rfl) rfl rfl rfl ?_
  refine WL.end ?_
  refine NE.round ?_
  refine RN.one ?_
  refine CE.seq ?_
  refine CE.region ?_
  refine WL.det (op_lti rfl rfl) rfl rfl rfl ?_
  refine WL.end ?_
  refine NE.code ?_
  refine CE.seq ?_
  refine CE.cond_f rfl rfl ?_
  refine CE.exit' ?_
  iterate 2 refine XE.exit_then ?_
  refine XE.exit_here ?_
  refine NE.code ?_
  refine CE.seq ?_
  refine CE.region ?_
  refine WL.det (op_move rfl) rfl rfl rfl ?_
  refine WL.det (op_assign rfl) rfl rfl rfl ?_
  refine WL.end ?_
  refine NE.code ?_
  refine CE.ret' ?_
  refine XE.leave1 Try.results65 rfl ?_
  refine ⟨b2, c2, rfl, r4, (lT sz2 (Own.row1 ow2).2), (((((((((((Mod.refl [] w).nt md1).nt m1).nt m2).nt m3).nt m4).nt md2).nt m5).nt m6).nt m7).then m8 ((aC (.inr (lT sz2 ge1)) aN)))⟩

set_option maxRecDepth 100000 in
set_option maxHeartbeats 2000000 in
theorem c_iMute2 (GR : List RD) (GL : List RD) (xS : List Nat) (cR : Nat) (bR : Nat) (PR : List BC) (loR : Nat) (cL : Nat) (bL : Nat) (PL : List BC) (loL : Nat) (cS : Nat) (bS : Nat) (k : Int) (kc0 : Nat) (kc1 : Nat) (kc2 : Nat) (ks0 : Nat) (ks1 : Nat) (op : Bool) (lo : Nat) (re : Nat) (sl : Nat) (ZR : List RD) (ZL : List RD) (lDR : GR.length = 2) (lDL : GL.length = 2) (lnS : xS.length = 1) (hzR : ∀ i, (GR.getD i RD.d).xs.length ≤ 1048576) (hzL : ∀ i, (GL.getD i RD.d).xs.length ≤ 1048576) (lPR : PR.length = 2) (lPL : PL.length = 2) (hpR : ∀ i, i < 2 → 0 < (GR.getD i RD.d).xs.length) (hpL : ∀ i, i < 2 → 0 < (GL.getD i RD.d).xs.length) (hv : vPipe 2 2 1 GR GL xS k kc0 kc1 kc2 ks0 ks1 lo re sl = true) (eZR : ZR = muteD GR) (eZL : ZL = muteD GL) (lZR : ZR.length = 2) (lZL : ZL.length = 2) (w : World) (rR : Rng w bR 0 (olc GR PR)) (rL : Rng w bL 0 (olc GL PL)) (rS : Rng w bS 0 (fl xS))  (FR : OF loR w GR PR) (FL : OF loL w GL PL) : Cl Try.prog 32 #[.agg #[vS bR 0 2 cR, vS bL 0 2 cL, vS bS 0 1 cS, vI k, vF kc0, vF kc1, vF kc2, vF ks0, vF ks1, .bool op, vF lo, vF re, vF sl]] w fun v w' => ∃ (bR' : Nat) (cR' : Nat) (PR' : List BC) (bL' : Nat) (cL' : Nat) (PL' : List BC) (bS' : Nat) (cS' : Nat), v = .tuple #[.agg #[vS bR' 0 2 cR', vS bL' 0 2 cL', vS bS' 0 1 cS', vI k, vF kc0, vF kc1, vF kc2, vF 0, vF 0, .bool op, vF lo, vF re, vF sl], vI 0] ∧ (PR'.length = 2) ∧ (PL'.length = 2) ∧ Row w' bR' 0 (olc ZR PR') ∧ Row w' bL' 0 (olc ZL PL') ∧ Row w' bS' 0 (fl xS) ∧ w.heap.size ≤ bR' ∧ w.heap.size ≤ bL' ∧ w.heap.size ≤ bS' ∧ bR' ≠ bL' ∧ bR' ≠ bS' ∧ bL' ≠ bS' ∧ OF w.heap.size w' ZR PR' ∧ (∀ i, i < 2 → (PR'.getD i BC.d).b ≠ bR') ∧ (∀ i, i < 2 → (PR'.getD i BC.d).b ≠ bL') ∧ (∀ i, i < 2 → (PR'.getD i BC.d).b ≠ bS') ∧ (∀ i j, i < 2 → j < 2 → (PR'.getD i BC.d).b ≠ (PL'.getD j BC.d).b) ∧ OF w.heap.size w' ZL PL' ∧ (∀ i, i < 2 → (PL'.getD i BC.d).b ≠ bR') ∧ (∀ i, i < 2 → (PL'.getD i BC.d).b ≠ bL') ∧ (∀ i, i < 2 → (PL'.getD i BC.d).b ≠ bS') ∧ Mod [] w w' := by
  have hs : 1 ≤ 2 ∧ 2 ≤ 3 ∧ 2 = 2 ∧ 1 + 1 = 2 := by omega
  refine Cl.of Try.func32 Try.ntmps32 rfl rfl (ρ := [(0, .agg #[vS bR 0 2 cR, vS bL 0 2 cL, vS bS 0 1 cS, vI k, vF kc0, vF kc1, vF kc2, vF ks0, vF ks1, .bool op, vF lo, vF re, vF sl])]) rfl ?_
  refine CE.seq ?_
  refine CE.region ?_
  refine WL.op (op_box (cs := [vS bR 0 2 cR, vS bL 0 2 cL, vS bS 0 1 cS, vI k, vF kc0, vF kc1, vF kc2, vF ks0, vF ks1, .bool op, vF lo, vF re, vF sl]) rfl rfl) rfl rfl (ltb rfl) ?_
  rintro _ w1 ⟨rfl, r1, m1, z1⟩
  refine WL.op (op_alloc (cs := [.slice none 0 0, .slice none 0 0, .slice none 0 0, vI 0, vF 0, vF 0, vF 0, vF 0, vF 0, .bool false, vF 0, vF 0, vF 0]) Try.zeroValue33 rfl) rfl rfl (ltb rfl) ?_
  rintro _ w2 ⟨rfl, r2, m2, z2⟩
  refine WL.det (op_assign rfl) rfl rfl rfl ?_
  refine WL.end ?_
  refine NE.code ?_
  iterate 2 refine CE.seq ?_
  refine CE.region ?_
  refine WL.det (op_loadA (i := 0) (cs := [vS bR 0 2 cR, vS bL 0 2 cL, vS bS 0 1 cS, vI k, vF kc0, vF kc1, vF kc2, vF ks0, vF ks1, .bool op, vF lo, vF re, vF sl]) rfl Try.isAgg33 Try.sizeOf33 (r1.ext m2).rng rfl rfl rfl) rfl rfl rfl ?_
  refine WL.call (oc_call (vs := [.agg #[vS bR 0 2 cR, vS bL 0 2 cL, vS bS 0 1 cS, vI k, vF kc0, vF kc1, vF kc2, vF ks0, vF ks1, .bool op, vF lo, vF re, vF sl]]) (cap := []) rfl rfl rfl Try.call44 (c_ValidPipeS 2 GR 2 GL 1 xS cR bR PR loR cL bL PL loL cS bS k kc0 kc1 kc2 ks0 ks1 op lo re sl lDR lDL lnS (by first | assumption | exact rd_small (by assumption) (by assumption) | exact markD_small (by first | assumption | exact rd_small (by assumption) (by assumption)) _) (by first | assumption | exact rd_small (by assumption) (by assumption) | exact markD_small (by first | assumption | exact rd_small (by assumption) (by assumption)) _) lPR lPL (by first | assumption | omega) (by first | assumption | omega) (by first | assumption | omega) (by omega) w2 ((rR.ext m1).ext m2) ((rL.ext m1).ext m2) ((rS.ext m1).ext m2) ((FR.ext m1).ext m2) ((FL.ext m1).ext m2))) rfl rfl (ltb rfl) ?_
  rintro _ w3 ⟨rfl, m3⟩
  refine WL.det (op_not rfl) rfl rfl rfl ?_
  refine WL.end ?_
  refine NE.code ?_
  refine CE.cond_f rfl (bnot_t hv) ?_
  refine CE.skip' ?_
  refine NE.code ?_
  refine CE.seq ?_
  refine CE.region ?_
  refine WL.det (op_loadA (i := 0) (cs := [vS bR 0 2 cR, vS bL 0 2 cL, vS bS 0 1 cS, vI k, vF kc0, vF kc1, vF kc2, vF ks0, vF ks1, .bool op, vF lo, vF re, vF sl]) rfl Try.isAgg33 Try.sizeOf33 ((r1.ext m2).ext m3).rng rfl rfl rfl) rfl rfl rfl ?_
  have r3 := (((rR.ext m1).ext m2).ext m3)
  have r4 := (((rL.ext m1).ext m2).ext m3)
  have r5 := (((rS.ext m1).ext m2).ext m3)
  refine WL.call (oc_call (vs := [.agg #[vS bR 0 2 cR, vS bL 0 2 cL, vS bS 0 1 cS, vI k, vF kc0, vF kc1, vF kc2, vF ks0, vF ks1, .bool op, vF lo, vF re, vF sl]]) (cap := []) rfl rfl rfl Try.call63 (c_clonePipeS 2 GR 2 GL 1 xS cR bR PR loR cL bL PL loL cS bS k kc0 kc1 kc2 ks0 ks1 op lo re sl lDR lDL lnS (by first | assumption | exact rd_small (by assumption) (by assumption) | exact markD_small (by first | assumption | exact rd_small (by assumption) (by assumption)) _) (by first | assumption | exact rd_small (by assumption) (by assumption) | exact markD_small (by first | assumption | exact rd_small (by assumption) (by assumption)) _) lPR lPL (by first | assumption | omega) (by first | assumption | omega) (by first | assumption | omega) (by omega) (by omega) (by first | assumption | exact vRings_pos (by assumption)) (by first | assumption | exact vRings_pos (by assumption)) (by first | assumption | omega) w3 r3 r4 r5 (((FR.ext m1).ext m2).ext m3) (((FL.ext m1).ext m2).ext m3))) rfl rfl (ltb rfl) ?_
  rintro _ w4 ⟨bR'1, cR'1, PR'1, bL'1, cL'1, PL'1, bS'1, cS'1, rfl, h1, h2, r6, r7, r8, ge1, ge2, ge3, ne1, ne2, ne3, fm1, fn1, fn2, fn3, fn4, fm2, fn5, fn6, fn7, m4⟩
  have r9 := (((r1.ext m2).ext m3).ext m4)
  refine WL.op0 (op_store (i := 0) (cs := [vS bR'1 0 2 cR'1, vS bL'1 0 2 cL'1, vS bS'1 0 1 cS'1, vI k, vF kc0, vF kc1, vF kc2, vF ks0, vF ks1, .bool op, vF lo, vF re, vF sl]) rfl rfl rfl Try.sizeOf33 rfl r9 rfl (lB rfl) rfl) rfl rfl ?_
  rintro _ w5 ⟨r10, m5, z3⟩
  have r11 : Row w5 w.heap.size 0 [vS bR'1 0 2 cR'1, vS bL'1 0 2 cL'1, vS bS'1 0 1 cS'1, vI k, vF kc0, vF kc1, vF kc2, vF ks0, vF ks1, .bool op, vF lo, vF re, vF sl] := Row.congr r10 rfl
  refine WL.end ?_
  refine NE.code ?_
  iterate 2 refine CE.seq ?_
  refine CE.region ?_
  refine WL.call (oc_call (vs := [vP w.heap.size 0]) (cap := []) rfl rfl rfl Try.call65 (c_rings2 cR'1 bR'1 cL'1 bL'1 cS'1 bS'1 k kc0 kc1 kc2 ks0 ks1 op lo re sl w.heap.size w5 r11.rng)) rfl rfl (ltb rfl) ?_
  rintro _ w6 ⟨b'1, c'1, rfl, r12, ge4, m6⟩
  refine WL.det (op_len rfl Try.runUnderlying97) rfl rfl rfl ?_
  refine WL.det (op_move rfl) rfl rfl rfl ?_
  refine WL.end ?_
  refine NE.code ?_
  refine CE.block ?_
  refine CE.rounds 5 ?_
  refine RN.one ?_
  refine CE.seq ?_
  refine CE.region ?_
  refine WL.det (op_lti rfl rfl) rfl rfl rfl ?_
  refine WL.end ?_
  refine NE.code ?_
  refine CE.seq ?_
  refine CE.cond_t rfl rfl ?_
  refine CE.skip' ?_
  refine NE.code ?_
  refine CE.seq ?_
  refine CE.block ?_
  refine CE.seq ?_
  refine CE.region ?_
  refine WL.det (op_indexSl (off' := 0) rfl rfl rfl Try.runUnderlying97 Try.sizeOf112 (by omega) (by omega) rfl) rfl rfl rfl ?_
  refine WL.det (op_load1 (i := 0) rfl Try.isAgg112 r12.rng rfl rfl) rfl rfl rfl ?_
  refine WL.det (op_assign rfl) rfl rfl rfl ?_
  refine WL.end ?_
  refine NE.code ?_
  refine CE.region ?_
  refine WL.det (op_move rfl) rfl rfl rfl ?_
  have r13 := ((r6.mod m5 (nC (lG (lL (lL r1.lt (lT m2.size m3.size)) ge1)) nN)).ext m6)
  refine WL.call (oc_call (vs := [vP bR'1 0]) (cap := []) rfl rfl rfl Try.call89 (c_muteR ((GR.getD 0 RD.d).xs.length) ((PR'1.getD 0 BC.d).c) ((PR'1.getD 0 BC.d).b) ((GR.getD 0 RD.d).at_) bR'1 0 (olc GR PR'1) (by first | omega | exact hzR _ | exact hzL _ | exact mute_set hzR _ | exact mute_set hzL _ | exact mute_set (mute_set hzR) _ | exact mute_set (mute_set hzL) _) (olc_fit lDR h1 (show 0 < 2 by omega) rfl) w6 (Row.congr r13 (olc_part lDR h1 (show 0 < 2 by omega) rfl)))) rfl rfl (ltb rfl) ?_
  rintro _ w7 ⟨b'2, rfl, r14, r15, ge5, m7⟩
  have sz1 := (lT (lT m4.size m5.size) m6.size)
  have fm3 : OF w3.heap.size w7 (GR.set 0 ⟨List.replicate ((GR.getD 0 RD.d).xs.length) 0, ((GR.getD 0 RD.d).at_)⟩) (PR'1.set 0 ⟨b'2, (GR.getD 0 RD.d).xs.length⟩) := OF.renew ((fm1.mod m5 (fun j hj => (nC (lG (lL (lL r1.lt (lT m2.size m3.size)) (fm1.ge j (Nat.lt_of_lt_of_eq (Nat.lt_of_lt_of_eq hj lDR) lDR.symm)))) nN))).ext m6) lDR h1 (show 0 < 2 by omega) m7 (fun j hj => (nC (fn1 j hj) nN)) r15 ge5 sz1
  have fn8 : (∀ j, j < 2 → ((PR'1.set 0 ⟨b'2, (GR.getD 0 RD.d).xs.length⟩).getD j BC.d).b ≠ bR'1) := fun j hj => set_ne (c := bR'1) h1 (fun hj => fn1 j hj) (lG (lL (lL r6.lt (lT m5.size m6.size)) ge5)) hj
  have fn9 : (∀ j, j < 2 → ((PR'1.set 0 ⟨b'2, (GR.getD 0 RD.d).xs.length⟩).getD j BC.d).b ≠ bL'1) := fun j hj => set_ne (c := bL'1) h1 (fun hj => fn2 j hj) (lG (lL (lL r7.lt (lT m5.size m6.size)) ge5)) hj
  have fn10 : (∀ j, j < 2 → ((PR'1.set 0 ⟨b'2, (GR.getD 0 RD.d).xs.length⟩).getD j BC.d).b ≠ bS'1) := fun j hj => set_ne (c := bS'1) h1 (fun hj => fn3 j hj) (lG (lL (lL r8.lt (lT m5.size m6.size)) ge5)) hj
  have fn11 : (∀ j q, j < 2 → q < 2 → ((PR'1.set 0 ⟨b'2, (GR.getD 0 RD.d).xs.length⟩).getD j BC.d).b ≠ (PL'1.getD q BC.d).b) := fun j q hj hq => set_ne (c := (PL'1.getD q BC.d).b) h1 (fun hj => fn4 j q hj hq) (Ne.symm (lE (lL (OF.lt fm2 (Nat.lt_of_lt_of_eq hq lDL.symm)) (lT (lT m5.size m6.size) ge5)))) hj
  have r16 : Row w7 bR'1 0 (olc (GR.set 0 ⟨List.replicate ((GR.getD 0 RD.d).xs.length) 0, ((GR.getD 0 RD.d).at_)⟩) (PR'1.set 0 ⟨b'2, (GR.getD 0 RD.d).xs.length⟩)) := Row.congr r14 (olc_renew lDR h1 (show 0 < 2 by omega) rfl List.length_replicate)
  refine WL.end ?_
  refine NE.blk ?_
  refine NE.code ?_
  refine CE.region ?_
  refine WL.det (op_add (r := 1) rfl rfl (by decide)) rfl rfl rfl ?_
  refine WL.det (op_move rfl) rfl rfl rfl ?_
  refine WL.end ?_
  refine NE.round ?_
  refine RN.one ?_
  refine CE.seq ?_
  refine CE.region ?_
  refine WL.det (op_lti rfl rfl) rfl rfl rfl ?_
  refine WL.end ?_
  refine NE.code ?_
  refine CE.seq ?_
  refine CE.cond_t rfl rfl ?_
  refine CE.skip' ?_
  refine NE.code ?_
  refine CE.seq ?_
  refine CE.block ?_
  refine CE.seq ?_
  refine CE.region ?_
  refine WL.det (op_indexSl (off' := 1) rfl rfl rfl Try.runUnderlying97 Try.sizeOf112 (by omega) (by omega) rfl) rfl rfl rfl ?_
  refine WL.det (op_load1 (i := 1) rfl Try.isAgg112 (r12.mod m7 (nC (lG (lL (lL r6.lt m5.size) ge4)) nN)).rng rfl rfl) rfl rfl rfl ?_
  refine WL.det (op_assign rfl) rfl rfl rfl ?_
  refine WL.end ?_
  refine NE.code ?_
  refine CE.region ?_
  refine WL.det (op_move rfl) rfl rfl rfl ?_
  have r17 := (((r7.mod m5 (nC (lG (lL (lL r1.lt (lT m2.size m3.size)) ge2)) nN)).ext m6).mod m7 (nC (Ne.symm ne1) nN))
  refine WL.call (oc_call (vs := [vP bL'1 0]) (cap := []) rfl rfl rfl Try.call89 (c_muteR ((GL.getD 0 RD.d).xs.length) ((PL'1.getD 0 BC.d).c) ((PL'1.getD 0 BC.d).b) ((GL.getD 0 RD.d).at_) bL'1 0 (olc GL PL'1) (by first | omega | exact hzR _ | exact hzL _ | exact mute_set hzR _ | exact mute_set hzL _ | exact mute_set (mute_set hzR) _ | exact mute_set (mute_set hzL) _) (olc_fit lDL h2 (show 0 < 2 by omega) rfl) w7 (Row.congr r17 (olc_part lDL h2 (show 0 < 2 by omega) rfl)))) rfl rfl (ltb rfl) ?_
  rintro _ w8 ⟨b'3, rfl, r18, r19, ge6, m8⟩
  have fm4 : OF w3.heap.size w8 (GL.set 0 ⟨List.replicate ((GL.getD 0 RD.d).xs.length) 0, ((GL.getD 0 RD.d).at_)⟩) (PL'1.set 0 ⟨b'3, (GL.getD 0 RD.d).xs.length⟩) := OF.renew (((fm2.mod m5 (fun j hj => (nC (lG (lL (lL r1.lt (lT m2.size m3.size)) (fm2.ge j (Nat.lt_of_lt_of_eq (Nat.lt_of_lt_of_eq hj lDL) lDL.symm)))) nN))).ext m6).mod m7 (fun j hj => (nC (fn5 j (Nat.lt_of_lt_of_eq hj lDL)) nN))) lDL h2 (show 0 < 2 by omega) m8 (fun j hj => (nC (fn6 j hj) nN)) r19 ge6 (lT sz1 m7.size)
  have sz2 := (lT (lT m5.size m6.size) m7.size)
  have fn12 : (∀ j, j < 2 → ((PL'1.set 0 ⟨b'3, (GL.getD 0 RD.d).xs.length⟩).getD j BC.d).b ≠ bR'1) := fun j hj => set_ne (c := bR'1) h2 (fun hj => fn5 j hj) (lG (lL (lL r6.lt sz2) ge6)) hj
  have fn13 : (∀ j, j < 2 → ((PL'1.set 0 ⟨b'3, (GL.getD 0 RD.d).xs.length⟩).getD j BC.d).b ≠ bL'1) := fun j hj => set_ne (c := bL'1) h2 (fun hj => fn6 j hj) (lG (lL (lL r7.lt sz2) ge6)) hj
  have fn14 : (∀ j, j < 2 → ((PL'1.set 0 ⟨b'3, (GL.getD 0 RD.d).xs.length⟩).getD j BC.d).b ≠ bS'1) := fun j hj => set_ne (c := bS'1) h2 (fun hj => fn7 j hj) (lG (lL (lL r8.lt sz2) ge6)) hj
  have fn15 : (∀ j q, j < 2 → q < 2 → ((PR'1.set 0 ⟨b'2, (GR.getD 0 RD.d).xs.length⟩).getD j BC.d).b ≠ ((PL'1.set 0 ⟨b'3, (GL.getD 0 RD.d).xs.length⟩).getD q BC.d).b) := fun j q hj hq => Ne.symm (set_ne (c := ((PR'1.set 0 ⟨b'2, (GR.getD 0 RD.d).xs.length⟩).getD j BC.d).b) h2 (fun hq => Ne.symm (fn11 j q hj hq)) (lG (lL (OF.lt fm3 (Nat.lt_of_lt_of_eq hj ((List.length_set).trans lDR).symm)) (lT lR ge6))) hq)
  have r20 : Row w8 bL'1 0 (olc (GL.set 0 ⟨List.replicate ((GL.getD 0 RD.d).xs.length) 0, ((GL.getD 0 RD.d).at_)⟩) (PL'1.set 0 ⟨b'3, (GL.getD 0 RD.d).xs.length⟩)) := Row.congr r18 (olc_renew lDL h2 (show 0 < 2 by omega) rfl List.length_replicate)
  refine WL.end ?_
  refine NE.blk ?_
  refine NE.code ?_
  refine CE.region ?_
  refine WL.det (op_add (r := 2) rfl rfl (by decide)) rfl rfl rfl ?_
  refine WL.det (op_move rfl) rfl rfl rfl ?_
  refine WL.end ?_
  refine NE.round ?_
  refine RN.one ?_
  refine CE.seq ?_
  refine CE.region ?_
  refine WL.det (op_lti rfl rfl) rfl rfl rfl ?_
  refine WL.end ?_
  refine NE.code ?_
  refine CE.seq ?_
  refine CE.cond_t rfl rfl ?_
  refine CE.skip' ?_
  refine NE.code ?_
  refine CE.seq ?_
  refine CE.block ?_
  refine CE.seq ?_
  refine CE.region ?_
  refine WL.det (op_indexSl (off' := 2) rfl rfl rfl Try.runUnderlying97 Try.sizeOf112 (by omega) (by omega) rfl) rfl rfl rfl ?_
  have r21 := ((r12.mod m7 (nC (lG (lL (lL r6.lt m5.size) ge4)) nN)).mod m8 (nC (lG (lL (lL r7.lt m5.size) ge4)) nN))
  refine WL.det (op_load1 (i := 2) rfl Try.isAgg112 r21.rng rfl rfl) rfl rfl rfl ?_
  refine WL.det (op_assign rfl) rfl rfl rfl ?_
  refine WL.end ?_
  refine NE.code ?_
  refine CE.region ?_
  refine WL.det (op_move rfl) rfl rfl rfl ?_
  refine WL.call (oc_call (vs := [vP bR'1 2]) (cap := []) rfl rfl rfl Try.call89 (c_muteR (((GR.set 0 ⟨List.replicate ((GR.getD 0 RD.d).xs.length) 0, ((GR.getD 0 RD.d).at_)⟩).getD 1 RD.d).xs.length) (((PR'1.set 0 ⟨b'2, (GR.getD 0 RD.d).xs.length⟩).getD 1 BC.d).c) (((PR'1.set 0 ⟨b'2, (GR.getD 0 RD.d).xs.length⟩).getD 1 BC.d).b) (((GR.set 0 ⟨List.replicate ((GR.getD 0 RD.d).xs.length) 0, ((GR.getD 0 RD.d).at_)⟩).getD 1 RD.d).at_) bR'1 2 (olc (GR.set 0 ⟨List.replicate ((GR.getD 0 RD.d).xs.length) 0, ((GR.getD 0 RD.d).at_)⟩) (PR'1.set 0 ⟨b'2, (GR.getD 0 RD.d).xs.length⟩)) (by first | omega | exact hzR _ | exact hzL _ | exact mute_set hzR _ | exact mute_set hzL _ | exact mute_set (mute_set hzR) _ | exact mute_set (mute_set hzL) _) (olc_fit ((List.length_set).trans lDR) ((List.length_set).trans h1) (show 1 < 2 by omega) rfl) w8 (Row.congr (r16.mod m8 (nC ne1 nN)) (olc_part ((List.length_set).trans lDR) ((List.length_set).trans h1) (show 1 < 2 by omega) rfl)))) rfl rfl (ltb rfl) ?_
  rintro _ w9 ⟨b'4, rfl, r22, r23, ge7, m9⟩
  have sz3 := (lT (lT sz1 m7.size) m8.size)
  have fm5 : OF w3.heap.size w9 ((GR.set 0 ⟨List.replicate ((GR.getD 0 RD.d).xs.length) 0, ((GR.getD 0 RD.d).at_)⟩).set 1 ⟨List.replicate (((GR.set 0 ⟨List.replicate ((GR.getD 0 RD.d).xs.length) 0, ((GR.getD 0 RD.d).at_)⟩).getD 1 RD.d).xs.length) 0, (((GR.set 0 ⟨List.replicate ((GR.getD 0 RD.d).xs.length) 0, ((GR.getD 0 RD.d).at_)⟩).getD 1 RD.d).at_)⟩) ((PR'1.set 0 ⟨b'2, (GR.getD 0 RD.d).xs.length⟩).set 1 ⟨b'4, ((GR.set 0 ⟨List.replicate ((GR.getD 0 RD.d).xs.length) 0, ((GR.getD 0 RD.d).at_)⟩).getD 1 RD.d).xs.length⟩) := OF.renew (fm3.mod m8 (fun j hj => (nC (fn9 j (Nat.lt_of_lt_of_eq hj ((List.length_set).trans lDR))) nN))) ((List.length_set).trans lDR) ((List.length_set).trans h1) (show 1 < 2 by omega) m9 (fun j hj => (nC (fn8 j hj) nN)) r23 ge7 sz3
  have fn16 : (∀ j, j < 2 → (((PR'1.set 0 ⟨b'2, (GR.getD 0 RD.d).xs.length⟩).set 1 ⟨b'4, ((GR.set 0 ⟨List.replicate ((GR.getD 0 RD.d).xs.length) 0, ((GR.getD 0 RD.d).at_)⟩).getD 1 RD.d).xs.length⟩).getD j BC.d).b ≠ bR'1) := fun j hj => set_ne (c := bR'1) ((List.length_set).trans h1) (fun hj => fn8 j hj) (lG (lL (lL r6.lt (lT sz2 m8.size)) ge7)) hj
  have fn17 : (∀ j, j < 2 → (((PR'1.set 0 ⟨b'2, (GR.getD 0 RD.d).xs.length⟩).set 1 ⟨b'4, ((GR.set 0 ⟨List.replicate ((GR.getD 0 RD.d).xs.length) 0, ((GR.getD 0 RD.d).at_)⟩).getD 1 RD.d).xs.length⟩).getD j BC.d).b ≠ bL'1) := fun j hj => set_ne (c := bL'1) ((List.length_set).trans h1) (fun hj => fn9 j hj) (lG (lL (lL r7.lt (lT sz2 m8.size)) ge7)) hj
  have fn18 : (∀ j, j < 2 → (((PR'1.set 0 ⟨b'2, (GR.getD 0 RD.d).xs.length⟩).set 1 ⟨b'4, ((GR.set 0 ⟨List.replicate ((GR.getD 0 RD.d).xs.length) 0, ((GR.getD 0 RD.d).at_)⟩).getD 1 RD.d).xs.length⟩).getD j BC.d).b ≠ bS'1) := fun j hj => set_ne (c := bS'1) ((List.length_set).trans h1) (fun hj => fn10 j hj) (lG (lL (lL r8.lt (lT sz2 m8.size)) ge7)) hj
  have fn19 : (∀ j q, j < 2 → q < 2 → (((PR'1.set 0 ⟨b'2, (GR.getD 0 RD.d).xs.length⟩).set 1 ⟨b'4, ((GR.set 0 ⟨List.replicate ((GR.getD 0 RD.d).xs.length) 0, ((GR.getD 0 RD.d).at_)⟩).getD 1 RD.d).xs.length⟩).getD j BC.d).b ≠ ((PL'1.set 0 ⟨b'3, (GL.getD 0 RD.d).xs.length⟩).getD q BC.d).b) := fun j q hj hq => set_ne (c := ((PL'1.set 0 ⟨b'3, (GL.getD 0 RD.d).xs.length⟩).getD q BC.d).b) ((List.length_set).trans h1) (fun hj => fn15 j q hj hq) (Ne.symm (lE (lL (OF.lt fm4 (Nat.lt_of_lt_of_eq hq ((List.length_set).trans lDL).symm)) (lT lR ge7)))) hj
  have r24 : Row w9 bR'1 0 (olc ((GR.set 0 ⟨List.replicate ((GR.getD 0 RD.d).xs.length) 0, ((GR.getD 0 RD.d).at_)⟩).set 1 ⟨List.replicate (((GR.set 0 ⟨List.replicate ((GR.getD 0 RD.d).xs.length) 0, ((GR.getD 0 RD.d).at_)⟩).getD 1 RD.d).xs.length) 0, (((GR.set 0 ⟨List.replicate ((GR.getD 0 RD.d).xs.length) 0, ((GR.getD 0 RD.d).at_)⟩).getD 1 RD.d).at_)⟩) ((PR'1.set 0 ⟨b'2, (GR.getD 0 RD.d).xs.length⟩).set 1 ⟨b'4, ((GR.set 0 ⟨List.replicate ((GR.getD 0 RD.d).xs.length) 0, ((GR.getD 0 RD.d).at_)⟩).getD 1 RD.d).xs.length⟩)) := Row.congr r22 (olc_renew ((List.length_set).trans lDR) ((List.length_set).trans h1) (show 1 < 2 by omega) rfl List.length_replicate)
  refine WL.end ?_
  refine NE.blk ?_
  refine NE.code ?_
  refine CE.region ?_
  refine WL.det (op_add (r := 3) rfl rfl (by decide)) rfl rfl rfl ?_
  refine WL.det (op_move rfl) rfl rfl rfl ?_
  refine WL.end ?_
  refine NE.round ?_
  refine RN.one ?_
  refine CE.seq ?_
  refine CE.region ?_
  refine WL.det (op_lti rfl rfl) rfl rfl rfl ?_
  refine WL.end ?_
  refine NE.code ?_
  refine CE.seq ?_
  refine CE.cond_t rfl rfl ?_
  refine CE.skip' ?_
  refine NE.code ?_
  refine CE.seq ?_
  refine CE.block ?_
  refine CE.seq ?_
  refine CE.region ?_
  refine WL.det (op_indexSl (off' := 3) rfl rfl rfl Try.runUnderlying97 Try.sizeOf112 (by omega) (by omega) rfl) rfl rfl rfl ?_
  refine WL.det (op_load1 (i := 3) rfl Try.isAgg112 (r21.mod m9 (nC (lG (lL (lL r6.lt m5.size) ge4)) nN)).rng rfl rfl) rfl rfl rfl ?_
  refine WL.det (op_assign rfl) rfl rfl rfl ?_
  refine WL.end ?_
  refine NE.code ?_
  refine CE.region ?_
  refine WL.det (op_move rfl) rfl rfl rfl ?_
  refine WL.call (oc_call (vs := [vP bL'1 2]) (cap := []) rfl rfl rfl Try.call89 (c_muteR (((GL.set 0 ⟨List.replicate ((GL.getD 0 RD.d).xs.length) 0, ((GL.getD 0 RD.d).at_)⟩).getD 1 RD.d).xs.length) (((PL'1.set 0 ⟨b'3, (GL.getD 0 RD.d).xs.length⟩).getD 1 BC.d).c) (((PL'1.set 0 ⟨b'3, (GL.getD 0 RD.d).xs.length⟩).getD 1 BC.d).b) (((GL.set 0 ⟨List.replicate ((GL.getD 0 RD.d).xs.length) 0, ((GL.getD 0 RD.d).at_)⟩).getD 1 RD.d).at_) bL'1 2 (olc (GL.set 0 ⟨List.replicate ((GL.getD 0 RD.d).xs.length) 0, ((GL.getD 0 RD.d).at_)⟩) (PL'1.set 0 ⟨b'3, (GL.getD 0 RD.d).xs.length⟩)) (by first | omega | exact hzR _ | exact hzL _ | exact mute_set hzR _ | exact mute_set hzL _ | exact mute_set (mute_set hzR) _ | exact mute_set (mute_set hzL) _) (olc_fit ((List.length_set).trans lDL) ((List.length_set).trans h2) (show 1 < 2 by omega) rfl) w9 (Row.congr (r20.mod m9 (nC (Ne.symm ne1) nN)) (olc_part ((List.length_set).trans lDL) ((List.length_set).trans h2) (show 1 < 2 by omega) rfl)))) rfl rfl (ltb rfl) ?_
  rintro _ w10 ⟨b'5, rfl, r25, r26, ge8, m10⟩
  have fm6 : OF w3.heap.size w10 ((GL.set 0 ⟨List.replicate ((GL.getD 0 RD.d).xs.length) 0, ((GL.getD 0 RD.d).at_)⟩).set 1 ⟨List.replicate (((GL.set 0 ⟨List.replicate ((GL.getD 0 RD.d).xs.length) 0, ((GL.getD 0 RD.d).at_)⟩).getD 1 RD.d).xs.length) 0, (((GL.set 0 ⟨List.replicate ((GL.getD 0 RD.d).xs.length) 0, ((GL.getD 0 RD.d).at_)⟩).getD 1 RD.d).at_)⟩) ((PL'1.set 0 ⟨b'3, (GL.getD 0 RD.d).xs.length⟩).set 1 ⟨b'5, ((GL.set 0 ⟨List.replicate ((GL.getD 0 RD.d).xs.length) 0, ((GL.getD 0 RD.d).at_)⟩).getD 1 RD.d).xs.length⟩) := OF.renew (fm4.mod m9 (fun j hj => (nC (fn12 j (Nat.lt_of_lt_of_eq hj ((List.length_set).trans lDL))) nN))) ((List.length_set).trans lDL) ((List.length_set).trans h2) (show 1 < 2 by omega) m10 (fun j hj => (nC (fn13 j hj) nN)) r26 ge8 (lT sz3 m9.size)
  have sz4 := (lT (lT sz2 m8.size) m9.size)
  have fn20 : (∀ j, j < 2 → (((PL'1.set 0 ⟨b'3, (GL.getD 0 RD.d).xs.length⟩).set 1 ⟨b'5, ((GL.set 0 ⟨List.replicate ((GL.getD 0 RD.d).xs.length) 0, ((GL.getD 0 RD.d).at_)⟩).getD 1 RD.d).xs.length⟩).getD j BC.d).b ≠ bR'1) := fun j hj => set_ne (c := bR'1) ((List.length_set).trans h2) (fun hj => fn12 j hj) (lG (lL (lL r6.lt sz4) ge8)) hj
  have fn21 : (∀ j, j < 2 → (((PL'1.set 0 ⟨b'3, (GL.getD 0 RD.d).xs.length⟩).set 1 ⟨b'5, ((GL.set 0 ⟨List.replicate ((GL.getD 0 RD.d).xs.length) 0, ((GL.getD 0 RD.d).at_)⟩).getD 1 RD.d).xs.length⟩).getD j BC.d).b ≠ bL'1) := fun j hj => set_ne (c := bL'1) ((List.length_set).trans h2) (fun hj => fn13 j hj) (lG (lL (lL r7.lt sz4) ge8)) hj
  have fn22 : (∀ j, j < 2 → (((PL'1.set 0 ⟨b'3, (GL.getD 0 RD.d).xs.length⟩).set 1 ⟨b'5, ((GL.set 0 ⟨List.replicate ((GL.getD 0 RD.d).xs.length) 0, ((GL.getD 0 RD.d).at_)⟩).getD 1 RD.d).xs.length⟩).getD j BC.d).b ≠ bS'1) := fun j hj => set_ne (c := bS'1) ((List.length_set).trans h2) (fun hj => fn14 j hj) (lG (lL (lL r8.lt sz4) ge8)) hj
  have fn23 : (∀ j q, j < 2 → q < 2 → (((PR'1.set 0 ⟨b'2, (GR.getD 0 RD.d).xs.length⟩).set 1 ⟨b'4, ((GR.set 0 ⟨List.replicate ((GR.getD 0 RD.d).xs.length) 0, ((GR.getD 0 RD.d).at_)⟩).getD 1 RD.d).xs.length⟩).getD j BC.d).b ≠ (((PL'1.set 0 ⟨b'3, (GL.getD 0 RD.d).xs.length⟩).set 1 ⟨b'5, ((GL.set 0 ⟨List.replicate ((GL.getD 0 RD.d).xs.length) 0, ((GL.getD 0 RD.d).at_)⟩).getD 1 RD.d).xs.length⟩).getD q BC.d).b) := fun j q hj hq => Ne.symm (set_ne (c := (((PR'1.set 0 ⟨b'2, (GR.getD 0 RD.d).xs.length⟩).set 1 ⟨b'4, ((GR.set 0 ⟨List.replicate ((GR.getD 0 RD.d).xs.length) 0, ((GR.getD 0 RD.d).at_)⟩).getD 1 RD.d).xs.length⟩).getD j BC.d).b) ((List.length_set).trans h2) (fun hq => Ne.symm (fn19 j q hj hq)) (lG (lL (OF.lt fm5 (Nat.lt_of_lt_of_eq hj ((List.length_set).trans ((List.length_set).trans lDR)).symm)) (lT lR ge8))) hq)
  have r27 : Row w10 bL'1 0 (olc ((GL.set 0 ⟨List.replicate ((GL.getD 0 RD.d).xs.length) 0, ((GL.getD 0 RD.d).at_)⟩).set 1 ⟨List.replicate (((GL.set 0 ⟨List.replicate ((GL.getD 0 RD.d).xs.length) 0, ((GL.getD 0 RD.d).at_)⟩).getD 1 RD.d).xs.length) 0, (((GL.set 0 ⟨List.replicate ((GL.getD 0 RD.d).xs.length) 0, ((GL.getD 0 RD.d).at_)⟩).getD 1 RD.d).at_)⟩) ((PL'1.set 0 ⟨b'3, (GL.getD 0 RD.d).xs.length⟩).set 1 ⟨b'5, ((GL.set 0 ⟨List.replicate ((GL.getD 0 RD.d).xs.length) 0, ((GL.getD 0 RD.d).at_)⟩).getD 1 RD.d).xs.length⟩)) := Row.congr r25 (olc_renew ((List.length_set).trans lDL) ((List.length_set).trans h2) (show 1 < 2 by omega) rfl List.length_replicate)
  refine WL.end ?_
  refine NE.blk ?_
  refine NE.code ?_
  refine CE.region ?_
  refine WL.det (op_add (r := 4) rfl rfl (by decide)) rfl rfl rfl ?_
  refine WL.det (op_move rfl) rfl rfl rfl ?_
  refine WL.end ?_
  refine NE.round ?_
  refine RN.one ?_
  refine CE.seq ?_
  refine CE.region ?_
  refine WL.det (op_lti rfl rfl) rfl rfl rfl ?_
  refine WL.end ?_
  refine NE.code ?_
  refine CE.seq ?_
  refine CE.cond_f rfl rfl ?_
  refine CE.exit' ?_
  iterate 2 refine XE.exit_then ?_
  refine XE.exit_here ?_
  refine NE.code ?_
  refine CE.seq ?_
  refine CE.region ?_
  refine WL.det (op_build (qs := []) (cells := #[vF 0, vF 0]) rfl (by kernel_rfl)) rfl rfl rfl ?_
  refine WL.det (op_fieldAddr (off' := 3) rfl Try.runUnderlying33 rfl rfl Try.sizeOf31 rfl) rfl rfl rfl ?_
  refine WL.det (op_fieldAddr (off' := 7) rfl Try.runUnderlying31 rfl rfl Try.sizeOf29 rfl) rfl rfl rfl ?_
  have r28 := (((((r11.ext m6).mod m7 (nC (lE (lL (lL r1.lt (lT m2.size m3.size)) ge1)) nN)).mod m8 (nC (lE (lL (lL r1.lt (lT m2.size m3.size)) ge2)) nN)).mod m9 (nC (lE (lL (lL r1.lt (lT m2.size m3.size)) ge1)) nN)).mod m10 (nC (lE (lL (lL r1.lt (lT m2.size m3.size)) ge2)) nN))
  refine WL.op0 (op_store (i := 7) (cs := [vF 0, vF 0]) rfl rfl rfl Try.sizeOf29 rfl r28 rfl (lB rfl) rfl) rfl rfl ?_
  rintro _ w11 ⟨r29, m11, z4⟩
  have r30 : Row w11 w.heap.size 0 [vS bR'1 0 2 cR'1, vS bL'1 0 2 cL'1, vS bS'1 0 1 cS'1, vI k, vF kc0, vF kc1, vF kc2, vF 0, vF 0, .bool op, vF lo, vF re, vF sl] := Row.congr r29 rfl
  refine WL.end ?_
  refine NE.code ?_
  refine CE.seq ?_
  refine CE.region ?_
  refine WL.det (op_loadA (i := 0) (cs := [vS bR'1 0 2 cR'1, vS bL'1 0 2 cL'1, vS bS'1 0 1 cS'1, vI k, vF kc0, vF kc1, vF kc2, vF 0, vF 0, .bool op, vF lo, vF re, vF sl]) rfl Try.isAgg33 Try.sizeOf33 r30.rng rfl rfl rfl) rfl rfl rfl ?_
  have r31 := (((((((((r2.ext m3).ext m4).mod m5 (nC (lG (lL r1.lt lR)) nN)).ext m6).mod m7 (nC (lE (lL (lL r2.lt m3.size) ge1)) nN)).mod m8 (nC (lE (lL (lL r2.lt m3.size) ge2)) nN)).mod m9 (nC (lE (lL (lL r2.lt m3.size) ge1)) nN)).mod m10 (nC (lE (lL (lL r2.lt m3.size) ge2)) nN)).mod m11 (nC (lG (lL r1.lt lR)) nN))
  refine WL.op0 (op_store (i := 0) (cs := [vS bR'1 0 2 cR'1, vS bL'1 0 2 cL'1, vS bS'1 0 1 cS'1, vI k, vF kc0, vF kc1, vF kc2, vF 0, vF 0, .bool op, vF lo, vF re, vF sl]) rfl rfl rfl Try.sizeOf33 rfl r31 rfl (lB rfl) rfl) rfl rfl ?_
  rintro _ w12 ⟨r32, m12, z5⟩
  have r33 : Row w12 w1.heap.size 0 [vS bR'1 0 2 cR'1, vS bL'1 0 2 cL'1, vS bS'1 0 1 cS'1, vI k, vF kc0, vF kc1, vF kc2, vF 0, vF 0, .bool op, vF lo, vF re, vF sl] := Row.congr r32 rfl
  refine WL.det (op_assign rfl) rfl rfl rfl ?_
  refine WL.end ?_
  refine NE.code ?_
  refine CE.ret' ?_
  refine XE.leaveT Try.results32 (res_agg (cs := [vS bR'1 0 2 cR'1, vS bL'1 0 2 cL'1, vS bS'1 0 1 cS'1, vI k, vF kc0, vF kc1, vF kc2, vF 0, vF 0, .bool op, vF lo, vF re, vF sl]) rfl Try.isAgg33 Try.sizeOf33 r33.rng rfl (res_tmp rfl res_nil)) ?_
  have r34 := (((r24.mod m10 (nC ne1 nN)).mod m11 (nC (lG (lL (lL r1.lt (lT m2.size m3.size)) ge1)) nN)).mod m12 (nC (lG (lL (lL r2.lt m3.size) ge1)) nN))
  have r35 := ((r27.mod m11 (nC (lG (lL (lL r1.lt (lT m2.size m3.size)) ge2)) nN)).mod m12 (nC (lG (lL (lL r2.lt m3.size) ge2)) nN))
  have r36 := ((((((((r8.mod m5 (nC (lG (lL (lL r1.lt (lT m2.size m3.size)) ge3)) nN)).ext m6).mod m7 (nC (Ne.symm ne2) nN)).mod m8 (nC (Ne.symm ne3) nN)).mod m9 (nC (Ne.symm ne2) nN)).mod m10 (nC (Ne.symm ne3) nN)).mod m11 (nC (lG (lL (lL r1.lt (lT m2.size m3.size)) ge3)) nN)).mod m12 (nC (lG (lL (lL r2.lt m3.size) ge3)) nN))
  have sz5 := (lT (lT m1.size m2.size) m3.size)
  refine ⟨bR'1, cR'1, ((PR'1.set 0 ⟨b'2, (GR.getD 0 RD.d).xs.length⟩).set 1 ⟨b'4, ((GR.set 0 ⟨List.replicate ((GR.getD 0 RD.d).xs.length) 0, ((GR.getD 0 RD.d).at_)⟩).getD 1 RD.d).xs.length⟩), bL'1, cL'1, ((PL'1.set 0 ⟨b'3, (GL.getD 0 RD.d).xs.length⟩).set 1 ⟨b'5, ((GL.set 0 ⟨List.replicate ((GL.getD 0 RD.d).xs.length) 0, ((GL.getD 0 RD.d).at_)⟩).getD 1 RD.d).xs.length⟩), bS'1, cS'1, rfl, ((List.length_set).trans ((List.length_set).trans h1)), ((List.length_set).trans ((List.length_set).trans h2)), (Row.congr r34 ?_), (Row.congr r35 ?_), r36, (lT sz5 ge1), (lT sz5 ge2), (lT sz5 ge3), ne1, ne2, ne3, (OF.congr (OF.low (((fm5.mod m10 (fun j hj => (nC (fn17 j (Nat.lt_of_lt_of_eq hj ((List.length_set).trans ((List.length_set).trans lDR)))) nN))).mod m11 (fun j hj => (nC (lG (lL (lL r1.lt (lT m2.size m3.size)) (fm5.ge j (Nat.lt_of_lt_of_eq (Nat.lt_of_lt_of_eq hj ((List.length_set).trans ((List.length_set).trans lDR))) ((List.length_set).trans ((List.length_set).trans lDR)).symm)))) nN))).mod m12 (fun j hj => (nC (lG (lL (lL r2.lt m3.size) (fm5.ge j (Nat.lt_of_lt_of_eq (Nat.lt_of_lt_of_eq hj ((List.length_set).trans ((List.length_set).trans lDR))) ((List.length_set).trans ((List.length_set).trans lDR)).symm)))) nN))) sz5) (by first | (rw [eZR]; exact mute2 lDR) | (rw [eZL]; exact mute2 lDL))), (fun j hj => (fn16 j (show j < 2 by omega))), (fun j hj => (fn17 j (show j < 2 by omega))), (fun j hj => (fn18 j (show j < 2 by omega))), (fun j q hj hq => (fn23 j q (show j < 2 by omega) (show q < 2 by omega))), (OF.congr (OF.low ((fm6.mod m11 (fun j hj => (nC (lG (lL (lL r1.lt (lT m2.size m3.size)) (fm6.ge j (Nat.lt_of_lt_of_eq (Nat.lt_of_lt_of_eq hj ((List.length_set).trans ((List.length_set).trans lDL))) ((List.length_set).trans ((List.length_set).trans lDL)).symm)))) nN))).mod m12 (fun j hj => (nC (lG (lL (lL r2.lt m3.size) (fm6.ge j (Nat.lt_of_lt_of_eq (Nat.lt_of_lt_of_eq hj ((List.length_set).trans ((List.length_set).trans lDL))) ((List.length_set).trans ((List.length_set).trans lDL)).symm)))) nN))) sz5) (by first | (rw [eZR]; exact mute2 lDR) | (rw [eZL]; exact mute2 lDL))), (fun j hj => (fn20 j (show j < 2 by omega))), (fun j hj => (fn21 j (show j < 2 by omega))), (fun j hj => (fn22 j (show j < 2 by omega))), (((((((((((((Mod.refl [] w).nt m1).nt m2).nt m3).nt m4).then m5 ((aC (.inr lR) aN))).nt m6).then m7 ((aC (.inr (lT sz5 ge1)) aN))).then m8 ((aC (.inr (lT sz5 ge2)) aN))).then m9 ((aC (.inr (lT sz5 ge1)) aN))).then m10 ((aC (.inr (lT sz5 ge2)) aN))).then m11 ((aC (.inr lR) aN))).then m12 ((aC (.inr (lT m1.size lR)) aN)))⟩
  all_goals subst eZR
  all_goals subst eZL
  all_goals first | rfl | (rw [mute2 lDR]; done) | (rw [mute2 lDL]; done)

set_option maxRecDepth 100000 in
set_option maxHeartbeats 2000000 in
theorem c_rings3 (cR : Nat) (bR : Nat) (cL : Nat) (bL : Nat) (cS : Nat) (bS : Nat) (k : Int) (kc0 : Nat) (kc1 : Nat) (kc2 : Nat) (ks0 : Nat) (ks1 : Nat) (op : Bool) (lo : Nat) (re : Nat) (sl : Nat) (p : Nat) (w : World) (q : Rng w p 0 [vS bR 0 3 cR, vS bL 0 3 cL, vS bS 0 2 cS, vI k, vF kc0, vF kc1, vF kc2, vF ks0, vF ks1, .bool op, vF lo, vF re, vF sl]) : Cl Try.prog 65 #[vP p 0] w fun v w' => ∃ (b' : Nat) (c' : Nat), v = vS b' 0 6 c' ∧ Row w' b' 0 [vP bR 0, vP bL 0, vP bR 2, vP bL 2, vP bR 4, vP bL 4] ∧ w.heap.size ≤ b' ∧ Mod [] w w' := by
  refine Cl.of Try.func65 Try.ntmps65 rfl rfl (ρ := [(0, vP p 0)]) rfl ?_
  refine CE.seq ?_
  refine CE.region ?_
  refine WL.det (op_assign rfl) rfl rfl rfl ?_
  refine WL.end ?_
  refine NE.code ?_
  refine CE.seq ?_
  refine CE.region ?_
  refine WL.det (op_assign rfl) rfl rfl rfl ?_
  refine WL.end ?_
  refine NE.code ?_
  iterate 2 refine CE.seq ?_
  refine CE.region ?_
  refine WL.det (op_move rfl) rfl rfl rfl ?_
  refine WL.det (op_nilCheck rfl) rfl rfl rfl ?_
  refine WL.det (op_fieldAddr (off' := 0) rfl Try.runUnderlying33 rfl rfl Try.sizeOf25 rfl) rfl rfl rfl ?_
  refine WL.det (op_load1 (i := 0) rfl Try.isAgg25 q rfl rfl) rfl rfl rfl ?_
  refine WL.det (op_len rfl Try.runUnderlying25) rfl rfl rfl ?_
  refine WL.det (op_move rfl) rfl rfl rfl ?_
  refine WL.end ?_
  refine NE.code ?_
  refine CE.block ?_
  refine CE.rounds 4 ?_
  refine RN.one ?_
  refine CE.seq ?_
  refine CE.region ?_
  refine WL.det (op_lti rfl rfl) rfl rfl rfl ?_
  refine WL.end ?_
  refine NE.code ?_
  refine CE.seq ?_
  refine CE.cond_t rfl rfl ?_
  refine CE.skip' ?_
  refine NE.code ?_
  refine CE.seq ?_
  refine CE.block ?_
  refine CE.seq ?_
  refine CE.region ?_
  refine WL.det (op_move rfl) rfl rfl rfl ?_
  refine WL.det (op_assign rfl) rfl rfl rfl ?_
  refine WL.end ?_
  refine NE.code ?_
  refine CE.draw (fun _ => none) [0, 1, 2, 3, 4, 5, 6, 7, 8, 9, 10, 11, 12, 13] [14, 15] [] (by kernel_rfl) (by kernel_rfl) ?_
  have md1 : Mod [] w w.drew := (Mod.refl _ _).drew
  generalize w.drew = w1 at md1 ⊢
  refine DR.det (i := 0) rfl rfl (by kernel_rfl) (.free rfl) rfl rfl (fun wD mD => op_move rfl) ?_
  refine DR.det (i := 1) rfl rfl (by kernel_rfl) (.free rfl) rfl rfl (fun wD mD => op_move rfl) ?_
  refine DR.det (i := 2) rfl rfl (by kernel_rfl) (.free rfl) rfl rfl (fun wD mD => op_nilCheck rfl) ?_
  refine DR.det (i := 3) rfl rfl (by kernel_rfl) (.free rfl) rfl rfl (fun wD mD => op_fieldAddr (off' := 0) rfl Try.runUnderlying33 rfl rfl Try.sizeOf25 rfl) ?_
  refine DR.det (i := 4) rfl rfl (by kernel_rfl) (.free rfl) rfl rfl (fun wD mD => op_load1 (i := 0) rfl Try.isAgg25 ((q.ext md1).ext mD) rfl rfl) ?_
  refine DR.det (i := 5) rfl rfl (by kernel_rfl) (.free rfl) rfl rfl (fun wD mD => op_move rfl) ?_
  refine DR.det (i := 6) rfl rfl (by kernel_rfl) (.free rfl) rfl rfl (fun wD mD => op_indexSl (off' := 0) rfl rfl rfl Try.runUnderlying25 Try.sizeOf60 (by omega) (by omega) rfl) ?_
  refine DR.det (i := 7) rfl rfl (by kernel_rfl) (.free rfl) rfl rfl (fun wD mD => op_move rfl) ?_
  refine DR.det (i := 8) rfl rfl (by kernel_rfl) (.free rfl) rfl rfl (fun wD mD => op_nilCheck rfl) ?_
  refine DR.det (i := 9) rfl rfl (by kernel_rfl) (.free rfl) rfl rfl (fun wD mD => op_fieldAddr (off' := 1) rfl Try.runUnderlying33 rfl rfl Try.sizeOf25 rfl) ?_
  refine DR.det (i := 10) rfl rfl (by kernel_rfl) (.free rfl) rfl rfl (fun wD mD => op_load1 (i := 1) rfl Try.isAgg25 ((q.ext md1).ext mD) rfl rfl) ?_
  refine DR.det (i := 11) rfl rfl (by kernel_rfl) (.free rfl) rfl rfl (fun wD mD => op_move rfl) ?_
  refine DR.det (i := 12) rfl rfl (by kernel_rfl) (.free rfl) rfl rfl (fun wD mD => op_indexSl (off' := 0) rfl rfl rfl Try.runUnderlying25 Try.sizeOf60 (by omega) (by omega) rfl) ?_
  refine DR.one1 (i := 13) rfl rfl (by kernel_rfl) (.free rfl) rfl (ltb rfl) ?_
  intro w2 m1
  refine Op1.mono (op_buildSl (qs := [(0, vP bR 0), (1, vP bL 0)]) (cells := #[vP bR 0, vP bL 0]) rfl Try.runUnderlying97 Try.sizeOf112 Try.zeroValue112 (by decide) (by decide) (by kernel_rfl)) ?_
  rintro _ w3 ⟨rfl, r1, m2, z1⟩
  refine ⟨(((Mod.refl [] w1).nt m1).nt m2), ?_⟩
  refine DR.done rfl ?_
  intro w4 m3
  refine WO.op rfl (.free rfl) rfl (ltb rfl) (op_app0 (i := Try.t112) (m := 1) (bt := 8) (news := [vP bR 0, vP bL 0]) (q := 1) (.inl rfl) rfl rfl Try.underlying97 rfl rfl rfl rfl rfl (by decide) (r1.ext m3).rng rfl rfl (by omega) (by decide)) ?_
  rintro _ w5 ⟨b1, c1, rfl, ow1, ge1, m4⟩
  have r2 : Row w5 b1 0 [vP bR 0, vP bL 0] := (Own.row1 ow1).1
  refine WO.det (op_assign rfl) rfl (.free rfl) rfl rfl ?_
  refine WO.end ?_
  refine NE.blk ?_
  refine NE.code ?_
  refine CE.region ?_
  refine WL.det (op_add (r := 1) rfl rfl (by decide)) rfl rfl rfl ?_
  refine WL.det (op_move rfl) rfl rfl rfl ?_
  refine WL.end ?_
  refine NE.round ?_
  refine RN.one ?_
  refine CE.seq ?_
  refine CE.region ?_
  refine WL.det (op_lti rfl rfl) rfl rfl rfl ?_
  refine WL.end ?_
  refine NE.code ?_
  refine CE.seq ?_
  refine CE.cond_t rfl rfl ?_
  refine CE.skip' ?_
  refine NE.code ?_
  refine CE.seq ?_
  refine CE.block ?_
  refine CE.seq ?_
  refine CE.region ?_
  refine WL.det (op_move rfl) rfl rfl rfl ?_
  refine WL.det (op_assign rfl) rfl rfl rfl ?_
  refine WL.end ?_
  refine NE.code ?_
  refine CE.draw (fun _ => none) [0, 1, 2, 3, 4, 5, 6, 7, 8, 9, 10, 11, 12, 13] [14, 15] [] (by kernel_rfl) (by kernel_rfl) ?_
  have md2 : Mod [] w5 w5.drew := (Mod.refl _ _).drew
  generalize w5.drew = w6 at md2 ⊢
  refine DR.det (i := 0) rfl rfl (by kernel_rfl) (.free rfl) rfl rfl (fun wD mD => op_move rfl) ?_
  refine DR.det (i := 1) rfl rfl (by kernel_rfl) (.free rfl) rfl rfl (fun wD mD => op_move rfl) ?_
  refine DR.det (i := 2) rfl rfl (by kernel_rfl) (.free rfl) rfl rfl (fun wD mD => op_nilCheck rfl) ?_
  refine DR.det (i := 3) rfl rfl (by kernel_rfl) (.free rfl) rfl rfl (fun wD mD => op_fieldAddr (off' := 0) rfl Try.runUnderlying33 rfl rfl Try.sizeOf25 rfl) ?_
  refine DR.det (i := 4) rfl rfl (by kernel_rfl) (.free rfl) rfl rfl (fun wD mD => op_load1 (i := 0) rfl Try.isAgg25 (((((((q.ext md1).ext m1).ext m2).ext m3).ext m4).ext md2).ext mD) rfl rfl) ?_
  refine DR.det (i := 5) rfl rfl (by kernel_rfl) (.free rfl) rfl rfl (fun wD mD => op_move rfl) ?_
  refine DR.det (i := 6) rfl rfl (by kernel_rfl) (.free rfl) rfl rfl (fun wD mD => op_indexSl (off' := 2) rfl rfl rfl Try.runUnderlying25 Try.sizeOf60 (by omega) (by omega) rfl) ?_
  refine DR.det (i := 7) rfl rfl (by kernel_rfl) (.free rfl) rfl rfl (fun wD mD => op_move rfl) ?_
  refine DR.det (i := 8) rfl rfl (by kernel_rfl) (.free rfl) rfl rfl (fun wD mD => op_nilCheck rfl) ?_
  refine DR.det (i := 9) rfl rfl (by kernel_rfl) (.free rfl) rfl rfl (fun wD mD => op_fieldAddr (off' := 1) rfl Try.runUnderlying33 rfl rfl Try.sizeOf25 rfl) ?_
  refine DR.det (i := 10) rfl rfl (by kernel_rfl) (.free rfl) rfl rfl (fun wD mD => op_load1 (i := 1) rfl Try.isAgg25 (((((((q.ext md1).ext m1).ext m2).ext m3).ext m4).ext md2).ext mD) rfl rfl) ?_
  refine DR.det (i := 11) rfl rfl (by kernel_rfl) (.free rfl) rfl rfl (fun wD mD => op_move rfl) ?_
  refine DR.det (i := 12) rfl rfl (by kernel_rfl) (.free rfl) rfl rfl (fun wD mD => op_indexSl (off' := 2) rfl rfl rfl Try.runUnderlying25 Try.sizeOf60 (by omega) (by omega) rfl) ?_
  refine DR.one1 (i := 13) rfl rfl (by kernel_rfl) (.free rfl) rfl (ltb rfl) ?_
  intro w7 m5
  refine Op1.mono (op_buildSl (qs := [(0, vP bR 2), (1, vP bL 2)]) (cells := #[vP bR 2, vP bL 2]) rfl Try.runUnderlying97 Try.sizeOf112 Try.zeroValue112 (by decide) (by decide) (by kernel_rfl)) ?_
  rintro _ w8 ⟨rfl, r3, m6, z2⟩
  refine ⟨(((Mod.refl [] w6).nt m5).nt m6), ?_⟩
  refine DR.done rfl ?_
  intro w9 m7
  have sz1 := (lT (lT (lT (lT m4.size md2.size) m5.size) m6.size) m7.size)
  refine WO.op rfl (.free rfl) rfl (ltb rfl) (op_appk (i := Try.t112) (m := 1) (bt := 8) (news := [vP bR 2, vP bL 2]) (q := 1) rfl rfl Try.underlying97 rfl rfl rfl rfl rfl (by decide) (r3.ext m7).rng rfl rfl (Own.modb (Own.modb (Own.modb (Own.modb ow1 md2 nN) m5 nN) m6 nN) m7 nN) sz1 (by omega) (by omega) (by decide)) ?_
  have sz2 := (lT (lT (lT md1.size m1.size) m2.size) m3.size)
  have sz3 := (lT (lT (lT (lT (lT sz2 m4.size) md2.size) m5.size) m6.size) m7.size)
  have sz4 := (lT (lT (lT (lT (lT m3.size m4.size) md2.size) m5.size) m6.size) m7.size)
  rintro _ w10 ⟨b2, c2, rfl, ow2, hb1, m8⟩
  have r4 : Row w10 b2 0 [vP bR 0, vP bL 0, vP bR 2, vP bL 2] := (Own.row1 ow2).1
  refine WO.det (op_assign rfl) rfl (.free rfl) rfl rfl ?_
  refine WO.end ?_
  refine NE.blk ?_
  refine NE.code ?_
  refine CE.region ?_
  refine WL.det (op_add (r := 2) rfl rfl (by decide)) rfl rfl rfl ?_
  refine WL.det (op_move rfl) rfl rfl rfl ?_
  refine WL.end ?_
  refine NE.round ?_
  refine RN.one ?_
  refine CE.seq ?_
  refine CE.region ?_
  refine WL.det (op_lti rfl rfl) rfl rfl rfl ?_
  refine WL.end ?_
  refine NE.code ?_
  refine CE.seq ?_
  refine CE.cond_t rfl rfl ?_
  refine CE.skip' ?_
  refine NE.code ?_
  refine CE.seq ?_
  refine CE.block ?_
  refine CE.seq ?_
  refine CE.region ?_
  refine WL.det (op_move rfl) rfl rfl rfl ?_
  refine WL.det (op_assign rfl) rfl rfl rfl ?_
  refine WL.end ?_
  refine NE.code ?_
  refine CE.draw (fun _ => none) [0, 1, 2, 3, 4, 5, 6, 7, 8, 9, 10, 11, 12, 13] [14, 15] [] (by kernel_rfl) (by kernel_rfl) ?_
  have md3 : Mod [] w10 w10.drew := (Mod.refl _ _).drew
  generalize w10.drew = w11 at md3 ⊢
  refine DR.det (i := 0) rfl rfl (by kernel_rfl) (.free rfl) rfl rfl (fun wD mD => op_move rfl) ?_
  refine DR.det (i := 1) rfl rfl (by kernel_rfl) (.free rfl) rfl rfl (fun wD mD => op_move rfl) ?_
  refine DR.det (i := 2) rfl rfl (by kernel_rfl) (.free rfl) rfl rfl (fun wD mD => op_nilCheck rfl) ?_
  refine DR.det (i := 3) rfl rfl (by kernel_rfl) (.free rfl) rfl rfl (fun wD mD => op_fieldAddr (off' := 0) rfl Try.runUnderlying33 rfl rfl Try.sizeOf25 rfl) ?_
  refine DR.det (i := 4) rfl rfl (by kernel_rfl) (.free rfl) rfl rfl (fun wD mD => op_load1 (i := 0) rfl Try.isAgg25 (((Rng.youngS q (((((((((q.ext md1).ext m1).ext m2).ext m3).ext m4).ext md2).ext m5).ext m6).ext m7) m8 (allge_cons (lT sz2 ge1) allge_nil)).ext md3).ext mD) rfl rfl) ?_
  refine DR.det (i := 5) rfl rfl (by kernel_rfl) (.free rfl) rfl rfl (fun wD mD => op_move rfl) ?_
  refine DR.det (i := 6) rfl rfl (by kernel_rfl) (.free rfl) rfl rfl (fun wD mD => op_indexSl (off' := 4) rfl rfl rfl Try.runUnderlying25 Try.sizeOf60 (by omega) (by omega) rfl) ?_
  refine DR.det (i := 7) rfl rfl (by kernel_rfl) (.free rfl) rfl rfl (fun wD mD => op_move rfl) ?_
  refine DR.det (i := 8) rfl rfl (by kernel_rfl) (.free rfl) rfl rfl (fun wD mD => op_nilCheck rfl) ?_
  refine DR.det (i := 9) rfl rfl (by kernel_rfl) (.free rfl) rfl rfl (fun wD mD => op_fieldAddr (off' := 1) rfl Try.runUnderlying33 rfl rfl Try.sizeOf25 rfl) ?_
  refine DR.det (i := 10) rfl rfl (by kernel_rfl) (.free rfl) rfl rfl (fun wD mD => op_load1 (i := 1) rfl Try.isAgg25 (((Rng.youngS q (((((((((q.ext md1).ext m1).ext m2).ext m3).ext m4).ext md2).ext m5).ext m6).ext m7) m8 (allge_cons (lT sz2 ge1) allge_nil)).ext md3).ext mD) rfl rfl) ?_
  refine DR.det (i := 11) rfl rfl (by kernel_rfl) (.free rfl) rfl rfl (fun wD mD => op_move rfl) ?_
  refine DR.det (i := 12) rfl rfl (by kernel_rfl) (.free rfl) rfl rfl (fun wD mD => op_indexSl (off' := 4) rfl rfl rfl Try.runUnderlying25 Try.sizeOf60 (by omega) (by omega) rfl) ?_
  refine DR.one1 (i := 13) rfl rfl (by kernel_rfl) (.free rfl) rfl (ltb rfl) ?_
  intro w12 m9
  refine Op1.mono (op_buildSl (qs := [(0, vP bR 4), (1, vP bL 4)]) (cells := #[vP bR 4, vP bL 4]) rfl Try.runUnderlying97 Try.sizeOf112 Try.zeroValue112 (by decide) (by decide) (by kernel_rfl)) ?_
  rintro _ w13 ⟨rfl, r5, m10, z3⟩
  refine ⟨(((Mod.refl [] w11).nt m9).nt m10), ?_⟩
  refine DR.done rfl ?_
  intro w14 m11
  have sz5 := (lT (lT (lT (lT (lT sz1 m8.size) md3.size) m9.size) m10.size) m11.size)
  refine WO.op rfl (.free rfl) rfl (ltb rfl) (op_appk (i := Try.t112) (m := 1) (bt := 8) (news := [vP bR 4, vP bL 4]) (q := 1) rfl rfl Try.underlying97 rfl rfl rfl rfl rfl (by decide) (r5.ext m11).rng rfl rfl (Own.modb (Own.modb (Own.modb (Own.modb ow2 md3 nN) m9 nN) m10 nN) m11 nN) sz5 (by omega) (by omega) (by decide)) ?_
  have sz6 := (lT (lT (lT (lT (lT sz3 m8.size) md3.size) m9.size) m10.size) m11.size)
  have sz7 := (lT (lT (lT (lT (lT sz4 m8.size) md3.size) m9.size) m10.size) m11.size)
  have sz8 := (lT (lT (lT (lT (lT m7.size m8.size) md3.size) m9.size) m10.size) m11.size)
  rintro _ w15 ⟨b3, c3, rfl, ow3, hb2, m12⟩
  have r6 : Row w15 b3 0 [vP bR 0, vP bL 0, vP bR 2, vP bL 2, vP bR 4, vP bL 4] := (Own.row1 ow3).1
  refine WO.det (op_assign rfl) rfl (.free rfl) rfl rfl ?_
  refine WO.end ?_
  refine NE.blk ?_
  refine NE.code ?_
  refine CE.region ?_
  refine WL.det (op_add (r := 3) rfl rfl (by decide)) rfl rfl rfl ?_
  refine WL.det (op_move rfl) rfl rfl rfl ?_
  refine WL.end ?_
  refine NE.round ?_
  refine RN.one ?_
  refine CE.seq ?_
  refine CE.region ?_
  refine WL.det (op_lti rfl rfl) rfl rfl rfl ?_
  refine WL.end ?_
  refine NE.code ?_
  refine CE.seq ?_
  refine CE.cond_f rfl rfl ?_
  refine CE.exit' ?_
  iterate 2 refine XE.exit_then ?_
  refine XE.exit_here ?_
  refine NE.code ?_
  refine CE.seq ?_
  refine CE.region ?_
  refine WL.det (op_move rfl) rfl rfl rfl ?_
  refine WL.det (op_assign rfl) rfl rfl rfl ?_
  refine WL.end ?_
  refine NE.code ?_
  refine CE.ret' ?_
  refine XE.leave1 Try.results65 rfl ?_
  refine ⟨b3, c3, rfl, r6, (lT sz2 (Own.row1 ow3).2), ((((((((((((((((Mod.refl [] w).nt md1).nt m1).nt m2).nt m3).nt m4).nt md2).nt m5).nt m6).nt m7).then m8 ((aC (.inr (lT sz2 ge1)) aN))).nt md3).nt m9).nt m10).nt m11).then m12 ((aC (.inr (lT sz2 (Own.row1 ow2).2)) aN)))⟩

set_option maxRecDepth 100000 in
set_option maxHeartbeats 2000000 in
theorem c_iMute3 (GR : List RD) (GL : List RD) (xS : List Nat) (cR : Nat) (bR : Nat) (PR : List BC) (loR : Nat) (cL : Nat) (bL : Nat) (PL : List BC) (loL : Nat) (cS : Nat) (bS : Nat) (k : Int) (kc0 : Nat) (kc1 : Nat) (kc2 : Nat) (ks0 : Nat) (ks1 : Nat) (op : Bool) (lo : Nat) (re : Nat) (sl : Nat) (ZR : List RD) (ZL : List RD) (lDR : GR.length = 3) (lDL : GL.length = 3) (lnS : xS.length = 2) (hzR : ∀ i, (GR.getD i RD.d).xs.length ≤ 1048576) (hzL : ∀ i, (GL.getD i RD.d).xs.length ≤ 1048576) (lPR : PR.length = 3) (lPL : PL.length = 3) (hpR : ∀ i, i < 3 → 0 < (GR.getD i RD.d).xs.length) (hpL : ∀ i, i < 3 → 0 < (GL.getD i RD.d).xs.length) (hv : vPipe 3 3 2 GR GL xS k kc0 kc1 kc2 ks0 ks1 lo re sl = true) (eZR : ZR = muteD GR) (eZL : ZL = muteD GL) (lZR : ZR.length = 3) (lZL : ZL.length = 3) (w : World) (rR : Rng w bR 0 (olc GR PR)) (rL : Rng w bL 0 (olc GL PL)) (rS : Rng w bS 0 (fl xS))  (FR : OF loR w GR PR) (FL : OF loL w GL PL) : Cl Try.prog 32 #[.agg #[vS bR 0 3 cR, vS bL 0 3 cL, vS bS 0 2 cS, vI k, vF kc0, vF kc1, vF kc2, vF ks0, vF ks1, .bool op, vF lo, vF re, vF sl]] w fun v w' => ∃ (bR' : Nat) (cR' : Nat) (PR' : List BC) (bL' : Nat) (cL' : Nat) (PL' : List BC) (bS' : Nat) (cS' : Nat), v = .tuple #[.agg #[vS bR' 0 3 cR', vS bL' 0 3 cL', vS bS' 0 2 cS', vI k, vF kc0, vF kc1, vF kc2, vF 0, vF 0, .bool op, vF lo, vF re, vF sl], vI 0] ∧ (PR'.length = 3) ∧ (PL'.length = 3) ∧ Row w' bR' 0 (olc ZR PR') ∧ Row w' bL' 0 (olc ZL PL') ∧ Row w' bS' 0 (fl xS) ∧ w.heap.size ≤ bR' ∧ w.heap.size ≤ bL' ∧ w.heap.size ≤ bS' ∧ bR' ≠ bL' ∧ bR' ≠ bS' ∧ bL' ≠ bS' ∧ OF w.heap.size w' ZR PR' ∧ (∀ i, i < 3 → (PR'.getD i BC.d).b ≠ bR') ∧ (∀ i, i < 3 → (PR'.getD i BC.d).b ≠ bL') ∧ (∀ i, i < 3 → (PR'.getD i BC.d).b ≠ bS') ∧ (∀ i j, i < 3 → j < 3 → (PR'.getD i BC.d).b ≠ (PL'.getD j BC.d).b) ∧ OF w.heap.size w' ZL PL' ∧ (∀ i, i < 3 → (PL'.getD i BC.d).b ≠ bR') ∧ (∀ i, i < 3 → (PL'.getD i BC.d).b ≠ bL') ∧ (∀ i, i < 3 → (PL'.getD i BC.d).b ≠ bS') ∧ Mod [] w w' := by
  have hs : 1 ≤ 3 ∧ 3 ≤ 3 ∧ 3 = 3 ∧ 2 + 1 = 3 := by omega
  refine Cl.of Try.func32 Try.ntmps32 rfl rfl (ρ := [(0, .agg #[vS bR 0 3 cR, vS bL 0 3 cL, vS bS 0 2 cS, vI k, vF kc0, vF kc1, vF kc2, vF ks0, vF ks1, .bool op, vF lo, vF re, vF sl])]) rfl ?_
  refine CE.seq ?_
  refine CE.region ?_
  refine WL.op (op_box (cs := [vS bR 0 3 cR, vS bL 0 3 cL, vS bS 0 2 cS, vI k, vF kc0, vF kc1, vF kc2, vF ks0, vF ks1, .bool op, vF lo, vF re, vF sl]) rfl rfl) rfl rfl (ltb rfl) ?_
  rintro _ w1 ⟨rfl, r1, m1, z1⟩
  refine WL.op (op_alloc (cs := [.slice none 0 0, .slice none 0 0, .slice none 0 0, vI 0, vF 0, vF 0, vF 0, vF 0, vF 0, .bool false, vF 0, vF 0, vF 0]) Try.zeroValue33 rfl) rfl rfl (ltb rfl) ?_
  rintro _ w2 ⟨rfl, r2, m2, z2⟩
  refine WL.det (op_assign rfl) rfl rfl rfl ?_
  refine WL.end ?_
  refine NE.code ?_
  iterate 2 refine CE.seq ?_
  refine CE.region ?_
  refine WL.det (op_loadA (i := 0) (cs := [vS bR 0 3 cR, vS bL 0 3 cL, vS bS 0 2 cS, vI k, vF kc0, vF kc1, vF kc2, vF ks0, vF ks1, .bool op, vF lo, vF re, vF sl]) rfl Try.isAgg33 Try.sizeOf33 (r1.ext m2).rng rfl rfl rfl) rfl rfl rfl ?_
  refine WL.call (oc_call (vs := [.agg #[vS bR 0 3 cR, vS bL 0 3 cL, vS bS 0 2 cS, vI k, vF kc0, vF kc1, vF kc2, vF ks0, vF ks1, .bool op, vF lo, vF re, vF sl]]) (cap := []) rfl rfl rfl Try.call44 (c_ValidPipeS 3 GR 3 GL 2 xS cR bR PR loR cL bL PL loL cS bS k kc0 kc1 kc2 ks0 ks1 op lo re sl lDR lDL lnS (by first | assumption | exact rd_small (by assumption) (by assumption) | exact markD_small (by first | assumption | exact rd_small (by assumption) (by assumption)) _) (by first | assumption | exact rd_small (by assumption) (by assumption) | exact markD_small (by first | assumption | exact rd_small (by assumption) (by assumption)) _) lPR lPL (by first | assumption | omega) (by first | assumption | omega) (by first | assumption | omega) (by omega) w2 ((rR.ext m1).ext m2) ((rL.ext m1).ext m2) ((rS.ext m1).ext m2) ((FR.ext m1).ext m2) ((FL.ext m1).ext m2))) rfl rfl (ltb rfl) ?_
  rintro _ w3 ⟨rfl, m3⟩
  refine WL.det (op_not rfl) rfl rfl rfl ?_
  refine WL.end ?_
  refine NE.code ?_
  refine CE.cond_f rfl (bnot_t hv) ?_
  refine CE.skip' ?_
  refine NE.code ?_
  refine CE.seq ?_
  refine CE.region ?_
  refine WL.det (op_loadA (i := 0) (cs := [vS bR 0 3 cR, vS bL 0 3 cL, vS bS 0 2 cS, vI k, vF kc0, vF kc1, vF kc2, vF ks0, vF ks1, .bool op, vF lo, vF re, vF sl]) rfl Try.isAgg33 Try.sizeOf33 ((r1.ext m2).ext m3).rng rfl rfl rfl) rfl rfl rfl ?_
  have r3 := (((rR.ext m1).ext m2).ext m3)
  have r4 := (((rL.ext m1).ext m2).ext m3)
  have r5 := (((rS.ext m1).ext m2).ext m3)
  refine WL.call (oc_call (vs := [.agg #[vS bR 0 3 cR, vS bL 0 3 cL, vS bS 0 2 cS, vI k, vF kc0, vF kc1, vF kc2, vF ks0, vF ks1, .bool op, vF lo, vF re, vF sl]]) (cap := []) rfl rfl rfl Try.call63 (c_clonePipeS 3 GR 3 GL 2 xS cR bR PR loR cL bL PL loL cS bS k kc0 kc1 kc2 ks0 ks1 op lo re sl lDR lDL lnS (by first | assumption | exact rd_small (by assumption) (by assumption) | exact markD_small (by first | assumption | exact rd_small (by assumption) (by assumption)) _) (by first | assumption | exact rd_small (by assumption) (by assumption) | exact markD_small (by first | assumption | exact rd_small (by assumption) (by assumption)) _) lPR lPL (by first | assumption | omega) (by first | assumption | omega) (by first | assumption | omega) (by omega) (by omega) (by first | assumption | exact vRings_pos (by assumption)) (by first | assumption | exact vRings_pos (by assumption)) (by first | assumption | omega) w3 r3 r4 r5 (((FR.ext m1).ext m2).ext m3) (((FL.ext m1).ext m2).ext m3))) rfl rfl (ltb rfl) ?_
  rintro _ w4 ⟨bR'1, cR'1, PR'1, bL'1, cL'1, PL'1, bS'1, cS'1, rfl, h1, h2, r6, r7, r8, ge1, ge2, ge3, ne1, ne2, ne3, fm1, fn1, fn2, fn3, fn4, fm2, fn5, fn6, fn7, m4⟩
  have r9 := (((r1.ext m2).ext m3).ext m4)
  refine WL.op0 (op_store (i := 0) (cs := [vS bR'1 0 3 cR'1, vS bL'1 0 3 cL'1, vS bS'1 0 2 cS'1, vI k, vF kc0, vF kc1, vF kc2, vF ks0, vF ks1, .bool op, vF lo, vF re, vF sl]) rfl rfl rfl Try.sizeOf33 rfl r9 rfl (lB rfl) rfl) rfl rfl ?_
  rintro _ w5 ⟨r10, m5, z3⟩
  have r11 : Row w5 w.heap.size 0 [vS bR'1 0 3 cR'1, vS bL'1 0 3 cL'1, vS bS'1 0 2 cS'1, vI k, vF kc0, vF kc1, vF kc2, vF ks0, vF ks1, .bool op, vF lo, vF re, vF sl] := Row.congr r10 rfl
  refine WL.end ?_
  refine NE.code ?_
  iterate 2 refine CE.seq ?_
  refine CE.region ?_
  refine WL.call (oc_call (vs := [vP w.heap.size 0]) (cap := []) rfl rfl rfl Try.call65 (c_rings3 cR'1 bR'1 cL'1 bL'1 cS'1 bS'1 k kc0 kc1 kc2 ks0 ks1 op lo re sl w.heap.size w5 r11.rng)) rfl rfl (ltb rfl) ?_
  rintro _ w6 ⟨b'1, c'1, rfl, r12, ge4, m6⟩
  refine WL.det (op_len rfl Try.runUnderlying97) rfl rfl rfl ?_
  refine WL.det (op_move rfl) rfl rfl rfl ?_
  refine WL.end ?_
  refine NE.code ?_
  refine CE.block ?_
  refine CE.rounds 7 ?_
  refine RN.one ?_
  refine CE.seq ?_
  refine CE.region ?_
  refine WL.det (op_lti rfl rfl) rfl rfl rfl ?_
  refine WL.end ?_
  refine NE.code ?_
  refine CE.seq ?_
  refine CE.cond_t rfl rfl ?_
  refine CE.skip' ?_
  refine NE.code ?_
  refine CE.seq ?_
  refine CE.block ?_
  refine CE.seq ?_
  refine CE.region ?_
  refine WL.det (op_indexSl (off' := 0) rfl rfl rfl Try.runUnderlying97 Try.sizeOf112 (by omega) (by omega) rfl) rfl rfl rfl ?_
  refine WL.det (op_load1 (i := 0) rfl Try.isAgg112 r12.rng rfl rfl) rfl rfl rfl ?_
  refine WL.det (op_assign rfl) rfl rfl rfl ?_
  refine WL.end ?_
  refine NE.code ?_
  refine CE.region ?_
  refine WL.det (op_move rfl) rfl rfl rfl ?_
  have r13 := ((r6.mod m5 (nC (lG (lL (lL r1.lt (lT m2.size m3.size)) ge1)) nN)).ext m6)
  refine WL.call (oc_call (vs := [vP bR'1 0]) (cap := []) rfl rfl rfl Try.call89 (c_muteR ((GR.getD 0 RD.d).xs.length) ((PR'1.getD 0 BC.d).c) ((PR'1.getD 0 BC.d).b) ((GR.getD 0 RD.d).at_) bR'1 0 (olc GR PR'1) (by first | omega | exact hzR _ | exact hzL _ | exact mute_set hzR _ | exact mute_set hzL _ | exact mute_set (mute_set hzR) _ | exact mute_set (mute_set hzL) _) (olc_fit lDR h1 (show 0 < 3 by omega) rfl) w6 (Row.congr r13 (olc_part lDR h1 (show 0 < 3 by omega) rfl)))) rfl rfl (ltb rfl) ?_
  rintro _ w7 ⟨b'2, rfl, r14, r15, ge5, m7⟩
  have sz1 := (lT (lT m4.size m5.size) m6.size)
  have fm3 : OF w3.heap.size w7 (GR.set 0 ⟨List.replicate ((GR.getD 0 RD.d).xs.length) 0, ((GR.getD 0 RD.d).at_)⟩) (PR'1.set 0 ⟨b'2, (GR.getD 0 RD.d).xs.length⟩) := OF.renew ((fm1.mod m5 (fun j hj => (nC (lG (lL (lL r1.lt (lT m2.size m3.size)) (fm1.ge j (Nat.lt_of_lt_of_eq (Nat.lt_of_lt_of_eq hj lDR) lDR.symm)))) nN))).ext m6) lDR h1 (show 0 < 3 by omega) m7 (fun j hj => (nC (fn1 j hj) nN)) r15 ge5 sz1
  have fn8 : (∀ j, j < 3 → ((PR'1.set 0 ⟨b'2, (GR.getD 0 RD.d).xs.length⟩).getD j BC.d).b ≠ bR'1) := fun j hj => set_ne (c := bR'1) h1 (fun hj => fn1 j hj) (lG (lL (lL r6.lt (lT m5.size m6.size)) ge5)) hj
  have fn9 : (∀ j, j < 3 → ((PR'1.set 0 ⟨b'2, (GR.getD 0 RD.d).xs.length⟩).getD j BC.d).b ≠ bL'1) := fun j hj => set_ne (c := bL'1) h1 (fun hj => fn2 j hj) (lG (lL (lL r7.lt (lT m5.size m6.size)) ge5)) hj
  have fn10 : (∀ j, j < 3 → ((PR'1.set 0 ⟨b'2, (GR.getD 0 RD.d).xs.length⟩).getD j BC.d).b ≠ bS'1) := fun j hj => set_ne (c := bS'1) h1 (fun hj => fn3 j hj) (lG (lL (lL r8.lt (lT m5.size m6.size)) ge5)) hj
  have fn11 : (∀ j q, j < 3 → q < 3 → ((PR'1.set 0 ⟨b'2, (GR.getD 0 RD.d).xs.length⟩).getD j BC.d).b ≠ (PL'1.getD q BC.d).b) := fun j q hj hq => set_ne (c := (PL'1.getD q BC.d).b) h1 (fun hj => fn4 j q hj hq) (Ne.symm (lE (lL (OF.lt fm2 (Nat.lt_of_lt_of_eq hq lDL.symm)) (lT (lT m5.size m6.size) ge5)))) hj
  have r16 : Row w7 bR'1 0 (olc (GR.set 0 ⟨List.replicate ((GR.getD 0 RD.d).xs.length) 0, ((GR.getD 0 RD.d).at_)⟩) (PR'1.set 0 ⟨b'2, (GR.getD 0 RD.d).xs.length⟩)) := Row.congr r14 (olc_renew lDR h1 (show 0 < 3 by omega) rfl List.length_replicate)
  refine WL.end ?_
  refine NE.blk ?_
  refine NE.code ?_
  refine CE.region ?_
  refine WL.det (op_add (r := 1) rfl rfl (by decide)) rfl rfl rfl ?_
  refine WL.det (op_move rfl) rfl rfl rfl ?_
  refine WL.end ?_
  refine NE.round ?_
  refine RN.one ?_
  refine CE.seq ?_
  refine CE.region ?_
  refine WL.det (op_lti rfl rfl) rfl rfl rfl ?_
  refine WL.end ?_
  refine NE.code ?_
  refine CE.seq ?_
  refine CE.cond_t rfl rfl ?_
  refine CE.skip' ?_
  refine NE.code ?_
  refine CE.seq ?_
  refine CE.block ?_
  refine CE.seq ?_
  refine CE.region ?_
  refine WL.det (op_indexSl (off' := 1) rfl rfl rfl Try.runUnderlying97 Try.sizeOf112 (by omega) (by omega) rfl) rfl rfl rfl ?_
  refine WL.det (op_load1 (i := 1) rfl Try.isAgg112 (r12.mod m7 (nC (lG (lL (lL r6.lt m5.size) ge4)) nN)).rng rfl rfl) rfl rfl rfl ?_
  refine WL.det (op_assign rfl) rfl rfl rfl ?_
  refine WL.end ?_
  refine NE.code ?_
  refine CE.region ?_
  refine WL.det (op_move rfl) rfl rfl rfl ?_
  have r17 := (((r7.mod m5 (nC (lG (lL (lL r1.lt (lT m2.size m3.size)) ge2)) nN)).ext m6).mod m7 (nC (Ne.symm ne1) nN))
  refine WL.call (oc_call (vs := [vP bL'1 0]) (cap := []) rfl rfl rfl Try.call89 (c_muteR ((GL.getD 0 RD.d).xs.length) ((PL'1.getD 0 BC.d).c) ((PL'1.getD 0 BC.d).b) ((GL.getD 0 RD.d).at_) bL'1 0 (olc GL PL'1) (by first | omega | exact hzR _ | exact hzL _ | exact mute_set hzR _ | exact mute_set hzL _ | exact mute_set (mute_set hzR) _ | exact mute_set (mute_set hzL) _) (olc_fit lDL h2 (show 0 < 3 by omega) rfl) w7 (Row.congr r17 (olc_part lDL h2 (show 0 < 3 by omega) rfl)))) rfl rfl (ltb rfl) ?_
  rintro _ w8 ⟨b'3, rfl, r18, r19, ge6, m8⟩
  have fm4 : OF w3.heap.size w8 (GL.set 0 ⟨List.replicate ((GL.getD 0 RD.d).xs.length) 0, ((GL.getD 0 RD.d).at_)⟩) (PL'1.set 0 ⟨b'3, (GL.getD 0 RD.d).xs.length⟩) := OF.renew (((fm2.mod m5 (fun j hj => (nC (lG (lL (lL r1.lt (lT m2.size m3.size)) (fm2.ge j (Nat.lt_of_lt_of_eq (Nat.lt_of_lt_of_eq hj lDL) lDL.symm)))) nN))).ext m6).mod m7 (fun j hj => (nC (fn5 j (Nat.lt_of_lt_of_eq hj lDL)) nN))) lDL h2 (show 0 < 3 by omega) m8 (fun j hj => (nC (fn6 j hj) nN)) r19 ge6 (lT sz1 m7.size)
  have sz2 := (lT (lT m5.size m6.size) m7.size)
  have fn12 : (∀ j, j < 3 → ((PL'1.set 0 ⟨b'3, (GL.getD 0 RD.d).xs.length⟩).getD j BC.d).b ≠ bR'1) := fun j hj => set_ne (c := bR'1) h2 (fun hj => fn5 j hj) (lG (lL (lL r6.lt sz2) ge6)) hj
  have fn13 : (∀ j, j < 3 → ((PL'1.set 0 ⟨b'3, (GL.getD 0 RD.d).xs.length⟩).getD j BC.d).b ≠ bL'1) := fun j hj => set_ne (c := bL'1) h2 (fun hj => fn6 j hj) (lG (lL (lL r7.lt sz2) ge6)) hj
  have fn14 : (∀ j, j < 3 → ((PL'1.set 0 ⟨b'3, (GL.getD 0 RD.d).xs.length⟩).getD j BC.d).b ≠ bS'1) := fun j hj => set_ne (c := bS'1) h2 (fun hj => fn7 j hj) (lG (lL (lL r8.lt sz2) ge6)) hj
  have fn15 : (∀ j q, j < 3 → q < 3 → ((PR'1.set 0 ⟨b'2, (GR.getD 0 RD.d).xs.length⟩).getD j BC.d).b ≠ ((PL'1.set 0 ⟨b'3, (GL.getD 0 RD.d).xs.length⟩).getD q BC.d).b) := fun j q hj hq => Ne.symm (set_ne (c := ((PR'1.set 0 ⟨b'2, (GR.getD 0 RD.d).xs.length⟩).getD j BC.d).b) h2 (fun hq => Ne.symm (fn11 j q hj hq)) (lG (lL (OF.lt fm3 (Nat.lt_of_lt_of_eq hj ((List.length_set).trans lDR).symm)) (lT lR ge6))) hq)
  have r20 : Row w8 bL'1 0 (olc (GL.set 0 ⟨List.replicate ((GL.getD 0 RD.d).xs.length) 0, ((GL.getD 0 RD.d).at_)⟩) (PL'1.set 0 ⟨b'3, (GL.getD 0 RD.d).xs.length⟩)) := Row.congr r18 (olc_renew lDL h2 (show 0 < 3 by omega) rfl List.length_replicate)
  refine WL.end ?_
  refine NE.blk ?_
  refine NE.code ?_
  refine CE.region ?_
  refine WL.det (op_add (r := 2) rfl rfl (by decide)) rfl rfl rfl ?_
  refine WL.det (op_move rfl) rfl rfl rfl ?_
  refine WL.end ?_
  refine NE.round ?_
  refine RN.one ?_
  refine CE.seq ?_
  refine CE.region ?_
  refine WL.det (op_lti rfl rfl) rfl rfl rfl ?_
  refine WL.end ?_
  refine NE.code ?_
  refine CE.seq ?_
  refine CE.cond_t rfl rfl ?_
  refine CE.skip' ?_
  refine NE.code ?_
  refine CE.seq ?_
  refine CE.block ?_
  refine CE.seq ?_
  refine CE.region ?_
  refine WL.det (op_indexSl (off' := 2) rfl rfl rfl Try.runUnderlying97 Try.sizeOf112 (by omega) (by omega) rfl) rfl rfl rfl ?_
  have r21 := ((r12.mod m7 (nC (lG (lL (lL r6.lt m5.size) ge4)) nN)).mod m8 (nC (lG (lL (lL r7.lt m5.size) ge4)) nN))
  refine WL.det (op_load1 (i := 2) rfl Try.isAgg112 r21.rng rfl rfl) rfl rfl rfl ?_
  refine WL.det (op_assign rfl) rfl rfl rfl ?_
  refine WL.end ?_
  refine NE.code ?_
  refine CE.region ?_
  refine WL.det (op_move rfl) rfl rfl rfl ?_
  refine WL.call (oc_call (vs := [vP bR'1 2]) (cap := []) rfl rfl rfl Try.call89 (c_muteR (((GR.set 0 ⟨List.replicate ((GR.getD 0 RD.d).xs.length) 0, ((GR.getD 0 RD.d).at_)⟩).getD 1 RD.d).xs.length) (((PR'1.set 0 ⟨b'2, (GR.getD 0 RD.d).xs.length⟩).getD 1 BC.d).c) (((PR'1.set 0 ⟨b'2, (GR.getD 0 RD.d).xs.length⟩).getD 1 BC.d).b) (((GR.set 0 ⟨List.replicate ((GR.getD 0 RD.d).xs.length) 0, ((GR.getD 0 RD.d).at_)⟩).getD 1 RD.d).at_) bR'1 2 (olc (GR.set 0 ⟨List.replicate ((GR.getD 0 RD.d).xs.length) 0, ((GR.getD 0 RD.d).at_)⟩) (PR'1.set 0 ⟨b'2, (GR.getD 0 RD.d).xs.length⟩)) (by first | omega | exact hzR _ | exact hzL _ | exact mute_set hzR _ | exact mute_set hzL _ | exact mute_set (mute_set hzR) _ | exact mute_set (mute_set hzL) _) (olc_fit ((List.length_set).trans lDR) ((List.length_set).trans h1) (show 1 < 3 by omega) rfl) w8 (Row.congr (r16.mod m8 (nC ne1 nN)) (olc_part ((List.length_set).trans lDR) ((List.length_set).trans h1) (show 1 < 3 by omega) rfl)))) rfl rfl (ltb rfl) ?_
  rintro _ w9 ⟨b'4, rfl, r22, r23, ge7, m9⟩
  have sz3 := (lT (lT sz1 m7.size) m8.size)
  have fm5 : OF w3.heap.size w9 ((GR.set 0 ⟨List.replicate ((GR.getD 0 RD.d).xs.length) 0, ((GR.getD 0 RD.d).at_)⟩).set 1 ⟨List.replicate (((GR.set 0 ⟨List.replicate ((GR.getD 0 RD.d).xs.length) 0, ((GR.getD 0 RD.d).at_)⟩).getD 1 RD.d).xs.length) 0, (((GR.set 0 ⟨List.replicate ((GR.getD 0 RD.d).xs.length) 0, ((GR.getD 0 RD.d).at_)⟩).getD 1 RD.d).at_)⟩) ((PR'1.set 0 ⟨b'2, (GR.getD 0 RD.d).xs.length⟩).set 1 ⟨b'4, ((GR.set 0 ⟨List.replicate ((GR.getD 0 RD.d).xs.length) 0, ((GR.getD 0 RD.d).at_)⟩).getD 1 RD.d).xs.length⟩) := OF.renew (fm3.mod m8 (fun j hj => (nC (fn9 j (Nat.lt_of_lt_of_eq hj ((List.length_set).trans lDR))) nN))) ((List.length_set).trans lDR) ((List.length_set).trans h1) (show 1 < 3 by omega) m9 (fun j hj => (nC (fn8 j hj) nN)) r23 ge7 sz3
  have fn16 : (∀ j, j < 3 → (((PR'1.set 0 ⟨b'2, (GR.getD 0 RD.d).xs.length⟩).set 1 ⟨b'4, ((GR.set 0 ⟨List.replicate ((GR.getD 0 RD.d).xs.length) 0, ((GR.getD 0 RD.d).at_)⟩).getD 1 RD.d).xs.length⟩).getD j BC.d).b ≠ bR'1) := fun j hj => set_ne (c := bR'1) ((List.length_set).trans h1) (fun hj => fn8 j hj) (lG (lL (lL r6.lt (lT sz2 m8.size)) ge7)) hj
  have fn17 : (∀ j, j < 3 → (((PR'1.set 0 ⟨b'2, (GR.getD 0 RD.d).xs.length⟩).set 1 ⟨b'4, ((GR.set 0 ⟨List.replicate ((GR.getD 0 RD.d).xs.length) 0, ((GR.getD 0 RD.d).at_)⟩).getD 1 RD.d).xs.length⟩).getD j BC.d).b ≠ bL'1) := fun j hj => set_ne (c := bL'1) ((List.length_set).trans h1) (fun hj => fn9 j hj) (lG (lL (lL r7.lt (lT sz2 m8.size)) ge7)) hj
  have fn18 : (∀ j, j < 3 → (((PR'1.set 0 ⟨b'2, (GR.getD 0 RD.d).xs.length⟩).set 1 ⟨b'4, ((GR.set 0 ⟨List.replicate ((GR.getD 0 RD.d).xs.length) 0, ((GR.getD 0 RD.d).at_)⟩).getD 1 RD.d).xs.length⟩).getD j BC.d).b ≠ bS'1) := fun j hj => set_ne (c := bS'1) ((List.length_set).trans h1) (fun hj => fn10 j hj) (lG (lL (lL r8.lt (lT sz2 m8.size)) ge7)) hj
  have fn19 : (∀ j q, j < 3 → q < 3 → (((PR'1.set 0 ⟨b'2, (GR.getD 0 RD.d).xs.length⟩).set 1 ⟨b'4, ((GR.set 0 ⟨List.replicate ((GR.getD 0 RD.d).xs.length) 0, ((GR.getD 0 RD.d).at_)⟩).getD 1 RD.d).xs.length⟩).getD j BC.d).b ≠ ((PL'1.set 0 ⟨b'3, (GL.getD 0 RD.d).xs.length⟩).getD q BC.d).b) := fun j q hj hq => set_ne (c := ((PL'1.set 0 ⟨b'3, (GL.getD 0 RD.d).xs.length⟩).getD q BC.d).b) ((List.length_set).trans h1) (fun hj => fn15 j q hj hq) (Ne.symm (lE (lL (OF.lt fm4 (Nat.lt_of_lt_of_eq hq ((List.length_set).trans lDL).symm)) (lT lR ge7)))) hj
  have r24 : Row w9 bR'1 0 (olc ((GR.set 0 ⟨List.replicate ((GR.getD 0 RD.d).xs.length) 0, ((GR.getD 0 RD.d).at_)⟩).set 1 ⟨List.replicate (((GR.set 0 ⟨List.replicate ((GR.getD 0 RD.d).xs.length) 0, ((GR.getD 0 RD.d).at_)⟩).getD 1 RD.d).xs.length) 0, (((GR.set 0 ⟨List.replicate ((GR.getD 0 RD.d).xs.length) 0, ((GR.getD 0 RD.d).at_)⟩).getD 1 RD.d).at_)⟩) ((PR'1.set 0 ⟨b'2, (GR.getD 0 RD.d).xs.length⟩).set 1 ⟨b'4, ((GR.set 0 ⟨List.replicate ((GR.getD 0 RD.d).xs.length) 0, ((GR.getD 0 RD.d).at_)⟩).getD 1 RD.d).xs.length⟩)) := Row.congr r22 (olc_renew ((List.length_set).trans lDR) ((List.length_set).trans h1) (show 1 < 3 by omega) rfl List.length_replicate)
  refine WL.end ?_
  refine NE.blk ?_
  refine NE.code ?_
  refine CE.region ?_
  refine WL.det (op_add (r := 3) rfl rfl (by decide)) rfl rfl rfl ?_
  refine WL.det (op_move rfl) rfl rfl rfl ?_
  refine WL.end ?_
  refine NE.round ?_
  refine RN.one ?_
  refine CE.seq ?_
  refine CE.region ?_
  refine WL.det (op_lti rfl rfl) rfl rfl rfl ?_
  refine WL.end ?_
  refine NE.code ?_
  refine CE.seq ?_
  refine CE.cond_t rfl rfl ?_
  refine CE.skip' ?_
  refine NE.code ?_
  refine CE.seq ?_
  refine CE.block ?_
  refine CE.seq ?_
  refine CE.region ?_
  refine WL.det (op_indexSl (off' := 3) rfl rfl rfl Try.runUnderlying97 Try.sizeOf112 (by omega) (by omega) rfl) rfl rfl rfl ?_
  refine WL.det (op_load1 (i := 3) rfl Try.isAgg112 (r21.mod m9 (nC (lG (lL (lL r6.lt m5.size) ge4)) nN)).rng rfl rfl) rfl rfl rfl ?_
  refine WL.det (op_assign rfl) rfl rfl rfl ?_
  refine WL.end ?_
  refine NE.code ?_
  refine CE.region ?_
  refine WL.det (op_move rfl) rfl rfl rfl ?_
  refine WL.call (oc_call (vs := [vP bL'1 2]) (cap := []) rfl rfl rfl Try.call89 (c_muteR (((GL.set 0 ⟨List.replicate ((GL.getD 0 RD.d).xs.length) 0, ((GL.getD 0 RD.d).at_)⟩).getD 1 RD.d).xs.length) (((PL'1.set 0 ⟨b'3, (GL.getD 0 RD.d).xs.length⟩).getD 1 BC.d).c) (((PL'1.set 0 ⟨b'3, (GL.getD 0 RD.d).xs.length⟩).getD 1 BC.d).b) (((GL.set 0 ⟨List.replicate ((GL.getD 0 RD.d).xs.length) 0, ((GL.getD 0 RD.d).at_)⟩).getD 1 RD.d).at_) bL'1 2 (olc (GL.set 0 ⟨List.replicate ((GL.getD 0 RD.d).xs.length) 0, ((GL.getD 0 RD.d).at_)⟩) (PL'1.set 0 ⟨b'3, (GL.getD 0 RD.d).xs.length⟩)) (by first | omega | exact hzR _ | exact hzL _ | exact mute_set hzR _ | exact mute_set hzL _ | exact mute_set (mute_set hzR) _ | exact mute_set (mute_set hzL) _) (olc_fit ((List.length_set).trans lDL) ((List.length_set).trans h2) (show 1 < 3 by omega) rfl) w9 (Row.congr (r20.mod m9 (nC (Ne.symm ne1) nN)) (olc_part ((List.length_set).trans lDL) ((List.length_set).trans h2) (show 1 < 3 by omega) rfl)))) rfl rfl (ltb rfl) ?_
  rintro _ w10 ⟨b'5, rfl, r25, r26, ge8, m10⟩
  have fm6 : OF w3.heap.size w10 ((GL.set 0 ⟨List.replicate ((GL.getD 0 RD.d).xs.length) 0, ((GL.getD 0 RD.d).at_)⟩).set 1 ⟨List.replicate (((GL.set 0 ⟨List.replicate ((GL.getD 0 RD.d).xs.length) 0, ((GL.getD 0 RD.d).at_)⟩).getD 1 RD.d).xs.length) 0, (((GL.set 0 ⟨List.replicate ((GL.getD 0 RD.d).xs.length) 0, ((GL.getD 0 RD.d).at_)⟩).getD 1 RD.d).at_)⟩) ((PL'1.set 0 ⟨b'3, (GL.getD 0 RD.d).xs.length⟩).set 1 ⟨b'5, ((GL.set 0 ⟨List.replicate ((GL.getD 0 RD.d).xs.length) 0, ((GL.getD 0 RD.d).at_)⟩).getD 1 RD.d).xs.length⟩) := OF.renew (fm4.mod m9 (fun j hj => (nC (fn12 j (Nat.lt_of_lt_of_eq hj ((List.length_set).trans lDL))) nN))) ((List.length_set).trans lDL) ((List.length_set).trans h2) (show 1 < 3 by omega) m10 (fun j hj => (nC (fn13 j hj) nN)) r26 ge8 (lT sz3 m9.size)
  have sz4 := (lT (lT sz2 m8.size) m9.size)
  have fn20 : (∀ j, j < 3 → (((PL'1.set 0 ⟨b'3, (GL.getD 0 RD.d).xs.length⟩).set 1 ⟨b'5, ((GL.set 0 ⟨List.replicate ((GL.getD 0 RD.d).xs.length) 0, ((GL.getD 0 RD.d).at_)⟩).getD 1 RD.d).xs.length⟩).getD j BC.d).b ≠ bR'1) := fun j hj => set_ne (c := bR'1) ((List.length_set).trans h2) (fun hj => fn12 j hj) (lG (lL (lL r6.lt sz4) ge8)) hj
  have fn21 : (∀ j, j < 3 → (((PL'1.set 0 ⟨b'3, (GL.getD 0 RD.d).xs.length⟩).set 1 ⟨b'5, ((GL.set 0 ⟨List.replicate ((GL.getD 0 RD.d).xs.length) 0, ((GL.getD 0 RD.d).at_)⟩).getD 1 RD.d).xs.length⟩).getD j BC.d).b ≠ bL'1) := fun j hj => set_ne (c := bL'1) ((List.length_set).trans h2) (fun hj => fn13 j hj) (lG (lL (lL r7.lt sz4) ge8)) hj
  have fn22 : (∀ j, j < 3 → (((PL'1.set 0 ⟨b'3, (GL.getD 0 RD.d).xs.length⟩).set 1 ⟨b'5, ((GL.set 0 ⟨List.replicate ((GL.getD 0 RD.d).xs.length) 0, ((GL.getD 0 RD.d).at_)⟩).getD 1 RD.d).xs.length⟩).getD j BC.d).b ≠ bS'1) := fun j hj => set_ne (c := bS'1) ((List.length_set).trans h2) (fun hj => fn14 j hj) (lG (lL (lL r8.lt sz4) ge8)) hj
  have fn23 : (∀ j q, j < 3 → q < 3 → (((PR'1.set 0 ⟨b'2, (GR.getD 0 RD.d).xs.length⟩).set 1 ⟨b'4, ((GR.set 0 ⟨List.replicate ((GR.getD 0 RD.d).xs.length) 0, ((GR.getD 0 RD.d).at_)⟩).getD 1 RD.d).xs.length⟩).getD j BC.d).b ≠ (((PL'1.set 0 ⟨b'3, (GL.getD 0 RD.d).xs.length⟩).set 1 ⟨b'5, ((GL.set 0 ⟨List.replicate ((GL.getD 0 RD.d).xs.length) 0, ((GL.getD 0 RD.d).at_)⟩).getD 1 RD.d).xs.length⟩).getD q BC.d).b) := fun j q hj hq => Ne.symm (set_ne (c := (((PR'1.set 0 ⟨b'2, (GR.getD 0 RD.d).xs.length⟩).set 1 ⟨b'4, ((GR.set 0 ⟨List.replicate ((GR.getD 0 RD.d).xs.length) 0, ((GR.getD 0 RD.d).at_)⟩).getD 1 RD.d).xs.length⟩).getD j BC.d).b) ((List.length_set).trans h2) (fun hq => Ne.symm (fn19 j q hj hq)) (lG (lL (OF.lt fm5 (Nat.lt_of_lt_of_eq hj ((List.length_set).trans ((List.length_set).trans lDR)).symm)) (lT lR ge8))) hq)
  have r27 : Row w10 bL'1 0 (olc ((GL.set 0 ⟨List.replicate ((GL.getD 0 RD.d).xs.length) 0, ((GL.getD 0 RD.d).at_)⟩).set 1 ⟨List.replicate (((GL.set 0 ⟨List.replicate ((GL.getD 0 RD.d).xs.length) 0, ((GL.getD 0 RD.d).at_)⟩).getD 1 RD.d).xs.length) 0, (((GL.set 0 ⟨List.replicate ((GL.getD 0 RD.d).xs.length) 0, ((GL.getD 0 RD.d).at_)⟩).getD 1 RD.d).at_)⟩) ((PL'1.set 0 ⟨b'3, (GL.getD 0 RD.d).xs.length⟩).set 1 ⟨b'5, ((GL.set 0 ⟨List.replicate ((GL.getD 0 RD.d).xs.length) 0, ((GL.getD 0 RD.d).at_)⟩).getD 1 RD.d).xs.length⟩)) := Row.congr r25 (olc_renew ((List.length_set).trans lDL) ((List.length_set).trans h2) (show 1 < 3 by omega) rfl List.length_replicate)
  refine WL.end ?_
  refine NE.blk ?_
  refine NE.code ?_
  refine CE.region ?_
  refine WL.det (op_add (r := 4) rfl rfl (by decide)) rfl rfl rfl ?_
  refine WL.det (op_move rfl) rfl rfl rfl ?_
  refine WL.end ?_
  refine NE.round ?_
  refine RN.one ?_
  refine CE.seq ?_
  refine CE.region ?_
  refine WL.det (op_lti rfl rfl) rfl rfl rfl ?_
  refine WL.end ?_
  refine NE.code ?_
  refine CE.seq ?_
  refine CE.cond_t rfl rfl ?_
  refine CE.skip' ?_
  refine NE.code ?_
  refine CE.seq ?_
  refine CE.block ?_
  refine CE.seq ?_
  refine CE.region ?_
  refine WL.det (op_indexSl (off' := 4) rfl rfl rfl Try.runUnderlying97 Try.sizeOf112 (by omega) (by omega) rfl) rfl rfl rfl ?_
  have r28 := ((r21.mod m9 (nC (lG (lL (lL r6.lt m5.size) ge4)) nN)).mod m10 (nC (lG (lL (lL r7.lt m5.size) ge4)) nN))
  refine WL.det (op_load1 (i := 4) rfl Try.isAgg112 r28.rng rfl rfl) rfl rfl rfl ?_
  refine WL.det (op_assign rfl) rfl rfl rfl ?_
  refine WL.end ?_
  refine NE.code ?_
  refine CE.region ?_
  refine WL.det (op_move rfl) rfl rfl rfl ?_
  refine WL.call (oc_call (vs := [vP bR'1 4]) (cap := []) rfl rfl rfl Try.call89 (c_muteR ((((GR.set 0 ⟨List.replicate ((GR.getD 0 RD.d).xs.length) 0, ((GR.getD 0 RD.d).at_)⟩).set 1 ⟨List.replicate (((GR.set 0 ⟨List.replicate ((GR.getD 0 RD.d).xs.length) 0, ((GR.getD 0 RD.d).at_)⟩).getD 1 RD.d).xs.length) 0, (((GR.set 0 ⟨List.replicate ((GR.getD 0 RD.d).xs.length) 0, ((GR.getD 0 RD.d).at_)⟩).getD 1 RD.d).at_)⟩).getD 2 RD.d).xs.length) ((((PR'1.set 0 ⟨b'2, (GR.getD 0 RD.d).xs.length⟩).set 1 ⟨b'4, ((GR.set 0 ⟨List.replicate ((GR.getD 0 RD.d).xs.length) 0, ((GR.getD 0 RD.d).at_)⟩).getD 1 RD.d).xs.length⟩).getD 2 BC.d).c) ((((PR'1.set 0 ⟨b'2, (GR.getD 0 RD.d).xs.length⟩).set 1 ⟨b'4, ((GR.set 0 ⟨List.replicate ((GR.getD 0 RD.d).xs.length) 0, ((GR.getD 0 RD.d).at_)⟩).getD 1 RD.d).xs.length⟩).getD 2 BC.d).b) ((((GR.set 0 ⟨List.replicate ((GR.getD 0 RD.d).xs.length) 0, ((GR.getD 0 RD.d).at_)⟩).set 1 ⟨List.replicate (((GR.set 0 ⟨List.replicate ((GR.getD 0 RD.d).xs.length) 0, ((GR.getD 0 RD.d).at_)⟩).getD 1 RD.d).xs.length) 0, (((GR.set 0 ⟨List.replicate ((GR.getD 0 RD.d).xs.length) 0, ((GR.getD 0 RD.d).at_)⟩).getD 1 RD.d).at_)⟩).getD 2 RD.d).at_) bR'1 4 (olc ((GR.set 0 ⟨List.replicate ((GR.getD 0 RD.d).xs.length) 0, ((GR.getD 0 RD.d).at_)⟩).set 1 ⟨List.replicate (((GR.set 0 ⟨List.replicate ((GR.getD 0 RD.d).xs.length) 0, ((GR.getD 0 RD.d).at_)⟩).getD 1 RD.d).xs.length) 0, (((GR.set 0 ⟨List.replicate ((GR.getD 0 RD.d).xs.length) 0, ((GR.getD 0 RD.d).at_)⟩).getD 1 RD.d).at_)⟩) ((PR'1.set 0 ⟨b'2, (GR.getD 0 RD.d).xs.length⟩).set 1 ⟨b'4, ((GR.set 0 ⟨List.replicate ((GR.getD 0 RD.d).xs.length) 0, ((GR.getD 0 RD.d).at_)⟩).getD 1 RD.d).xs.length⟩)) (by first | omega | exact hzR _ | exact hzL _ | exact mute_set hzR _ | exact mute_set hzL _ | exact mute_set (mute_set hzR) _ | exact mute_set (mute_set hzL) _) (olc_fit ((List.length_set).trans ((List.length_set).trans lDR)) ((List.length_set).trans ((List.length_set).trans h1)) (show 2 < 3 by omega) rfl) w10 (Row.congr (r24.mod m10 (nC ne1 nN)) (olc_part ((List.length_set).trans ((List.length_set).trans lDR)) ((List.length_set).trans ((List.length_set).trans h1)) (show 2 < 3 by omega) rfl)))) rfl rfl (ltb rfl) ?_
  rintro _ w11 ⟨b'6, rfl, r29, r30, ge9, m11⟩
  have sz5 := (lT (lT sz3 m9.size) m10.size)
  have fm7 : OF w3.heap.size w11 (((GR.set 0 ⟨List.replicate ((GR.getD 0 RD.d).xs.length) 0, ((GR.getD 0 RD.d).at_)⟩).set 1 ⟨List.replicate (((GR.set 0 ⟨List.replicate ((GR.getD 0 RD.d).xs.length) 0, ((GR.getD 0 RD.d).at_)⟩).getD 1 RD.d).xs.length) 0, (((GR.set 0 ⟨List.replicate ((GR.getD 0 RD.d).xs.length) 0, ((GR.getD 0 RD.d).at_)⟩).getD 1 RD.d).at_)⟩).set 2 ⟨List.replicate ((((GR.set 0 ⟨List.replicate ((GR.getD 0 RD.d).xs.length) 0, ((GR.getD 0 RD.d).at_)⟩).set 1 ⟨List.replicate (((GR.set 0 ⟨List.replicate ((GR.getD 0 RD.d).xs.length) 0, ((GR.getD 0 RD.d).at_)⟩).getD 1 RD.d).xs.length) 0, (((GR.set 0 ⟨List.replicate ((GR.getD 0 RD.d).xs.length) 0, ((GR.getD 0 RD.d).at_)⟩).getD 1 RD.d).at_)⟩).getD 2 RD.d).xs.length) 0, ((((GR.set 0 ⟨List.replicate ((GR.getD 0 RD.d).xs.length) 0, ((GR.getD 0 RD.d).at_)⟩).set 1 ⟨List.replicate (((GR.set 0 ⟨List.replicate ((GR.getD 0 RD.d).xs.length) 0, ((GR.getD 0 RD.d).at_)⟩).getD 1 RD.d).xs.length) 0, (((GR.set 0 ⟨List.replicate ((GR.getD 0 RD.d).xs.length) 0, ((GR.getD 0 RD.d).at_)⟩).getD 1 RD.d).at_)⟩).getD 2 RD.d).at_)⟩) (((PR'1.set 0 ⟨b'2, (GR.getD 0 RD.d).xs.length⟩).set 1 ⟨b'4, ((GR.set 0 ⟨List.replicate ((GR.getD 0 RD.d).xs.length) 0, ((GR.getD 0 RD.d).at_)⟩).getD 1 RD.d).xs.length⟩).set 2 ⟨b'6, (((GR.set 0 ⟨List.replicate ((GR.getD 0 RD.d).xs.length) 0, ((GR.getD 0 RD.d).at_)⟩).set 1 ⟨List.replicate (((GR.set 0 ⟨List.replicate ((GR.getD 0 RD.d).xs.length) 0, ((GR.getD 0 RD.d).at_)⟩).getD 1 RD.d).xs.length) 0, (((GR.set 0 ⟨List.replicate ((GR.getD 0 RD.d).xs.length) 0, ((GR.getD 0 RD.d).at_)⟩).getD 1 RD.d).at_)⟩).getD 2 RD.d).xs.length⟩) := OF.renew (fm5.mod m10 (fun j hj => (nC (fn17 j (Nat.lt_of_lt_of_eq hj ((List.length_set).trans ((List.length_set).trans lDR)))) nN))) ((List.length_set).trans ((List.length_set).trans lDR)) ((List.length_set).trans ((List.length_set).trans h1)) (show 2 < 3 by omega) m11 (fun j hj => (nC (fn16 j hj) nN)) r30 ge9 sz5
  have fn24 : (∀ j, j < 3 → ((((PR'1.set 0 ⟨b'2, (GR.getD 0 RD.d).xs.length⟩).set 1 ⟨b'4, ((GR.set 0 ⟨List.replicate ((GR.getD 0 RD.d).xs.length) 0, ((GR.getD 0 RD.d).at_)⟩).getD 1 RD.d).xs.length⟩).set 2 ⟨b'6, (((GR.set 0 ⟨List.replicate ((GR.getD 0 RD.d).xs.length) 0, ((GR.getD 0 RD.d).at_)⟩).set 1 ⟨List.replicate (((GR.set 0 ⟨List.replicate ((GR.getD 0 RD.d).xs.length) 0, ((GR.getD 0 RD.d).at_)⟩).getD 1 RD.d).xs.length) 0, (((GR.set 0 ⟨List.replicate ((GR.getD 0 RD.d).xs.length) 0, ((GR.getD 0 RD.d).at_)⟩).getD 1 RD.d).at_)⟩).getD 2 RD.d).xs.length⟩).getD j BC.d).b ≠ bR'1) := fun j hj => set_ne (c := bR'1) ((List.length_set).trans ((List.length_set).trans h1)) (fun hj => fn16 j hj) (lG (lL (lL r6.lt (lT sz4 m10.size)) ge9)) hj
  have fn25 : (∀ j, j < 3 → ((((PR'1.set 0 ⟨b'2, (GR.getD 0 RD.d).xs.length⟩).set 1 ⟨b'4, ((GR.set 0 ⟨List.replicate ((GR.getD 0 RD.d).xs.length) 0, ((GR.getD 0 RD.d).at_)⟩).getD 1 RD.d).xs.length⟩).set 2 ⟨b'6, (((GR.set 0 ⟨List.replicate ((GR.getD 0 RD.d).xs.length) 0, ((GR.getD 0 RD.d).at_)⟩).set 1 ⟨List.replicate (((GR.set 0 ⟨List.replicate ((GR.getD 0 RD.d).xs.length) 0, ((GR.getD 0 RD.d).at_)⟩).getD 1 RD.d).xs.length) 0, (((GR.set 0 ⟨List.replicate ((GR.getD 0 RD.d).xs.length) 0, ((GR.getD 0 RD.d).at_)⟩).getD 1 RD.d).at_)⟩).getD 2 RD.d).xs.length⟩).getD j BC.d).b ≠ bL'1) := fun j hj => set_ne (c := bL'1) ((List.length_set).trans ((List.length_set).trans h1)) (fun hj => fn17 j hj) (lG (lL (lL r7.lt (lT sz4 m10.size)) ge9)) hj
  have fn26 : (∀ j, j < 3 → ((((PR'1.set 0 ⟨b'2, (GR.getD 0 RD.d).xs.length⟩).set 1 ⟨b'4, ((GR.set 0 ⟨List.replicate ((GR.getD 0 RD.d).xs.length) 0, ((GR.getD 0 RD.d).at_)⟩).getD 1 RD.d).xs.length⟩).set 2 ⟨b'6, (((GR.set 0 ⟨List.replicate ((GR.getD 0 RD.d).xs.length) 0, ((GR.getD 0 RD.d).at_)⟩).set 1 ⟨List.replicate (((GR.set 0 ⟨List.replicate ((GR.getD 0 RD.d).xs.length) 0, ((GR.getD 0 RD.d).at_)⟩).getD 1 RD.d).xs.length) 0, (((GR.set 0 ⟨List.replicate ((GR.getD 0 RD.d).xs.length) 0, ((GR.getD 0 RD.d).at_)⟩).getD 1 RD.d).at_)⟩).getD 2 RD.d).xs.length⟩).getD j BC.d).b ≠ bS'1) := fun j hj => set_ne (c := bS'1) ((List.length_set).trans ((List.length_set).trans h1)) (fun hj => fn18 j hj) (lG (lL (lL r8.lt (lT sz4 m10.size)) ge9)) hj
  have fn27 : (∀ j q, j < 3 → q < 3 → ((((PR'1.set 0 ⟨b'2, (GR.getD 0 RD.d).xs.length⟩).set 1 ⟨b'4, ((GR.set 0 ⟨List.replicate ((GR.getD 0 RD.d).xs.length) 0, ((GR.getD 0 RD.d).at_)⟩).getD 1 RD.d).xs.length⟩).set 2 ⟨b'6, (((GR.set 0 ⟨List.replicate ((GR.getD 0 RD.d).xs.length) 0, ((GR.getD 0 RD.d).at_)⟩).set 1 ⟨List.replicate (((GR.set 0 ⟨List.replicate ((GR.getD 0 RD.d).xs.length) 0, ((GR.getD 0 RD.d).at_)⟩).getD 1 RD.d).xs.length) 0, (((GR.set 0 ⟨List.replicate ((GR.getD 0 RD.d).xs.length) 0, ((GR.getD 0 RD.d).at_)⟩).getD 1 RD.d).at_)⟩).getD 2 RD.d).xs.length⟩).getD j BC.d).b ≠ (((PL'1.set 0 ⟨b'3, (GL.getD 0 RD.d).xs.length⟩).set 1 ⟨b'5, ((GL.set 0 ⟨List.replicate ((GL.getD 0 RD.d).xs.length) 0, ((GL.getD 0 RD.d).at_)⟩).getD 1 RD.d).xs.length⟩).getD q BC.d).b) := fun j q hj hq => set_ne (c := (((PL'1.set 0 ⟨b'3, (GL.getD 0 RD.d).xs.length⟩).set 1 ⟨b'5, ((GL.set 0 ⟨List.replicate ((GL.getD 0 RD.d).xs.length) 0, ((GL.getD 0 RD.d).at_)⟩).getD 1 RD.d).xs.length⟩).getD q BC.d).b) ((List.length_set).trans ((List.length_set).trans h1)) (fun hj => fn23 j q hj hq) (Ne.symm (lE (lL (OF.lt fm6 (Nat.lt_of_lt_of_eq hq ((List.length_set).trans ((List.length_set).trans lDL)).symm)) (lT lR ge9)))) hj
  have r31 : Row w11 bR'1 0 (olc (((GR.set 0 ⟨List.replicate ((GR.getD 0 RD.d).xs.length) 0, ((GR.getD 0 RD.d).at_)⟩).set 1 ⟨List.replicate (((GR.set 0 ⟨List.replicate ((GR.getD 0 RD.d).xs.length) 0, ((GR.getD 0 RD.d).at_)⟩).getD 1 RD.d).xs.length) 0, (((GR.set 0 ⟨List.replicate ((GR.getD 0 RD.d).xs.length) 0, ((GR.getD 0 RD.d).at_)⟩).getD 1 RD.d).at_)⟩).set 2 ⟨List.replicate ((((GR.set 0 ⟨List.replicate ((GR.getD 0 RD.d).xs.length) 0, ((GR.getD 0 RD.d).at_)⟩).set 1 ⟨List.replicate (((GR.set 0 ⟨List.replicate ((GR.getD 0 RD.d).xs.length) 0, ((GR.getD 0 RD.d).at_)⟩).getD 1 RD.d).xs.length) 0, (((GR.set 0 ⟨List.replicate ((GR.getD 0 RD.d).xs.length) 0, ((GR.getD 0 RD.d).at_)⟩).getD 1 RD.d).at_)⟩).getD 2 RD.d).xs.length) 0, ((((GR.set 0 ⟨List.replicate ((GR.getD 0 RD.d).xs.length) 0, ((GR.getD 0 RD.d).at_)⟩).set 1 ⟨List.replicate (((GR.set 0 ⟨List.replicate ((GR.getD 0 RD.d).xs.length) 0, ((GR.getD 0 RD.d).at_)⟩).getD 1 RD.d).xs.length) 0, (((GR.set 0 ⟨List.replicate ((GR.getD 0 RD.d).xs.length) 0, ((GR.getD 0 RD.d).at_)⟩).getD 1 RD.d).at_)⟩).getD 2 RD.d).at_)⟩) (((PR'1.set 0 ⟨b'2, (GR.getD 0 RD.d).xs.length⟩).set 1 ⟨b'4, ((GR.set 0 ⟨List.replicate ((GR.getD 0 RD.d).xs.length) 0, ((GR.getD 0 RD.d).at_)⟩).getD 1 RD.d).xs.length⟩).set 2 ⟨b'6, (((GR.set 0 ⟨List.replicate ((GR.getD 0 RD.d).xs.length) 0, ((GR.getD 0 RD.d).at_)⟩).set 1 ⟨List.replicate (((GR.set 0 ⟨List.replicate ((GR.getD 0 RD.d).xs.length) 0, ((GR.getD 0 RD.d).at_)⟩).getD 1 RD.d).xs.length) 0, (((GR.set 0 ⟨List.replicate ((GR.getD 0 RD.d).xs.length) 0, ((GR.getD 0 RD.d).at_)⟩).getD 1 RD.d).at_)⟩).getD 2 RD.d).xs.length⟩)) := Row.congr r29 (olc_renew ((List.length_set).trans ((List.length_set).trans lDR)) ((List.length_set).trans ((List.length_set).trans h1)) (show 2 < 3 by omega) rfl List.length_replicate)
  refine WL.end ?_
  refine NE.blk ?_
  refine NE.code ?_
  refine CE.region ?_
  refine WL.det (op_add (r := 5) rfl rfl (by decide)) rfl rfl rfl ?_
  refine WL.det (op_move rfl) rfl rfl rfl ?_
  refine WL.end ?_
  refine NE.round ?_
  refine RN.one ?_
  refine CE.seq ?_
  refine CE.region ?_
  refine WL.det (op_lti rfl rfl) rfl rfl rfl ?_
  refine WL.end ?_
  refine NE.code ?_
  refine CE.seq ?_
  refine CE.cond_t rfl rfl ?_
  refine CE.skip' ?_
  refine NE.code ?_
  refine CE.seq ?_
  refine CE.block ?_
  refine CE.seq ?_
  refine CE.region ?_
  refine WL.det (op_indexSl (off' := 5) rfl rfl rfl Try.runUnderlying97 Try.sizeOf112 (by omega) (by omega) rfl) rfl rfl rfl ?_
  refine WL.det (op_load1 (i := 5) rfl Try.isAgg112 (r28.mod m11 (nC (lG (lL (lL r6.lt m5.size) ge4)) nN)).rng rfl rfl) rfl rfl rfl ?_
  refine WL.det (op_assign rfl) rfl rfl rfl ?_
  refine WL.end ?_
  refine NE.code ?_
  refine CE.region ?_
  refine WL.det (op_move rfl) rfl rfl rfl ?_
  refine WL.call (oc_call (vs := [vP bL'1 4]) (cap := []) rfl rfl rfl Try.call89 (c_muteR ((((GL.set 0 ⟨List.replicate ((GL.getD 0 RD.d).xs.length) 0, ((GL.getD 0 RD.d).at_)⟩).set 1 ⟨List.replicate (((GL.set 0 ⟨List.replicate ((GL.getD 0 RD.d).xs.length) 0, ((GL.getD 0 RD.d).at_)⟩).getD 1 RD.d).xs.length) 0, (((GL.set 0 ⟨List.replicate ((GL.getD 0 RD.d).xs.length) 0, ((GL.getD 0 RD.d).at_)⟩).getD 1 RD.d).at_)⟩).getD 2 RD.d).xs.length) ((((PL'1.set 0 ⟨b'3, (GL.getD 0 RD.d).xs.length⟩).set 1 ⟨b'5, ((GL.set 0 ⟨List.replicate ((GL.getD 0 RD.d).xs.length) 0, ((GL.getD 0 RD.d).at_)⟩).getD 1 RD.d).xs.length⟩).getD 2 BC.d).c) ((((PL'1.set 0 ⟨b'3, (GL.getD 0 RD.d).xs.length⟩).set 1 ⟨b'5, ((GL.set 0 ⟨List.replicate ((GL.getD 0 RD.d).xs.length) 0, ((GL.getD 0 RD.d).at_)⟩).getD 1 RD.d).xs.length⟩).getD 2 BC.d).b) ((((GL.set 0 ⟨List.replicate ((GL.getD 0 RD.d).xs.length) 0, ((GL.getD 0 RD.d).at_)⟩).set 1 ⟨List.replicate (((GL.set 0 ⟨List.replicate ((GL.getD 0 RD.d).xs.length) 0, ((GL.getD 0 RD.d).at_)⟩).getD 1 RD.d).xs.length) 0, (((GL.set 0 ⟨List.replicate ((GL.getD 0 RD.d).xs.length) 0, ((GL.getD 0 RD.d).at_)⟩).getD 1 RD.d).at_)⟩).getD 2 RD.d).at_) bL'1 4 (olc ((GL.set 0 ⟨List.replicate ((GL.getD 0 RD.d).xs.length) 0, ((GL.getD 0 RD.d).at_)⟩).set 1 ⟨List.replicate (((GL.set 0 ⟨List.replicate ((GL.getD 0 RD.d).xs.length) 0, ((GL.getD 0 RD.d).at_)⟩).getD 1 RD.d).xs.length) 0, (((GL.set 0 ⟨List.replicate ((GL.getD 0 RD.d).xs.length) 0, ((GL.getD 0 RD.d).at_)⟩).getD 1 RD.d).at_)⟩) ((PL'1.set 0 ⟨b'3, (GL.getD 0 RD.d).xs.length⟩).set 1 ⟨b'5, ((GL.set 0 ⟨List.replicate ((GL.getD 0 RD.d).xs.length) 0, ((GL.getD 0 RD.d).at_)⟩).getD 1 RD.d).xs.length⟩)) (by first | omega | exact hzR _ | exact hzL _ | exact mute_set hzR _ | exact mute_set hzL _ | exact mute_set (mute_set hzR) _ | exact mute_set (mute_set hzL) _) (olc_fit ((List.length_set).trans ((List.length_set).trans lDL)) ((List.length_set).trans ((List.length_set).trans h2)) (show 2 < 3 by omega) rfl) w11 (Row.congr (r27.mod m11 (nC (Ne.symm ne1) nN)) (olc_part ((List.length_set).trans ((List.length_set).trans lDL)) ((List.length_set).trans ((List.length_set).trans h2)) (show 2 < 3 by omega) rfl)))) rfl rfl (ltb rfl) ?_
  rintro _ w12 ⟨b'7, rfl, r32, r33, ge10, m12⟩
  have fm8 : OF w3.heap.size w12 (((GL.set 0 ⟨List.replicate ((GL.getD 0 RD.d).xs.length) 0, ((GL.getD 0 RD.d).at_)⟩).set 1 ⟨List.replicate (((GL.set 0 ⟨List.replicate ((GL.getD 0 RD.d).xs.length) 0, ((GL.getD 0 RD.d).at_)⟩).getD 1 RD.d).xs.length) 0, (((GL.set 0 ⟨List.replicate ((GL.getD 0 RD.d).xs.length) 0, ((GL.getD 0 RD.d).at_)⟩).getD 1 RD.d).at_)⟩).set 2 ⟨List.replicate ((((GL.set 0 ⟨List.replicate ((GL.getD 0 RD.d).xs.length) 0, ((GL.getD 0 RD.d).at_)⟩).set 1 ⟨List.replicate (((GL.set 0 ⟨List.replicate ((GL.getD 0 RD.d).xs.length) 0, ((GL.getD 0 RD.d).at_)⟩).getD 1 RD.d).xs.length) 0, (((GL.set 0 ⟨List.replicate ((GL.getD 0 RD.d).xs.length) 0, ((GL.getD 0 RD.d).at_)⟩).getD 1 RD.d).at_)⟩).getD 2 RD.d).xs.length) 0, ((((GL.set 0 ⟨List.replicate ((GL.getD 0 RD.d).xs.length) 0, ((GL.getD 0 RD.d).at_)⟩).set 1 ⟨List.replicate (((GL.set 0 ⟨List.replicate ((GL.getD 0 RD.d).xs.length) 0, ((GL.getD 0 RD.d).at_)⟩).getD 1 RD.d).xs.length) 0, (((GL.set 0 ⟨List.replicate ((GL.getD 0 RD.d).xs.length) 0, ((GL.getD 0 RD.d).at_)⟩).getD 1 RD.d).at_)⟩).getD 2 RD.d).at_)⟩) (((PL'1.set 0 ⟨b'3, (GL.getD 0 RD.d).xs.length⟩).set 1 ⟨b'5, ((GL.set 0 ⟨List.replicate ((GL.getD 0 RD.d).xs.length) 0, ((GL.getD 0 RD.d).at_)⟩).getD 1 RD.d).xs.length⟩).set 2 ⟨b'7, (((GL.set 0 ⟨List.replicate ((GL.getD 0 RD.d).xs.length) 0, ((GL.getD 0 RD.d).at_)⟩).set 1 ⟨List.replicate (((GL.set 0 ⟨List.replicate ((GL.getD 0 RD.d).xs.length) 0, ((GL.getD 0 RD.d).at_)⟩).getD 1 RD.d).xs.length) 0, (((GL.set 0 ⟨List.replicate ((GL.getD 0 RD.d).xs.length) 0, ((GL.getD 0 RD.d).at_)⟩).getD 1 RD.d).at_)⟩).getD 2 RD.d).xs.length⟩) := OF.renew (fm6.mod m11 (fun j hj => (nC (fn20 j (Nat.lt_of_lt_of_eq hj ((List.length_set).trans ((List.length_set).trans lDL)))) nN))) ((List.length_set).trans ((List.length_set).trans lDL)) ((List.length_set).trans ((List.length_set).trans h2)) (show 2 < 3 by omega) m12 (fun j hj => (nC (fn21 j hj) nN)) r33 ge10 (lT sz5 m11.size)
  have sz6 := (lT (lT sz4 m10.size) m11.size)
  have fn28 : (∀ j, j < 3 → ((((PL'1.set 0 ⟨b'3, (GL.getD 0 RD.d).xs.length⟩).set 1 ⟨b'5, ((GL.set 0 ⟨List.replicate ((GL.getD 0 RD.d).xs.length) 0, ((GL.getD 0 RD.d).at_)⟩).getD 1 RD.d).xs.length⟩).set 2 ⟨b'7, (((GL.set 0 ⟨List.replicate ((GL.getD 0 RD.d).xs.length) 0, ((GL.getD 0 RD.d).at_)⟩).set 1 ⟨List.replicate (((GL.set 0 ⟨List.replicate ((GL.getD 0 RD.d).xs.length) 0, ((GL.getD 0 RD.d).at_)⟩).getD 1 RD.d).xs.length) 0, (((GL.set 0 ⟨List.replicate ((GL.getD 0 RD.d).xs.length) 0, ((GL.getD 0 RD.d).at_)⟩).getD 1 RD.d).at_)⟩).getD 2 RD.d).xs.length⟩).getD j BC.d).b ≠ bR'1) := fun j hj => set_ne (c := bR'1) ((List.length_set).trans ((List.length_set).trans h2)) (fun hj => fn20 j hj) (lG (lL (lL r6.lt sz6) ge10)) hj
  have fn29 : (∀ j, j < 3 → ((((PL'1.set 0 ⟨b'3, (GL.getD 0 RD.d).xs.length⟩).set 1 ⟨b'5, ((GL.set 0 ⟨List.replicate ((GL.getD 0 RD.d).xs.length) 0, ((GL.getD 0 RD.d).at_)⟩).getD 1 RD.d).xs.length⟩).set 2 ⟨b'7, (((GL.set 0 ⟨List.replicate ((GL.getD 0 RD.d).xs.length) 0, ((GL.getD 0 RD.d).at_)⟩).set 1 ⟨List.replicate (((GL.set 0 ⟨List.replicate ((GL.getD 0 RD.d).xs.length) 0, ((GL.getD 0 RD.d).at_)⟩).getD 1 RD.d).xs.length) 0, (((GL.set 0 ⟨List.replicate ((GL.getD 0 RD.d).xs.length) 0, ((GL.getD 0 RD.d).at_)⟩).getD 1 RD.d).at_)⟩).getD 2 RD.d).xs.length⟩).getD j BC.d).b ≠ bL'1) := fun j hj => set_ne (c := bL'1) ((List.length_set).trans ((List.length_set).trans h2)) (fun hj => fn21 j hj) (lG (lL (lL r7.lt sz6) ge10)) hj
  have fn30 : (∀ j, j < 3 → ((((PL'1.set 0 ⟨b'3, (GL.getD 0 RD.d).xs.length⟩).set 1 ⟨b'5, ((GL.set 0 ⟨List.replicate ((GL.getD 0 RD.d).xs.length) 0, ((GL.getD 0 RD.d).at_)⟩).getD 1 RD.d).xs.length⟩).set 2 ⟨b'7, (((GL.set 0 ⟨List.replicate ((GL.getD 0 RD.d).xs.length) 0, ((GL.getD 0 RD.d).at_)⟩).set 1 ⟨List.replicate (((GL.set 0 ⟨List.replicate ((GL.getD 0 RD.d).xs.length) 0, ((GL.getD 0 RD.d).at_)⟩).getD 1 RD.d).xs.length) 0, (((GL.set 0 ⟨List.replicate ((GL.getD 0 RD.d).xs.length) 0, ((GL.getD 0 RD.d).at_)⟩).getD 1 RD.d).at_)⟩).getD 2 RD.d).xs.length⟩).getD j BC.d).b ≠ bS'1) := fun j hj => set_ne (c := bS'1) ((List.length_set).trans ((List.length_set).trans h2)) (fun hj => fn22 j hj) (lG (lL (lL r8.lt sz6) ge10)) hj
  have fn31 : (∀ j q, j < 3 → q < 3 → ((((PR'1.set 0 ⟨b'2, (GR.getD 0 RD.d).xs.length⟩).set 1 ⟨b'4, ((GR.set 0 ⟨List.replicate ((GR.getD 0 RD.d).xs.length) 0, ((GR.getD 0 RD.d).at_)⟩).getD 1 RD.d).xs.length⟩).set 2 ⟨b'6, (((GR.set 0 ⟨List.replicate ((GR.getD 0 RD.d).xs.length) 0, ((GR.getD 0 RD.d).at_)⟩).set 1 ⟨List.replicate (((GR.set 0 ⟨List.replicate ((GR.getD 0 RD.d).xs.length) 0, ((GR.getD 0 RD.d).at_)⟩).getD 1 RD.d).xs.length) 0, (((GR.set 0 ⟨List.replicate ((GR.getD 0 RD.d).xs.length) 0, ((GR.getD 0 RD.d).at_)⟩).getD 1 RD.d).at_)⟩).getD 2 RD.d).xs.length⟩).getD j BC.d).b ≠ ((((PL'1.set 0 ⟨b'3, (GL.getD 0 RD.d).xs.length⟩).set 1 ⟨b'5, ((GL.set 0 ⟨List.replicate ((GL.getD 0 RD.d).xs.length) 0, ((GL.getD 0 RD.d).at_)⟩).getD 1 RD.d).xs.length⟩).set 2 ⟨b'7, (((GL.set 0 ⟨List.replicate ((GL.getD 0 RD.d).xs.length) 0, ((GL.getD 0 RD.d).at_)⟩).set 1 ⟨List.replicate (((GL.set 0 ⟨List.replicate ((GL.getD 0 RD.d).xs.length) 0, ((GL.getD 0 RD.d).at_)⟩).getD 1 RD.d).xs.length) 0, (((GL.set 0 ⟨List.replicate ((GL.getD 0 RD.d).xs.length) 0, ((GL.getD 0 RD.d).at_)⟩).getD 1 RD.d).at_)⟩).getD 2 RD.d).xs.length⟩).getD q BC.d).b) := fun j q hj hq => Ne.symm (set_ne (c := ((((PR'1.set 0 ⟨b'2, (GR.getD 0 RD.d).xs.length⟩).set 1 ⟨b'4, ((GR.set 0 ⟨List.replicate ((GR.getD 0 RD.d).xs.length) 0, ((GR.getD 0 RD.d).at_)⟩).getD 1 RD.d).xs.length⟩).set 2 ⟨b'6, (((GR.set 0 ⟨List.replicate ((GR.getD 0 RD.d).xs.length) 0, ((GR.getD 0 RD.d).at_)⟩).set 1 ⟨List.replicate (((GR.set 0 ⟨List.replicate ((GR.getD 0 RD.d).xs.length) 0, ((GR.getD 0 RD.d).at_)⟩).getD 1 RD.d).xs.length) 0, (((GR.set 0 ⟨List.replicate ((GR.getD 0 RD.d).xs.length) 0, ((GR.getD 0 RD.d).at_)⟩).getD 1 RD.d).at_)⟩).getD 2 RD.d).xs.length⟩).getD j BC.d).b) ((List.length_set).trans ((List.length_set).trans h2)) (fun hq => Ne.symm (fn27 j q hj hq)) (lG (lL (OF.lt fm7 (Nat.lt_of_lt_of_eq hj ((List.length_set).trans ((List.length_set).trans ((List.length_set).trans lDR))).symm)) (lT lR ge10))) hq)
  have r34 : Row w12 bL'1 0 (olc (((GL.set 0 ⟨List.replicate ((GL.getD 0 RD.d).xs.length) 0, ((GL.getD 0 RD.d).at_)⟩).set 1 ⟨List.replicate (((GL.set 0 ⟨List.replicate ((GL.getD 0 RD.d).xs.length) 0, ((GL.getD 0 RD.d).at_)⟩).getD 1 RD.d).xs.length) 0, (((GL.set 0 ⟨List.replicate ((GL.getD 0 RD.d).xs.length) 0, ((GL.getD 0 RD.d).at_)⟩).getD 1 RD.d).at_)⟩).set 2 ⟨List.replicate ((((GL.set 0 ⟨List.replicate ((GL.getD 0 RD.d).xs.length) 0, ((GL.getD 0 RD.d).at_)⟩).set 1 ⟨List.replicate (((GL.set 0 ⟨List.replicate ((GL.getD 0 RD.d).xs.length) 0, ((GL.getD 0 RD.d).at_)⟩).getD 1 RD.d).xs.length) 0, (((GL.set 0 ⟨List.replicate ((GL.getD 0 RD.d).xs.length) 0, ((GL.getD 0 RD.d).at_)⟩).getD 1 RD.d).at_)⟩).getD 2 RD.d).xs.length) 0, ((((GL.set 0 ⟨List.replicate ((GL.getD 0 RD.d).xs.length) 0, ((GL.getD 0 RD.d).at_)⟩).set 1 ⟨List.replicate (((GL.set 0 ⟨List.replicate ((GL.getD 0 RD.d).xs.length) 0, ((GL.getD 0 RD.d).at_)⟩).getD 1 RD.d).xs.length) 0, (((GL.set 0 ⟨List.replicate ((GL.getD 0 RD.d).xs.length) 0, ((GL.getD 0 RD.d).at_)⟩).getD 1 RD.d).at_)⟩).getD 2 RD.d).at_)⟩) (((PL'1.set 0 ⟨b'3, (GL.getD 0 RD.d).xs.length⟩).set 1 ⟨b'5, ((GL.set 0 ⟨List.replicate ((GL.getD 0 RD.d).xs.length) 0, ((GL.getD 0 RD.d).at_)⟩).getD 1 RD.d).xs.length⟩).set 2 ⟨b'7, (((GL.set 0 ⟨List.replicate ((GL.getD 0 RD.d).xs.length) 0, ((GL.getD 0 RD.d).at_)⟩).set 1 ⟨List.replicate (((GL.set 0 ⟨List.replicate ((GL.getD 0 RD.d).xs.length) 0, ((GL.getD 0 RD.d).at_)⟩).getD 1 RD.d).xs.length) 0, (((GL.set 0 ⟨List.replicate ((GL.getD 0 RD.d).xs.length) 0, ((GL.getD 0 RD.d).at_)⟩).getD 1 RD.d).at_)⟩).getD 2 RD.d).xs.length⟩)) := Row.congr r32 (olc_renew ((List.length_set).trans ((List.length_set).trans lDL)) ((List.length_set).trans ((List.length_set).trans h2)) (show 2 < 3 by omega) rfl List.length_replicate)
  refine WL.end ?_
  refine NE.blk ?_
  refine NE.code ?_
  refine CE.region ?_
  refine WL.det (op_add (r := 6) rfl rfl (by decide)) rfl rfl rfl ?_
  refine WL.det (op_move rfl) rfl rfl rfl ?_
  refine WL.end ?_
  refine NE.round ?_
  refine RN.one ?_
  refine CE.seq ?_
  refine CE.region ?_
  refine WL.det (op_lti rfl rfl) rfl rfl rfl ?_
  refine WL.end ?_
  refine NE.code ?_
  refine CE.seq ?_
  refine CE.cond_f rfl rfl ?_
  refine CE.exit' ?_
  iterate 2 refine XE.exit_then ?_
  refine XE.exit_here ?_
  refine NE.code ?_
  refine CE.seq ?_
  refine CE.region ?_
  refine WL.det (op_build (qs := []) (cells := #[vF 0, vF 0]) rfl (by kernel_rfl)) rfl rfl rfl ?_
  refine WL.det (op_fieldAddr (off' := 3) rfl Try.runUnderlying33 rfl rfl Try.sizeOf31 rfl) rfl rfl rfl ?_
  refine WL.det (op_fieldAddr (off' := 7) rfl Try.runUnderlying31 rfl rfl Try.sizeOf29 rfl) rfl rfl rfl ?_
  have r35 := (((((((r11.ext m6).mod m7 (nC (lE (lL (lL r1.lt (lT m2.size m3.size)) ge1)) nN)).mod m8 (nC (lE (lL (lL r1.lt (lT m2.size m3.size)) ge2)) nN)).mod m9 (nC (lE (lL (lL r1.lt (lT m2.size m3.size)) ge1)) nN)).mod m10 (nC (lE (lL (lL r1.lt (lT m2.size m3.size)) ge2)) nN)).mod m11 (nC (lE (lL (lL r1.lt (lT m2.size m3.size)) ge1)) nN)).mod m12 (nC (lE (lL (lL r1.lt (lT m2.size m3.size)) ge2)) nN))
  refine WL.op0 (op_store (i := 7) (cs := [vF 0, vF 0]) rfl rfl rfl Try.sizeOf29 rfl r35 rfl (lB rfl) rfl) rfl rfl ?_
  rintro _ w13 ⟨r36, m13, z4⟩
  have r37 : Row w13 w.heap.size 0 [vS bR'1 0 3 cR'1, vS bL'1 0 3 cL'1, vS bS'1 0 2 cS'1, vI k, vF kc0, vF kc1, vF kc2, vF 0, vF 0, .bool op, vF lo, vF re, vF sl] := Row.congr r36 rfl
  refine WL.end ?_
  refine NE.code ?_
  refine CE.seq ?_
  refine CE.region ?_
  refine WL.det (op_loadA (i := 0) (cs := [vS bR'1 0 3 cR'1, vS bL'1 0 3 cL'1, vS bS'1 0 2 cS'1, vI k, vF kc0, vF kc1, vF kc2, vF 0, vF 0, .bool op, vF lo, vF re, vF sl]) rfl Try.isAgg33 Try.sizeOf33 r37.rng rfl rfl rfl) rfl rfl rfl ?_
  have r38 := (((((((((((r2.ext m3).ext m4).mod m5 (nC (lG (lL r1.lt lR)) nN)).ext m6).mod m7 (nC (lE (lL (lL r2.lt m3.size) ge1)) nN)).mod m8 (nC (lE (lL (lL r2.lt m3.size) ge2)) nN)).mod m9 (nC (lE (lL (lL r2.lt m3.size) ge1)) nN)).mod m10 (nC (lE (lL (lL r2.lt m3.size) ge2)) nN)).mod m11 (nC (lE (lL (lL r2.lt m3.size) ge1)) nN)).mod m12 (nC (lE (lL (lL r2.lt m3.size) ge2)) nN)).mod m13 (nC (lG (lL r1.lt lR)) nN))
  refine WL.op0 (op_store (i := 0) (cs := [vS bR'1 0 3 cR'1, vS bL'1 0 3 cL'1, vS bS'1 0 2 cS'1, vI k, vF kc0, vF kc1, vF kc2, vF 0, vF 0, .bool op, vF lo, vF re, vF sl]) rfl rfl rfl Try.sizeOf33 rfl r38 rfl (lB rfl) rfl) rfl rfl ?_
  rintro _ w14 ⟨r39, m14, z5⟩
  have r40 : Row w14 w1.heap.size 0 [vS bR'1 0 3 cR'1, vS bL'1 0 3 cL'1, vS bS'1 0 2 cS'1, vI k, vF kc0, vF kc1, vF kc2, vF 0, vF 0, .bool op, vF lo, vF re, vF sl] := Row.congr r39 rfl
  refine WL.det (op_assign rfl) rfl rfl rfl ?_
  refine WL.end ?_
  refine NE.code ?_
  refine CE.ret' ?_
  refine XE.leaveT Try.results32 (res_agg (cs := [vS bR'1 0 3 cR'1, vS bL'1 0 3 cL'1, vS bS'1 0 2 cS'1, vI k, vF kc0, vF kc1, vF kc2, vF 0, vF 0, .bool op, vF lo, vF re, vF sl]) rfl Try.isAgg33 Try.sizeOf33 r40.rng rfl (res_tmp rfl res_nil)) ?_
  have r41 := (((r31.mod m12 (nC ne1 nN)).mod m13 (nC (lG (lL (lL r1.lt (lT m2.size m3.size)) ge1)) nN)).mod m14 (nC (lG (lL (lL r2.lt m3.size) ge1)) nN))
  have r42 := ((r34.mod m13 (nC (lG (lL (lL r1.lt (lT m2.size m3.size)) ge2)) nN)).mod m14 (nC (lG (lL (lL r2.lt m3.size) ge2)) nN))
  have r43 := ((((((((((r8.mod m5 (nC (lG (lL (lL r1.lt (lT m2.size m3.size)) ge3)) nN)).ext m6).mod m7 (nC (Ne.symm ne2) nN)).mod m8 (nC (Ne.symm ne3) nN)).mod m9 (nC (Ne.symm ne2) nN)).mod m10 (nC (Ne.symm ne3) nN)).mod m11 (nC (Ne.symm ne2) nN)).mod m12 (nC (Ne.symm ne3) nN)).mod m13 (nC (lG (lL (lL r1.lt (lT m2.size m3.size)) ge3)) nN)).mod m14 (nC (lG (lL (lL r2.lt m3.size) ge3)) nN))
  have sz7 := (lT (lT m1.size m2.size) m3.size)
  refine ⟨bR'1, cR'1, (((PR'1.set 0 ⟨b'2, (GR.getD 0 RD.d).xs.length⟩).set 1 ⟨b'4, ((GR.set 0 ⟨List.replicate ((GR.getD 0 RD.d).xs.length) 0, ((GR.getD 0 RD.d).at_)⟩).getD 1 RD.d).xs.length⟩).set 2 ⟨b'6, (((GR.set 0 ⟨List.replicate ((GR.getD 0 RD.d).xs.length) 0, ((GR.getD 0 RD.d).at_)⟩).set 1 ⟨List.replicate (((GR.set 0 ⟨List.replicate ((GR.getD 0 RD.d).xs.length) 0, ((GR.getD 0 RD.d).at_)⟩).getD 1 RD.d).xs.length) 0, (((GR.set 0 ⟨List.replicate ((GR.getD 0 RD.d).xs.length) 0, ((GR.getD 0 RD.d).at_)⟩).getD 1 RD.d).at_)⟩).getD 2 RD.d).xs.length⟩), bL'1, cL'1, (((PL'1.set 0 ⟨b'3, (GL.getD 0 RD.d).xs.length⟩).set 1 ⟨b'5, ((GL.set 0 ⟨List.replicate ((GL.getD 0 RD.d).xs.length) 0, ((GL.getD 0 RD.d).at_)⟩).getD 1 RD.d).xs.length⟩).set 2 ⟨b'7, (((GL.set 0 ⟨List.replicate ((GL.getD 0 RD.d).xs.length) 0, ((GL.getD 0 RD.d).at_)⟩).set 1 ⟨List.replicate (((GL.set 0 ⟨List.replicate ((GL.getD 0 RD.d).xs.length) 0, ((GL.getD 0 RD.d).at_)⟩).getD 1 RD.d).xs.length) 0, (((GL.set 0 ⟨List.replicate ((GL.getD 0 RD.d).xs.length) 0, ((GL.getD 0 RD.d).at_)⟩).getD 1 RD.d).at_)⟩).getD 2 RD.d).xs.length⟩), bS'1, cS'1, rfl, ((List.length_set).trans ((List.length_set).trans ((List.length_set).trans h1))), ((List.length_set).trans ((List.length_set).trans ((List.length_set).trans h2))), (Row.congr r41 ?_), (Row.congr r42 ?_), r43, (lT sz7 ge1), (lT sz7 ge2), (lT sz7 ge3), ne1, ne2, ne3, (OF.congr (OF.low (((fm7.mod m12 (fun j hj => (nC (fn25 j (Nat.lt_of_lt_of_eq hj ((List.length_set).trans ((List.length_set).trans ((List.length_set).trans lDR))))) nN))).mod m13 (fun j hj => (nC (lG (lL (lL r1.lt (lT m2.size m3.size)) (fm7.ge j (Nat.lt_of_lt_of_eq (Nat.lt_of_lt_of_eq hj ((List.length_set).trans ((List.length_set).trans ((List.length_set).trans lDR)))) ((List.length_set).trans ((List.length_set).trans ((List.length_set).trans lDR))).symm)))) nN))).mod m14 (fun j hj => (nC (lG (lL (lL r2.lt m3.size) (fm7.ge j (Nat.lt_of_lt_of_eq (Nat.lt_of_lt_of_eq hj ((List.length_set).trans ((List.length_set).trans ((List.length_set).trans lDR)))) ((List.length_set).trans ((List.length_set).trans ((List.length_set).trans lDR))).symm)))) nN))) sz7) (by first | (rw [eZR]; exact mute3 lDR) | (rw [eZL]; exact mute3 lDL))), (fun j hj => (fn24 j (show j < 3 by omega))), (fun j hj => (fn25 j (show j < 3 by omega))), (fun j hj => (fn26 j (show j < 3 by omega))), (fun j q hj hq => (fn31 j q (show j < 3 by omega) (show q < 3 by omega))), (OF.congr (OF.low ((fm8.mod m13 (fun j hj => (nC (lG (lL (lL r1.lt (lT m2.size m3.size)) (fm8.ge j (Nat.lt_of_lt_of_eq (Nat.lt_of_lt_of_eq hj ((List.length_set).trans ((List.length_set).trans ((List.length_set).trans lDL)))) ((List.length_set).trans ((List.length_set).trans ((List.length_set).trans lDL))).symm)))) nN))).mod m14 (fun j hj => (nC (lG (lL (lL r2.lt m3.size) (fm8.ge j (Nat.lt_of_lt_of_eq (Nat.lt_of_lt_of_eq hj ((List.length_set).trans ((List.length_set).trans ((List.length_set).trans lDL)))) ((List.length_set).trans ((List.length_set).trans ((List.length_set).trans lDL))).symm)))) nN))) sz7) (by first | (rw [eZR]; exact mute3 lDR) | (rw [eZL]; exact mute3 lDL))), (fun j hj => (fn28 j (show j < 3 by omega))), (fun j hj => (fn29 j (show j < 3 by omega))), (fun j hj => (fn30 j (show j < 3 by omega))), (((((((((((((((Mod.refl [] w).nt m1).nt m2).nt m3).nt m4).then m5 ((aC (.inr lR) aN))).nt m6).then m7 ((aC (.inr (lT sz7 ge1)) aN))).then m8 ((aC (.inr (lT sz7 ge2)) aN))).then m9 ((aC (.inr (lT sz7 ge1)) aN))).then m10 ((aC (.inr (lT sz7 ge2)) aN))).then m11 ((aC (.inr (lT sz7 ge1)) aN))).then m12 ((aC (.inr (lT sz7 ge2)) aN))).then m13 ((aC (.inr lR) aN))).then m14 ((aC (.inr (lT m1.size lR)) aN)))⟩
  all_goals subst eZR
  all_goals subst eZL
  all_goals first | rfl | (rw [mute3 lDR]; done) | (rw [mute3 lDL]; done)

set_option maxRecDepth 100000 in
set_option maxHeartbeats 2000000 in
theorem c_sMuteS (nR : Nat) (GR : List RD) (nL : Nat) (GL : List RD) (nS : Nat) (xS : List Nat) (cR : Nat) (bR : Nat) (PR : List BC) (loR : Nat) (cL : Nat) (bL : Nat) (PL : List BC) (loL : Nat) (cS : Nat) (bS : Nat) (k : Int) (kc0 : Nat) (kc1 : Nat) (kc2 : Nat) (ks0 : Nat) (ks1 : Nat) (op : Bool) (lo : Nat) (re : Nat) (sl : Nat) (ZR : List RD) (ZL : List RD) (lDR : GR.length = nR) (lDL : GL.length = nL) (lnS : xS.length = nS) (hzR : ∀ i, (GR.getD i RD.d).xs.length ≤ 1048576) (hzL : ∀ i, (GL.getD i RD.d).xs.length ≤ 1048576) (lPR : PR.length = nR) (lPL : PL.length = nL) (mR : nR ≤ 1048576) (mL : nL ≤ 1048576) (mS : nS ≤ 1048576) (h0n : 0 < nR) (h0m : 0 < nL) (hpR : ∀ i, i < nR → 0 < (GR.getD i RD.d).xs.length) (hpL : ∀ i, i < nL → 0 < (GL.getD i RD.d).xs.length) (hs : 1 ≤ nR ∧ nR ≤ 3 ∧ nL = nR ∧ nS + 1 = nR) (h0s : 0 < nS) (hv : vPipe nR nL nS GR GL xS k kc0 kc1 kc2 ks0 ks1 lo re sl = true) (eZR : ZR = muteD GR) (eZL : ZL = muteD GL) (lZR : ZR.length = nR) (lZL : ZL.length = nL) (w : World) (rR : Rng w bR 0 (olc GR PR)) (rL : Rng w bL 0 (olc GL PL)) (rS : Rng w bS 0 (fl xS))  (FR : OF loR w GR PR) (FL : OF loL w GL PL) : Cl Try.prog 31 #[.agg #[vS bR 0 nR cR, vS bL 0 nL cL, vS bS 0 nS cS, vI k, vF kc0, vF kc1, vF kc2, vF ks0, vF ks1, .bool op, vF lo, vF re, vF sl]] w fun v w' => ∃ (bR' : Nat) (cR' : Nat) (PR' : List BC) (bL' : Nat) (cL' : Nat) (PL' : List BC) (bS' : Nat) (cS' : Nat), v = .tuple #[.agg #[vS bR' 0 nR cR', vS bL' 0 nL cL', vS bS' 0 nS cS', vI k, vF kc0, vF kc1, vF kc2, vF 0, vF 0, .bool op, vF lo, vF re, vF sl], vI 0] ∧ (PR'.length = nR) ∧ (PL'.length = nL) ∧ Row w' bR' 0 (olc ZR PR') ∧ Row w' bL' 0 (olc ZL PL') ∧ Row w' bS' 0 (fl xS) ∧ w.heap.size ≤ bR' ∧ w.heap.size ≤ bL' ∧ w.heap.size ≤ bS' ∧ bR' ≠ bL' ∧ bR' ≠ bS' ∧ bL' ≠ bS' ∧ OF w.heap.size w' ZR PR' ∧ (∀ i, i < nR → (PR'.getD i BC.d).b ≠ bR') ∧ (∀ i, i < nR → (PR'.getD i BC.d).b ≠ bL') ∧ (∀ i, i < nR → (PR'.getD i BC.d).b ≠ bS') ∧ (∀ i j, i < nR → j < nL → (PR'.getD i BC.d).b ≠ (PL'.getD j BC.d).b) ∧ OF w.heap.size w' ZL PL' ∧ (∀ i, i < nL → (PL'.getD i BC.d).b ≠ bR') ∧ (∀ i, i < nL → (PL'.getD i BC.d).b ≠ bL') ∧ (∀ i, i < nL → (PL'.getD i BC.d).b ≠ bS') ∧ Mod [] w w' := by
  refine Cl.of Try.func31 Try.ntmps31 rfl rfl (ρ := [(0, .agg #[vS bR 0 nR cR, vS bL 0 nL cL, vS bS 0 nS cS, vI k, vF kc0, vF kc1, vF kc2, vF ks0, vF ks1, .bool op, vF lo, vF re, vF sl])]) rfl ?_
  refine CE.seq ?_
  refine CE.region ?_
  refine WL.op (op_box (cs := [vS bR 0 nR cR, vS bL 0 nL cL, vS bS 0 nS cS, vI k, vF kc0, vF kc1, vF kc2, vF ks0, vF ks1, .bool op, vF lo, vF re, vF sl]) rfl rfl) rfl rfl (ltb rfl) ?_
  rintro _ w1 ⟨rfl, r1, m1, z1⟩
  refine WL.op (op_alloc (cs := [.slice none 0 0, .slice none 0 0, .slice none 0 0, vI 0, vF 0, vF 0, vF 0, vF 0, vF 0, .bool false, vF 0, vF 0, vF 0]) Try.zeroValue33 rfl) rfl rfl (ltb rfl) ?_
  rintro _ w2 ⟨rfl, r2, m2, z2⟩
  refine WL.det (op_assign rfl) rfl rfl rfl ?_
  refine WL.end ?_
  refine NE.code ?_
  iterate 2 refine CE.seq ?_
  refine CE.region ?_
  refine WL.call (oc_call (vs := [vP w.heap.size 0]) (cap := []) rfl rfl rfl Try.call57 (c_l04OkS nR GR nL GL nS xS cR bR PR loR cL bL PL loL cS bS k kc0 kc1 kc2 ks0 ks1 op lo re sl w.heap.size lDR lDL lnS (by first | assumption | exact rd_small (by assumption) (by assumption) | exact markD_small (by first | assumption | exact rd_small (by assumption) (by assumption)) _) (by first | assumption | exact rd_small (by assumption) (by assumption) | exact markD_small (by first | assumption | exact rd_small (by assumption) (by assumption)) _) lPR lPL (by first | assumption | omega) (by first | assumption | omega) (by first | assumption | omega) (by omega) w2 (r1.ext m2).rng ((rR.ext m1).ext m2) ((rL.ext m1).ext m2) ((rS.ext m1).ext m2) ((FR.ext m1).ext m2) ((FL.ext m1).ext m2))) rfl rfl (ltb rfl) ?_
  rintro _ w3 ⟨rfl, m3⟩
  refine WL.det (op_not rfl) rfl rfl rfl ?_
  refine WL.end ?_
  refine NE.code ?_
  refine CE.cond_f rfl (bnot_t hv) ?_
  refine CE.skip' ?_
  refine NE.code ?_
  refine CE.seq ?_
  refine CE.region ?_
  have r3 := (((rR.ext m1).ext m2).ext m3)
  have r4 := (((rL.ext m1).ext m2).ext m3)
  have r5 := (((rS.ext m1).ext m2).ext m3)
  refine WL.call (oc_call (vs := [vP w.heap.size 0]) (cap := []) rfl rfl rfl Try.call59 (c_l04CopyS nR GR nL GL nS xS cR bR PR loR cL bL PL loL cS bS k kc0 kc1 kc2 ks0 ks1 op lo re sl w.heap.size lDR lDL lnS (by first | assumption | exact rd_small (by assumption) (by assumption) | exact markD_small (by first | assumption | exact rd_small (by assumption) (by assumption)) _) (by first | assumption | exact rd_small (by assumption) (by assumption) | exact markD_small (by first | assumption | exact rd_small (by assumption) (by assumption)) _) lPR lPL (by first | assumption | omega) (by first | assumption | omega) (by first | assumption | omega) (by omega) (by omega) (by first | assumption | exact vRings_pos (by assumption)) (by first | assumption | exact vRings_pos (by assumption)) (by first | assumption | omega) w3 ((r1.ext m2).ext m3).rng r3 r4 r5 (((FR.ext m1).ext m2).ext m3) (((FL.ext m1).ext m2).ext m3))) rfl rfl (ltb rfl) ?_
  rintro _ w4 ⟨bR'1, cR'1, PR'1, bL'1, cL'1, PL'1, bS'1, cS'1, rfl, h1, h2, r6, r7, r8, ge1, ge2, ge3, ne1, ne2, ne3, fm1, fn1, fn2, fn3, fn4, fm2, fn5, fn6, fn7, m4⟩
  refine WL.op (op_alloc (cs := [.slice none 0 0, .slice none 0 0, .slice none 0 0, vI 0, vF 0, vF 0, vF 0, vF 0, vF 0, .bool false, vF 0, vF 0, vF 0]) Try.zeroValue33 rfl) rfl rfl (ltb rfl) ?_
  rintro _ w5 ⟨rfl, r9, m5, z3⟩
  refine WL.op0 (op_store (i := 0) (cs := [vS bR'1 0 nR cR'1, vS bL'1 0 nL cL'1, vS bS'1 0 nS cS'1, vI k, vF kc0, vF kc1, vF kc2, vF ks0, vF ks1, .bool op, vF lo, vF re, vF sl]) rfl rfl rfl Try.sizeOf33 rfl r9 rfl (lB rfl) rfl) rfl rfl ?_
  rintro _ w6 ⟨r10, m6, z4⟩
  have r11 : Row w6 w4.heap.size 0 [vS bR'1 0 nR cR'1, vS bL'1 0 nL cL'1, vS bS'1 0 nS cS'1, vI k, vF kc0, vF kc1, vF kc2, vF ks0, vF ks1, .bool op, vF lo, vF re, vF sl] := Row.congr r10 rfl
  refine WL.end ?_
  refine NE.code ?_
  refine CE.seq ?_
  refine CE.region ?_
  refine WL.det (op_fieldAddr (off' := 0) rfl Try.runUnderlying33 rfl rfl Try.sizeOf25 rfl) rfl rfl rfl ?_
  refine WL.det (op_load1 (i := 0) rfl Try.isAgg25 r11.rng rfl rfl) rfl rfl rfl ?_
  refine WL.call (oc_call (vs := [vS bR'1 0 nR cR'1]) (cap := []) rfl rfl rfl Try.call88 (c_l04MuteS nR cR'1 bR'1 GR PR'1 w3.heap.size lDR h1 (by first | assumption | exact rd_small (by assumption) (by assumption) | exact markD_small (by first | assumption | exact rd_small (by assumption) (by assumption)) _) (by first | assumption | omega) (by first | assumption | omega) w6 ((r6.ext m5).mod m6 (nC (lE (lL r6.lt lR)) nN)).rng ((fm1.ext m5).mod m6 (fun j hj => (nC (lE (lL (OF.lt fm1 (Nat.lt_of_lt_of_eq (Nat.lt_of_lt_of_eq hj lDR) lDR.symm)) lR)) nN))))) rfl rfl (ltb rfl) ?_
  rintro _ w7 ⟨b'1, c'1, P'1, rfl, h3, r12, ge4, fm3, fn8, m7⟩
  refine WL.det (op_fieldAddr (off' := 0) rfl Try.runUnderlying33 rfl rfl Try.sizeOf25 rfl) rfl rfl rfl ?_
  refine WL.op0 (op_store (i := 0) (cs := [vS b'1 0 nR c'1]) rfl rfl rfl Try.sizeOf25 rfl (r11.ext m7) rfl (lB rfl) rfl) rfl rfl ?_
  rintro _ w8 ⟨r13, m8, z5⟩
  have r14 : Row w8 w4.heap.size 0 [vS b'1 0 nR c'1, vS bL'1 0 nL cL'1, vS bS'1 0 nS cS'1, vI k, vF kc0, vF kc1, vF kc2, vF ks0, vF ks1, .bool op, vF lo, vF re, vF sl] := Row.congr r13 rfl
  refine WL.end ?_
  refine NE.code ?_
  refine CE.seq ?_
  refine CE.region ?_
  refine WL.det (op_fieldAddr (off' := 1) rfl Try.runUnderlying33 rfl rfl Try.sizeOf25 rfl) rfl rfl rfl ?_
  refine WL.det (op_load1 (i := 1) rfl Try.isAgg25 r14.rng rfl rfl) rfl rfl rfl ?_
  have r15 := ((((r7.ext m5).mod m6 (nC (lE (lL r7.lt lR)) nN)).ext m7).mod m8 (nC (lE (lL r7.lt lR)) nN))
  refine WL.call (oc_call (vs := [vS bL'1 0 nL cL'1]) (cap := []) rfl rfl rfl Try.call88 (c_l04MuteS nL cL'1 bL'1 GL PL'1 w3.heap.size lDL h2 (by first | assumption | exact rd_small (by assumption) (by assumption) | exact markD_small (by first | assumption | exact rd_small (by assumption) (by assumption)) _) (by first | assumption | omega) (by first | assumption | omega) w8 r15.rng ((((fm2.ext m5).mod m6 (fun j hj => (nC (lE (lL (OF.lt fm2 (Nat.lt_of_lt_of_eq (Nat.lt_of_lt_of_eq hj lDL) lDL.symm)) lR)) nN))).ext m7).mod m8 (fun j hj => (nC (lE (lL (OF.lt fm2 (Nat.lt_of_lt_of_eq (Nat.lt_of_lt_of_eq hj lDL) lDL.symm)) lR)) nN))))) rfl rfl (ltb rfl) ?_
  rintro _ w9 ⟨b'2, c'2, P'2, rfl, h4, r16, ge5, fm4, fn9, m9⟩
  refine WL.det (op_fieldAddr (off' := 1) rfl Try.runUnderlying33 rfl rfl Try.sizeOf25 rfl) rfl rfl rfl ?_
  refine WL.op0 (op_store (i := 1) (cs := [vS b'2 0 nL c'2]) rfl rfl rfl Try.sizeOf25 rfl (r14.ext m9) rfl (lB rfl) rfl) rfl rfl ?_
  rintro _ w10 ⟨r17, m10, z6⟩
  have r18 : Row w10 w4.heap.size 0 [vS b'1 0 nR c'1, vS b'2 0 nL c'2, vS bS'1 0 nS cS'1, vI k, vF kc0, vF kc1, vF kc2, vF ks0, vF ks1, .bool op, vF lo, vF re, vF sl] := Row.congr r17 rfl
  refine WL.end ?_
  refine NE.code ?_
  refine CE.seq ?_
  refine CE.region ?_
  refine WL.det (op_build (qs := []) (cells := #[vF 0, vF 0]) rfl (by kernel_rfl)) rfl rfl rfl ?_
  refine WL.det (op_fieldAddr (off' := 3) rfl Try.runUnderlying33 rfl rfl Try.sizeOf31 rfl) rfl rfl rfl ?_
  refine WL.det (op_fieldAddr (off' := 7) rfl Try.runUnderlying31 rfl rfl Try.sizeOf29 rfl) rfl rfl rfl ?_
  refine WL.op0 (op_store (i := 7) (cs := [vF 0, vF 0]) rfl rfl rfl Try.sizeOf29 rfl r18 rfl (lB rfl) rfl) rfl rfl ?_
  rintro _ w11 ⟨r19, m11, z7⟩
  have r20 : Row w11 w4.heap.size 0 [vS b'1 0 nR c'1, vS b'2 0 nL c'2, vS bS'1 0 nS cS'1, vI k, vF kc0, vF kc1, vF kc2, vF 0, vF 0, .bool op, vF lo, vF re, vF sl] := Row.congr r19 rfl
  refine WL.end ?_
  refine NE.code ?_
  refine CE.seq ?_
  refine CE.region ?_
  refine WL.det (op_loadA (i := 0) (cs := [vS b'1 0 nR c'1, vS b'2 0 nL c'2, vS bS'1 0 nS cS'1, vI k, vF kc0, vF kc1, vF kc2, vF 0, vF 0, .bool op, vF lo, vF re, vF sl]) rfl Try.isAgg33 Try.sizeOf33 r20.rng rfl rfl rfl) rfl rfl rfl ?_
  have r21 := (((((((((r2.ext m3).ext m4).ext m5).mod m6 (nC (lE (lL (lL r2.lt (lT m3.size m4.size)) lR)) nN)).ext m7).mod m8 (nC (lE (lL (lL r2.lt (lT m3.size m4.size)) lR)) nN)).ext m9).mod m10 (nC (lE (lL (lL r2.lt (lT m3.size m4.size)) lR)) nN)).mod m11 (nC (lE (lL (lL r2.lt (lT m3.size m4.size)) lR)) nN))
  refine WL.op0 (op_store (i := 0) (cs := [vS b'1 0 nR c'1, vS b'2 0 nL c'2, vS bS'1 0 nS cS'1, vI k, vF kc0, vF kc1, vF kc2, vF 0, vF 0, .bool op, vF lo, vF re, vF sl]) rfl rfl rfl Try.sizeOf33 rfl r21 rfl (lB rfl) rfl) rfl rfl ?_
  rintro _ w12 ⟨r22, m12, z8⟩
  have r23 : Row w12 w1.heap.size 0 [vS b'1 0 nR c'1, vS b'2 0 nL c'2, vS bS'1 0 nS cS'1, vI k, vF kc0, vF kc1, vF kc2, vF 0, vF 0, .bool op, vF lo, vF re, vF sl] := Row.congr r22 rfl
  refine WL.det (op_assign rfl) rfl rfl rfl ?_
  refine WL.end ?_
  refine NE.code ?_
  refine CE.ret' ?_
  refine XE.leaveT Try.results31 (res_agg (cs := [vS b'1 0 nR c'1, vS b'2 0 nL c'2, vS bS'1 0 nS cS'1, vI k, vF kc0, vF kc1, vF kc2, vF 0, vF 0, .bool op, vF lo, vF re, vF sl]) rfl Try.isAgg33 Try.sizeOf33 r23.rng rfl (res_tmp rfl res_nil)) ?_
  have sz1 := (lT (lT (lT m3.size m4.size) m5.size) m6.size)
  have r24 := (((((r12.mod m8 (nC (lG (lL (lL r9.lt m6.size) ge4)) nN)).ext m9).mod m10 (nC (lG (lL (lL r9.lt m6.size) ge4)) nN)).mod m11 (nC (lG (lL (lL r9.lt m6.size) ge4)) nN)).mod m12 (nC (lG (lL (lL r2.lt sz1) ge4)) nN))
  have sz2 := (lT (lT m6.size m7.size) m8.size)
  have sz3 := (lT (lT sz1 m7.size) m8.size)
  have r25 := (((r16.mod m10 (nC (lG (lL (lL r9.lt sz2) ge5)) nN)).mod m11 (nC (lG (lL (lL r9.lt sz2) ge5)) nN)).mod m12 (nC (lG (lL (lL r2.lt sz3) ge5)) nN))
  have r26 := ((((((((r8.ext m5).mod m6 (nC (lE (lL r8.lt lR)) nN)).ext m7).mod m8 (nC (lE (lL r8.lt lR)) nN)).ext m9).mod m10 (nC (lE (lL r8.lt lR)) nN)).mod m11 (nC (lE (lL r8.lt lR)) nN)).mod m12 (nC (lG (lL (lL r2.lt m3.size) ge3)) nN))
  have sz4 := (lT (lT (lT (lT (lT m1.size m2.size) m3.size) m4.size) m5.size) m6.size)
  have sz5 := (lT (lT sz4 m7.size) m8.size)
  have sz6 := (lT (lT m1.size m2.size) m3.size)
  have sz7 := (lT (lT (lT m5.size m6.size) m7.size) m8.size)
  refine ⟨b'1, c'1, P'1, b'2, c'2, P'2, bS'1, cS'1, rfl, h3, h4, (Row.congr r24 ?_), (Row.congr r25 ?_), r26, (lT sz4 ge4), (lT sz5 ge5), (lT sz6 ge3), (lE (lL (lL r12.lt m8.size) ge5)), (lG (lL (lL r8.lt (lT m5.size m6.size)) ge4)), (lG (lL (lL r8.lt sz7) ge5)), (OF.congr (OF.low (((((fm3.mod m8 (fun j hj => (nC (lG (lL (lL r9.lt m6.size) (fm3.ge j (Nat.lt_of_lt_of_eq (Nat.lt_of_lt_of_eq hj (muteD_len lDR)) (muteD_len lDR).symm)))) nN))).ext m9).mod m10 (fun j hj => (nC (lG (lL (lL r9.lt m6.size) (fm3.ge j (Nat.lt_of_lt_of_eq (Nat.lt_of_lt_of_eq hj (muteD_len lDR)) (muteD_len lDR).symm)))) nN))).mod m11 (fun j hj => (nC (lG (lL (lL r9.lt m6.size) (fm3.ge j (Nat.lt_of_lt_of_eq (Nat.lt_of_lt_of_eq hj (muteD_len lDR)) (muteD_len lDR).symm)))) nN))).mod m12 (fun j hj => (nC (lG (lL (lL r2.lt sz1) (fm3.ge j (Nat.lt_of_lt_of_eq (Nat.lt_of_lt_of_eq hj (muteD_len lDR)) (muteD_len lDR).symm)))) nN))) sz4) (by first | (rw [eZR]; done) | (rw [eZL]; done))), (fun j hj => (fn8 j (show j < nR by omega))), (fun j hj => (lE (lL (OF.lt fm3 (Nat.lt_of_lt_of_eq (show j < nR by omega) (muteD_len lDR).symm)) (lT m8.size ge5)))), (fun j hj => (lG (lL (lL r8.lt (lT m5.size m6.size)) (fm3.ge j (Nat.lt_of_lt_of_eq (show j < nR by omega) (muteD_len lDR).symm))))), (fun j q hj hq => (lE (lL (lL (OF.lt fm3 (Nat.lt_of_lt_of_eq (show j < nR by omega) (muteD_len lDR).symm)) m8.size) (fm4.ge q (Nat.lt_of_lt_of_eq (show q < nL by omega) (muteD_len lDL).symm))))), (OF.congr (OF.low (((fm4.mod m10 (fun j hj => (nC (lG (lL (lL r9.lt sz2) (fm4.ge j (Nat.lt_of_lt_of_eq (Nat.lt_of_lt_of_eq hj (muteD_len lDL)) (muteD_len lDL).symm)))) nN))).mod m11 (fun j hj => (nC (lG (lL (lL r9.lt sz2) (fm4.ge j (Nat.lt_of_lt_of_eq (Nat.lt_of_lt_of_eq hj (muteD_len lDL)) (muteD_len lDL).symm)))) nN))).mod m12 (fun j hj => (nC (lG (lL (lL r2.lt sz3) (fm4.ge j (Nat.lt_of_lt_of_eq (Nat.lt_of_lt_of_eq hj (muteD_len lDL)) (muteD_len lDL).symm)))) nN))) sz5) (by first | (rw [eZR]; done) | (rw [eZL]; done))), (fun j hj => (lG (lL (lL r12.lt m8.size) (fm4.ge j (Nat.lt_of_lt_of_eq (show j < nL by omega) (muteD_len lDL).symm))))), (fun j hj => (fn9 j (show j < nL by omega))), (fun j hj => (lG (lL (lL r8.lt sz7) (fm4.ge j (Nat.lt_of_lt_of_eq (show j < nL by omega) (muteD_len lDL).symm))))), (((((((((((((Mod.refl [] w).nt m1).nt m2).nt m3).nt m4).nt m5).then m6 ((aC (.inr (lT (lT sz6 m4.size) lR)) aN))).nt m7).then m8 ((aC (.inr (lT (lT sz6 m4.size) lR)) aN))).nt m9).then m10 ((aC (.inr (lT (lT sz6 m4.size) lR)) aN))).then m11 ((aC (.inr (lT (lT sz6 m4.size) lR)) aN))).then m12 ((aC (.inr (lT m1.size lR)) aN)))⟩
  all_goals subst eZR
  all_goals subst eZL
  all_goals rfl

set_option maxRecDepth 100000 in
set_option maxHeartbeats 2000000 in
theorem c_sMuteS0 (nR : Nat) (GR : List RD) (nL : Nat) (GL : List RD) (xS : List Nat) (cR : Nat) (bR : Nat) (PR : List BC) (loR : Nat) (cL : Nat) (bL : Nat) (PL : List BC) (loL : Nat) (cS : Nat) (bS : Nat) (k : Int) (kc0 : Nat) (kc1 : Nat) (kc2 : Nat) (ks0 : Nat) (ks1 : Nat) (op : Bool) (lo : Nat) (re : Nat) (sl : Nat) (ZR : List RD) (ZL : List RD) (lDR : GR.length = nR) (lDL : GL.length = nL) (lnS : xS.length = 0) (hzR : ∀ i, (GR.getD i RD.d).xs.length ≤ 1048576) (hzL : ∀ i, (GL.getD i RD.d).xs.length ≤ 1048576) (lPR : PR.length = nR) (lPL : PL.length = nL) (mR : nR ≤ 1048576) (mL : nL ≤ 1048576) (h0n : 0 < nR) (h0m : 0 < nL) (hpR : ∀ i, i < nR → 0 < (GR.getD i RD.d).xs.length) (hpL : ∀ i, i < nL → 0 < (GL.getD i RD.d).xs.length) (hs : 1 ≤ nR ∧ nR ≤ 3 ∧ nL = nR ∧ 0 + 1 = nR) (hv : vPipe nR nL 0 GR GL xS k kc0 kc1 kc2 ks0 ks1 lo re sl = true) (eZR : ZR = muteD GR) (eZL : ZL = muteD GL) (lZR : ZR.length = nR) (lZL : ZL.length = nL) (w : World) (rR : Rng w bR 0 (olc GR PR)) (rL : Rng w bL 0 (olc GL PL)) (rS : Rng w bS 0 (fl xS))  (FR : OF loR w GR PR) (FL : OF loL w GL PL) : Cl Try.prog 31 #[.agg #[vS bR 0 nR cR, vS bL 0 nL cL, vS bS 0 0 cS, vI k, vF kc0, vF kc1, vF kc2, vF ks0, vF ks1, .bool op, vF lo, vF re, vF sl]] w fun v w' => ∃ (bR' : Nat) (cR' : Nat) (PR' : List BC) (bL' : Nat) (cL' : Nat) (PL' : List BC) (bS' : Nat) (cS' : Nat), v = .tuple #[.agg #[vS bR' 0 nR cR', vS bL' 0 nL cL', vS bS' 0 0 cS', vI k, vF kc0, vF kc1, vF kc2, vF 0, vF 0, .bool op, vF lo, vF re, vF sl], vI 0] ∧ (PR'.length = nR) ∧ (PL'.length = nL) ∧ Row w' bR' 0 (olc ZR PR') ∧ Row w' bL' 0 (olc ZL PL') ∧ Row w' bS' 0 (fl xS) ∧ w.heap.size ≤ bR' ∧ w.heap.size ≤ bL' ∧ w.heap.size ≤ bS' ∧ bR' ≠ bL' ∧ bR' ≠ bS' ∧ bL' ≠ bS' ∧ OF w.heap.size w' ZR PR' ∧ (∀ i, i < nR → (PR'.getD i BC.d).b ≠ bR') ∧ (∀ i, i < nR → (PR'.getD i BC.d).b ≠ bL') ∧ (∀ i, i < nR → (PR'.getD i BC.d).b ≠ bS') ∧ (∀ i j, i < nR → j < nL → (PR'.getD i BC.d).b ≠ (PL'.getD j BC.d).b) ∧ OF w.heap.size w' ZL PL' ∧ (∀ i, i < nL → (PL'.getD i BC.d).b ≠ bR') ∧ (∀ i, i < nL → (PL'.getD i BC.d).b ≠ bL') ∧ (∀ i, i < nL → (PL'.getD i BC.d).b ≠ bS') ∧ Mod [] w w' := by
  refine Cl.of Try.func31 Try.ntmps31 rfl rfl (ρ := [(0, .agg #[vS bR 0 nR cR, vS bL 0 nL cL, vS bS 0 0 cS, vI k, vF kc0, vF kc1, vF kc2, vF ks0, vF ks1, .bool op, vF lo, vF re, vF sl])]) rfl ?_
  refine CE.seq ?_
  refine CE.region ?_
  refine WL.op (op_box (cs := [vS bR 0 nR cR, vS bL 0 nL cL, vS bS 0 0 cS, vI k, vF kc0, vF kc1, vF kc2, vF ks0, vF ks1, .bool op, vF lo, vF re, vF sl]) rfl rfl) rfl rfl (ltb rfl) ?_
  rintro _ w1 ⟨rfl, r1, m1, z1⟩
  refine WL.op (op_alloc (cs := [.slice none 0 0, .slice none 0 0, .slice none 0 0, vI 0, vF 0, vF 0, vF 0, vF 0, vF 0, .bool false, vF 0, vF 0, vF 0]) Try.zeroValue33 rfl) rfl rfl (ltb rfl) ?_
  rintro _ w2 ⟨rfl, r2, m2, z2⟩
  refine WL.det (op_assign rfl) rfl rfl rfl ?_
  refine WL.end ?_
  refine NE.code ?_
  iterate 2 refine CE.seq ?_
  refine CE.region ?_
  refine WL.call (oc_call (vs := [vP w.heap.size 0]) (cap := []) rfl rfl rfl Try.call57 (c_l04OkS nR GR nL GL 0 xS cR bR PR loR cL bL PL loL cS bS k kc0 kc1 kc2 ks0 ks1 op lo re sl w.heap.size lDR lDL lnS (by first | assumption | exact rd_small (by assumption) (by assumption) | exact markD_small (by first | assumption | exact rd_small (by assumption) (by assumption)) _) (by first | assumption | exact rd_small (by assumption) (by assumption) | exact markD_small (by first | assumption | exact rd_small (by assumption) (by assumption)) _) lPR lPL (by first | assumption | omega) (by first | assumption | omega) (by first | assumption | omega) (by omega) w2 (r1.ext m2).rng ((rR.ext m1).ext m2) ((rL.ext m1).ext m2) ((rS.ext m1).ext m2) ((FR.ext m1).ext m2) ((FL.ext m1).ext m2))) rfl rfl (ltb rfl) ?_
  rintro _ w3 ⟨rfl, m3⟩
  refine WL.det (op_not rfl) rfl rfl rfl ?_
  refine WL.end ?_
  refine NE.code ?_
  refine CE.cond_f rfl (bnot_t hv) ?_
  refine CE.skip' ?_
  refine NE.code ?_
  refine CE.seq ?_
  refine CE.region ?_
  have r3 := (((rR.ext m1).ext m2).ext m3)
  have r4 := (((rL.ext m1).ext m2).ext m3)
  have r5 := (((rS.ext m1).ext m2).ext m3)
  refine WL.call (oc_call (vs := [vP w.heap.size 0]) (cap := []) rfl rfl rfl Try.call59 (c_l04CopyS0 nR GR nL GL xS cR bR PR loR cL bL PL loL cS bS k kc0 kc1 kc2 ks0 ks1 op lo re sl w.heap.size lDR lDL lnS (by first | assumption | exact rd_small (by assumption) (by assumption) | exact markD_small (by first | assumption | exact rd_small (by assumption) (by assumption)) _) (by first | assumption | exact rd_small (by assumption) (by assumption) | exact markD_small (by first | assumption | exact rd_small (by assumption) (by assumption)) _) lPR lPL (by first | assumption | omega) (by first | assumption | omega) (by omega) (by omega) (by first | assumption | exact vRings_pos (by assumption)) (by first | assumption | exact vRings_pos (by assumption)) w3 ((r1.ext m2).ext m3).rng r3 r4 r5 (((FR.ext m1).ext m2).ext m3) (((FL.ext m1).ext m2).ext m3))) rfl rfl (ltb rfl) ?_
  rintro _ w4 ⟨bR'1, cR'1, PR'1, bL'1, cL'1, PL'1, bS'1, cS'1, rfl, h1, h2, r6, r7, r8, ge1, ge2, ge3, ne1, ne2, ne3, fm1, fn1, fn2, fn3, fn4, fm2, fn5, fn6, fn7, m4⟩
  refine WL.op (op_alloc (cs := [.slice none 0 0, .slice none 0 0, .slice none 0 0, vI 0, vF 0, vF 0, vF 0, vF 0, vF 0, .bool false, vF 0, vF 0, vF 0]) Try.zeroValue33 rfl) rfl rfl (ltb rfl) ?_
  rintro _ w5 ⟨rfl, r9, m5, z3⟩
  refine WL.op0 (op_store (i := 0) (cs := [vS bR'1 0 nR cR'1, vS bL'1 0 nL cL'1, vS bS'1 0 0 cS'1, vI k, vF kc0, vF kc1, vF kc2, vF ks0, vF ks1, .bool op, vF lo, vF re, vF sl]) rfl rfl rfl Try.sizeOf33 rfl r9 rfl (lB rfl) rfl) rfl rfl ?_
  rintro _ w6 ⟨r10, m6, z4⟩
  have r11 : Row w6 w4.heap.size 0 [vS bR'1 0 nR cR'1, vS bL'1 0 nL cL'1, vS bS'1 0 0 cS'1, vI k, vF kc0, vF kc1, vF kc2, vF ks0, vF ks1, .bool op, vF lo, vF re, vF sl] := Row.congr r10 rfl
  refine WL.end ?_
  refine NE.code ?_
  refine CE.seq ?_
  refine CE.region ?_
  refine WL.det (op_fieldAddr (off' := 0) rfl Try.runUnderlying33 rfl rfl Try.sizeOf25 rfl) rfl rfl rfl ?_
  refine WL.det (op_load1 (i := 0) rfl Try.isAgg25 r11.rng rfl rfl) rfl rfl rfl ?_
  refine WL.call (oc_call (vs := [vS bR'1 0 nR cR'1]) (cap := []) rfl rfl rfl Try.call88 (c_l04MuteS nR cR'1 bR'1 GR PR'1 w3.heap.size lDR h1 (by first | assumption | exact rd_small (by assumption) (by assumption) | exact markD_small (by first | assumption | exact rd_small (by assumption) (by assumption)) _) (by first | assumption | omega) (by first | assumption | omega) w6 ((r6.ext m5).mod m6 (nC (lE (lL r6.lt lR)) nN)).rng ((fm1.ext m5).mod m6 (fun j hj => (nC (lE (lL (OF.lt fm1 (Nat.lt_of_lt_of_eq (Nat.lt_of_lt_of_eq hj lDR) lDR.symm)) lR)) nN))))) rfl rfl (ltb rfl) ?_
  rintro _ w7 ⟨b'1, c'1, P'1, rfl, h3, r12, ge4, fm3, fn8, m7⟩
  refine WL.det (op_fieldAddr (off' := 0) rfl Try.runUnderlying33 rfl rfl Try.sizeOf25 rfl) rfl rfl rfl ?_
  refine WL.op0 (op_store (i := 0) (cs := [vS b'1 0 nR c'1]) rfl rfl rfl Try.sizeOf25 rfl (r11.ext m7) rfl (lB rfl) rfl) rfl rfl ?_
  rintro _ w8 ⟨r13, m8, z5⟩
  have r14 : Row w8 w4.heap.size 0 [vS b'1 0 nR c'1, vS bL'1 0 nL cL'1, vS bS'1 0 0 cS'1, vI k, vF kc0, vF kc1, vF kc2, vF ks0, vF ks1, .bool op, vF lo, vF re, vF sl] := Row.congr r13 rfl
  refine WL.end ?_
  refine NE.code ?_
  refine CE.seq ?_
  refine CE.region ?_
  refine WL.det (op_fieldAddr (off' := 1) rfl Try.runUnderlying33 rfl rfl Try.sizeOf25 rfl) rfl rfl rfl ?_
  refine WL.det (op_load1 (i := 1) rfl Try.isAgg25 r14.rng rfl rfl) rfl rfl rfl ?_
  have r15 := ((((r7.ext m5).mod m6 (nC (lE (lL r7.lt lR)) nN)).ext m7).mod m8 (nC (lE (lL r7.lt lR)) nN))
  refine WL.call (oc_call (vs := [vS bL'1 0 nL cL'1]) (cap := []) rfl rfl rfl Try.call88 (c_l04MuteS nL cL'1 bL'1 GL PL'1 w3.heap.size lDL h2 (by first | assumption | exact rd_small (by assumption) (by assumption) | exact markD_small (by first | assumption | exact rd_small (by assumption) (by assumption)) _) (by first | assumption | omega) (by first | assumption | omega) w8 r15.rng ((((fm2.ext m5).mod m6 (fun j hj => (nC (lE (lL (OF.lt fm2 (Nat.lt_of_lt_of_eq (Nat.lt_of_lt_of_eq hj lDL) lDL.symm)) lR)) nN))).ext m7).mod m8 (fun j hj => (nC (lE (lL (OF.lt fm2 (Nat.lt_of_lt_of_eq (Nat.lt_of_lt_of_eq hj lDL) lDL.symm)) lR)) nN))))) rfl rfl (ltb rfl) ?_
  rintro _ w9 ⟨b'2, c'2, P'2, rfl, h4, r16, ge5, fm4, fn9, m9⟩
  refine WL.det (op_fieldAddr (off' := 1) rfl Try.runUnderlying33 rfl rfl Try.sizeOf25 rfl) rfl rfl rfl ?_
  refine WL.op0 (op_store (i := 1) (cs := [vS b'2 0 nL c'2]) rfl rfl rfl Try.sizeOf25 rfl (r14.ext m9) rfl (lB rfl) rfl) rfl rfl ?_
  rintro _ w10 ⟨r17, m10, z6⟩
  have r18 : Row w10 w4.heap.size 0 [vS b'1 0 nR c'1, vS b'2 0 nL c'2, vS bS'1 0 0 cS'1, vI k, vF kc0, vF kc1, vF kc2, vF ks0, vF ks1, .bool op, vF lo, vF re, vF sl] := Row.congr r17 rfl
  refine WL.end ?_
  refine NE.code ?_
  refine CE.seq ?_
  refine CE.region ?_
  refine WL.det (op_build (qs := []) (cells := #[vF 0, vF 0]) rfl (by kernel_rfl)) rfl rfl rfl ?_
  refine WL.det (op_fieldAddr (off' := 3) rfl Try.runUnderlying33 rfl rfl Try.sizeOf31 rfl) rfl rfl rfl ?_
  refine WL.det (op_fieldAddr (off' := 7) rfl Try.runUnderlying31 rfl rfl Try.sizeOf29 rfl) rfl rfl rfl ?_
  refine WL.op0 (op_store (i := 7) (cs := [vF 0, vF 0]) rfl rfl rfl Try.sizeOf29 rfl r18 rfl (lB rfl) rfl) rfl rfl ?_
  rintro _ w11 ⟨r19, m11, z7⟩
  have r20 : Row w11 w4.heap.size 0 [vS b'1 0 nR c'1, vS b'2 0 nL c'2, vS bS'1 0 0 cS'1, vI k, vF kc0, vF kc1, vF kc2, vF 0, vF 0, .bool op, vF lo, vF re, vF sl] := Row.congr r19 rfl
  refine WL.end ?_
  refine NE.code ?_
  refine CE.seq ?_
  refine CE.region ?_
  refine WL.det (op_loadA (i := 0) (cs := [vS b'1 0 nR c'1, vS b'2 0 nL c'2, vS bS'1 0 0 cS'1, vI k, vF kc0, vF kc1, vF kc2, vF 0, vF 0, .bool op, vF lo, vF re, vF sl]) rfl Try.isAgg33 Try.sizeOf33 r20.rng rfl rfl rfl) rfl rfl rfl ?_
  have r21 := (((((((((r2.ext m3).ext m4).ext m5).mod m6 (nC (lE (lL (lL r2.lt (lT m3.size m4.size)) lR)) nN)).ext m7).mod m8 (nC (lE (lL (lL r2.lt (lT m3.size m4.size)) lR)) nN)).ext m9).mod m10 (nC (lE (lL (lL r2.lt (lT m3.size m4.size)) lR)) nN)).mod m11 (nC (lE (lL (lL r2.lt (lT m3.size m4.size)) lR)) nN))
  refine WL.op0 (op_store (i := 0) (cs := [vS b'1 0 nR c'1, vS b'2 0 nL c'2, vS bS'1 0 0 cS'1, vI k, vF kc0, vF kc1, vF kc2, vF 0, vF 0, .bool op, vF lo, vF re, vF sl]) rfl rfl rfl Try.sizeOf33 rfl r21 rfl (lB rfl) rfl) rfl rfl ?_
  rintro _ w12 ⟨r22, m12, z8⟩
  have r23 : Row w12 w1.heap.size 0 [vS b'1 0 nR c'1, vS b'2 0 nL c'2, vS bS'1 0 0 cS'1, vI k, vF kc0, vF kc1, vF kc2, vF 0, vF 0, .bool op, vF lo, vF re, vF sl] := Row.congr r22 rfl
  refine WL.det (op_assign rfl) rfl rfl rfl ?_
  refine WL.end ?_
  refine NE.code ?_
  refine CE.ret' ?_
  refine XE.leaveT Try.results31 (res_agg (cs := [vS b'1 0 nR c'1, vS b'2 0 nL c'2, vS bS'1 0 0 cS'1, vI k, vF kc0, vF kc1, vF kc2, vF 0, vF 0, .bool op, vF lo, vF re, vF sl]) rfl Try.isAgg33 Try.sizeOf33 r23.rng rfl (res_tmp rfl res_nil)) ?_
  have sz1 := (lT (lT (lT m3.size m4.size) m5.size) m6.size)
  have r24 := (((((r12.mod m8 (nC (lG (lL (lL r9.lt m6.size) ge4)) nN)).ext m9).mod m10 (nC (lG (lL (lL r9.lt m6.size) ge4)) nN)).mod m11 (nC (lG (lL (lL r9.lt m6.size) ge4)) nN)).mod m12 (nC (lG (lL (lL r2.lt sz1) ge4)) nN))
  have sz2 := (lT (lT m6.size m7.size) m8.size)
  have sz3 := (lT (lT sz1 m7.size) m8.size)
  have r25 := (((r16.mod m10 (nC (lG (lL (lL r9.lt sz2) ge5)) nN)).mod m11 (nC (lG (lL (lL r9.lt sz2) ge5)) nN)).mod m12 (nC (lG (lL (lL r2.lt sz3) ge5)) nN))
  have r26 := ((((((((r8.ext m5).mod m6 (nC (lE (lL r8.lt lR)) nN)).ext m7).mod m8 (nC (lE (lL r8.lt lR)) nN)).ext m9).mod m10 (nC (lE (lL r8.lt lR)) nN)).mod m11 (nC (lE (lL r8.lt lR)) nN)).mod m12 (nC (lG (lL (lL r2.lt m3.size) ge3)) nN))
  have sz4 := (lT (lT (lT (lT (lT m1.size m2.size) m3.size) m4.size) m5.size) m6.size)
  have sz5 := (lT (lT sz4 m7.size) m8.size)
  have sz6 := (lT (lT m1.size m2.size) m3.size)
  have sz7 := (lT (lT (lT m5.size m6.size) m7.size) m8.size)
  refine ⟨b'1, c'1, P'1, b'2, c'2, P'2, bS'1, cS'1, rfl, h3, h4, (Row.congr r24 ?_), (Row.congr r25 ?_), r26, (lT sz4 ge4), (lT sz5 ge5), (lT sz6 ge3), (lE (lL (lL r12.lt m8.size) ge5)), (lG (lL (lL r8.lt (lT m5.size m6.size)) ge4)), (lG (lL (lL r8.lt sz7) ge5)), (OF.congr (OF.low (((((fm3.mod m8 (fun j hj => (nC (lG (lL (lL r9.lt m6.size) (fm3.ge j (Nat.lt_of_lt_of_eq (Nat.lt_of_lt_of_eq hj (muteD_len lDR)) (muteD_len lDR).symm)))) nN))).ext m9).mod m10 (fun j hj => (nC (lG (lL (lL r9.lt m6.size) (fm3.ge j (Nat.lt_of_lt_of_eq (Nat.lt_of_lt_of_eq hj (muteD_len lDR)) (muteD_len lDR).symm)))) nN))).mod m11 (fun j hj => (nC (lG (lL (lL r9.lt m6.size) (fm3.ge j (Nat.lt_of_lt_of_eq (Nat.lt_of_lt_of_eq hj (muteD_len lDR)) (muteD_len lDR).symm)))) nN))).mod m12 (fun j hj => (nC (lG (lL (lL r2.lt sz1) (fm3.ge j (Nat.lt_of_lt_of_eq (Nat.lt_of_lt_of_eq hj (muteD_len lDR)) (muteD_len lDR).symm)))) nN))) sz4) (by first | (rw [eZR]; done) | (rw [eZL]; done))), (fun j hj => (fn8 j (show j < nR by omega))), (fun j hj => (lE (lL (OF.lt fm3 (Nat.lt_of_lt_of_eq (show j < nR by omega) (muteD_len lDR).symm)) (lT m8.size ge5)))), (fun j hj => (lG (lL (lL r8.lt (lT m5.size m6.size)) (fm3.ge j (Nat.lt_of_lt_of_eq (show j < nR by omega) (muteD_len lDR).symm))))), (fun j q hj hq => (lE (lL (lL (OF.lt fm3 (Nat.lt_of_lt_of_eq (show j < nR by omega) (muteD_len lDR).symm)) m8.size) (fm4.ge q (Nat.lt_of_lt_of_eq (show q < nL by omega) (muteD_len lDL).symm))))), (OF.congr (OF.low (((fm4.mod m10 (fun j hj => (nC (lG (lL (lL r9.lt sz2) (fm4.ge j (Nat.lt_of_lt_of_eq (Nat.lt_of_lt_of_eq hj (muteD_len lDL)) (muteD_len lDL).symm)))) nN))).mod m11 (fun j hj => (nC (lG (lL (lL r9.lt sz2) (fm4.ge j (Nat.lt_of_lt_of_eq (Nat.lt_of_lt_of_eq hj (muteD_len lDL)) (muteD_len lDL).symm)))) nN))).mod m12 (fun j hj => (nC (lG (lL (lL r2.lt sz3) (fm4.ge j (Nat.lt_of_lt_of_eq (Nat.lt_of_lt_of_eq hj (muteD_len lDL)) (muteD_len lDL).symm)))) nN))) sz5) (by first | (rw [eZR]; done) | (rw [eZL]; done))), (fun j hj => (lG (lL (lL r12.lt m8.size) (fm4.ge j (Nat.lt_of_lt_of_eq (show j < nL by omega) (muteD_len lDL).symm))))), (fun j hj => (fn9 j (show j < nL by omega))), (fun j hj => (lG (lL (lL r8.lt sz7) (fm4.ge j (Nat.lt_of_lt_of_eq (show j < nL by omega) (muteD_len lDL).symm))))), (((((((((((((Mod.refl [] w).nt m1).nt m2).nt m3).nt m4).nt m5).then m6 ((aC (.inr (lT (lT sz6 m4.size) lR)) aN))).nt m7).then m8 ((aC (.inr (lT (lT sz6 m4.size) lR)) aN))).nt m9).then m10 ((aC (.inr (lT (lT sz6 m4.size) lR)) aN))).then m11 ((aC (.inr (lT (lT sz6 m4.size) lR)) aN))).then m12 ((aC (.inr (lT m1.size lR)) aN)))⟩
  all_goals subst eZR
  all_goals subst eZL
  all_goals rfl

set_option maxRecDepth 100000 in
set_option maxHeartbeats 2000000 in
theorem c_sMuteS_bad (nR : Nat) (GR : List RD) (nL : Nat) (GL : List RD) (nS : Nat) (xS : List Nat) (cR : Nat) (bR : Nat) (PR : List BC) (loR : Nat) (cL : Nat) (bL : Nat) (PL : List BC) (loL : Nat) (cS : Nat) (bS : Nat) (k : Int) (kc0 : Nat) (kc1 : Nat) (kc2 : Nat) (ks0 : Nat) (ks1 : Nat) (op : Bool) (lo : Nat) (re : Nat) (sl : Nat) (lDR : GR.length = nR) (lDL : GL.length = nL) (lnS : xS.length = nS) (hzR : ∀ i, (GR.getD i RD.d).xs.length ≤ 1048576) (hzL : ∀ i, (GL.getD i RD.d).xs.length ≤ 1048576) (lPR : PR.length = nR) (lPL : PL.length = nL) (mR : nR ≤ 1048576) (mL : nL ≤ 1048576) (mS : nS ≤ 1048576) (hs : 1 ≤ nR ∧ nR ≤ 3 ∧ nL = nR ∧ nS + 1 = nR) (hv : vPipe nR nL nS GR GL xS k kc0 kc1 kc2 ks0 ks1 lo re sl = false) (w : World) (rR : Rng w bR 0 (olc GR PR)) (rL : Rng w bL 0 (olc GL PL)) (rS : Rng w bS 0 (fl xS))  (FR : OF loR w GR PR) (FL : OF loL w GL PL) : Cl Try.prog 31 #[.agg #[vS bR 0 nR cR, vS bL 0 nL cL, vS bS 0 nS cS, vI k, vF kc0, vF kc1, vF kc2, vF ks0, vF ks1, .bool op, vF lo, vF re, vF sl]] w fun v w' => v = .tuple #[.agg #[.slice none 0 0, .slice none 0 0, .slice none 0 0, vI 0, vF 0, vF 0, vF 0, vF 0, vF 0, .bool false, vF 0, vF 0, vF 0], vI 1] ∧ Mod [] w w' := by
  refine Cl.of Try.func31 Try.ntmps31 rfl rfl (ρ := [(0, .agg #[vS bR 0 nR cR, vS bL 0 nL cL, vS bS 0 nS cS, vI k, vF kc0, vF kc1, vF kc2, vF ks0, vF ks1, .bool op, vF lo, vF re, vF sl])]) rfl ?_
  refine CE.seq ?_
  refine CE.region ?_
  refine WL.op (op_box (cs := [vS bR 0 nR cR, vS bL 0 nL cL, vS bS 0 nS cS, vI k, vF kc0, vF kc1, vF kc2, vF ks0, vF ks1, .bool op, vF lo, vF re, vF sl]) rfl rfl) rfl rfl (ltb rfl) ?_
  rintro _ w1 ⟨rfl, r1, m1, z1⟩
  refine WL.op (op_alloc (cs := [.slice none 0 0, .slice none 0 0, .slice none 0 0, vI 0, vF 0, vF 0, vF 0, vF 0, vF 0, .bool false, vF 0, vF 0, vF 0]) Try.zeroValue33 rfl) rfl rfl (ltb rfl) ?_
  rintro _ w2 ⟨rfl, r2, m2, z2⟩
  refine WL.det (op_assign rfl) rfl rfl rfl ?_
  refine WL.end ?_
  refine NE.code ?_
  iterate 2 refine CE.seq ?_
  refine CE.region ?_
  refine WL.call (oc_call (vs := [vP w.heap.size 0]) (cap := []) rfl rfl rfl Try.call57 (c_l04OkS nR GR nL GL nS xS cR bR PR loR cL bL PL loL cS bS k kc0 kc1 kc2 ks0 ks1 op lo re sl w.heap.size lDR lDL lnS (by first | assumption | exact rd_small (by assumption) (by assumption) | exact markD_small (by first | assumption | exact rd_small (by assumption) (by assumption)) _) (by first | assumption | exact rd_small (by assumption) (by assumption) | exact markD_small (by first | assumption | exact rd_small (by assumption) (by assumption)) _) lPR lPL (by first | assumption | omega) (by first | assumption | omega) (by first | assumption | omega) (by omega) w2 (r1.ext m2).rng ((rR.ext m1).ext m2) ((rL.ext m1).ext m2) ((rS.ext m1).ext m2) ((FR.ext m1).ext m2) ((FL.ext m1).ext m2))) rfl rfl (ltb rfl) ?_
  rintro _ w3 ⟨rfl, m3⟩
  refine WL.det (op_not rfl) rfl rfl rfl ?_
  refine WL.end ?_
  refine NE.code ?_
  refine CE.cond_t rfl (bnot_f hv) ?_
  refine CE.seq ?_
  refine CE.region ?_
  refine WL.det (op_build (qs := []) (cells := #[.slice none 0 0, .slice none 0 0, .slice none 0 0, vI 0, vF 0, vF 0, vF 0, vF 0, vF 0, .bool false, vF 0, vF 0, vF 0]) rfl (by kernel_rfl)) rfl rfl rfl ?_
  refine WL.op0 (op_store (i := 0) (cs := [.slice none 0 0, .slice none 0 0, .slice none 0 0, vI 0, vF 0, vF 0, vF 0, vF 0, vF 0, .bool false, vF 0, vF 0, vF 0]) rfl rfl rfl Try.sizeOf33 rfl (r2.ext m3) rfl (lB rfl) rfl) rfl rfl ?_
  rintro _ w4 ⟨r3, m4, z3⟩
  have r4 : Row w4 w1.heap.size 0 [.slice none 0 0, .slice none 0 0, .slice none 0 0, vI 0, vF 0, vF 0, vF 0, vF 0, vF 0, .bool false, vF 0, vF 0, vF 0] := Row.congr r3 rfl
  refine WL.det (op_assign rfl) rfl rfl rfl ?_
  refine WL.end ?_
  refine NE.code ?_
  refine CE.ret' ?_
  refine XE.ret_then ?_
  refine XE.leaveT Try.results31 (res_agg (cs := [.slice none 0 0, .slice none 0 0, .slice none 0 0, vI 0, vF 0, vF 0, vF 0, vF 0, vF 0, .bool false, vF 0, vF 0, vF 0]) rfl Try.isAgg33 Try.sizeOf33 r4.rng rfl (res_tmp rfl res_nil)) ?_
  refine ⟨rfl, (((((Mod.refl [] w).nt m1).nt m2).nt m3).then m4 ((aC (.inr (lT m1.size lR)) aN)))⟩

set_option maxRecDepth 100000 in
set_option maxHeartbeats 2000000 in
theorem c_sMuteS_shape (nR : Nat) (cR : Nat) (AR : Option Addr) (nL : Nat) (cL : Nat) (AL : Option Addr) (nS : Nat) (cS : Nat) (AS : Option Addr) (k : Int) (kc0 : Nat) (kc1 : Nat) (kc2 : Nat) (ks0 : Nat) (ks1 : Nat) (op : Bool) (lo : Nat) (re : Nat) (sl : Nat) (hv : ¬ (1 ≤ nR ∧ nR ≤ 3 ∧ nL = nR ∧ nS + 1 = nR)) (mR : nR ≤ 1048576) (mL : nL ≤ 1048576) (mS : nS ≤ 1048576) (w : World) : Cl Try.prog 31 #[.agg #[.slice AR nR cR, .slice AL nL cL, .slice AS nS cS, vI k, vF kc0, vF kc1, vF kc2, vF ks0, vF ks1, .bool op, vF lo, vF re, vF sl]] w fun v w' => v = .tuple #[.agg #[.slice none 0 0, .slice none 0 0, .slice none 0 0, vI 0, vF 0, vF 0, vF 0, vF 0, vF 0, .bool false, vF 0, vF 0, vF 0], vI 1] ∧ Mod [] w w' := by
  refine Cl.of Try.func31 Try.ntmps31 rfl rfl (ρ := [(0, .agg #[.slice AR nR cR, .slice AL nL cL, .slice AS nS cS, vI k, vF kc0, vF kc1, vF kc2, vF ks0, vF ks1, .bool op, vF lo, vF re, vF sl])]) rfl ?_
  refine CE.seq ?_
  refine CE.region ?_
  refine WL.op (op_box (cs := [.slice AR nR cR, .slice AL nL cL, .slice AS nS cS, vI k, vF kc0, vF kc1, vF kc2, vF ks0, vF ks1, .bool op, vF lo, vF re, vF sl]) rfl rfl) rfl rfl (ltb rfl) ?_
  rintro _ w1 ⟨rfl, r1, m1, z1⟩
  refine WL.op (op_alloc (cs := [.slice none 0 0, .slice none 0 0, .slice none 0 0, vI 0, vF 0, vF 0, vF 0, vF 0, vF 0, .bool false, vF 0, vF 0, vF 0]) Try.zeroValue33 rfl) rfl rfl (ltb rfl) ?_
  rintro _ w2 ⟨rfl, r2, m2, z2⟩
  refine WL.det (op_assign rfl) rfl rfl rfl ?_
  refine WL.end ?_
  refine NE.code ?_
  iterate 2 refine CE.seq ?_
  refine CE.region ?_
  refine WL.call (oc_call (vs := [vP w.heap.size 0]) (cap := []) rfl rfl rfl Try.call57 (c_l04Ok_bad nR cR AR nL cL AL nS cS AS k kc0 kc1 kc2 ks0 ks1 op lo re sl w.heap.size (by omega) (by first | assumption | omega) (by first | assumption | omega) (by first | assumption | omega) w2 (r1.ext m2).rng)) rfl rfl (ltb rfl) ?_
  rintro _ w3 ⟨rfl, m3⟩
  refine WL.det (op_not rfl) rfl rfl rfl ?_
  refine WL.end ?_
  refine NE.code ?_
  refine CE.cond_t rfl rfl ?_
  refine CE.seq ?_
  refine CE.region ?_
  refine WL.det (op_build (qs := []) (cells := #[.slice none 0 0, .slice none 0 0, .slice none 0 0, vI 0, vF 0, vF 0, vF 0, vF 0, vF 0, .bool false, vF 0, vF 0, vF 0]) rfl (by kernel_rfl)) rfl rfl rfl ?_
  refine WL.op0 (op_store (i := 0) (cs := [.slice none 0 0, .slice none 0 0, .slice none 0 0, vI 0, vF 0, vF 0, vF 0, vF 0, vF 0, .bool false, vF 0, vF 0, vF 0]) rfl rfl rfl Try.sizeOf33 rfl (r2.ext m3) rfl (lB rfl) rfl) rfl rfl ?_
  rintro _ w4 ⟨r3, m4, z3⟩
  have r4 : Row w4 w1.heap.size 0 [.slice none 0 0, .slice none 0 0, .slice none 0 0, vI 0, vF 0, vF 0, vF 0, vF 0, vF 0, .bool false, vF 0, vF 0, vF 0] := Row.congr r3 rfl
  refine WL.det (op_assign rfl) rfl rfl rfl ?_
  refine WL.end ?_
  refine NE.code ?_
  refine CE.ret' ?_
  refine XE.ret_then ?_
  refine XE.leaveT Try.results31 (res_agg (cs := [.slice none 0 0, .slice none 0 0, .slice none 0 0, vI 0, vF 0, vF 0, vF 0, vF 0, vF 0, .bool false, vF 0, vF 0, vF 0]) rfl Try.isAgg33 Try.sizeOf33 r4.rng rfl (res_tmp rfl res_nil)) ?_
  refine ⟨rfl, (((((Mod.refl [] w).nt m1).nt m2).nt m3).then m4 ((aC (.inr (lT m1.size lR)) aN)))⟩

set_option maxRecDepth 100000 in
set_option maxHeartbeats 2000000 in
theorem c_iMuteS_bad (nR : Nat) (GR : List RD) (nL : Nat) (GL : List RD) (nS : Nat) (xS : List Nat) (cR : Nat) (bR : Nat) (PR : List BC) (loR : Nat) (cL : Nat) (bL : Nat) (PL : List BC) (loL : Nat) (cS : Nat) (bS : Nat) (k : Int) (kc0 : Nat) (kc1 : Nat) (kc2 : Nat) (ks0 : Nat) (ks1 : Nat) (op : Bool) (lo : Nat) (re : Nat) (sl : Nat) (lDR : GR.length = nR) (lDL : GL.length = nL) (lnS : xS.length = nS) (hzR : ∀ i, (GR.getD i RD.d).xs.length ≤ 1048576) (hzL : ∀ i, (GL.getD i RD.d).xs.length ≤ 1048576) (lPR : PR.length = nR) (lPL : PL.length = nL) (mR : nR ≤ 1048576) (mL : nL ≤ 1048576) (mS : nS ≤ 1048576) (hs : 1 ≤ nR ∧ nR ≤ 3 ∧ nL = nR ∧ nS + 1 = nR) (hv : vPipe nR nL nS GR GL xS k kc0 kc1 kc2 ks0 ks1 lo re sl = false) (w : World) (rR : Rng w bR 0 (olc GR PR)) (rL : Rng w bL 0 (olc GL PL)) (rS : Rng w bS 0 (fl xS))  (FR : OF loR w GR PR) (FL : OF loL w GL PL) : Cl Try.prog 32 #[.agg #[vS bR 0 nR cR, vS bL 0 nL cL, vS bS 0 nS cS, vI k, vF kc0, vF kc1, vF kc2, vF ks0, vF ks1, .bool op, vF lo, vF re, vF sl]] w fun v w' => v = .tuple #[.agg #[.slice none 0 0, .slice none 0 0, .slice none 0 0, vI 0, vF 0, vF 0, vF 0, vF 0, vF 0, .bool false, vF 0, vF 0, vF 0], vI 1] ∧ Mod [] w w' := by
  refine Cl.of Try.func32 Try.ntmps32 rfl rfl (ρ := [(0, .agg #[vS bR 0 nR cR, vS bL 0 nL cL, vS bS 0 nS cS, vI k, vF kc0, vF kc1, vF kc2, vF ks0, vF ks1, .bool op, vF lo, vF re, vF sl])]) rfl ?_
  refine CE.seq ?_
  refine CE.region ?_
  refine WL.op (op_box (cs := [vS bR 0 nR cR, vS bL 0 nL cL, vS bS 0 nS cS, vI k, vF kc0, vF kc1, vF kc2, vF ks0, vF ks1, .bool op, vF lo, vF re, vF sl]) rfl rfl) rfl rfl (ltb rfl) ?_
  rintro _ w1 ⟨rfl, r1, m1, z1⟩
  refine WL.op (op_alloc (cs := [.slice none 0 0, .slice none 0 0, .slice none 0 0, vI 0, vF 0, vF 0, vF 0, vF 0, vF 0, .bool false, vF 0, vF 0, vF 0]) Try.zeroValue33 rfl) rfl rfl (ltb rfl) ?_
  rintro _ w2 ⟨rfl, r2, m2, z2⟩
  refine WL.det (op_assign rfl) rfl rfl rfl ?_
  refine WL.end ?_
  refine NE.code ?_
  iterate 2 refine CE.seq ?_
  refine CE.region ?_
  refine WL.det (op_loadA (i := 0) (cs := [vS bR 0 nR cR, vS bL 0 nL cL, vS bS 0 nS cS, vI k, vF kc0, vF kc1, vF kc2, vF ks0, vF ks1, .bool op, vF lo, vF re, vF sl]) rfl Try.isAgg33 Try.sizeOf33 (r1.ext m2).rng rfl rfl rfl) rfl rfl rfl ?_
  refine WL.call (oc_call (vs := [.agg #[vS bR 0 nR cR, vS bL 0 nL cL, vS bS 0 nS cS, vI k, vF kc0, vF kc1, vF kc2, vF ks0, vF ks1, .bool op, vF lo, vF re, vF sl]]) (cap := []) rfl rfl rfl Try.call44 (c_ValidPipeS nR GR nL GL nS xS cR bR PR loR cL bL PL loL cS bS k kc0 kc1 kc2 ks0 ks1 op lo re sl lDR lDL lnS (by first | assumption | exact rd_small (by assumption) (by assumption) | exact markD_small (by first | assumption | exact rd_small (by assumption) (by assumption)) _) (by first | assumption | exact rd_small (by assumption) (by assumption) | exact markD_small (by first | assumption | exact rd_small (by assumption) (by assumption)) _) lPR lPL (by first | assumption | omega) (by first | assumption | omega) (by first | assumption | omega) (by omega) w2 ((rR.ext m1).ext m2) ((rL.ext m1).ext m2) ((rS.ext m1).ext m2) ((FR.ext m1).ext m2) ((FL.ext m1).ext m2))) rfl rfl (ltb rfl) ?_
  rintro _ w3 ⟨rfl, m3⟩
  refine WL.det (op_not rfl) rfl rfl rfl ?_
  refine WL.end ?_
  refine NE.code ?_
  refine CE.cond_t rfl (bnot_f hv) ?_
  refine CE.seq ?_
  refine CE.region ?_
  refine WL.det (op_build (qs := []) (cells := #[.slice none 0 0, .slice none 0 0, .slice none 0 0, vI 0, vF 0, vF 0, vF 0, vF 0, vF 0, .bool false, vF 0, vF 0, vF 0]) rfl (by kernel_rfl)) rfl rfl rfl ?_
  refine WL.op0 (op_store (i := 0) (cs := [.slice none 0 0, .slice none 0 0, .slice none 0 0, vI 0, vF 0, vF 0, vF 0, vF 0, vF 0, .bool false, vF 0, vF 0, vF 0]) rfl rfl rfl Try.sizeOf33 rfl (r2.ext m3) rfl (lB rfl) rfl) rfl rfl ?_
  rintro _ w4 ⟨r3, m4, z3⟩
  have r4 : Row w4 w1.heap.size 0 [.slice none 0 0, .slice none 0 0, .slice none 0 0, vI 0, vF 0, vF 0, vF 0, vF 0, vF 0, .bool false, vF 0, vF 0, vF 0] := Row.congr r3 rfl
  refine WL.det (op_assign rfl) rfl rfl rfl ?_
  refine WL.end ?_
  refine NE.code ?_
  refine CE.ret' ?_
  refine XE.ret_then ?_
  refine XE.leaveT Try.results32 (res_agg (cs := [.slice none 0 0, .slice none 0 0, .slice none 0 0, vI 0, vF 0, vF 0, vF 0, vF 0, vF 0, .bool false, vF 0, vF 0, vF 0]) rfl Try.isAgg33 Try.sizeOf33 r4.rng rfl (res_tmp rfl res_nil)) ?_
  refine ⟨rfl, (((((Mod.refl [] w).nt m1).nt m2).nt m3).then m4 ((aC (.inr (lT m1.size lR)) aN)))⟩

set_option maxRecDepth 100000 in
set_option maxHeartbeats 2000000 in
theorem c_iMuteS_shape (nR : Nat) (cR : Nat) (AR : Option Addr) (nL : Nat) (cL : Nat) (AL : Option Addr) (nS : Nat) (cS : Nat) (AS : Option Addr) (k : Int) (kc0 : Nat) (kc1 : Nat) (kc2 : Nat) (ks0 : Nat) (ks1 : Nat) (op : Bool) (lo : Nat) (re : Nat) (sl : Nat) (hv : ¬ (1 ≤ nR ∧ nR ≤ 3 ∧ nL = nR ∧ nS + 1 = nR)) (mR : nR ≤ 1048576) (mL : nL ≤ 1048576) (mS : nS ≤ 1048576) (w : World) : Cl Try.prog 32 #[.agg #[.slice AR nR cR, .slice AL nL cL, .slice AS nS cS, vI k, vF kc0, vF kc1, vF kc2, vF ks0, vF ks1, .bool op, vF lo, vF re, vF sl]] w fun v w' => v = .tuple #[.agg #[.slice none 0 0, .slice none 0 0, .slice none 0 0, vI 0, vF 0, vF 0, vF 0, vF 0, vF 0, .bool false, vF 0, vF 0, vF 0], vI 1] ∧ Mod [] w w' := by
  refine Cl.of Try.func32 Try.ntmps32 rfl rfl (ρ := [(0, .agg #[.slice AR nR cR, .slice AL nL cL, .slice AS nS cS, vI k, vF kc0, vF kc1, vF kc2, vF ks0, vF ks1, .bool op, vF lo, vF re, vF sl])]) rfl ?_
  refine CE.seq ?_
  refine CE.region ?_
  refine WL.op (op_box (cs := [.slice AR nR cR, .slice AL nL cL, .slice AS nS cS, vI k, vF kc0, vF kc1, vF kc2, vF ks0, vF ks1, .bool op, vF lo, vF re, vF sl]) rfl rfl) rfl rfl (ltb rfl) ?_
  rintro _ w1 ⟨rfl, r1, m1, z1⟩
  refine WL.op (op_alloc (cs := [.slice none 0 0, .slice none 0 0, .slice none 0 0, vI 0, vF 0, vF 0, vF 0, vF 0, vF 0, .bool false, vF 0, vF 0, vF 0]) Try.zeroValue33 rfl) rfl rfl (ltb rfl) ?_
  rintro _ w2 ⟨rfl, r2, m2, z2⟩
  refine WL.det (op_assign rfl) rfl rfl rfl ?_
  refine WL.end ?_
  refine NE.code ?_
  iterate 2 refine CE.seq ?_
  refine CE.region ?_
  refine WL.det (op_loadA (i := 0) (cs := [.slice AR nR cR, .slice AL nL cL, .slice AS nS cS, vI k, vF kc0, vF kc1, vF kc2, vF ks0, vF ks1, .bool op, vF lo, vF re, vF sl]) rfl Try.isAgg33 Try.sizeOf33 (r1.ext m2).rng rfl rfl rfl) rfl rfl rfl ?_
  refine WL.call (oc_call (vs := [.agg #[.slice AR nR cR, .slice AL nL cL, .slice AS nS cS, vI k, vF kc0, vF kc1, vF kc2, vF ks0, vF ks1, .bool op, vF lo, vF re, vF sl]]) (cap := []) rfl rfl rfl Try.call44 (c_ValidPipe_bad nR cR AR nL cL AL nS cS AS k kc0 kc1 kc2 ks0 ks1 op lo re sl (by omega) (by first | assumption | omega) (by first | assumption | omega) (by first | assumption | omega) w2)) rfl rfl (ltb rfl) ?_
  rintro _ w3 ⟨rfl, m3⟩
  refine WL.det (op_not rfl) rfl rfl rfl ?_
  refine WL.end ?_
  refine NE.code ?_
  refine CE.cond_t rfl rfl ?_
  refine CE.seq ?_
  refine CE.region ?_
  refine WL.det (op_build (qs := []) (cells := #[.slice none 0 0, .slice none 0 0, .slice none 0 0, vI 0, vF 0, vF 0, vF 0, vF 0, vF 0, .bool false, vF 0, vF 0, vF 0]) rfl (by kernel_rfl)) rfl rfl rfl ?_
  refine WL.op0 (op_store (i := 0) (cs := [.slice none 0 0, .slice none 0 0, .slice none 0 0, vI 0, vF 0, vF 0, vF 0, vF 0, vF 0, .bool false, vF 0, vF 0, vF 0]) rfl rfl rfl Try.sizeOf33 rfl (r2.ext m3) rfl (lB rfl) rfl) rfl rfl ?_
  rintro _ w4 ⟨r3, m4, z3⟩
  have r4 : Row w4 w1.heap.size 0 [.slice none 0 0, .slice none 0 0, .slice none 0 0, vI 0, vF 0, vF 0, vF 0, vF 0, vF 0, .bool false, vF 0, vF 0, vF 0] := Row.congr r3 rfl
  refine WL.det (op_assign rfl) rfl rfl rfl ?_
  refine WL.end ?_
  refine NE.code ?_
  refine CE.ret' ?_
  refine XE.ret_then ?_
  refine XE.leaveT Try.results32 (res_agg (cs := [.slice none 0 0, .slice none 0 0, .slice none 0 0, vI 0, vF 0, vF 0, vF 0, vF 0, vF 0, .bool false, vF 0, vF 0, vF 0]) rfl Try.isAgg33 Try.sizeOf33 r4.rng rfl (res_tmp rfl res_nil)) ?_
  refine ⟨rfl, (((((Mod.refl [] w).nt m1).nt m2).nt m3).then m4 ((aC (.inr (lT m1.size lR)) aN)))⟩

set_option maxRecDepth 100000 in
theorem c_iMuteS (nR : Nat) (GR : List RD) (nL : Nat) (GL : List RD) (nS : Nat) (xS : List Nat) (cR : Nat) (bR : Nat) (PR : List BC) (loR : Nat) (cL : Nat) (bL : Nat) (PL : List BC) (loL : Nat) (cS : Nat) (bS : Nat) (k : Int) (kc0 : Nat) (kc1 : Nat) (kc2 : Nat) (ks0 : Nat) (ks1 : Nat) (op : Bool) (lo : Nat) (re : Nat) (sl : Nat) (ZR : List RD) (ZL : List RD) (lDR : GR.length = nR) (lDL : GL.length = nL) (lnS : xS.length = nS) (hzR : ∀ i, (GR.getD i RD.d).xs.length ≤ 1048576) (hzL : ∀ i, (GL.getD i RD.d).xs.length ≤ 1048576) (lPR : PR.length = nR) (lPL : PL.length = nL) (mR : nR ≤ 1048576) (mL : nL ≤ 1048576) (mS : nS ≤ 1048576) (h0n : 0 < nR) (h0m : 0 < nL) (hpR : ∀ i, i < nR → 0 < (GR.getD i RD.d).xs.length) (hpL : ∀ i, i < nL → 0 < (GL.getD i RD.d).xs.length) (hs : 1 ≤ nR ∧ nR ≤ 3 ∧ nL = nR ∧ nS + 1 = nR) (h0s : 0 < nS) (hv : vPipe nR nL nS GR GL xS k kc0 kc1 kc2 ks0 ks1 lo re sl = true) (eZR : ZR = muteD GR) (eZL : ZL = muteD GL) (lZR : ZR.length = nR) (lZL : ZL.length = nL) (w : World) (rR : Rng w bR 0 (olc GR PR)) (rL : Rng w bL 0 (olc GL PL)) (rS : Rng w bS 0 (fl xS))  (FR : OF loR w GR PR) (FL : OF loL w GL PL) : Cl Try.prog 32 #[.agg #[vS bR 0 nR cR, vS bL 0 nL cL, vS bS 0 nS cS, vI k, vF kc0, vF kc1, vF kc2, vF ks0, vF ks1, .bool op, vF lo, vF re, vF sl]] w fun v w' => ∃ (bR' : Nat) (cR' : Nat) (PR' : List BC) (bL' : Nat) (cL' : Nat) (PL' : List BC) (bS' : Nat) (cS' : Nat), v = .tuple #[.agg #[vS bR' 0 nR cR', vS bL' 0 nL cL', vS bS' 0 nS cS', vI k, vF kc0, vF kc1, vF kc2, vF 0, vF 0, .bool op, vF lo, vF re, vF sl], vI 0] ∧ (PR'.length = nR) ∧ (PL'.length = nL) ∧ Row w' bR' 0 (olc ZR PR') ∧ Row w' bL' 0 (olc ZL PL') ∧ Row w' bS' 0 (fl xS) ∧ w.heap.size ≤ bR' ∧ w.heap.size ≤ bL' ∧ w.heap.size ≤ bS' ∧ bR' ≠ bL' ∧ bR' ≠ bS' ∧ bL' ≠ bS' ∧ OF w.heap.size w' ZR PR' ∧ (∀ i, i < nR → (PR'.getD i BC.d).b ≠ bR') ∧ (∀ i, i < nR → (PR'.getD i BC.d).b ≠ bL') ∧ (∀ i, i < nR → (PR'.getD i BC.d).b ≠ bS') ∧ (∀ i j, i < nR → j < nL → (PR'.getD i BC.d).b ≠ (PL'.getD j BC.d).b) ∧ OF w.heap.size w' ZL PL' ∧ (∀ i, i < nL → (PL'.getD i BC.d).b ≠ bR') ∧ (∀ i, i < nL → (PL'.getD i BC.d).b ≠ bL') ∧ (∀ i, i < nL → (PL'.getD i BC.d).b ≠ bS') ∧ Mod [] w w' := by
  rcases (show nR = 2 ∨ nR = 3 by omega) with e | e
  · obtain rfl : nL = 2 := by omega
    obtain rfl : nS = 1 := by omega
    subst e
    exact c_iMute2 GR GL xS cR bR PR loR cL bL PL loL cS bS k kc0 kc1 kc2 ks0 ks1 op lo re sl ZR ZL lDR lDL lnS hzR hzL lPR lPL hpR hpL hv eZR eZL lZR lZL w rR rL rS  FR FL
  · obtain rfl : nL = 3 := by omega
    obtain rfl : nS = 2 := by omega
    subst e
    exact c_iMute3 GR GL xS cR bR PR loR cL bL PL loL cS bS k kc0 kc1 kc2 ks0 ks1 op lo re sl ZR ZL lDR lDL lnS hzR hzL lPR lPL hpR hpL hv eZR eZL lZR lZL w rR rL rS  FR FL

set_option maxRecDepth 100000 in
theorem c_iMuteS0 (nR : Nat) (GR : List RD) (nL : Nat) (GL : List RD) (xS : List Nat) (cR : Nat) (bR : Nat) (PR : List BC) (loR : Nat) (cL : Nat) (bL : Nat) (PL : List BC) (loL : Nat) (cS : Nat) (bS : Nat) (k : Int) (kc0 : Nat) (kc1 : Nat) (kc2 : Nat) (ks0 : Nat) (ks1 : Nat) (op : Bool) (lo : Nat) (re : Nat) (sl : Nat) (ZR : List RD) (ZL : List RD) (lDR : GR.length = nR) (lDL : GL.length = nL) (lnS : xS.length = 0) (hzR : ∀ i, (GR.getD i RD.d).xs.length ≤ 1048576) (hzL : ∀ i, (GL.getD i RD.d).xs.length ≤ 1048576) (lPR : PR.length = nR) (lPL : PL.length = nL) (mR : nR ≤ 1048576) (mL : nL ≤ 1048576) (h0n : 0 < nR) (h0m : 0 < nL) (hpR : ∀ i, i < nR → 0 < (GR.getD i RD.d).xs.length) (hpL : ∀ i, i < nL → 0 < (GL.getD i RD.d).xs.length) (hs : 1 ≤ nR ∧ nR ≤ 3 ∧ nL = nR ∧ 0 + 1 = nR) (hv : vPipe nR nL 0 GR GL xS k kc0 kc1 kc2 ks0 ks1 lo re sl = true) (eZR : ZR = muteD GR) (eZL : ZL = muteD GL) (lZR : ZR.length = nR) (lZL : ZL.length = nL) (w : World) (rR : Rng w bR 0 (olc GR PR)) (rL : Rng w bL 0 (olc GL PL)) (rS : Rng w bS 0 (fl xS))  (FR : OF loR w GR PR) (FL : OF loL w GL PL) : Cl Try.prog 32 #[.agg #[vS bR 0 nR cR, vS bL 0 nL cL, vS bS 0 0 cS, vI k, vF kc0, vF kc1, vF kc2, vF ks0, vF ks1, .bool op, vF lo, vF re, vF sl]] w fun v w' => ∃ (bR' : Nat) (cR' : Nat) (PR' : List BC) (bL' : Nat) (cL' : Nat) (PL' : List BC) (bS' : Nat) (cS' : Nat), v = .tuple #[.agg #[vS bR' 0 nR cR', vS bL' 0 nL cL', vS bS' 0 0 cS', vI k, vF kc0, vF kc1, vF kc2, vF 0, vF 0, .bool op, vF lo, vF re, vF sl], vI 0] ∧ (PR'.length = nR) ∧ (PL'.length = nL) ∧ Row w' bR' 0 (olc ZR PR') ∧ Row w' bL' 0 (olc ZL PL') ∧ Row w' bS' 0 (fl xS) ∧ w.heap.size ≤ bR' ∧ w.heap.size ≤ bL' ∧ w.heap.size ≤ bS' ∧ bR' ≠ bL' ∧ bR' ≠ bS' ∧ bL' ≠ bS' ∧ OF w.heap.size w' ZR PR' ∧ (∀ i, i < nR → (PR'.getD i BC.d).b ≠ bR') ∧ (∀ i, i < nR → (PR'.getD i BC.d).b ≠ bL') ∧ (∀ i, i < nR → (PR'.getD i BC.d).b ≠ bS') ∧ (∀ i j, i < nR → j < nL → (PR'.getD i BC.d).b ≠ (PL'.getD j BC.d).b) ∧ OF w.heap.size w' ZL PL' ∧ (∀ i, i < nL → (PL'.getD i BC.d).b ≠ bR') ∧ (∀ i, i < nL → (PL'.getD i BC.d).b ≠ bL') ∧ (∀ i, i < nL → (PL'.getD i BC.d).b ≠ bS') ∧ Mod [] w w' := by
  have e : nR = 1 := by omega
  obtain rfl : nL = 1 := by omega
  subst e
  exact c_iMute1 GR GL xS cR bR PR loR cL bL PL loL cS bS k kc0 kc1 kc2 ks0 ks1 op lo re sl ZR ZL lDR lDL lnS hzR hzL lPR lPL hpR hpL hv eZR eZL lZR lZL w rR rL rS  FR FL

end Go.Proofs.Ytnahhdnkbbdceaa
