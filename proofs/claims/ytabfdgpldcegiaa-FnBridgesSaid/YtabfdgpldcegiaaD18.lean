/- A bridge of two strings. -/
import Derived.Test.YtabfdgpldcegiaaD17
import Derived.Test.YtabfdgpldcegiaaE17
set_option linter.unusedVariables false
set_option linter.unusedSimpArgs false
namespace Go.Proofs.Ytabfdgpldcegiaa

set_option maxRecDepth 100000 in
set_option maxHeartbeats 2000000 in
theorem c_bad1 (np : Nat) (cp : Nat) (bp : Nat) (tap : Nat) (dap : Nat) (mwp : Nat) (lwp : Nat) (zp : StrSt) (op : LawS np tap dap mwp lwp) (hp : Way np zp) (w : World) : Cl Try.prog 100 #[.agg #[vS bp 0 np cp, vI ((zp.i : Nat) : Int), vI 3, vF tap, vF 0, vF 0, vF (zp.t0), vF (zp.t1), vI 2, vF dap, vF mwp, vF 0, vF (zp.d0), vF (zp.d1), vF lwp]] w fun v w' => v = .bool false ∧ Mod [] w w' := by
  have n2p := op.n2
  refine Cl.of Try.func100 Try.ntmps100 rfl rfl (ρ := [(0, .agg #[vS bp 0 np cp, vI ((zp.i : Nat) : Int), vI 3, vF tap, vF 0, vF 0, vF (zp.t0), vF (zp.t1), vI 2, vF dap, vF mwp, vF 0, vF (zp.d0), vF (zp.d1), vF lwp])]) rfl ?_
  refine CE.seq ?_
  refine CE.region ?_
  refine WL.op (op_box (cs := [vS bp 0 np cp, vI ((zp.i : Nat) : Int), vI 3, vF tap, vF 0, vF 0, vF (zp.t0), vF (zp.t1), vI 2, vF dap, vF mwp, vF 0, vF (zp.d0), vF (zp.d1), vF lwp]) rfl rfl) rfl rfl (ltb rfl) ?_
  rintro _ w1 ⟨rfl, r1, m1, z1⟩
  refine WL.det (op_assign rfl) rfl rfl rfl ?_
  refine WL.end ?_
  refine NE.code ?_
  refine CE.seq ?_
  refine CE.region ?_
  refine WL.det (op_loadA (i := 0) (cs := [vS bp 0 np cp, vI ((zp.i : Nat) : Int), vI 3, vF tap, vF 0, vF 0, vF (zp.t0), vF (zp.t1), vI 2, vF dap, vF mwp, vF 0, vF (zp.d0), vF (zp.d1), vF lwp]) rfl Try.isAgg33 Try.sizeOf33 r1.rng rfl rfl rfl) rfl rfl rfl ?_
  refine WL.call (oc_call (vs := [.agg #[vS bp 0 np cp, vI ((zp.i : Nat) : Int), vI 3, vF tap, vF 0, vF 0, vF (zp.t0), vF (zp.t1), vI 2, vF dap, vF mwp, vF 0, vF (zp.d0), vF (zp.d1), vF lwp]]) (cap := []) rfl rfl rfl Try.call63 (c_ValidString np cp (some ⟨bp, 0, none⟩) ((zp.i : Nat) : Int) (3 : Int) tap 0 0 (zp.t0) (zp.t1) (2 : Int) dap mwp 0 (zp.d0) (zp.d1) lwp (by omega) w1)) rfl rfl (ltb rfl) ?_
  rintro _ w2 ⟨rfl, m2⟩
  refine WL.det (op_not rfl) rfl rfl rfl ?_
  refine WL.det (op_assign rfl) rfl rfl rfl ?_
  refine WL.end ?_
  refine NE.code ?_
  refine CE.ret' ?_
  refine XE.leave1 Try.results100 rfl ?_
  refine ⟨?_, (((Mod.refl [] w).nt m1).nt m2)⟩
  all_goals (rw [Way.valid op hp]; rfl)

set_option maxRecDepth 100000 in
set_option maxHeartbeats 2000000 in
theorem c_idxStr (np : Nat) (cp : Nat) (bp : Nat) (tap : Nat) (dap : Nat) (mwp : Nat) (lwp : Nat) (zp : StrSt) (nq : Nat) (cq : Nat) (bq : Nat) (taq : Nat) (daq : Nat) (mwq : Nat) (lwq : Nat) (zq : StrSt) (cv : Nat) (v : Nat) (op : LawS np tap dap mwp lwp) (hp : Way np zp) (oq : LawS nq taq daq mwq lwq) (hq : Way nq zq) (w : World) (rv : Rng w v 0 [vS bp 0 np cp, vI ((zp.i : Nat) : Int), vI 3, vF tap, vF 0, vF 0, vF (zp.t0), vF (zp.t1), vI 2, vF dap, vF mwp, vF 0, vF (zp.d0), vF (zp.d1), vF lwp, vS bq 0 nq cq, vI ((zq.i : Nat) : Int), vI 3, vF taq, vF 0, vF 0, vF (zq.t0), vF (zq.t1), vI 2, vF daq, vF mwq, vF 0, vF (zq.d0), vF (zq.d1), vF lwq]) : Cl Try.prog 138 #[vS v 0 2 cv, .func (.func 100) #[] #[]] w fun v w' => v = vI (-1) ∧ Mod [] w w' := by
  refine Cl.of Try.func138 Try.ntmps138 rfl rfl (ρ := [(0, vS v 0 2 cv), (1, .func (.func 100) #[] #[])]) rfl ?_
  refine CE.seq ?_
  refine CE.region ?_
  refine WL.det (op_assign rfl) rfl rfl rfl ?_
  refine WL.end ?_
  refine NE.code ?_
  refine CE.seq ?_
  refine CE.seq ?_
  refine CE.region ?_
  refine WL.det (op_move rfl) rfl rfl rfl ?_
  refine WL.det (op_len rfl Try.runUnderlying59) rfl rfl rfl ?_
  refine WL.det (op_move rfl) rfl rfl rfl ?_
  refine WL.end ?_
  refine NE.code ?_
  refine CE.block ?_
  refine CE.rounds 3 ?_
  refine RN.one ?_
  refine CE.seq ?_
  refine CE.region ?_
  refine WL.det (op_lti rfl rfl) rfl rfl rfl ?_
  refine WL.end ?_
  refine NE.code ?_
  refine CE.seq ?_
  refine CE.cond_t rfl rfl ?_
  refine CE.skip' ?_
  refine NE.code ?_
  refine CE.seq ?_
  refine CE.block ?_
  refine CE.seq ?_
  refine CE.region ?_
  refine WL.det (op_move rfl) rfl rfl rfl ?_
  refine WL.det (op_assign rfl) rfl rfl rfl ?_
  refine WL.end ?_
  refine NE.code ?_
  refine CE.seq ?_
  refine CE.region ?_
  refine WL.det (op_move rfl) rfl rfl rfl ?_
  refine WL.det (op_move rfl) rfl rfl rfl ?_
  refine WL.det (op_move rfl) rfl rfl rfl ?_
  refine WL.det (op_indexSl (off' := 0) rfl rfl rfl Try.runUnderlying59 Try.sizeOf33 (by omega) (by omega) rfl) rfl rfl rfl ?_
  refine WL.det (op_loadA (i := 0) (cs := [vS bp 0 np cp, vI ((zp.i : Nat) : Int), vI 3, vF tap, vF 0, vF 0, vF (zp.t0), vF (zp.t1), vI 2, vF dap, vF mwp, vF 0, vF (zp.d0), vF (zp.d1), vF lwp]) rfl Try.isAgg33 Try.sizeOf33 rv rfl rfl rfl) rfl rfl rfl ?_
  refine WL.call (oc_call (vs := [.agg #[vS bp 0 np cp, vI ((zp.i : Nat) : Int), vI 3, vF tap, vF 0, vF 0, vF (zp.t0), vF (zp.t1), vI 2, vF dap, vF mwp, vF 0, vF (zp.d0), vF (zp.d1), vF lwp]]) (cap := []) rfl rfl rfl Try.call100 (c_bad1 np cp bp tap dap mwp lwp zp (by first | assumption | exact StrB.l (by assumption)) (by first | assumption | exact WayB.w (by assumption)) w)) rfl rfl (ltb rfl) ?_
  rintro _ w1 ⟨rfl, m1⟩
  refine WL.end ?_
  refine NE.code ?_
  refine CE.cond_f rfl rfl ?_
  refine CE.skip' ?_
  refine NE.blk ?_
  refine NE.code ?_
  refine CE.region ?_
  refine WL.det (op_add (r := 1) rfl rfl (by decide)) rfl rfl rfl ?_
  refine WL.det (op_move rfl) rfl rfl rfl ?_
  refine WL.end ?_
  refine NE.round ?_
  refine RN.one ?_
  refine CE.seq ?_
  refine CE.region ?_
  refine WL.det (op_lti rfl rfl) rfl rfl rfl ?_
  refine WL.end ?_
  refine NE.code ?_
  refine CE.seq ?_
  refine CE.cond_t rfl rfl ?_
  refine CE.skip' ?_
  refine NE.code ?_
  refine CE.seq ?_
  refine CE.block ?_
  refine CE.seq ?_
  refine CE.region ?_
  refine WL.det (op_move rfl) rfl rfl rfl ?_
  refine WL.det (op_assign rfl) rfl rfl rfl ?_
  refine WL.end ?_
  refine NE.code ?_
  refine CE.seq ?_
  refine CE.region ?_
  refine WL.det (op_move rfl) rfl rfl rfl ?_
  refine WL.det (op_move rfl) rfl rfl rfl ?_
  refine WL.det (op_move rfl) rfl rfl rfl ?_
  refine WL.det (op_indexSl (off' := 15) rfl rfl rfl Try.runUnderlying59 Try.sizeOf33 (by omega) (by omega) rfl) rfl rfl rfl ?_
  refine WL.det (op_loadA (i := 15) (cs := [vS bq 0 nq cq, vI ((zq.i : Nat) : Int), vI 3, vF taq, vF 0, vF 0, vF (zq.t0), vF (zq.t1), vI 2, vF daq, vF mwq, vF 0, vF (zq.d0), vF (zq.d1), vF lwq]) rfl Try.isAgg33 Try.sizeOf33 (rv.ext m1) rfl rfl rfl) rfl rfl rfl ?_
  refine WL.call (oc_call (vs := [.agg #[vS bq 0 nq cq, vI ((zq.i : Nat) : Int), vI 3, vF taq, vF 0, vF 0, vF (zq.t0), vF (zq.t1), vI 2, vF daq, vF mwq, vF 0, vF (zq.d0), vF (zq.d1), vF lwq]]) (cap := []) rfl rfl rfl Try.call100 (c_bad1 nq cq bq taq daq mwq lwq zq (by first | assumption | exact StrB.l (by assumption)) (by first | assumption | exact WayB.w (by assumption)) w1)) rfl rfl (ltb rfl) ?_
  rintro _ w2 ⟨rfl, m2⟩
  refine WL.end ?_
  refine NE.code ?_
  refine CE.cond_f rfl rfl ?_
  refine CE.skip' ?_
  refine NE.blk ?_
  refine NE.code ?_
  refine CE.region ?_
  refine WL.det (op_add (r := 2) rfl rfl (by decide)) rfl rfl rfl ?_
  refine WL.det (op_move rfl) rfl rfl rfl ?_
  refine WL.end ?_
  refine NE.round ?_
  refine RN.one ?_
  refine CE.seq ?_
  refine CE.region ?_
  refine WL.det (op_lti rfl rfl) rfl rfl rfl ?_
  refine WL.end ?_
  refine NE.code ?_
  refine CE.seq ?_
  refine CE.cond_f rfl rfl ?_
  refine CE.exit' ?_
  refine XE.exit_then ?_
  refine XE.exit_then ?_
  refine XE.exit_here ?_
  refine NE.code ?_
  refine CE.seq ?_
  refine CE.region ?_
  refine WL.det (op_assign rfl) rfl rfl rfl ?_
  refine WL.end ?_
  refine NE.code ?_
  refine CE.ret' ?_
  refine XE.leave1 Try.results138 rfl ?_
  refine ⟨rfl, (((Mod.refl [] w).nt m1).nt m2)⟩

set_option maxRecDepth 100000 in
set_option maxHeartbeats 2000000 in
theorem c_contStr (np : Nat) (cp : Nat) (bp : Nat) (tap : Nat) (dap : Nat) (mwp : Nat) (lwp : Nat) (zp : StrSt) (nq : Nat) (cq : Nat) (bq : Nat) (taq : Nat) (daq : Nat) (mwq : Nat) (lwq : Nat) (zq : StrSt) (cv : Nat) (v : Nat) (op : LawS np tap dap mwp lwp) (hp : Way np zp) (oq : LawS nq taq daq mwq lwq) (hq : Way nq zq) (w : World) (rv : Rng w v 0 [vS bp 0 np cp, vI ((zp.i : Nat) : Int), vI 3, vF tap, vF 0, vF 0, vF (zp.t0), vF (zp.t1), vI 2, vF dap, vF mwp, vF 0, vF (zp.d0), vF (zp.d1), vF lwp, vS bq 0 nq cq, vI ((zq.i : Nat) : Int), vI 3, vF taq, vF 0, vF 0, vF (zq.t0), vF (zq.t1), vI 2, vF daq, vF mwq, vF 0, vF (zq.d0), vF (zq.d1), vF lwq]) : Cl Try.prog 99 #[vS v 0 2 cv, .func (.func 100) #[] #[]] w fun v w' => v = .bool false ∧ Mod [] w w' := by
  refine Cl.of Try.func99 Try.ntmps99 rfl rfl (ρ := [(0, vS v 0 2 cv), (1, .func (.func 100) #[] #[])]) rfl ?_
  refine CE.seq ?_
  refine CE.region ?_
  refine WL.det (op_assign rfl) rfl rfl rfl ?_
  refine WL.end ?_
  refine NE.code ?_
  refine CE.seq ?_
  refine CE.region ?_
  refine WL.det (op_move rfl) rfl rfl rfl ?_
  refine WL.det (op_move rfl) rfl rfl rfl ?_
  refine WL.call (oc_call (vs := [vS v 0 2 cv, .func (.func 100) #[] #[]]) (cap := []) rfl rfl rfl Try.call138 (c_idxStr np cp bp tap dap mwp lwp zp nq cq bq taq daq mwq lwq zq cv v (by first | assumption | exact StrB.l (by assumption)) (by first | assumption | exact WayB.w (by assumption)) (by first | assumption | exact StrB.l (by assumption)) (by first | assumption | exact WayB.w (by assumption)) w rv)) rfl rfl (ltb rfl) ?_
  rintro _ w1 ⟨rfl, m1⟩
  refine WL.det (op_gei rfl rfl) rfl rfl rfl ?_
  refine WL.det (op_assign rfl) rfl rfl rfl ?_
  refine WL.end ?_
  refine NE.code ?_
  refine CE.ret' ?_
  refine XE.leave1 Try.results99 rfl ?_
  refine ⟨rfl, ((Mod.refl [] w).nt m1)⟩

set_option maxRecDepth 100000 in
set_option maxHeartbeats 2000000 in
theorem c_lengthStr (n : Nat) (c : Nat) (A : Option Addr) (w : World) : Cl Try.prog 101 #[.slice A n c] w fun v w' => v = vI ((n : Nat) : Int) ∧ w = w' := by
  refine Cl.of Try.func101 Try.ntmps101 rfl rfl (ρ := [(0, .slice A n c)]) rfl ?_
  refine CE.seq ?_
  refine CE.region ?_
  refine WL.det (op_assign rfl) rfl rfl rfl ?_
  refine WL.end ?_
  refine NE.code ?_
  refine CE.seq ?_
  refine CE.region ?_
  refine WL.det (op_move rfl) rfl rfl rfl ?_
  refine WL.det (op_len rfl Try.runUnderlying59) rfl rfl rfl ?_
  refine WL.det (op_assign rfl) rfl rfl rfl ?_
  refine WL.end ?_
  refine NE.code ?_
  refine CE.ret' ?_
  refine XE.leave1 Try.results101 rfl ?_
  refine ⟨rfl, rfl⟩

set_option maxRecDepth 100000 in
set_option maxHeartbeats 2000000 in
theorem c_iBridge2 (np : Nat) (cp : Nat) (bp : Nat) (tap : Nat) (dap : Nat) (mwp : Nat) (lwp : Nat) (zp : StrSt) (nq : Nat) (cq : Nat) (bq : Nat) (taq : Nat) (daq : Nat) (mwq : Nat) (lwq : Nat) (zq : StrSt) (cv : Nat) (v : Nat) (sh : Nat) (ci : Nat) (iv : Nat) (ap : Nat) (aq : Nat) (op : LawS np tap dap mwp lwp) (hp : Way np zp) (oq : LawS nq taq daq mwq lwq) (hq : Way nq zq) (hsh : finF sh = true) (lap : ap < wid .f32) (laq : aq < wid .f32) (w : World) (rv : Rng w v 0 [vS bp 0 np cp, vI ((zp.i : Nat) : Int), vI 3, vF tap, vF 0, vF 0, vF (zp.t0), vF (zp.t1), vI 2, vF dap, vF mwp, vF 0, vF (zp.d0), vF (zp.d1), vF lwp, vS bq 0 nq cq, vI ((zq.i : Nat) : Int), vI 3, vF taq, vF 0, vF 0, vF (zq.t0), vF (zq.t1), vI 2, vF daq, vF mwq, vF 0, vF (zq.d0), vF (zq.d1), vF lwq]) (ri : Rng w iv 0 [vF ap, vF aq]) (rp : Rng w bp 0 (fl zp.xs)) (rq : Rng w bq 0 (fl zq.xs)) : Cl Try.prog 33 #[vS v 0 2 cv, vF sh, vS iv 0 2 ci] w fun v w' => ∃ (e' : Nat) (ce' : Nat) (f' : Nat) (cf' : Nat) (b1' : Nat) (c1' : Nat) (b2' : Nat) (c2' : Nat), v = .tuple #[vS e' 0 2 ce', vS f' 0 2 cf', vI 0] ∧ ((zp.xs.set zp.i (keptF (fop .add .f32 (fop .mul .f32 (stepY 2 dap mwp 0 (zp.d0) (zp.d1) (stepY 3 tap 0 0 (zp.t0) (zp.t1) ((zp.xs).getD (zp.i) 0))) lwp) (fop .add .f32 ap (fop .mul .f32 sh (fop .add .f32 ((zp.xs).getD (zp.i) 0) ((zq.xs).getD (zq.i) 0))))))).length = np) ∧ ((zq.xs.set zq.i (keptF (fop .add .f32 (fop .mul .f32 (stepY 2 daq mwq 0 (zq.d0) (zq.d1) (stepY 3 taq 0 0 (zq.t0) (zq.t1) ((zq.xs).getD (zq.i) 0))) lwq) (fop .add .f32 aq (fop .mul .f32 sh (fop .add .f32 ((zp.xs).getD (zp.i) 0) ((zq.xs).getD (zq.i) 0))))))).length = nq) ∧ Row w' e' 0 [vS b1' 0 np c1', vI (((zp.i + 1) % np : Nat) : Int), vI 3, vF tap, vF 0, vF 0, vF (stepS 3 tap 0 0 (zp.t0) (zp.t1) ((zp.xs).getD (zp.i) 0)), vF (stepT 3 tap 0 0 (zp.t0) (zp.t1) ((zp.xs).getD (zp.i) 0)), vI 2, vF dap, vF mwp, vF 0, vF (stepS 2 dap mwp 0 (zp.d0) (zp.d1) (stepY 3 tap 0 0 (zp.t0) (zp.t1) ((zp.xs).getD (zp.i) 0))), vF (stepT 2 dap mwp 0 (zp.d0) (zp.d1) (stepY 3 tap 0 0 (zp.t0) (zp.t1) ((zp.xs).getD (zp.i) 0))), vF lwp, vS b2' 0 nq c2', vI (((zq.i + 1) % nq : Nat) : Int), vI 3, vF taq, vF 0, vF 0, vF (stepS 3 taq 0 0 (zq.t0) (zq.t1) ((zq.xs).getD (zq.i) 0)), vF (stepT 3 taq 0 0 (zq.t0) (zq.t1) ((zq.xs).getD (zq.i) 0)), vI 2, vF daq, vF mwq, vF 0, vF (stepS 2 daq mwq 0 (zq.d0) (zq.d1) (stepY 3 taq 0 0 (zq.t0) (zq.t1) ((zq.xs).getD (zq.i) 0))), vF (stepT 2 daq mwq 0 (zq.d0) (zq.d1) (stepY 3 taq 0 0 (zq.t0) (zq.t1) ((zq.xs).getD (zq.i) 0))), vF lwq] ∧ Row w' f' 0 [vF ((zp.xs).getD (zp.i) 0), vF ((zq.xs).getD (zq.i) 0)] ∧ Row w' b1' 0 (fl (zp.xs.set zp.i (keptF (fop .add .f32 (fop .mul .f32 (stepY 2 dap mwp 0 (zp.d0) (zp.d1) (stepY 3 tap 0 0 (zp.t0) (zp.t1) ((zp.xs).getD (zp.i) 0))) lwp) (fop .add .f32 ap (fop .mul .f32 sh (fop .add .f32 ((zp.xs).getD (zp.i) 0) ((zq.xs).getD (zq.i) 0)))))))) ∧ Row w' b2' 0 (fl (zq.xs.set zq.i (keptF (fop .add .f32 (fop .mul .f32 (stepY 2 daq mwq 0 (zq.d0) (zq.d1) (stepY 3 taq 0 0 (zq.t0) (zq.t1) ((zq.xs).getD (zq.i) 0))) lwq) (fop .add .f32 aq (fop .mul .f32 sh (fop .add .f32 ((zp.xs).getD (zp.i) 0) ((zq.xs).getD (zq.i) 0)))))))) ∧ w.heap.size ≤ e' ∧ w.heap.size ≤ f' ∧ w.heap.size ≤ b1' ∧ w.heap.size ≤ b2' ∧ Mod [] w w' := by
  have ip := hp.i; have iq := hq.i; have n2p := op.n2; have n2q := oq.n2; have wxp := hp.w; have wxq := hq.w
  refine Cl.of Try.func33 Try.ntmps33 rfl rfl (ρ := [(0, vS v 0 2 cv), (1, vF sh), (2, vS iv 0 2 ci)]) rfl ?_
  refine CE.seq ?_
  refine CE.region ?_
  refine WL.det (op_assign rfl) rfl rfl rfl ?_
  refine WL.det (op_assign rfl) rfl rfl rfl ?_
  refine WL.det (op_assign rfl) rfl rfl rfl ?_
  refine WL.end ?_
  refine NE.code ?_
  refine CE.seq ?_
  refine CE.block ?_
  refine CE.seq ?_
  refine CE.region ?_
  refine WL.det (op_move rfl) rfl rfl rfl ?_
  refine WL.call (oc_call (vs := [vS v 0 2 cv, .func (.func 100) #[] #[]]) (cap := []) rfl rfl rfl Try.call99 (c_contStr np cp bp tap dap mwp lwp zp nq cq bq taq daq mwq lwq zq cv v (by first | assumption | exact StrB.l (by assumption)) (by first | assumption | exact WayB.w (by assumption)) (by first | assumption | exact StrB.l (by assumption)) (by first | assumption | exact WayB.w (by assumption)) w rv)) rfl rfl (ltb rfl) ?_
  rintro _ w1 ⟨rfl, m1⟩
  refine WL.det (op_assign rfl) rfl rfl rfl ?_
  refine WL.end ?_
  refine NE.code ?_
  refine CE.cond_f rfl rfl ?_
  refine CE.seq ?_
  refine CE.region ?_
  refine WL.det (op_move rfl) rfl rfl rfl ?_
  refine WL.call (oc_call (vs := [vS v 0 2 cv]) (cap := []) rfl rfl rfl Try.call101 (c_lengthStr 2 cv (some ⟨v, 0, none⟩) w1)) rfl rfl (ltb rfl) ?_
  rintro _ _ ⟨rfl, rfl⟩
  refine WL.call (oc_call (vs := [vI 2, vI 1, vI 4]) (cap := []) rfl rfl rfl Try.call78 (c_within (2 : Int) (1 : Int) (4 : Int) w1)) rfl rfl (ltb rfl) ?_
  rintro _ _ ⟨rfl, rfl⟩
  refine WL.det (op_not rfl) rfl rfl rfl ?_
  refine WL.det (op_move rfl) rfl rfl rfl ?_
  refine WL.yes rfl rfl rfl (ltb rfl) rfl (bnot_t (by decide +kernel)) ?_
  refine WL.det (op_move rfl) rfl rfl rfl ?_
  refine WL.yes rfl rfl rfl (ltb rfl) rfl (bnot_t (by decide +kernel)) ?_
  refine WL.det (op_len rfl Try.runUnderlying24) rfl rfl rfl ?_
  refine WL.yes rfl rfl rfl (ltb rfl) rfl (bnot_t (by decide +kernel)) ?_
  refine WL.det (op_move rfl) rfl rfl rfl ?_
  refine WL.yes rfl rfl rfl (ltb rfl) rfl (bnot_t (by decide +kernel)) ?_
  refine WL.det (op_len rfl Try.runUnderlying59) rfl rfl rfl ?_
  refine WL.yes rfl rfl rfl (ltb rfl) rfl (bnot_t (by decide +kernel)) ?_
  refine WL.det (op_nei rfl rfl) rfl rfl rfl ?_
  refine WL.det (op_pick_f rfl (bnot_t (by decide +kernel)) rfl) rfl rfl rfl ?_
  refine WL.det (op_move rfl) rfl rfl rfl ?_
  refine WL.yes rfl rfl rfl (ltb rfl) rfl rfl ?_
  refine WL.det (op_move rfl) rfl rfl rfl ?_
  refine WL.yes rfl rfl rfl (ltb rfl) rfl rfl ?_
  refine WL.call (oc_call (vs := [vF sh]) (cap := []) rfl rfl rfl Try.call64 (c_isFinite sh sh rfl w1)) rfl rfl (ltb rfl) ?_
  rintro _ w2 ⟨rfl, m2⟩
  refine WL.yes rfl rfl rfl (ltb rfl) rfl rfl ?_
  refine WL.det (op_not rfl) rfl rfl rfl ?_
  refine WL.det (op_pick_f rfl rfl rfl) rfl rfl rfl ?_
  refine WL.det (op_assign rfl) rfl rfl rfl ?_
  refine WL.end ?_
  refine NE.code ?_
  refine CE.cond_f rfl (bnot_t hsh) ?_
  refine CE.skip' ?_
  refine NE.blk ?_
  refine NE.code ?_
  refine CE.seq ?_
  refine CE.region ?_
  refine WL.det (op_assign rfl) rfl rfl rfl ?_
  refine WL.end ?_
  refine NE.code ?_
  refine CE.seq ?_
  refine CE.region ?_
  refine WL.det (op_assign rfl) rfl rfl rfl ?_
  refine WL.end ?_
  refine NE.code ?_
  refine CE.seq ?_
  refine CE.seq ?_
  refine CE.region ?_
  refine WL.det (op_move rfl) rfl rfl rfl ?_
  refine WL.det (op_len rfl Try.runUnderlying59) rfl rfl rfl ?_
  refine WL.det (op_move rfl) rfl rfl rfl ?_
  refine WL.end ?_
  refine NE.code ?_
  refine CE.block ?_
  refine CE.rounds 3 ?_
  refine RN.one ?_
  refine CE.seq ?_
  refine CE.region ?_
  refine WL.det (op_lti rfl rfl) rfl rfl rfl ?_
  refine WL.end ?_
  refine NE.code ?_
  refine CE.seq ?_
  refine CE.cond_t rfl rfl ?_
  refine CE.skip' ?_
  refine NE.code ?_
  refine CE.seq ?_
  refine CE.block ?_
  refine CE.seq ?_
  refine CE.region ?_
  refine WL.det (op_move rfl) rfl rfl rfl ?_
  refine WL.det (op_indexSl (off' := 0) rfl rfl rfl Try.runUnderlying59 Try.sizeOf33 (by omega) (by omega) rfl) rfl rfl rfl ?_
  refine WL.det (op_loadA (i := 0) (cs := [vS bp 0 np cp, vI ((zp.i : Nat) : Int), vI 3, vF tap, vF 0, vF 0, vF (zp.t0), vF (zp.t1), vI 2, vF dap, vF mwp, vF 0, vF (zp.d0), vF (zp.d1), vF lwp]) rfl Try.isAgg33 Try.sizeOf33 ((rv.ext m1).ext m2) rfl rfl rfl) rfl rfl rfl ?_
  refine WL.op (op_alloc (cs := [.slice none 0 0, vI 0, vI 0, vF 0, vF 0, vF 0, vF 0, vF 0, vI 0, vF 0, vF 0, vF 0, vF 0, vF 0, vF 0]) Try.zeroValue33 rfl) rfl rfl (ltb rfl) ?_
  rintro _ w3 ⟨rfl, r1, m3, z1⟩
  refine WL.det (op_assign rfl) rfl rfl rfl ?_
  refine WL.op0 (op_store (i := 0) (cs := [vS bp 0 np cp, vI ((zp.i : Nat) : Int), vI 3, vF tap, vF 0, vF 0, vF (zp.t0), vF (zp.t1), vI 2, vF dap, vF mwp, vF 0, vF (zp.d0), vF (zp.d1), vF lwp]) rfl rfl rfl Try.sizeOf33 rfl r1 rfl (lB rfl) rfl) rfl rfl ?_
  rintro _ w4 ⟨r2, m4, z2⟩
  have r3 : Row w4 w2.heap.size 0 [vS bp 0 np cp, vI ((zp.i : Nat) : Int), vI 3, vF tap, vF 0, vF 0, vF (zp.t0), vF (zp.t1), vI 2, vF dap, vF mwp, vF 0, vF (zp.d0), vF (zp.d1), vF lwp] := Row.congr r2 rfl
  refine WL.end ?_
  refine NE.code ?_
  refine CE.seq ?_
  refine CE.region ?_
  refine WL.det (op_loadA (i := 0) (cs := [vS bp 0 np cp, vI ((zp.i : Nat) : Int), vI 3, vF tap, vF 0, vF 0, vF (zp.t0), vF (zp.t1), vI 2, vF dap, vF mwp, vF 0, vF (zp.d0), vF (zp.d1), vF lwp]) rfl Try.isAgg33 Try.sizeOf33 r3.rng rfl rfl rfl) rfl rfl rfl ?_
  refine WL.call (oc_call (vs := [.agg #[vS bp 0 np cp, vI ((zp.i : Nat) : Int), vI 3, vF tap, vF 0, vF 0, vF (zp.t0), vF (zp.t1), vI 2, vF dap, vF mwp, vF 0, vF (zp.d0), vF (zp.d1), vF lwp]]) (cap := []) rfl rfl rfl Try.call79 (c_cloneString np cp bp zp.xs ((zp.i : Nat) : Int) (3 : Int) tap 0 0 (zp.t0) (zp.t1) (2 : Int) dap mwp 0 (zp.d0) (zp.d1) lwp hp.l (by omega) (by omega) w4 (Rng.youngS rp (((rp.ext m1).ext m2).ext m3) m4 (allge_cons (lT (lT m1.size m2.size) lR) allge_nil)))) rfl rfl (ltb rfl) ?_
  rintro _ w5 ⟨b'1, c'1, rfl, r4, ge1, m5⟩
  refine WL.op (op_alloc (cs := [.slice none 0 0, vI 0, vI 0, vF 0, vF 0, vF 0, vF 0, vF 0, vI 0, vF 0, vF 0, vF 0, vF 0, vF 0, vF 0]) Try.zeroValue33 rfl) rfl rfl (ltb rfl) ?_
  rintro _ w6 ⟨rfl, r5, m6, z3⟩
  refine WL.op0 (op_store (i := 0) (cs := [vS b'1 0 np c'1, vI ((zp.i : Nat) : Int), vI 3, vF tap, vF 0, vF 0, vF (zp.t0), vF (zp.t1), vI 2, vF dap, vF mwp, vF 0, vF (zp.d0), vF (zp.d1), vF lwp]) rfl rfl rfl Try.sizeOf33 rfl r5 rfl (lB rfl) rfl) rfl rfl ?_
  rintro _ w7 ⟨r6, m7, z4⟩
  have r7 : Row w7 w5.heap.size 0 [vS b'1 0 np c'1, vI ((zp.i : Nat) : Int), vI 3, vF tap, vF 0, vF 0, vF (zp.t0), vF (zp.t1), vI 2, vF dap, vF mwp, vF 0, vF (zp.d0), vF (zp.d1), vF lwp] := Row.congr r6 rfl
  refine WL.end ?_
  refine NE.code ?_
  refine CE.seq ?_
  refine CE.region ?_
  refine WL.det (op_move rfl) rfl rfl rfl ?_
  refine WL.det (op_loadA (i := 0) (cs := [vS b'1 0 np c'1, vI ((zp.i : Nat) : Int), vI 3, vF tap, vF 0, vF 0, vF (zp.t0), vF (zp.t1), vI 2, vF dap, vF mwp, vF 0, vF (zp.d0), vF (zp.d1), vF lwp]) rfl Try.isAgg33 Try.sizeOf33 r7.rng rfl rfl rfl) rfl rfl rfl ?_
  refine WL.op (op_buildSl (qs := [(0, .agg #[vS b'1 0 np c'1, vI ((zp.i : Nat) : Int), vI 3, vF tap, vF 0, vF 0, vF (zp.t0), vF (zp.t1), vI 2, vF dap, vF mwp, vF 0, vF (zp.d0), vF (zp.d1), vF lwp])]) (cells := #[vS b'1 0 np c'1, vI ((zp.i : Nat) : Int), vI 3, vF tap, vF 0, vF 0, vF (zp.t0), vF (zp.t1), vI 2, vF dap, vF mwp, vF 0, vF (zp.d0), vF (zp.d1), vF lwp]) rfl Try.runUnderlying59 Try.sizeOf33 Try.zeroValue33 (by decide) (by decide) (by kernel_rfl)) rfl rfl (ltb rfl) ?_
  rintro _ w8 ⟨rfl, r8, m8, z5⟩
  refine WL.op (op_app0 (i := Try.t33) (m := 15) (bt := 104) (news := [vS b'1 0 np c'1, vI ((zp.i : Nat) : Int), vI 3, vF tap, vF 0, vF 0, vF (zp.t0), vF (zp.t1), vI 2, vF dap, vF mwp, vF 0, vF (zp.d0), vF (zp.d1), vF lwp]) (q := 0) (.inl rfl) rfl rfl Try.underlying59 rfl rfl rfl rfl rfl (by decide) r8.rng rfl rfl (by omega) (by decide)) rfl rfl (ltb rfl) ?_
  rintro _ w9 ⟨b1, c1, rfl, ow1, ge2, m9⟩
  have r9 : Row w9 b1 0 [vS b'1 0 np c'1, vI ((zp.i : Nat) : Int), vI 3, vF tap, vF 0, vF 0, vF (zp.t0), vF (zp.t1), vI 2, vF dap, vF mwp, vF 0, vF (zp.d0), vF (zp.d1), vF lwp] := (Own.row1 ow1).1
  refine WL.det (op_assign rfl) rfl rfl rfl ?_
  refine WL.end ?_
  refine NE.code ?_
  refine CE.seq ?_
  refine CE.draw (fun | 5 => some (fun _ wA uA wB => uA = vI ((np : Nat) : Int) ∧ wA = wB) | _ => none) [0, 1, 2, 3, 4, 5] [6, 7] [] (by kernel_rfl) (by kernel_rfl) ?_
  have md1 : Mod [] w9 w9.drew := (Mod.refl _ _).drew
  generalize w9.drew = w10 at md1 ⊢
  refine DR.det (i := 0) rfl rfl (by kernel_rfl) (.free rfl) rfl rfl (fun wD mD => op_fieldAddr (off' := 0) rfl Try.runUnderlying33 rfl rfl Try.sizeOf26 rfl) ?_
  refine DR.det (i := 1) rfl rfl (by kernel_rfl) (.free rfl) rfl rfl (fun wD mD => op_loadA (i := 0) (cs := [vS b'1 0 np c'1, vI ((zp.i : Nat) : Int)]) rfl Try.isAgg26 Try.sizeOf26 ((((r7.ext m8).ext m9).ext md1).ext mD).rng rfl rfl rfl) ?_
  refine DR.det (i := 2) rfl rfl (by kernel_rfl) (.free rfl) rfl rfl (fun wD mD => op_fieldAddr (off' := 0) rfl Try.runUnderlying33 rfl rfl Try.sizeOf26 rfl) ?_
  refine DR.det (i := 3) rfl rfl (by kernel_rfl) (.free rfl) rfl rfl (fun wD mD => op_fieldAddr (off' := 0) rfl Try.runUnderlying26 rfl rfl Try.sizeOf24 rfl) ?_
  refine DR.det (i := 4) rfl rfl (by kernel_rfl) (.free rfl) rfl rfl (fun wD mD => op_load1 (i := 0) rfl Try.isAgg24 ((((r7.ext m8).ext m9).ext md1).ext mD).rng rfl rfl) ?_
  refine DR.call (i := 5) (fun uA => uA = vI ((np : Nat) : Int)) rfl rfl (by kernel_rfl) (.free rfl) rfl (ltb rfl) ⟨_, rfl⟩ (vs := [.func (.func 103) #[] #[], vS b'1 0 np c'1]) rfl (fun wD mD => oc_call (vs := [vS b'1 0 np c'1]) (cap := []) rfl rfl rfl Try.call103 (c_length32 np c'1 (some ⟨b'1, 0, none⟩) wD)) ?_ ?_
  · rintro w1 _ _ m1 ⟨rfl, rfl⟩; exact ⟨rfl, Mod.refl _ _⟩
  rintro _ rfl
  refine DR.done rfl ?_
  intro w11 m10
  refine WO.call rfl (.free rfl) rfl (ltb rfl) (oc_call (vs := [.agg #[vS b'1 0 np c'1, vI ((zp.i : Nat) : Int)], vI ((np : Nat) : Int)]) (cap := []) rfl rfl rfl Try.call102 (c_back_all np c'1 b'1 zp.xs zp.i hp.l (by first | omega | exact Nat.mod_lt _ (by omega)) (by omega) w11 ((((((r4.ext m6).mod m7 (nC (lE (lL r4.lt lR)) nN)).ext m8).ext m9).ext md1).ext m10).rng)) ?_
  rintro _ w12 ⟨rfl, m11⟩
  refine WO.det (op_assign rfl) rfl (.free rfl) rfl rfl ?_
  refine WO.end ?_
  refine NE.code ?_
  refine CE.seq ?_
  refine CE.region ?_
  refine WL.det (op_move rfl) rfl rfl rfl ?_
  refine WL.det (op_eqi rfl rfl) rfl rfl rfl ?_
  refine WL.end ?_
  refine NE.code ?_
  refine CE.cond_t rfl rfl ?_
  refine CE.region ?_
  refine WL.det (op_move rfl) rfl rfl rfl ?_
  refine WL.det (op_assign rfl) rfl rfl rfl ?_
  refine WL.end ?_
  refine NE.blk ?_
  refine NE.code ?_
  refine CE.region ?_
  refine WL.det (op_add (r := 1) rfl rfl (by decide)) rfl rfl rfl ?_
  refine WL.det (op_move rfl) rfl rfl rfl ?_
  refine WL.end ?_
  refine NE.round ?_
  refine RN.one ?_
  refine CE.seq ?_
  refine CE.region ?_
  refine WL.det (op_lti rfl rfl) rfl rfl rfl ?_
  refine WL.end ?_
  refine NE.code ?_
  refine CE.seq ?_
  refine CE.cond_t rfl rfl ?_
  refine CE.skip' ?_
  refine NE.code ?_
  refine CE.seq ?_
  refine CE.block ?_
  refine CE.seq ?_
  refine CE.region ?_
  refine WL.det (op_move rfl) rfl rfl rfl ?_
  refine WL.det (op_indexSl (off' := 15) rfl rfl rfl Try.runUnderlying59 Try.sizeOf33 (by omega) (by omega) rfl) rfl rfl rfl ?_
  refine WL.det (op_loadA (i := 15) (cs := [vS bq 0 nq cq, vI ((zq.i : Nat) : Int), vI 3, vF taq, vF 0, vF 0, vF (zq.t0), vF (zq.t1), vI 2, vF daq, vF mwq, vF 0, vF (zq.d0), vF (zq.d1), vF lwq]) rfl Try.isAgg33 Try.sizeOf33 ((((((Rng.youngS rv (((Rng.youngS rv (((rv.ext m1).ext m2).ext m3) m4 (allge_cons (lT (lT m1.size m2.size) lR) allge_nil)).ext m5).ext m6) m7 (allge_cons (lT (lT (lT (lT (lT m1.size m2.size) m3.size) m4.size) m5.size) lR) allge_nil)).ext m8).ext m9).ext md1).ext m10).ext m11) rfl rfl rfl) rfl rfl rfl ?_
  refine WL.op (op_alloc (cs := [.slice none 0 0, vI 0, vI 0, vF 0, vF 0, vF 0, vF 0, vF 0, vI 0, vF 0, vF 0, vF 0, vF 0, vF 0, vF 0]) Try.zeroValue33 rfl) rfl rfl (ltb rfl) ?_
  rintro _ w13 ⟨rfl, r10, m12, z6⟩
  refine WL.det (op_assign rfl) rfl rfl rfl ?_
  refine WL.op0 (op_store (i := 0) (cs := [vS bq 0 nq cq, vI ((zq.i : Nat) : Int), vI 3, vF taq, vF 0, vF 0, vF (zq.t0), vF (zq.t1), vI 2, vF daq, vF mwq, vF 0, vF (zq.d0), vF (zq.d1), vF lwq]) rfl rfl rfl Try.sizeOf33 rfl r10 rfl (lB rfl) rfl) rfl rfl ?_
  rintro _ w14 ⟨r11, m13, z7⟩
  have r12 : Row w14 w12.heap.size 0 [vS bq 0 nq cq, vI ((zq.i : Nat) : Int), vI 3, vF taq, vF 0, vF 0, vF (zq.t0), vF (zq.t1), vI 2, vF daq, vF mwq, vF 0, vF (zq.d0), vF (zq.d1), vF lwq] := Row.congr r11 rfl
  refine WL.end ?_
  refine NE.code ?_
  refine CE.seq ?_
  refine CE.region ?_
  refine WL.det (op_loadA (i := 0) (cs := [vS bq 0 nq cq, vI ((zq.i : Nat) : Int), vI 3, vF taq, vF 0, vF 0, vF (zq.t0), vF (zq.t1), vI 2, vF daq, vF mwq, vF 0, vF (zq.d0), vF (zq.d1), vF lwq]) rfl Try.isAgg33 Try.sizeOf33 r12.rng rfl rfl rfl) rfl rfl rfl ?_
  refine WL.call (oc_call (vs := [.agg #[vS bq 0 nq cq, vI ((zq.i : Nat) : Int), vI 3, vF taq, vF 0, vF 0, vF (zq.t0), vF (zq.t1), vI 2, vF daq, vF mwq, vF 0, vF (zq.d0), vF (zq.d1), vF lwq]]) (cap := []) rfl rfl rfl Try.call79 (c_cloneString nq cq bq zq.xs ((zq.i : Nat) : Int) (3 : Int) taq 0 0 (zq.t0) (zq.t1) (2 : Int) daq mwq 0 (zq.d0) (zq.d1) lwq hq.l (by omega) (by omega) w14 (Rng.youngS rq (((((((Rng.youngS rq (((Rng.youngS rq (((rq.ext m1).ext m2).ext m3) m4 (allge_cons (lT (lT m1.size m2.size) lR) allge_nil)).ext m5).ext m6) m7 (allge_cons (lT (lT (lT (lT (lT m1.size m2.size) m3.size) m4.size) m5.size) lR) allge_nil)).ext m8).ext m9).ext md1).ext m10).ext m11).ext m12) m13 (allge_cons (lT (lT (lT (lT (lT (lT (lT (lT (lT (lT (lT (lT m1.size m2.size) m3.size) m4.size) m5.size) m6.size) m7.size) m8.size) m9.size) md1.size) m10.size) m11.size) lR) allge_nil)))) rfl rfl (ltb rfl) ?_
  rintro _ w15 ⟨b'2, c'2, rfl, r13, ge3, m14⟩
  refine WL.op (op_alloc (cs := [.slice none 0 0, vI 0, vI 0, vF 0, vF 0, vF 0, vF 0, vF 0, vI 0, vF 0, vF 0, vF 0, vF 0, vF 0, vF 0]) Try.zeroValue33 rfl) rfl rfl (ltb rfl) ?_
  rintro _ w16 ⟨rfl, r14, m15, z8⟩
  refine WL.op0 (op_store (i := 0) (cs := [vS b'2 0 nq c'2, vI ((zq.i : Nat) : Int), vI 3, vF taq, vF 0, vF 0, vF (zq.t0), vF (zq.t1), vI 2, vF daq, vF mwq, vF 0, vF (zq.d0), vF (zq.d1), vF lwq]) rfl rfl rfl Try.sizeOf33 rfl r14 rfl (lB rfl) rfl) rfl rfl ?_
  rintro _ w17 ⟨r15, m16, z9⟩
  have r16 : Row w17 w15.heap.size 0 [vS b'2 0 nq c'2, vI ((zq.i : Nat) : Int), vI 3, vF taq, vF 0, vF 0, vF (zq.t0), vF (zq.t1), vI 2, vF daq, vF mwq, vF 0, vF (zq.d0), vF (zq.d1), vF lwq] := Row.congr r15 rfl
  refine WL.end ?_
  refine NE.code ?_
  refine CE.seq ?_
  refine CE.region ?_
  refine WL.det (op_move rfl) rfl rfl rfl ?_
  refine WL.det (op_loadA (i := 0) (cs := [vS b'2 0 nq c'2, vI ((zq.i : Nat) : Int), vI 3, vF taq, vF 0, vF 0, vF (zq.t0), vF (zq.t1), vI 2, vF daq, vF mwq, vF 0, vF (zq.d0), vF (zq.d1), vF lwq]) rfl Try.isAgg33 Try.sizeOf33 r16.rng rfl rfl rfl) rfl rfl rfl ?_
  refine WL.op (op_buildSl (qs := [(0, .agg #[vS b'2 0 nq c'2, vI ((zq.i : Nat) : Int), vI 3, vF taq, vF 0, vF 0, vF (zq.t0), vF (zq.t1), vI 2, vF daq, vF mwq, vF 0, vF (zq.d0), vF (zq.d1), vF lwq])]) (cells := #[vS b'2 0 nq c'2, vI ((zq.i : Nat) : Int), vI 3, vF taq, vF 0, vF 0, vF (zq.t0), vF (zq.t1), vI 2, vF daq, vF mwq, vF 0, vF (zq.d0), vF (zq.d1), vF lwq]) rfl Try.runUnderlying59 Try.sizeOf33 Try.zeroValue33 (by decide) (by decide) (by kernel_rfl)) rfl rfl (ltb rfl) ?_
  rintro _ w18 ⟨rfl, r17, m17, z10⟩
  refine WL.op (op_appk (i := Try.t33) (m := 15) (bt := 104) (news := [vS b'2 0 nq c'2, vI ((zq.i : Nat) : Int), vI 3, vF taq, vF 0, vF 0, vF (zq.t0), vF (zq.t1), vI 2, vF daq, vF mwq, vF 0, vF (zq.d0), vF (zq.d1), vF lwq]) (q := 0) rfl rfl Try.underlying59 rfl rfl rfl rfl rfl (by decide) r17.rng rfl rfl (Own.modb (Own.modb (Own.modb (Own.modb (Own.modb (Own.modb (Own.modb (Own.modb (Own.modb ow1 md1 nN) m10 nN) m11 nN) m12 nN) m13 (nC (lE (lL (lL r9.lt (lT (lT md1.size m10.size) m11.size)) lR)) nN)) m14 nN) m15 nN) m16 (nC (lE (lL (lL r9.lt (lT (lT (lT (lT (lT md1.size m10.size) m11.size) m12.size) m13.size) m14.size)) lR)) nN)) m17 nN) (lT (lT (lT (lT (lT (lT (lT (lT (lT m9.size md1.size) m10.size) m11.size) m12.size) m13.size) m14.size) m15.size) m16.size) m17.size) (by omega) (by omega) (by decide)) rfl rfl (ltb rfl) ?_
  rintro _ w19 ⟨b2, c2, rfl, ow2, hb1, m18⟩
  have r18 : Row w19 b2 0 [vS b'1 0 np c'1, vI ((zp.i : Nat) : Int), vI 3, vF tap, vF 0, vF 0, vF (zp.t0), vF (zp.t1), vI 2, vF dap, vF mwp, vF 0, vF (zp.d0), vF (zp.d1), vF lwp, vS b'2 0 nq c'2, vI ((zq.i : Nat) : Int), vI 3, vF taq, vF 0, vF 0, vF (zq.t0), vF (zq.t1), vI 2, vF daq, vF mwq, vF 0, vF (zq.d0), vF (zq.d1), vF lwq] := (Own.row1 ow2).1
  refine WL.det (op_assign rfl) rfl rfl rfl ?_
  refine WL.end ?_
  refine NE.code ?_
  refine CE.seq ?_
  refine CE.draw (fun | 5 => some (fun _ wA uA wB => uA = vI ((nq : Nat) : Int) ∧ wA = wB) | _ => none) [0, 1, 2, 3, 4, 5] [6, 7] [] (by kernel_rfl) (by kernel_rfl) ?_
  have md2 : Mod [] w19 w19.drew := (Mod.refl _ _).drew
  generalize w19.drew = w20 at md2 ⊢
  refine DR.det (i := 0) rfl rfl (by kernel_rfl) (.free rfl) rfl rfl (fun wD mD => op_fieldAddr (off' := 0) rfl Try.runUnderlying33 rfl rfl Try.sizeOf26 rfl) ?_
  refine DR.det (i := 1) rfl rfl (by kernel_rfl) (.free rfl) rfl rfl (fun wD mD => op_loadA (i := 0) (cs := [vS b'2 0 nq c'2, vI ((zq.i : Nat) : Int)]) rfl Try.isAgg26 Try.sizeOf26 ((((r16.ext m17).mod m18 (nC (lG (lL (lL r9.lt (lT (lT (lT (lT (lT md1.size m10.size) m11.size) m12.size) m13.size) m14.size)) lR)) nN)).ext md2).ext mD).rng rfl rfl rfl) ?_
  refine DR.det (i := 2) rfl rfl (by kernel_rfl) (.free rfl) rfl rfl (fun wD mD => op_fieldAddr (off' := 0) rfl Try.runUnderlying33 rfl rfl Try.sizeOf26 rfl) ?_
  refine DR.det (i := 3) rfl rfl (by kernel_rfl) (.free rfl) rfl rfl (fun wD mD => op_fieldAddr (off' := 0) rfl Try.runUnderlying26 rfl rfl Try.sizeOf24 rfl) ?_
  refine DR.det (i := 4) rfl rfl (by kernel_rfl) (.free rfl) rfl rfl (fun wD mD => op_load1 (i := 0) rfl Try.isAgg24 ((((r16.ext m17).mod m18 (nC (lG (lL (lL r9.lt (lT (lT (lT (lT (lT md1.size m10.size) m11.size) m12.size) m13.size) m14.size)) lR)) nN)).ext md2).ext mD).rng rfl rfl) ?_
  refine DR.call (i := 5) (fun uA => uA = vI ((nq : Nat) : Int)) rfl rfl (by kernel_rfl) (.free rfl) rfl (ltb rfl) ⟨_, rfl⟩ (vs := [.func (.func 103) #[] #[], vS b'2 0 nq c'2]) rfl (fun wD mD => oc_call (vs := [vS b'2 0 nq c'2]) (cap := []) rfl rfl rfl Try.call103 (c_length32 nq c'2 (some ⟨b'2, 0, none⟩) wD)) ?_ ?_
  · rintro w1 _ _ m1 ⟨rfl, rfl⟩; exact ⟨rfl, Mod.refl _ _⟩
  rintro _ rfl
  refine DR.done rfl ?_
  intro w21 m19
  refine WO.call rfl (.free rfl) rfl (ltb rfl) (oc_call (vs := [.agg #[vS b'2 0 nq c'2, vI ((zq.i : Nat) : Int)], vI ((nq : Nat) : Int)]) (cap := []) rfl rfl rfl Try.call102 (c_back_all nq c'2 b'2 zq.xs zq.i hq.l (by first | omega | exact Nat.mod_lt _ (by omega)) (by omega) w21 ((((((r13.ext m15).mod m16 (nC (lE (lL r13.lt lR)) nN)).ext m17).mod m18 (nC (lG (lL (lL r9.lt (lT (lT (lT (lT md1.size m10.size) m11.size) m12.size) m13.size)) ge3)) nN)).ext md2).ext m19).rng)) ?_
  rintro _ w22 ⟨rfl, m20⟩
  refine WO.det (op_assign rfl) rfl (.free rfl) rfl rfl ?_
  refine WO.end ?_
  refine NE.code ?_
  refine CE.seq ?_
  refine CE.region ?_
  refine WL.det (op_move rfl) rfl rfl rfl ?_
  refine WL.det (op_eqi rfl rfl) rfl rfl rfl ?_
  refine WL.end ?_
  refine NE.code ?_
  refine CE.cond_f rfl rfl ?_
  refine CE.region ?_
  refine WL.det (op_move rfl) rfl rfl rfl ?_
  refine WL.det (op_move rfl) rfl rfl rfl ?_
  refine WL.op (op_farith (e := (fop .add .f32 (zp.xs.getD zp.i 0) (zq.xs.getD zq.i 0))) (.inl rfl) rfl rfl rfl rfl rfl) rfl rfl (ltb rfl) ?_
  rintro _ w23 ⟨⟨f1, rfl, hf1, lf1⟩, m21⟩
  refine WL.det (op_assign rfl) rfl rfl rfl ?_
  refine WL.end ?_
  refine NE.blk ?_
  refine NE.code ?_
  refine CE.region ?_
  refine WL.det (op_add (r := 2) rfl rfl (by decide)) rfl rfl rfl ?_
  refine WL.det (op_move rfl) rfl rfl rfl ?_
  refine WL.end ?_
  refine NE.round ?_
  refine RN.one ?_
  refine CE.seq ?_
  refine CE.region ?_
  refine WL.det (op_lti rfl rfl) rfl rfl rfl ?_
  refine WL.end ?_
  refine NE.code ?_
  refine CE.seq ?_
  refine CE.cond_f rfl rfl ?_
  refine CE.exit' ?_
  refine XE.exit_then ?_
  refine XE.exit_then ?_
  refine XE.exit_here ?_
  refine NE.code ?_
  refine CE.seq ?_
  refine CE.region ?_
  refine WL.det (op_move rfl) rfl rfl rfl ?_
  refine WL.det (op_move rfl) rfl rfl rfl ?_
  refine WL.op (op_farith (e := (fop .mul .f32 sh (fop .add .f32 (zp.xs.getD zp.i 0) (zq.xs.getD zq.i 0)))) (.inr (.inr (.inl rfl))) rfl rfl rfl hf1 rfl) rfl rfl (ltb rfl) ?_
  rintro _ w24 ⟨⟨f2, rfl, hf2, lf2⟩, m22⟩
  refine WL.det (op_assign rfl) rfl rfl rfl ?_
  refine WL.end ?_
  refine NE.code ?_
  refine CE.seq ?_
  refine CE.region ?_
  refine WL.det (op_assign rfl) rfl rfl rfl ?_
  refine WL.end ?_
  refine NE.code ?_
  refine CE.seq ?_
  refine CE.seq ?_
  refine CE.region ?_
  refine WL.det (op_move rfl) rfl rfl rfl ?_
  refine WL.det (op_len rfl Try.runUnderlying59) rfl rfl rfl ?_
  refine WL.det (op_move rfl) rfl rfl rfl ?_
  refine WL.end ?_
  refine NE.code ?_
  refine CE.block ?_
  refine CE.rounds 3 ?_
  refine RN.one ?_
  refine CE.seq ?_
  refine CE.region ?_
  refine WL.det (op_lti rfl rfl) rfl rfl rfl ?_
  refine WL.end ?_
  refine NE.code ?_
  refine CE.seq ?_
  refine CE.cond_t rfl rfl ?_
  refine CE.skip' ?_
  refine NE.code ?_
  refine CE.seq ?_
  refine CE.block ?_
  refine CE.seq ?_
  refine CE.region ?_
  refine WL.det (op_move rfl) rfl rfl rfl ?_
  refine WL.det (op_assign rfl) rfl rfl rfl ?_
  refine WL.end ?_
  refine NE.code ?_
  refine CE.draw (fun | 10 => some (fun _ wA uA wB => uA = vF (zp.xs.getD zp.i 0) ∧ (keptF (fop .add .f32 (fop .mul .f32 (stepY (2 : Int) dap mwp 0 (zp.d0) (zp.d1) (stepY (3 : Int) tap 0 0 (zp.t0) (zp.t1) (zp.xs.getD zp.i 0))) lwp) (fop .add .f32 ap (fop .mul .f32 sh (fop .add .f32 (zp.xs.getD zp.i 0) (zq.xs.getD zq.i 0))))) < wid .f32) ∧ ((stepS (3 : Int) tap 0 0 (zp.t0) (zp.t1) (zp.xs.getD zp.i 0)) < wid .f32) ∧ ((stepT (3 : Int) tap 0 0 (zp.t0) (zp.t1) (zp.xs.getD zp.i 0)) < wid .f32) ∧ ((stepS (2 : Int) dap mwp 0 (zp.d0) (zp.d1) (stepY (3 : Int) tap 0 0 (zp.t0) (zp.t1) (zp.xs.getD zp.i 0))) < wid .f32) ∧ ((stepT (2 : Int) dap mwp 0 (zp.d0) (zp.d1) (stepY (3 : Int) tap 0 0 (zp.t0) (zp.t1) (zp.xs.getD zp.i 0))) < wid .f32) ∧ Row wB b2 0 (splice [vS b'1 0 np c'1, vI ((zp.i : Nat) : Int), vI 3, vF tap, vF 0, vF 0, vF (zp.t0), vF (zp.t1), vI 2, vF dap, vF mwp, vF 0, vF (zp.d0), vF (zp.d1), vF lwp, vS b'2 0 nq c'2, vI ((zq.i : Nat) : Int), vI 3, vF taq, vF 0, vF 0, vF (zq.t0), vF (zq.t1), vI 2, vF daq, vF mwq, vF 0, vF (zq.d0), vF (zq.d1), vF lwq] 0 [vS b'1 0 np c'1, vI (((zp.i + 1) % np : Nat) : Int), vI 3, vF tap, vF 0, vF 0, vF (stepS (3 : Int) tap 0 0 (zp.t0) (zp.t1) (zp.xs.getD zp.i 0)), vF (stepT (3 : Int) tap 0 0 (zp.t0) (zp.t1) (zp.xs.getD zp.i 0)), vI 2, vF dap, vF mwp, vF 0, vF (stepS (2 : Int) dap mwp 0 (zp.d0) (zp.d1) (stepY (3 : Int) tap 0 0 (zp.t0) (zp.t1) (zp.xs.getD zp.i 0))), vF (stepT (2 : Int) dap mwp 0 (zp.d0) (zp.d1) (stepY (3 : Int) tap 0 0 (zp.t0) (zp.t1) (zp.xs.getD zp.i 0))), vF lwp]) ∧ Row wB b'1 0 (fl (zp.xs.set zp.i (keptF (fop .add .f32 (fop .mul .f32 (stepY (2 : Int) dap mwp 0 (zp.d0) (zp.d1) (stepY (3 : Int) tap 0 0 (zp.t0) (zp.t1) (zp.xs.getD zp.i 0))) lwp) (fop .add .f32 ap (fop .mul .f32 sh (fop .add .f32 (zp.xs.getD zp.i 0) (zq.xs.getD zq.i 0)))))))) ∧ Mod [b2, b'1] wA wB) | _ => none) [0, 1, 2, 3, 4, 5, 6, 7, 8, 9, 10, 11] [12, 13] [b2, b'1] (by kernel_rfl) (by kernel_rfl) ?_
  have md3 : Mod [] w24 w24.drew := (Mod.refl _ _).drew
  generalize w24.drew = w25 at md3 ⊢
  refine DR.det (i := 0) rfl rfl (by kernel_rfl) (.free rfl) rfl rfl (fun wD mD => op_move rfl) ?_
  refine DR.det (i := 1) rfl rfl (by kernel_rfl) (.free rfl) rfl rfl (fun wD mD => op_move rfl) ?_
  refine DR.det (i := 2) rfl rfl (by kernel_rfl) (.free rfl) rfl rfl (fun wD mD => op_move rfl) ?_
  refine DR.det (i := 3) rfl rfl (by kernel_rfl) (.free rfl) rfl rfl (fun wD mD => op_indexSl (off' := 0) rfl rfl rfl Try.runUnderlying59 Try.sizeOf33 (by omega) (by omega) rfl) ?_
  refine DR.det (i := 4) rfl rfl (by kernel_rfl) (.free rfl) rfl rfl (fun wD mD => op_move rfl) ?_
  refine DR.det (i := 5) rfl rfl (by kernel_rfl) (.free rfl) rfl rfl (fun wD mD => op_move rfl) ?_
  refine DR.det (i := 6) rfl rfl (by kernel_rfl) (.free rfl) rfl rfl (fun wD mD => op_indexSl (off' := 0) rfl rfl rfl Try.runUnderlying24 Try.sizeOf27 (by omega) (by omega) rfl) ?_
  refine DR.det (i := 7) rfl rfl (by kernel_rfl) (.free rfl) rfl rfl (fun wD mD => op_load1 (i := 0) rfl Try.isAgg27 (Rng.youngS ri (((((((Rng.youngS ri ((Rng.youngS ri (((Rng.youngS ri (((((((Rng.youngS ri (((Rng.youngS ri (((ri.ext m1).ext m2).ext m3) m4 (allge_cons (lT (lT m1.size m2.size) lR) allge_nil)).ext m5).ext m6) m7 (allge_cons (lT (lT (lT (lT (lT m1.size m2.size) m3.size) m4.size) m5.size) lR) allge_nil)).ext m8).ext m9).ext md1).ext m10).ext m11).ext m12) m13 (allge_cons (lT (lT (lT (lT (lT (lT (lT (lT (lT (lT (lT (lT m1.size m2.size) m3.size) m4.size) m5.size) m6.size) m7.size) m8.size) m9.size) md1.size) m10.size) m11.size) lR) allge_nil)).ext m14).ext m15) m16 (allge_cons (lT (lT (lT (lT (lT (lT (lT (lT (lT (lT (lT (lT (lT (lT (lT m1.size m2.size) m3.size) m4.size) m5.size) m6.size) m7.size) m8.size) m9.size) md1.size) m10.size) m11.size) m12.size) m13.size) m14.size) lR) allge_nil)).ext m17) m18 (allge_cons (lT (lT (lT (lT (lT (lT (lT (lT m1.size m2.size) m3.size) m4.size) m5.size) m6.size) m7.size) m8.size) ge2) allge_nil)).ext md2).ext m19).ext m20).ext m21).ext m22).ext md3) mD (allge_cons (lT (lT (lT (lT (lT (lT (lT (lT m1.size m2.size) m3.size) m4.size) m5.size) m6.size) m7.size) m8.size) (Own.row1 ow2).2) (allge_cons (lT (lT (lT (lT m1.size m2.size) m3.size) m4.size) ge1) allge_nil))) rfl rfl) ?_
  refine DR.det (i := 8) rfl rfl (by kernel_rfl) (.free rfl) rfl rfl (fun wD mD => op_move rfl) ?_
  refine DR.op (i := 9) (FOut .f32 (fop .add .f32 ap (fop .mul .f32 sh (fop .add .f32 (zp.xs.getD zp.i 0) (zq.xs.getD zq.i 0))))) rfl rfl (by kernel_rfl) (.free rfl) rfl (ltb rfl) (fun wD mD => op_farith (e := (fop .add .f32 ap (fop .mul .f32 sh (fop .add .f32 (zp.xs.getD zp.i 0) (zq.xs.getD zq.i 0))))) (.inl rfl) rfl rfl rfl hf2 rfl) ?_
  rintro _ ⟨f3, rfl, hf3, lf3⟩
  refine DR.one (i := 10) rfl rfl (by kernel_rfl) (.free rfl) rfl (ltb rfl) (vs := [.func (.func 84) #[] #[], vP b2 0, vF f3]) rfl ?_
  intro w26 m23
  refine ⟨oc_call (vs := [vP b2 0, vF f3]) (cap := []) rfl rfl rfl Try.call84 (c_strStep np c'1 b'1 zp.xs zp.i (3 : Int) tap 0 0 (zp.t0) (zp.t1) (2 : Int) dap mwp 0 (zp.d0) (zp.d1) lwp b2 0 [vS b'1 0 np c'1, vI ((zp.i : Nat) : Int), vI 3, vF tap, vF 0, vF 0, vF (zp.t0), vF (zp.t1), vI 2, vF dap, vF mwp, vF 0, vF (zp.d0), vF (zp.d1), vF lwp, vS b'2 0 nq c'2, vI ((zq.i : Nat) : Int), vI 3, vF taq, vF 0, vF 0, vF (zq.t0), vF (zq.t1), vI 2, vF daq, vF mwq, vF 0, vF (zq.d0), vF (zq.d1), vF lwq] f3 (fop .add .f32 ap (fop .mul .f32 sh (fop .add .f32 (zp.xs.getD zp.i 0) (zq.xs.getD zq.i 0)))) hp.l (by first | omega | exact Nat.mod_lt _ (by omega)) (by omega) hp.b0 hp.b1 hp.b2 (by rw [hp.e]; decide +kernel) (lB rfl) hf3 lf3 (by first | assumption | exact W32.set (by assumption) (by first | assumption | exact wid_lt (by assumption)) | exact W32.zeros _ | exact W32.nil) w26 (Row.congr (((((((r18.ext md2).ext m19).ext m20).ext m21).ext m22).ext md3).ext m23) rfl) (((((((((((((((((((((r4.ext m6).mod m7 (nC (lE (lL r4.lt lR)) nN)).ext m8).ext m9).ext md1).ext m10).ext m11).ext m12).mod m13 (nC (lE (lL (lL r4.lt (lT (lT (lT (lT (lT (lT m6.size m7.size) m8.size) m9.size) md1.size) m10.size) m11.size)) lR)) nN)).ext m14).ext m15).mod m16 (nC (lE (lL (lL r4.lt (lT (lT (lT (lT (lT (lT (lT (lT (lT m6.size m7.size) m8.size) m9.size) md1.size) m10.size) m11.size) m12.size) m13.size) m14.size)) lR)) nN)).ext m17).mod m18 (nC (lE (lL (lL r4.lt (lT (lT m6.size m7.size) m8.size)) ge2)) nN)).ext md2).ext m19).ext m20).ext m21).ext m22).ext md3).ext m23) (Ne.symm (own_ne hb1 (lE (lL (lL r4.lt (lT (lT m6.size m7.size) m8.size)) ge2)) (lL r4.lt (lT (lT (lT (lT (lT (lT (lT (lT (lT (lT (lT (lT m6.size m7.size) m8.size) m9.size) md1.size) m10.size) m11.size) m12.size) m13.size) m14.size) m15.size) m16.size) m17.size))))), ?_⟩
  rintro _ w27 ⟨rfl, h1, h2, h3, h4, h5, r19, r20, m24⟩
  have r21 : Row w27 b2 0 [vS b'1 0 np c'1, vI (((zp.i + 1) % np : Nat) : Int), vI 3, vF tap, vF 0, vF 0, vF (stepS (3 : Int) tap 0 0 (zp.t0) (zp.t1) (zp.xs.getD zp.i 0)), vF (stepT (3 : Int) tap 0 0 (zp.t0) (zp.t1) (zp.xs.getD zp.i 0)), vI 2, vF dap, vF mwp, vF 0, vF (stepS (2 : Int) dap mwp 0 (zp.d0) (zp.d1) (stepY (3 : Int) tap 0 0 (zp.t0) (zp.t1) (zp.xs.getD zp.i 0))), vF (stepT (2 : Int) dap mwp 0 (zp.d0) (zp.d1) (stepY (3 : Int) tap 0 0 (zp.t0) (zp.t1) (zp.xs.getD zp.i 0))), vF lwp, vS b'2 0 nq c'2, vI ((zq.i : Nat) : Int), vI 3, vF taq, vF 0, vF 0, vF (zq.t0), vF (zq.t1), vI 2, vF daq, vF mwq, vF 0, vF (zq.d0), vF (zq.d1), vF lwq] := r19
  refine ⟨(((Mod.refl [b2, b'1] w25).nt m23).then m24 ((aC (.inl (by simp)) (aC (.inl (by simp)) aN)))), ?_⟩
  refine DR.rebase ?_
  refine DR.one1 (i := 11) rfl rfl (by kernel_rfl) (.free rfl) rfl (ltb rfl) ?_
  intro w28 m25
  refine Op1.mono (op_buildSl (qs := [(0, vF (zp.xs.getD zp.i 0))]) (cells := #[vF (zp.xs.getD zp.i 0)]) rfl Try.runUnderlying24 Try.sizeOf27 Try.zeroValue27 (by decide) (by decide) (by kernel_rfl)) ?_
  rintro _ w29 ⟨rfl, r22, m26, z11⟩
  refine ⟨(((Mod.refl [b2, b'1] w27).nt m25).nt m26), ?_⟩
  refine DR.done rfl ?_
  intro w30 m27
  refine WO.op rfl (.free rfl) rfl (ltb rfl) (op_app0 (i := Try.t27) (m := 1) (bt := 4) (news := [vF (zp.xs.getD zp.i 0)]) (q := 0) (.inl rfl) rfl rfl Try.underlying24 rfl rfl rfl rfl rfl (by decide) (r22.ext m27).rng rfl rfl (by omega) (by decide)) ?_
  rintro _ w31 ⟨b3, c3, rfl, ow3, ge4, m28⟩
  have r23 : Row w31 b3 0 [vF (zp.xs.getD zp.i 0)] := (Own.row1 ow3).1
  refine WO.det (op_assign rfl) rfl (.free rfl) rfl rfl ?_
  refine WO.end ?_
  refine NE.blk ?_
  refine NE.code ?_
  refine CE.region ?_
  refine WL.det (op_add (r := 1) rfl rfl (by decide)) rfl rfl rfl ?_
  refine WL.det (op_move rfl) rfl rfl rfl ?_
  refine WL.end ?_
  refine NE.round ?_
  refine RN.one ?_
  refine CE.seq ?_
  refine CE.region ?_
  refine WL.det (op_lti rfl rfl) rfl rfl rfl ?_
  refine WL.end ?_
  refine NE.code ?_
  refine CE.seq ?_
  refine CE.cond_t rfl rfl ?_
  refine CE.skip' ?_
  refine NE.code ?_
  refine CE.seq ?_
  refine CE.block ?_
  refine CE.seq ?_
  refine CE.region ?_
  refine WL.det (op_move rfl) rfl rfl rfl ?_
  refine WL.det (op_assign rfl) rfl rfl rfl ?_
  refine WL.end ?_
  refine NE.code ?_
  refine CE.draw (fun | 10 => some (fun _ wA uA wB => uA = vF (zq.xs.getD zq.i 0) ∧ (keptF (fop .add .f32 (fop .mul .f32 (stepY (2 : Int) daq mwq 0 (zq.d0) (zq.d1) (stepY (3 : Int) taq 0 0 (zq.t0) (zq.t1) (zq.xs.getD zq.i 0))) lwq) (fop .add .f32 aq (fop .mul .f32 sh (fop .add .f32 (zp.xs.getD zp.i 0) (zq.xs.getD zq.i 0))))) < wid .f32) ∧ ((stepS (3 : Int) taq 0 0 (zq.t0) (zq.t1) (zq.xs.getD zq.i 0)) < wid .f32) ∧ ((stepT (3 : Int) taq 0 0 (zq.t0) (zq.t1) (zq.xs.getD zq.i 0)) < wid .f32) ∧ ((stepS (2 : Int) daq mwq 0 (zq.d0) (zq.d1) (stepY (3 : Int) taq 0 0 (zq.t0) (zq.t1) (zq.xs.getD zq.i 0))) < wid .f32) ∧ ((stepT (2 : Int) daq mwq 0 (zq.d0) (zq.d1) (stepY (3 : Int) taq 0 0 (zq.t0) (zq.t1) (zq.xs.getD zq.i 0))) < wid .f32) ∧ Row wB b2 0 (splice [vS b'1 0 np c'1, vI (((zp.i + 1) % np : Nat) : Int), vI 3, vF tap, vF 0, vF 0, vF (stepS (3 : Int) tap 0 0 (zp.t0) (zp.t1) (zp.xs.getD zp.i 0)), vF (stepT (3 : Int) tap 0 0 (zp.t0) (zp.t1) (zp.xs.getD zp.i 0)), vI 2, vF dap, vF mwp, vF 0, vF (stepS (2 : Int) dap mwp 0 (zp.d0) (zp.d1) (stepY (3 : Int) tap 0 0 (zp.t0) (zp.t1) (zp.xs.getD zp.i 0))), vF (stepT (2 : Int) dap mwp 0 (zp.d0) (zp.d1) (stepY (3 : Int) tap 0 0 (zp.t0) (zp.t1) (zp.xs.getD zp.i 0))), vF lwp, vS b'2 0 nq c'2, vI ((zq.i : Nat) : Int), vI 3, vF taq, vF 0, vF 0, vF (zq.t0), vF (zq.t1), vI 2, vF daq, vF mwq, vF 0, vF (zq.d0), vF (zq.d1), vF lwq] 15 [vS b'2 0 nq c'2, vI (((zq.i + 1) % nq : Nat) : Int), vI 3, vF taq, vF 0, vF 0, vF (stepS (3 : Int) taq 0 0 (zq.t0) (zq.t1) (zq.xs.getD zq.i 0)), vF (stepT (3 : Int) taq 0 0 (zq.t0) (zq.t1) (zq.xs.getD zq.i 0)), vI 2, vF daq, vF mwq, vF 0, vF (stepS (2 : Int) daq mwq 0 (zq.d0) (zq.d1) (stepY (3 : Int) taq 0 0 (zq.t0) (zq.t1) (zq.xs.getD zq.i 0))), vF (stepT (2 : Int) daq mwq 0 (zq.d0) (zq.d1) (stepY (3 : Int) taq 0 0 (zq.t0) (zq.t1) (zq.xs.getD zq.i 0))), vF lwq]) ∧ Row wB b'2 0 (fl (zq.xs.set zq.i (keptF (fop .add .f32 (fop .mul .f32 (stepY (2 : Int) daq mwq 0 (zq.d0) (zq.d1) (stepY (3 : Int) taq 0 0 (zq.t0) (zq.t1) (zq.xs.getD zq.i 0))) lwq) (fop .add .f32 aq (fop .mul .f32 sh (fop .add .f32 (zp.xs.getD zp.i 0) (zq.xs.getD zq.i 0)))))))) ∧ Mod [b2, b'2] wA wB) | _ => none) [0, 1, 2, 3, 4, 5, 6, 7, 8, 9, 10, 11] [12, 13] [b2, b'2] (by kernel_rfl) (by kernel_rfl) ?_
  have md4 : Mod [] w31 w31.drew := (Mod.refl _ _).drew
  generalize w31.drew = w32 at md4 ⊢
  refine DR.det (i := 0) rfl rfl (by kernel_rfl) (.free rfl) rfl rfl (fun wD mD => op_move rfl) ?_
  refine DR.det (i := 1) rfl rfl (by kernel_rfl) (.free rfl) rfl rfl (fun wD mD => op_move rfl) ?_
  refine DR.det (i := 2) rfl rfl (by kernel_rfl) (.free rfl) rfl rfl (fun wD mD => op_move rfl) ?_
  refine DR.det (i := 3) rfl rfl (by kernel_rfl) (.free rfl) rfl rfl (fun wD mD => op_indexSl (off' := 15) rfl rfl rfl Try.runUnderlying59 Try.sizeOf33 (by omega) (by omega) rfl) ?_
  refine DR.det (i := 4) rfl rfl (by kernel_rfl) (.free rfl) rfl rfl (fun wD mD => op_move rfl) ?_
  refine DR.det (i := 5) rfl rfl (by kernel_rfl) (.free rfl) rfl rfl (fun wD mD => op_move rfl) ?_
  refine DR.det (i := 6) rfl rfl (by kernel_rfl) (.free rfl) rfl rfl (fun wD mD => op_indexSl (off' := 1) rfl rfl rfl Try.runUnderlying24 Try.sizeOf27 (by omega) (by omega) rfl) ?_
  refine DR.det (i := 7) rfl rfl (by kernel_rfl) (.free rfl) rfl rfl (fun wD mD => op_load1 (i := 1) rfl Try.isAgg27 (Rng.youngS ri ((((((Rng.youngS ri ((((((((Rng.youngS ri ((Rng.youngS ri (((Rng.youngS ri (((((((Rng.youngS ri (((Rng.youngS ri (((ri.ext m1).ext m2).ext m3) m4 (allge_cons (lT (lT m1.size m2.size) lR) allge_nil)).ext m5).ext m6) m7 (allge_cons (lT (lT (lT (lT (lT m1.size m2.size) m3.size) m4.size) m5.size) lR) allge_nil)).ext m8).ext m9).ext md1).ext m10).ext m11).ext m12) m13 (allge_cons (lT (lT (lT (lT (lT (lT (lT (lT (lT (lT (lT (lT m1.size m2.size) m3.size) m4.size) m5.size) m6.size) m7.size) m8.size) m9.size) md1.size) m10.size) m11.size) lR) allge_nil)).ext m14).ext m15) m16 (allge_cons (lT (lT (lT (lT (lT (lT (lT (lT (lT (lT (lT (lT (lT (lT (lT m1.size m2.size) m3.size) m4.size) m5.size) m6.size) m7.size) m8.size) m9.size) md1.size) m10.size) m11.size) m12.size) m13.size) m14.size) lR) allge_nil)).ext m17) m18 (allge_cons (lT (lT (lT (lT (lT (lT (lT (lT m1.size m2.size) m3.size) m4.size) m5.size) m6.size) m7.size) m8.size) ge2) allge_nil)).ext md2).ext m19).ext m20).ext m21).ext m22).ext md3).ext m23) m24 (allge_cons (lT (lT (lT (lT (lT (lT (lT (lT m1.size m2.size) m3.size) m4.size) m5.size) m6.size) m7.size) m8.size) (Own.row1 ow2).2) (allge_cons (lT (lT (lT (lT m1.size m2.size) m3.size) m4.size) ge1) allge_nil))).ext m25).ext m26).ext m27).ext m28).ext md4) mD (allge_cons (lT (lT (lT (lT (lT (lT (lT (lT m1.size m2.size) m3.size) m4.size) m5.size) m6.size) m7.size) m8.size) (Own.row1 ow2).2) (allge_cons (lT (lT (lT (lT (lT (lT (lT (lT (lT (lT (lT (lT (lT (lT m1.size m2.size) m3.size) m4.size) m5.size) m6.size) m7.size) m8.size) m9.size) md1.size) m10.size) m11.size) m12.size) m13.size) ge3) allge_nil))) rfl rfl) ?_
  refine DR.det (i := 8) rfl rfl (by kernel_rfl) (.free rfl) rfl rfl (fun wD mD => op_move rfl) ?_
  refine DR.op (i := 9) (FOut .f32 (fop .add .f32 aq (fop .mul .f32 sh (fop .add .f32 (zp.xs.getD zp.i 0) (zq.xs.getD zq.i 0))))) rfl rfl (by kernel_rfl) (.free rfl) rfl (ltb rfl) (fun wD mD => op_farith (e := (fop .add .f32 aq (fop .mul .f32 sh (fop .add .f32 (zp.xs.getD zp.i 0) (zq.xs.getD zq.i 0))))) (.inl rfl) rfl rfl rfl hf2 rfl) ?_
  rintro _ ⟨f4, rfl, hf4, lf4⟩
  refine DR.one (i := 10) rfl rfl (by kernel_rfl) (.free rfl) rfl (ltb rfl) (vs := [.func (.func 84) #[] #[], vP b2 15, vF f4]) rfl ?_
  intro w33 m29
  refine ⟨oc_call (vs := [vP b2 15, vF f4]) (cap := []) rfl rfl rfl Try.call84 (c_strStep nq c'2 b'2 zq.xs zq.i (3 : Int) taq 0 0 (zq.t0) (zq.t1) (2 : Int) daq mwq 0 (zq.d0) (zq.d1) lwq b2 15 [vS b'1 0 np c'1, vI (((zp.i + 1) % np : Nat) : Int), vI 3, vF tap, vF 0, vF 0, vF (stepS (3 : Int) tap 0 0 (zp.t0) (zp.t1) (zp.xs.getD zp.i 0)), vF (stepT (3 : Int) tap 0 0 (zp.t0) (zp.t1) (zp.xs.getD zp.i 0)), vI 2, vF dap, vF mwp, vF 0, vF (stepS (2 : Int) dap mwp 0 (zp.d0) (zp.d1) (stepY (3 : Int) tap 0 0 (zp.t0) (zp.t1) (zp.xs.getD zp.i 0))), vF (stepT (2 : Int) dap mwp 0 (zp.d0) (zp.d1) (stepY (3 : Int) tap 0 0 (zp.t0) (zp.t1) (zp.xs.getD zp.i 0))), vF lwp, vS b'2 0 nq c'2, vI ((zq.i : Nat) : Int), vI 3, vF taq, vF 0, vF 0, vF (zq.t0), vF (zq.t1), vI 2, vF daq, vF mwq, vF 0, vF (zq.d0), vF (zq.d1), vF lwq] f4 (fop .add .f32 aq (fop .mul .f32 sh (fop .add .f32 (zp.xs.getD zp.i 0) (zq.xs.getD zq.i 0)))) hq.l (by first | omega | exact Nat.mod_lt _ (by omega)) (by omega) hq.b0 hq.b1 hq.b2 (by rw [hq.e]; decide +kernel) (lB rfl) hf4 lf4 (by first | assumption | exact W32.set (by assumption) (by first | assumption | exact wid_lt (by assumption)) | exact W32.zeros _ | exact W32.nil) w33 (Row.congr ((((((r21.ext m25).ext m26).ext m27).ext m28).ext md4).ext m29) rfl) ((((((((((((((((((r13.ext m15).mod m16 (nC (lE (lL r13.lt lR)) nN)).ext m17).mod m18 (nC (lG (lL (lL r9.lt (lT (lT (lT (lT md1.size m10.size) m11.size) m12.size) m13.size)) ge3)) nN)).ext md2).ext m19).ext m20).ext m21).ext m22).ext md3).ext m23).mod m24 (nC (own_ne hb1 (lG (lL (lL r9.lt (lT (lT (lT (lT md1.size m10.size) m11.size) m12.size) m13.size)) ge3)) (lL r13.lt (lT (lT m15.size m16.size) m17.size))) (nC (lG (lL (lL r4.lt (lT (lT (lT (lT (lT (lT (lT (lT m6.size m7.size) m8.size) m9.size) md1.size) m10.size) m11.size) m12.size) m13.size)) ge3)) nN))).ext m25).ext m26).ext m27).ext m28).ext md4).ext m29) (Ne.symm (own_ne hb1 (lG (lL (lL r9.lt (lT (lT (lT (lT md1.size m10.size) m11.size) m12.size) m13.size)) ge3)) (lL r13.lt (lT (lT m15.size m16.size) m17.size))))), ?_⟩
  rintro _ w34 ⟨rfl, h6, h7, h8, h9, h10, r24, r25, m30⟩
  have r26 : Row w34 b2 0 [vS b'1 0 np c'1, vI (((zp.i + 1) % np : Nat) : Int), vI 3, vF tap, vF 0, vF 0, vF (stepS (3 : Int) tap 0 0 (zp.t0) (zp.t1) (zp.xs.getD zp.i 0)), vF (stepT (3 : Int) tap 0 0 (zp.t0) (zp.t1) (zp.xs.getD zp.i 0)), vI 2, vF dap, vF mwp, vF 0, vF (stepS (2 : Int) dap mwp 0 (zp.d0) (zp.d1) (stepY (3 : Int) tap 0 0 (zp.t0) (zp.t1) (zp.xs.getD zp.i 0))), vF (stepT (2 : Int) dap mwp 0 (zp.d0) (zp.d1) (stepY (3 : Int) tap 0 0 (zp.t0) (zp.t1) (zp.xs.getD zp.i 0))), vF lwp, vS b'2 0 nq c'2, vI (((zq.i + 1) % nq : Nat) : Int), vI 3, vF taq, vF 0, vF 0, vF (stepS (3 : Int) taq 0 0 (zq.t0) (zq.t1) (zq.xs.getD zq.i 0)), vF (stepT (3 : Int) taq 0 0 (zq.t0) (zq.t1) (zq.xs.getD zq.i 0)), vI 2, vF daq, vF mwq, vF 0, vF (stepS (2 : Int) daq mwq 0 (zq.d0) (zq.d1) (stepY (3 : Int) taq 0 0 (zq.t0) (zq.t1) (zq.xs.getD zq.i 0))), vF (stepT (2 : Int) daq mwq 0 (zq.d0) (zq.d1) (stepY (3 : Int) taq 0 0 (zq.t0) (zq.t1) (zq.xs.getD zq.i 0))), vF lwq] := r24
  refine ⟨(((Mod.refl [b2, b'2] w32).nt m29).then m30 ((aC (.inl (by simp)) (aC (.inl (by simp)) aN)))), ?_⟩
  refine DR.rebase ?_
  refine DR.one1 (i := 11) rfl rfl (by kernel_rfl) (.free rfl) rfl (ltb rfl) ?_
  intro w35 m31
  refine Op1.mono (op_buildSl (qs := [(0, vF (zq.xs.getD zq.i 0))]) (cells := #[vF (zq.xs.getD zq.i 0)]) rfl Try.runUnderlying24 Try.sizeOf27 Try.zeroValue27 (by decide) (by decide) (by kernel_rfl)) ?_
  rintro _ w36 ⟨rfl, r27, m32, z12⟩
  refine ⟨(((Mod.refl [b2, b'2] w34).nt m31).nt m32), ?_⟩
  refine DR.done rfl ?_
  intro w37 m33
  refine WO.op rfl (.free rfl) rfl (ltb rfl) (op_appk (i := Try.t27) (m := 1) (bt := 4) (news := [vF (zq.xs.getD zq.i 0)]) (q := 0) rfl rfl Try.underlying24 rfl rfl rfl rfl rfl (by decide) (r27.ext m33).rng rfl rfl (Own.modb (Own.modb (Own.modb (Own.modb (Own.modb (Own.modb ow3 md4 nN) m29 nN) m30 (nC (lG (lL (lL r18.lt (lT (lT (lT (lT (lT (lT (lT (lT (lT (lT md2.size m19.size) m20.size) m21.size) m22.size) md3.size) m23.size) m24.size) m25.size) m26.size) m27.size)) ge4)) (nC (lG (lL (lL r13.lt (lT (lT (lT (lT (lT (lT (lT (lT (lT (lT (lT (lT (lT (lT m15.size m16.size) m17.size) m18.size) md2.size) m19.size) m20.size) m21.size) m22.size) md3.size) m23.size) m24.size) m25.size) m26.size) m27.size)) ge4)) nN))) m31 nN) m32 nN) m33 nN) (lT (lT (lT (lT (lT (lT m28.size md4.size) m29.size) m30.size) m31.size) m32.size) m33.size) (by omega) (by omega) (by decide)) ?_
  rintro _ w38 ⟨b4, c4, rfl, ow4, hb2, m34⟩
  have r28 : Row w38 b4 0 [vF (zp.xs.getD zp.i 0), vF (zq.xs.getD zq.i 0)] := (Own.row1 ow4).1
  refine WO.det (op_assign rfl) rfl (.free rfl) rfl rfl ?_
  refine WO.end ?_
  refine NE.blk ?_
  refine NE.code ?_
  refine CE.region ?_
  refine WL.det (op_add (r := 2) rfl rfl (by decide)) rfl rfl rfl ?_
  refine WL.det (op_move rfl) rfl rfl rfl ?_
  refine WL.end ?_
  refine NE.round ?_
  refine RN.one ?_
  refine CE.seq ?_
  refine CE.region ?_
  refine WL.det (op_lti rfl rfl) rfl rfl rfl ?_
  refine WL.end ?_
  refine NE.code ?_
  refine CE.seq ?_
  refine CE.cond_f rfl rfl ?_
  refine CE.exit' ?_
  refine XE.exit_then ?_
  refine XE.exit_then ?_
  refine XE.exit_here ?_
  refine NE.code ?_
  refine CE.seq ?_
  refine CE.region ?_
  refine WL.det (op_move rfl) rfl rfl rfl ?_
  refine WL.det (op_move rfl) rfl rfl rfl ?_
  refine WL.det (op_assign rfl) rfl rfl rfl ?_
  refine WL.det (op_assign rfl) rfl rfl rfl ?_
  refine WL.det (op_assign rfl) rfl rfl rfl ?_
  refine WL.end ?_
  refine NE.code ?_
  refine CE.ret' ?_
  refine XE.leaveT Try.results33 (res_tmp rfl (res_tmp rfl (res_tmp rfl res_nil))) ?_
  refine ⟨b2, c2, b4, c4, b'1, c'1, b'2, c'2, rfl, ?_, ?_, (Row.congr ((((r26.ext m31).ext m32).ext m33).mod m34 (nC (lE (lL (lL r18.lt (lT (lT (lT (lT (lT (lT (lT (lT (lT (lT md2.size m19.size) m20.size) m21.size) m22.size) md3.size) m23.size) m24.size) m25.size) m26.size) m27.size)) ge4)) nN)) ?_), (Row.congr r28 ?_), (Row.congr (((((((((((r20.ext m25).ext m26).ext m27).ext m28).ext md4).ext m29).mod m30 (nC (own_ne hb1 (lE (lL (lL r4.lt (lT (lT m6.size m7.size) m8.size)) ge2)) (lL r4.lt (lT (lT (lT (lT (lT (lT (lT (lT (lT (lT (lT (lT m6.size m7.size) m8.size) m9.size) md1.size) m10.size) m11.size) m12.size) m13.size) m14.size) m15.size) m16.size) m17.size))) (nC (lE (lL (lL r4.lt (lT (lT (lT (lT (lT (lT (lT (lT m6.size m7.size) m8.size) m9.size) md1.size) m10.size) m11.size) m12.size) m13.size)) ge3)) nN))).ext m31).ext m32).ext m33).mod m34 (nC (lE (lL (lL r4.lt (lT (lT (lT (lT (lT (lT (lT (lT (lT (lT (lT (lT (lT (lT (lT (lT (lT (lT (lT (lT (lT (lT (lT (lT m6.size m7.size) m8.size) m9.size) md1.size) m10.size) m11.size) m12.size) m13.size) m14.size) m15.size) m16.size) m17.size) m18.size) md2.size) m19.size) m20.size) m21.size) m22.size) md3.size) m23.size) m24.size) m25.size) m26.size) m27.size)) ge4)) nN)) ?_), (Row.congr ((((r25.ext m31).ext m32).ext m33).mod m34 (nC (lE (lL (lL r13.lt (lT (lT (lT (lT (lT (lT (lT (lT (lT (lT (lT (lT (lT (lT m15.size m16.size) m17.size) m18.size) md2.size) m19.size) m20.size) m21.size) m22.size) md3.size) m23.size) m24.size) m25.size) m26.size) m27.size)) ge4)) nN)) ?_), (lT (lT (lT (lT (lT (lT (lT (lT m1.size m2.size) m3.size) m4.size) m5.size) m6.size) m7.size) m8.size) (Own.row1 ow2).2), (lT (lT (lT (lT (lT (lT (lT (lT (lT (lT (lT (lT (lT (lT (lT (lT (lT (lT (lT (lT (lT (lT (lT (lT (lT (lT (lT (lT (lT (lT m1.size m2.size) m3.size) m4.size) m5.size) m6.size) m7.size) m8.size) m9.size) md1.size) m10.size) m11.size) m12.size) m13.size) m14.size) m15.size) m16.size) m17.size) m18.size) md2.size) m19.size) m20.size) m21.size) m22.size) md3.size) m23.size) m24.size) m25.size) m26.size) m27.size) (Own.row1 ow4).2), (lT (lT (lT (lT m1.size m2.size) m3.size) m4.size) ge1), (lT (lT (lT (lT (lT (lT (lT (lT (lT (lT (lT (lT (lT (lT m1.size m2.size) m3.size) m4.size) m5.size) m6.size) m7.size) m8.size) m9.size) md1.size) m10.size) m11.size) m12.size) m13.size) ge3), (((((((((((((((((((((((((((((((((((((((Mod.refl [] w).nt m1).nt m2).nt m3).then m4 ((aC (.inr (lT (lT m1.size m2.size) lR)) aN))).nt m5).nt m6).then m7 ((aC (.inr (lT (lT (lT (lT (lT m1.size m2.size) m3.size) m4.size) m5.size) lR)) aN))).nt m8).nt m9).nt md1).nt m10).nt m11).nt m12).then m13 ((aC (.inr (lT (lT (lT (lT (lT (lT (lT (lT (lT (lT (lT (lT m1.size m2.size) m3.size) m4.size) m5.size) m6.size) m7.size) m8.size) m9.size) md1.size) m10.size) m11.size) lR)) aN))).nt m14).nt m15).then m16 ((aC (.inr (lT (lT (lT (lT (lT (lT (lT (lT (lT (lT (lT (lT (lT (lT (lT m1.size m2.size) m3.size) m4.size) m5.size) m6.size) m7.size) m8.size) m9.size) md1.size) m10.size) m11.size) m12.size) m13.size) m14.size) lR)) aN))).nt m17).then m18 ((aC (.inr (lT (lT (lT (lT (lT (lT (lT (lT m1.size m2.size) m3.size) m4.size) m5.size) m6.size) m7.size) m8.size) ge2)) aN))).nt md2).nt m19).nt m20).nt m21).nt m22).nt md3).nt m23).then m24 ((aC (.inr (lT (lT (lT (lT (lT (lT (lT (lT m1.size m2.size) m3.size) m4.size) m5.size) m6.size) m7.size) m8.size) (Own.row1 ow2).2)) (aC (.inr (lT (lT (lT (lT m1.size m2.size) m3.size) m4.size) ge1)) aN)))).nt m25).nt m26).nt m27).nt m28).nt md4).nt m29).then m30 ((aC (.inr (lT (lT (lT (lT (lT (lT (lT (lT m1.size m2.size) m3.size) m4.size) m5.size) m6.size) m7.size) m8.size) (Own.row1 ow2).2)) (aC (.inr (lT (lT (lT (lT (lT (lT (lT (lT (lT (lT (lT (lT (lT (lT m1.size m2.size) m3.size) m4.size) m5.size) m6.size) m7.size) m8.size) m9.size) md1.size) m10.size) m11.size) m12.size) m13.size) ge3)) aN)))).nt m31).nt m32).nt m33).then m34 ((aC (.inr (lT (lT (lT (lT (lT (lT (lT (lT (lT (lT (lT (lT (lT (lT (lT (lT (lT (lT (lT (lT (lT (lT (lT (lT (lT (lT (lT (lT (lT (lT m1.size m2.size) m3.size) m4.size) m5.size) m6.size) m7.size) m8.size) m9.size) md1.size) m10.size) m11.size) m12.size) m13.size) m14.size) m15.size) m16.size) m17.size) m18.size) md2.size) m19.size) m20.size) m21.size) m22.size) md3.size) m23.size) m24.size) m25.size) m26.size) m27.size) ge4)) aN)))⟩
  all_goals first | assumption | exact (List.length_set).trans hp.l | exact (List.length_set).trans hq.l | rfl

set_option maxRecDepth 100000 in
set_option maxHeartbeats 2000000 in
theorem c_sBridge2 (np : Nat) (cp : Nat) (bp : Nat) (tap : Nat) (dap : Nat) (mwp : Nat) (lwp : Nat) (zp : StrSt) (nq : Nat) (cq : Nat) (bq : Nat) (taq : Nat) (daq : Nat) (mwq : Nat) (lwq : Nat) (zq : StrSt) (cv : Nat) (v : Nat) (sh : Nat) (ci : Nat) (iv : Nat) (ap : Nat) (aq : Nat) (op : LawS np tap dap mwp lwp) (hp : Way np zp) (oq : LawS nq taq daq mwq lwq) (hq : Way nq zq) (hsh : finF sh = true) (lap : ap < wid .f32) (laq : aq < wid .f32) (w : World) (rv : Rng w v 0 [vS bp 0 np cp, vI ((zp.i : Nat) : Int), vI 3, vF tap, vF 0, vF 0, vF (zp.t0), vF (zp.t1), vI 2, vF dap, vF mwp, vF 0, vF (zp.d0), vF (zp.d1), vF lwp, vS bq 0 nq cq, vI ((zq.i : Nat) : Int), vI 3, vF taq, vF 0, vF 0, vF (zq.t0), vF (zq.t1), vI 2, vF daq, vF mwq, vF 0, vF (zq.d0), vF (zq.d1), vF lwq]) (ri : Rng w iv 0 [vF ap, vF aq]) (rp : Rng w bp 0 (fl zp.xs)) (rq : Rng w bq 0 (fl zq.xs)) : Cl Try.prog 36 #[vS v 0 2 cv, vF sh, vS iv 0 2 ci] w fun v w' => ∃ (e' : Nat) (ce' : Nat) (f' : Nat) (cf' : Nat) (b1' : Nat) (c1' : Nat) (b2' : Nat) (c2' : Nat), v = .tuple #[vS e' 0 2 ce', vS f' 0 2 cf', vI 0] ∧ ((zp.xs.set zp.i (keptF (fop .add .f32 (fop .mul .f32 (stepY 2 dap mwp 0 (zp.d0) (zp.d1) (stepY 3 tap 0 0 (zp.t0) (zp.t1) ((zp.xs).getD (zp.i) 0))) lwp) (fop .add .f32 ap (fop .mul .f32 sh (fop .add .f32 ((zp.xs).getD (zp.i) 0) ((zq.xs).getD (zq.i) 0))))))).length = np) ∧ ((zq.xs.set zq.i (keptF (fop .add .f32 (fop .mul .f32 (stepY 2 daq mwq 0 (zq.d0) (zq.d1) (stepY 3 taq 0 0 (zq.t0) (zq.t1) ((zq.xs).getD (zq.i) 0))) lwq) (fop .add .f32 aq (fop .mul .f32 sh (fop .add .f32 ((zp.xs).getD (zp.i) 0) ((zq.xs).getD (zq.i) 0))))))).length = nq) ∧ Row w' e' 0 [vS b1' 0 np c1', vI (((zp.i + 1) % np : Nat) : Int), vI 3, vF tap, vF 0, vF 0, vF (stepS 3 tap 0 0 (zp.t0) (zp.t1) ((zp.xs).getD (zp.i) 0)), vF (stepT 3 tap 0 0 (zp.t0) (zp.t1) ((zp.xs).getD (zp.i) 0)), vI 2, vF dap, vF mwp, vF 0, vF (stepS 2 dap mwp 0 (zp.d0) (zp.d1) (stepY 3 tap 0 0 (zp.t0) (zp.t1) ((zp.xs).getD (zp.i) 0))), vF (stepT 2 dap mwp 0 (zp.d0) (zp.d1) (stepY 3 tap 0 0 (zp.t0) (zp.t1) ((zp.xs).getD (zp.i) 0))), vF lwp, vS b2' 0 nq c2', vI (((zq.i + 1) % nq : Nat) : Int), vI 3, vF taq, vF 0, vF 0, vF (stepS 3 taq 0 0 (zq.t0) (zq.t1) ((zq.xs).getD (zq.i) 0)), vF (stepT 3 taq 0 0 (zq.t0) (zq.t1) ((zq.xs).getD (zq.i) 0)), vI 2, vF daq, vF mwq, vF 0, vF (stepS 2 daq mwq 0 (zq.d0) (zq.d1) (stepY 3 taq 0 0 (zq.t0) (zq.t1) ((zq.xs).getD (zq.i) 0))), vF (stepT 2 daq mwq 0 (zq.d0) (zq.d1) (stepY 3 taq 0 0 (zq.t0) (zq.t1) ((zq.xs).getD (zq.i) 0))), vF lwq] ∧ Row w' f' 0 [vF ((zp.xs).getD (zp.i) 0), vF ((zq.xs).getD (zq.i) 0)] ∧ Row w' b1' 0 (fl (zp.xs.set zp.i (keptF (fop .add .f32 (fop .mul .f32 (stepY 2 dap mwp 0 (zp.d0) (zp.d1) (stepY 3 tap 0 0 (zp.t0) (zp.t1) ((zp.xs).getD (zp.i) 0))) lwp) (fop .add .f32 ap (fop .mul .f32 sh (fop .add .f32 ((zp.xs).getD (zp.i) 0) ((zq.xs).getD (zq.i) 0)))))))) ∧ Row w' b2' 0 (fl (zq.xs.set zq.i (keptF (fop .add .f32 (fop .mul .f32 (stepY 2 daq mwq 0 (zq.d0) (zq.d1) (stepY 3 taq 0 0 (zq.t0) (zq.t1) ((zq.xs).getD (zq.i) 0))) lwq) (fop .add .f32 aq (fop .mul .f32 sh (fop .add .f32 ((zp.xs).getD (zp.i) 0) ((zq.xs).getD (zq.i) 0)))))))) ∧ w.heap.size ≤ e' ∧ w.heap.size ≤ f' ∧ w.heap.size ≤ b1' ∧ w.heap.size ≤ b2' ∧ Mod [] w w' := by
  have ip := hp.i; have iq := hq.i; have n2p := op.n2; have n2q := oq.n2; have wxp := hp.w; have wxq := hq.w
  refine Cl.of Try.func36 Try.ntmps36 rfl rfl (ρ := [(0, vS v 0 2 cv), (1, vF sh), (2, vS iv 0 2 ci)]) rfl ?_
  refine CE.seq ?_
  refine CE.region ?_
  refine WL.det (op_assign rfl) rfl rfl rfl ?_
  refine WL.det (op_assign rfl) rfl rfl rfl ?_
  refine WL.det (op_assign rfl) rfl rfl rfl ?_
  refine WL.end ?_
  refine NE.code ?_
  refine CE.seq ?_
  refine CE.seq ?_
  refine CE.region ?_
  refine WL.det (op_assign rfl) rfl rfl rfl ?_
  refine WL.end ?_
  refine NE.code ?_
  refine CE.block ?_
  refine CE.rounds 3 ?_
  refine RN.one ?_
  refine CE.seq ?_
  refine CE.seq ?_
  refine CE.region ?_
  refine WL.det (op_move rfl) rfl rfl rfl ?_
  refine WL.det (op_move rfl) rfl rfl rfl ?_
  refine WL.det (op_len rfl Try.runUnderlying59) rfl rfl rfl ?_
  refine WL.det (op_lti rfl rfl) rfl rfl rfl ?_
  refine WL.end ?_
  refine NE.code ?_
  refine CE.cond_t rfl rfl ?_
  refine CE.skip' ?_
  refine NE.code ?_
  refine CE.seq ?_
  refine CE.block ?_
  refine CE.seq ?_
  refine CE.region ?_
  refine WL.det (op_move rfl) rfl rfl rfl ?_
  refine WL.det (op_move rfl) rfl rfl rfl ?_
  refine WL.det (op_indexSl (off' := 0) rfl rfl rfl Try.runUnderlying59 Try.sizeOf33 (by omega) (by omega) rfl) rfl rfl rfl ?_
  refine WL.call (oc_call (vs := [vP v 0]) (cap := []) rfl rfl rfl Try.call70 (c_l03Ok np cp (some ⟨bp, 0, none⟩) ((zp.i : Nat) : Int) (3 : Int) tap 0 0 (zp.t0) (zp.t1) (2 : Int) dap mwp 0 (zp.d0) (zp.d1) lwp v 0 [vS bp 0 np cp, vI ((zp.i : Nat) : Int), vI 3, vF tap, vF 0, vF 0, vF (zp.t0), vF (zp.t1), vI 2, vF dap, vF mwp, vF 0, vF (zp.d0), vF (zp.d1), vF lwp, vS bq 0 nq cq, vI ((zq.i : Nat) : Int), vI 3, vF taq, vF 0, vF 0, vF (zq.t0), vF (zq.t1), vI 2, vF daq, vF mwq, vF 0, vF (zq.d0), vF (zq.d1), vF lwq] (by omega) (lB rfl) w (Rng.congr rv rfl))) rfl rfl (ltb rfl) ?_
  rintro _ w1 ⟨rfl, m1⟩
  refine WL.det (op_not rfl) rfl rfl rfl ?_
  refine WL.end ?_
  refine NE.code ?_
  refine CE.cond_f rfl (bnot_t (Way.valid op hp)) ?_
  refine CE.skip' ?_
  refine NE.blk ?_
  refine NE.code ?_
  refine CE.region ?_
  refine WL.det (op_move rfl) rfl rfl rfl ?_
  refine WL.det (op_add (r := 1) rfl rfl (by decide)) rfl rfl rfl ?_
  refine WL.det (op_assign rfl) rfl rfl rfl ?_
  refine WL.end ?_
  refine NE.round ?_
  refine RN.one ?_
  refine CE.seq ?_
  refine CE.seq ?_
  refine CE.region ?_
  refine WL.det (op_move rfl) rfl rfl rfl ?_
  refine WL.det (op_move rfl) rfl rfl rfl ?_
  refine WL.det (op_len rfl Try.runUnderlying59) rfl rfl rfl ?_
  refine WL.det (op_lti rfl rfl) rfl rfl rfl ?_
  refine WL.end ?_
  refine NE.code ?_
  refine CE.cond_t rfl rfl ?_
  refine CE.skip' ?_
  refine NE.code ?_
  refine CE.seq ?_
  refine CE.block ?_
  refine CE.seq ?_
  refine CE.region ?_
  refine WL.det (op_move rfl) rfl rfl rfl ?_
  refine WL.det (op_move rfl) rfl rfl rfl ?_
  refine WL.det (op_indexSl (off' := 15) rfl rfl rfl Try.runUnderlying59 Try.sizeOf33 (by omega) (by omega) rfl) rfl rfl rfl ?_
  refine WL.call (oc_call (vs := [vP v 15]) (cap := []) rfl rfl rfl Try.call70 (c_l03Ok nq cq (some ⟨bq, 0, none⟩) ((zq.i : Nat) : Int) (3 : Int) taq 0 0 (zq.t0) (zq.t1) (2 : Int) daq mwq 0 (zq.d0) (zq.d1) lwq v 15 [vS bp 0 np cp, vI ((zp.i : Nat) : Int), vI 3, vF tap, vF 0, vF 0, vF (zp.t0), vF (zp.t1), vI 2, vF dap, vF mwp, vF 0, vF (zp.d0), vF (zp.d1), vF lwp, vS bq 0 nq cq, vI ((zq.i : Nat) : Int), vI 3, vF taq, vF 0, vF 0, vF (zq.t0), vF (zq.t1), vI 2, vF daq, vF mwq, vF 0, vF (zq.d0), vF (zq.d1), vF lwq] (by omega) (lB rfl) w1 (Rng.congr (rv.ext m1) rfl))) rfl rfl (ltb rfl) ?_
  rintro _ w2 ⟨rfl, m2⟩
  refine WL.det (op_not rfl) rfl rfl rfl ?_
  refine WL.end ?_
  refine NE.code ?_
  refine CE.cond_f rfl (bnot_t (Way.valid oq hq)) ?_
  refine CE.skip' ?_
  refine NE.blk ?_
  refine NE.code ?_
  refine CE.region ?_
  refine WL.det (op_move rfl) rfl rfl rfl ?_
  refine WL.det (op_add (r := 2) rfl rfl (by decide)) rfl rfl rfl ?_
  refine WL.det (op_assign rfl) rfl rfl rfl ?_
  refine WL.end ?_
  refine NE.round ?_
  refine RN.one ?_
  refine CE.seq ?_
  refine CE.seq ?_
  refine CE.region ?_
  refine WL.det (op_move rfl) rfl rfl rfl ?_
  refine WL.det (op_move rfl) rfl rfl rfl ?_
  refine WL.det (op_len rfl Try.runUnderlying59) rfl rfl rfl ?_
  refine WL.det (op_lti rfl rfl) rfl rfl rfl ?_
  refine WL.end ?_
  refine NE.code ?_
  refine CE.cond_f rfl rfl ?_
  refine CE.exit' ?_
  refine XE.exit_then ?_
  refine XE.exit_then ?_
  refine XE.exit_here ?_
  refine NE.code ?_
  refine CE.seq ?_
  refine CE.seq ?_
  refine CE.region ?_
  refine WL.det (op_move rfl) rfl rfl rfl ?_
  refine WL.det (op_len rfl Try.runUnderlying59) rfl rfl rfl ?_
  refine WL.call (oc_call (vs := [vI 2, vI 1, vI 4]) (cap := []) rfl rfl rfl Try.call85 (c_l00In (2 : Int) (1 : Int) (4 : Int) w2)) rfl rfl (ltb rfl) ?_
  rintro _ _ ⟨rfl, rfl⟩
  refine WL.det (op_not rfl) rfl rfl rfl ?_
  refine WL.det (op_move rfl) rfl rfl rfl ?_
  refine WL.yes rfl rfl rfl (ltb rfl) rfl (bnot_t (by decide +kernel)) ?_
  refine WL.det (op_move rfl) rfl rfl rfl ?_
  refine WL.yes rfl rfl rfl (ltb rfl) rfl (bnot_t (by decide +kernel)) ?_
  refine WL.det (op_len rfl Try.runUnderlying24) rfl rfl rfl ?_
  refine WL.yes rfl rfl rfl (ltb rfl) rfl (bnot_t (by decide +kernel)) ?_
  refine WL.det (op_move rfl) rfl rfl rfl ?_
  refine WL.yes rfl rfl rfl (ltb rfl) rfl (bnot_t (by decide +kernel)) ?_
  refine WL.det (op_len rfl Try.runUnderlying59) rfl rfl rfl ?_
  refine WL.yes rfl rfl rfl (ltb rfl) rfl (bnot_t (by decide +kernel)) ?_
  refine WL.det (op_nei rfl rfl) rfl rfl rfl ?_
  refine WL.det (op_pick_f rfl (bnot_t (by decide +kernel)) rfl) rfl rfl rfl ?_
  refine WL.det (op_move rfl) rfl rfl rfl ?_
  refine WL.yes rfl rfl rfl (ltb rfl) rfl rfl ?_
  refine WL.det (op_move rfl) rfl rfl rfl ?_
  refine WL.yes rfl rfl rfl (ltb rfl) rfl rfl ?_
  refine WL.call (oc_call (vs := [vF sh]) (cap := []) rfl rfl rfl Try.call71 (c_l01Finite sh sh rfl w2)) rfl rfl (ltb rfl) ?_
  rintro _ w3 ⟨rfl, m3⟩
  refine WL.yes rfl rfl rfl (ltb rfl) rfl rfl ?_
  refine WL.det (op_not rfl) rfl rfl rfl ?_
  refine WL.det (op_pick_f rfl rfl rfl) rfl rfl rfl ?_
  refine WL.end ?_
  refine NE.code ?_
  refine CE.cond_f rfl (bnot_t hsh) ?_
  refine CE.skip' ?_
  refine NE.code ?_
  refine CE.seq ?_
  refine CE.draw (fun _ => none) [0, 1, 2, 3, 4, 5, 6, 7, 8, 9] [10, 11, 12] [] (by kernel_rfl) (by kernel_rfl) ?_
  have md1 : Mod [] w3 w3.drew := (Mod.refl _ _).drew
  generalize w3.drew = w4 at md1 ⊢
  refine DR.det (i := 0) rfl rfl (by kernel_rfl) (.free rfl) rfl rfl (fun wD mD => op_move rfl) ?_
  refine DR.det (i := 1) rfl rfl (by kernel_rfl) (.free rfl) rfl rfl (fun wD mD => op_indexSl (off' := 0) rfl rfl rfl Try.runUnderlying59 Try.sizeOf33 (by omega) (by omega) rfl) ?_
  refine DR.det (i := 2) rfl rfl (by kernel_rfl) (.free rfl) rfl rfl (fun wD mD => op_fieldAddr (off' := 0) rfl Try.runUnderlying33 rfl rfl Try.sizeOf26 rfl) ?_
  refine DR.det (i := 3) rfl rfl (by kernel_rfl) (.free rfl) rfl rfl (fun wD mD => op_fieldAddr (off' := 0) rfl Try.runUnderlying26 rfl rfl Try.sizeOf24 rfl) ?_
  refine DR.det (i := 4) rfl rfl (by kernel_rfl) (.free rfl) rfl rfl (fun wD mD => op_load1 (i := 0) rfl Try.isAgg24 (((((rv.ext m1).ext m2).ext m3).ext md1).ext mD) rfl rfl) ?_
  refine DR.det (i := 5) rfl rfl (by kernel_rfl) (.free rfl) rfl rfl (fun wD mD => op_move rfl) ?_
  refine DR.det (i := 6) rfl rfl (by kernel_rfl) (.free rfl) rfl rfl (fun wD mD => op_indexSl (off' := 0) rfl rfl rfl Try.runUnderlying59 Try.sizeOf33 (by omega) (by omega) rfl) ?_
  refine DR.det (i := 7) rfl rfl (by kernel_rfl) (.free rfl) rfl rfl (fun wD mD => op_fieldAddr (off' := 0) rfl Try.runUnderlying33 rfl rfl Try.sizeOf26 rfl) ?_
  refine DR.det (i := 8) rfl rfl (by kernel_rfl) (.free rfl) rfl rfl (fun wD mD => op_fieldAddr (off' := 1) rfl Try.runUnderlying26 rfl rfl Try.sizeOf2 rfl) ?_
  refine DR.det (i := 9) rfl rfl (by kernel_rfl) (.free rfl) rfl rfl (fun wD mD => op_load1 (i := 1) rfl Try.isAgg2 (((((rv.ext m1).ext m2).ext m3).ext md1).ext mD) rfl rfl) ?_
  refine DR.done rfl ?_
  intro w5 m4
  refine WO.det (op_indexSl (off' := 0 + zp.i) rfl rfl rfl Try.runUnderlying24 Try.sizeOf27 (by omega) (by omega) (by omega)) rfl (.free rfl) rfl rfl ?_
  refine WO.det (op_load1 (i := zp.i) rfl Try.isAgg27 (((((rp.ext m1).ext m2).ext m3).ext md1).ext m4) rfl (fl_get (by have eL : List.length zp.xs = np := hp.l; omega))) rfl (.free rfl) rfl rfl ?_
  refine WO.det (op_assign rfl) rfl (.free rfl) rfl rfl ?_
  refine WO.end ?_
  refine NE.code ?_
  refine CE.seq ?_
  refine CE.seq ?_
  refine CE.region ?_
  refine WL.det (op_assign rfl) rfl rfl rfl ?_
  refine WL.end ?_
  refine NE.code ?_
  refine CE.block ?_
  refine CE.rounds 3 ?_
  refine RN.one ?_
  refine CE.seq ?_
  refine CE.seq ?_
  refine CE.region ?_
  refine WL.det (op_move rfl) rfl rfl rfl ?_
  refine WL.det (op_move rfl) rfl rfl rfl ?_
  refine WL.det (op_len rfl Try.runUnderlying59) rfl rfl rfl ?_
  refine WL.det (op_lti rfl rfl) rfl rfl rfl ?_
  refine WL.end ?_
  refine NE.code ?_
  refine CE.cond_t rfl rfl ?_
  refine CE.skip' ?_
  refine NE.code ?_
  refine CE.seq ?_
  refine CE.block ?_
  refine CE.draw (fun _ => none) [0, 1, 2, 3, 4, 5, 6, 7, 8, 9, 10, 11, 12, 13, 14] [15, 16] [] (by kernel_rfl) (by kernel_rfl) ?_
  have md2 : Mod [] w5 w5.drew := (Mod.refl _ _).drew
  generalize w5.drew = w6 at md2 ⊢
  refine DR.det (i := 0) rfl rfl (by kernel_rfl) (.free rfl) rfl rfl (fun wD mD => op_move rfl) ?_
  refine DR.det (i := 1) rfl rfl (by kernel_rfl) (.free rfl) rfl rfl (fun wD mD => op_move rfl) ?_
  refine DR.det (i := 2) rfl rfl (by kernel_rfl) (.free rfl) rfl rfl (fun wD mD => op_move rfl) ?_
  refine DR.det (i := 3) rfl rfl (by kernel_rfl) (.free rfl) rfl rfl (fun wD mD => op_indexSl (off' := 15) rfl rfl rfl Try.runUnderlying59 Try.sizeOf33 (by omega) (by omega) rfl) ?_
  refine DR.det (i := 4) rfl rfl (by kernel_rfl) (.free rfl) rfl rfl (fun wD mD => op_fieldAddr (off' := 15) rfl Try.runUnderlying33 rfl rfl Try.sizeOf26 rfl) ?_
  refine DR.det (i := 5) rfl rfl (by kernel_rfl) (.free rfl) rfl rfl (fun wD mD => op_fieldAddr (off' := 15) rfl Try.runUnderlying26 rfl rfl Try.sizeOf24 rfl) ?_
  refine DR.det (i := 6) rfl rfl (by kernel_rfl) (.free rfl) rfl rfl (fun wD mD => op_load1 (i := 15) rfl Try.isAgg24 (((((((rv.ext m1).ext m2).ext m3).ext md1).ext m4).ext md2).ext mD) rfl rfl) ?_
  refine DR.det (i := 7) rfl rfl (by kernel_rfl) (.free rfl) rfl rfl (fun wD mD => op_move rfl) ?_
  refine DR.det (i := 8) rfl rfl (by kernel_rfl) (.free rfl) rfl rfl (fun wD mD => op_move rfl) ?_
  refine DR.det (i := 9) rfl rfl (by kernel_rfl) (.free rfl) rfl rfl (fun wD mD => op_indexSl (off' := 15) rfl rfl rfl Try.runUnderlying59 Try.sizeOf33 (by omega) (by omega) rfl) ?_
  refine DR.det (i := 10) rfl rfl (by kernel_rfl) (.free rfl) rfl rfl (fun wD mD => op_fieldAddr (off' := 15) rfl Try.runUnderlying33 rfl rfl Try.sizeOf26 rfl) ?_
  refine DR.det (i := 11) rfl rfl (by kernel_rfl) (.free rfl) rfl rfl (fun wD mD => op_fieldAddr (off' := 16) rfl Try.runUnderlying26 rfl rfl Try.sizeOf2 rfl) ?_
  refine DR.det (i := 12) rfl rfl (by kernel_rfl) (.free rfl) rfl rfl (fun wD mD => op_load1 (i := 16) rfl Try.isAgg2 (((((((rv.ext m1).ext m2).ext m3).ext md1).ext m4).ext md2).ext mD) rfl rfl) ?_
  refine DR.det (i := 13) rfl rfl (by kernel_rfl) (.free rfl) rfl rfl (fun wD mD => op_indexSl (off' := 0 + zq.i) rfl rfl rfl Try.runUnderlying24 Try.sizeOf27 (by omega) (by omega) (by omega)) ?_
  refine DR.det (i := 14) rfl rfl (by kernel_rfl) (.free rfl) rfl rfl (fun wD mD => op_load1 (i := zq.i) rfl Try.isAgg27 (((((((rq.ext m1).ext m2).ext m3).ext md1).ext m4).ext md2).ext mD) rfl (fl_get (by have eL : List.length zq.xs = nq := hq.l; omega))) ?_
  refine DR.done rfl ?_
  intro w7 m5
  refine WO.op rfl (.free rfl) rfl (ltb rfl) (op_farith (e := (fop .add .f32 (zp.xs.getD zp.i 0) (zq.xs.getD zq.i 0))) (.inl rfl) rfl rfl rfl rfl rfl) ?_
  rintro _ w8 ⟨⟨f1, rfl, hf1, lf1⟩, m6⟩
  refine WO.det (op_assign rfl) rfl (.free rfl) rfl rfl ?_
  refine WO.end ?_
  refine NE.blk ?_
  refine NE.code ?_
  refine CE.region ?_
  refine WL.det (op_move rfl) rfl rfl rfl ?_
  refine WL.det (op_add (r := 2) rfl rfl (by decide)) rfl rfl rfl ?_
  refine WL.det (op_assign rfl) rfl rfl rfl ?_
  refine WL.end ?_
  refine NE.round ?_
  refine RN.one ?_
  refine CE.seq ?_
  refine CE.seq ?_
  refine CE.region ?_
  refine WL.det (op_move rfl) rfl rfl rfl ?_
  refine WL.det (op_move rfl) rfl rfl rfl ?_
  refine WL.det (op_len rfl Try.runUnderlying59) rfl rfl rfl ?_
  refine WL.det (op_lti rfl rfl) rfl rfl rfl ?_
  refine WL.end ?_
  refine NE.code ?_
  refine CE.cond_f rfl rfl ?_
  refine CE.exit' ?_
  refine XE.exit_then ?_
  refine XE.exit_then ?_
  refine XE.exit_here ?_
  refine NE.code ?_
  refine CE.seq ?_
  refine CE.region ?_
  refine WL.det (op_move rfl) rfl rfl rfl ?_
  refine WL.det (op_move rfl) rfl rfl rfl ?_
  refine WL.op (op_farith (e := (fop .mul .f32 sh (fop .add .f32 (zp.xs.getD zp.i 0) (zq.xs.getD zq.i 0)))) (.inr (.inr (.inl rfl))) rfl rfl rfl hf1 rfl) rfl rfl (ltb rfl) ?_
  rintro _ w9 ⟨⟨f2, rfl, hf2, lf2⟩, m7⟩
  refine WL.det (op_assign rfl) rfl rfl rfl ?_
  refine WL.end ?_
  refine NE.code ?_
  refine CE.seq ?_
  refine CE.region ?_
  refine WL.op (op_emptySl rfl Try.runUnderlying59 Try.sizeOf33) rfl rfl (ltb rfl) ?_
  rintro _ w10 ⟨rfl, r1, m8, z1⟩
  refine WL.det (op_assign rfl) rfl rfl rfl ?_
  refine WL.end ?_
  refine NE.code ?_
  refine CE.seq ?_
  refine CE.region ?_
  refine WL.op (op_emptySl rfl Try.runUnderlying24 Try.sizeOf27) rfl rfl (ltb rfl) ?_
  rintro _ w11 ⟨rfl, r2, m9, z2⟩
  refine WL.det (op_assign rfl) rfl rfl rfl ?_
  refine WL.end ?_
  refine NE.code ?_
  refine CE.seq ?_
  refine CE.seq ?_
  refine CE.region ?_
  refine WL.det (op_assign rfl) rfl rfl rfl ?_
  refine WL.end ?_
  refine NE.code ?_
  refine CE.block ?_
  refine CE.rounds 3 ?_
  refine RN.one ?_
  refine CE.seq ?_
  refine CE.seq ?_
  refine CE.region ?_
  refine WL.det (op_move rfl) rfl rfl rfl ?_
  refine WL.det (op_move rfl) rfl rfl rfl ?_
  refine WL.det (op_len rfl Try.runUnderlying59) rfl rfl rfl ?_
  refine WL.det (op_lti rfl rfl) rfl rfl rfl ?_
  refine WL.end ?_
  refine NE.code ?_
  refine CE.cond_t rfl rfl ?_
  refine CE.skip' ?_
  refine NE.code ?_
  refine CE.seq ?_
  refine CE.block ?_
  refine CE.seq ?_
  refine CE.region ?_
  refine WL.det (op_move rfl) rfl rfl rfl ?_
  refine WL.det (op_move rfl) rfl rfl rfl ?_
  refine WL.det (op_indexSl (off' := 0) rfl rfl rfl Try.runUnderlying59 Try.sizeOf33 (by omega) (by omega) rfl) rfl rfl rfl ?_
  refine WL.call (oc_call (vs := [vP v 0]) (cap := []) rfl rfl rfl Try.call72 (c_l03Copy np cp bp zp.xs ((zp.i : Nat) : Int) (3 : Int) tap 0 0 (zp.t0) (zp.t1) (2 : Int) dap mwp 0 (zp.d0) (zp.d1) lwp v 0 [vS bp 0 np cp, vI ((zp.i : Nat) : Int), vI 3, vF tap, vF 0, vF 0, vF (zp.t0), vF (zp.t1), vI 2, vF dap, vF mwp, vF 0, vF (zp.d0), vF (zp.d1), vF lwp, vS bq 0 nq cq, vI ((zq.i : Nat) : Int), vI 3, vF taq, vF 0, vF 0, vF (zq.t0), vF (zq.t1), vI 2, vF daq, vF mwq, vF 0, vF (zq.d0), vF (zq.d1), vF lwq] hp.l (by omega) (by omega) (lB rfl) w11 (Rng.congr (((((((((((rv.ext m1).ext m2).ext m3).ext md1).ext m4).ext md2).ext m5).ext m6).ext m7).ext m8).ext m9) rfl) (((((((((((rp.ext m1).ext m2).ext m3).ext md1).ext m4).ext md2).ext m5).ext m6).ext m7).ext m8).ext m9))) rfl rfl (ltb rfl) ?_
  rintro _ w12 ⟨b'1, c'1, rfl, r3, ge1, m10⟩
  refine WL.op (op_alloc (cs := [.slice none 0 0, vI 0, vI 0, vF 0, vF 0, vF 0, vF 0, vF 0, vI 0, vF 0, vF 0, vF 0, vF 0, vF 0, vF 0]) Try.zeroValue33 rfl) rfl rfl (ltb rfl) ?_
  rintro _ w13 ⟨rfl, r4, m11, z3⟩
  refine WL.op0 (op_store (i := 0) (cs := [vS b'1 0 np c'1, vI ((zp.i : Nat) : Int), vI 3, vF tap, vF 0, vF 0, vF (zp.t0), vF (zp.t1), vI 2, vF dap, vF mwp, vF 0, vF (zp.d0), vF (zp.d1), vF lwp]) rfl rfl rfl Try.sizeOf33 rfl r4 rfl (lB rfl) rfl) rfl rfl ?_
  rintro _ w14 ⟨r5, m12, z4⟩
  have r6 : Row w14 w12.heap.size 0 [vS b'1 0 np c'1, vI ((zp.i : Nat) : Int), vI 3, vF tap, vF 0, vF 0, vF (zp.t0), vF (zp.t1), vI 2, vF dap, vF mwp, vF 0, vF (zp.d0), vF (zp.d1), vF lwp] := Row.congr r5 rfl
  refine WL.end ?_
  refine NE.code ?_
  refine CE.seq ?_
  refine CE.region ?_
  refine WL.det (op_move rfl) rfl rfl rfl ?_
  refine WL.det (op_move rfl) rfl rfl rfl ?_
  refine WL.det (op_move rfl) rfl rfl rfl ?_
  refine WL.det (op_indexSl (off' := 0) rfl rfl rfl Try.runUnderlying24 Try.sizeOf27 (by omega) (by omega) rfl) rfl rfl rfl ?_
  refine WL.det (op_load1 (i := 0) rfl Try.isAgg27 (Rng.youngS ri (((((((((((((ri.ext m1).ext m2).ext m3).ext md1).ext m4).ext md2).ext m5).ext m6).ext m7).ext m8).ext m9).ext m10).ext m11) m12 (allge_cons (lT (lT (lT (lT (lT (lT (lT (lT (lT (lT (lT (lT m1.size m2.size) m3.size) md1.size) m4.size) md2.size) m5.size) m6.size) m7.size) m8.size) m9.size) m10.size) lR) allge_nil)) rfl rfl) rfl rfl rfl ?_
  refine WL.det (op_move rfl) rfl rfl rfl ?_
  refine WL.op (op_farith (e := (fop .add .f32 ap (fop .mul .f32 sh (fop .add .f32 (zp.xs.getD zp.i 0) (zq.xs.getD zq.i 0))))) (.inl rfl) rfl rfl rfl hf2 rfl) rfl rfl (ltb rfl) ?_
  rintro _ w15 ⟨⟨f3, rfl, hf3, lf3⟩, m13⟩
  refine WL.call (oc_call (vs := [vP w12.heap.size 0, vF f3]) (cap := []) rfl rfl rfl Try.call87 (c_l03Step np c'1 b'1 zp.xs zp.i (3 : Int) tap 0 0 (zp.t0) (zp.t1) (2 : Int) dap mwp 0 (zp.d0) (zp.d1) lwp w12.heap.size 0 [vS b'1 0 np c'1, vI ((zp.i : Nat) : Int), vI 3, vF tap, vF 0, vF 0, vF (zp.t0), vF (zp.t1), vI 2, vF dap, vF mwp, vF 0, vF (zp.d0), vF (zp.d1), vF lwp] f3 (fop .add .f32 ap (fop .mul .f32 sh (fop .add .f32 (zp.xs.getD zp.i 0) (zq.xs.getD zq.i 0)))) hp.l (by first | omega | exact Nat.mod_lt _ (by omega)) (by omega) hp.b0 hp.b1 hp.b2 (by rw [hp.e]; decide +kernel) (lB rfl) hf3 lf3 (by first | assumption | exact W32.set (by assumption) (by first | assumption | exact wid_lt (by assumption)) | exact W32.zeros _ | exact W32.nil) w15 (Row.congr (r6.ext m13) rfl) (((r3.ext m11).mod m12 (nC (lE (lL r3.lt lR)) nN)).ext m13) (lG (lL r3.lt lR)))) rfl rfl (ltb rfl) ?_
  rintro _ w16 ⟨rfl, h1, h2, h3, h4, h5, r7, r8, m14⟩
  have r9 : Row w16 w12.heap.size 0 [vS b'1 0 np c'1, vI (((zp.i + 1) % np : Nat) : Int), vI 3, vF tap, vF 0, vF 0, vF (stepS (3 : Int) tap 0 0 (zp.t0) (zp.t1) (zp.xs.getD zp.i 0)), vF (stepT (3 : Int) tap 0 0 (zp.t0) (zp.t1) (zp.xs.getD zp.i 0)), vI 2, vF dap, vF mwp, vF 0, vF (stepS (2 : Int) dap mwp 0 (zp.d0) (zp.d1) (stepY (3 : Int) tap 0 0 (zp.t0) (zp.t1) (zp.xs.getD zp.i 0))), vF (stepT (2 : Int) dap mwp 0 (zp.d0) (zp.d1) (stepY (3 : Int) tap 0 0 (zp.t0) (zp.t1) (zp.xs.getD zp.i 0))), vF lwp] := r7
  refine WL.op (op_buildSl (qs := [(0, vF (zp.xs.getD zp.i 0))]) (cells := #[vF (zp.xs.getD zp.i 0)]) rfl Try.runUnderlying24 Try.sizeOf27 Try.zeroValue27 (by decide) (by decide) (by kernel_rfl)) rfl rfl (ltb rfl) ?_
  rintro _ w17 ⟨rfl, r10, m15, z5⟩
  refine WL.op (op_app0 (i := Try.t27) (m := 1) (bt := 4) (news := [vF (zp.xs.getD zp.i 0)]) (q := 0) (.inr ⟨_, rfl⟩) rfl rfl Try.underlying24 rfl rfl rfl rfl rfl (by decide) r10.rng rfl rfl (by omega) (by decide)) rfl rfl (ltb rfl) ?_
  rintro _ w18 ⟨b1, c1, rfl, ow1, ge2, m16⟩
  have r11 : Row w18 b1 0 [vF (zp.xs.getD zp.i 0)] := (Own.row1 ow1).1
  refine WL.det (op_assign rfl) rfl rfl rfl ?_
  refine WL.end ?_
  refine NE.code ?_
  refine CE.region ?_
  refine WL.det (op_move rfl) rfl rfl rfl ?_
  refine WL.det (op_loadA (i := 0) (cs := [vS b'1 0 np c'1, vI (((zp.i + 1) % np : Nat) : Int), vI 3, vF tap, vF 0, vF 0, vF (stepS (3 : Int) tap 0 0 (zp.t0) (zp.t1) (zp.xs.getD zp.i 0)), vF (stepT (3 : Int) tap 0 0 (zp.t0) (zp.t1) (zp.xs.getD zp.i 0)), vI 2, vF dap, vF mwp, vF 0, vF (stepS (2 : Int) dap mwp 0 (zp.d0) (zp.d1) (stepY (3 : Int) tap 0 0 (zp.t0) (zp.t1) (zp.xs.getD zp.i 0))), vF (stepT (2 : Int) dap mwp 0 (zp.d0) (zp.d1) (stepY (3 : Int) tap 0 0 (zp.t0) (zp.t1) (zp.xs.getD zp.i 0))), vF lwp]) rfl Try.isAgg33 Try.sizeOf33 ((r9.ext m15).ext m16).rng rfl rfl rfl) rfl rfl rfl ?_
  refine WL.op (op_buildSl (qs := [(0, .agg #[vS b'1 0 np c'1, vI (((zp.i + 1) % np : Nat) : Int), vI 3, vF tap, vF 0, vF 0, vF (stepS (3 : Int) tap 0 0 (zp.t0) (zp.t1) (zp.xs.getD zp.i 0)), vF (stepT (3 : Int) tap 0 0 (zp.t0) (zp.t1) (zp.xs.getD zp.i 0)), vI 2, vF dap, vF mwp, vF 0, vF (stepS (2 : Int) dap mwp 0 (zp.d0) (zp.d1) (stepY (3 : Int) tap 0 0 (zp.t0) (zp.t1) (zp.xs.getD zp.i 0))), vF (stepT (2 : Int) dap mwp 0 (zp.d0) (zp.d1) (stepY (3 : Int) tap 0 0 (zp.t0) (zp.t1) (zp.xs.getD zp.i 0))), vF lwp])]) (cells := #[vS b'1 0 np c'1, vI (((zp.i + 1) % np : Nat) : Int), vI 3, vF tap, vF 0, vF 0, vF (stepS (3 : Int) tap 0 0 (zp.t0) (zp.t1) (zp.xs.getD zp.i 0)), vF (stepT (3 : Int) tap 0 0 (zp.t0) (zp.t1) (zp.xs.getD zp.i 0)), vI 2, vF dap, vF mwp, vF 0, vF (stepS (2 : Int) dap mwp 0 (zp.d0) (zp.d1) (stepY (3 : Int) tap 0 0 (zp.t0) (zp.t1) (zp.xs.getD zp.i 0))), vF (stepT (2 : Int) dap mwp 0 (zp.d0) (zp.d1) (stepY (3 : Int) tap 0 0 (zp.t0) (zp.t1) (zp.xs.getD zp.i 0))), vF lwp]) rfl Try.runUnderlying59 Try.sizeOf33 Try.zeroValue33 (by decide) (by decide) (by kernel_rfl)) rfl rfl (ltb rfl) ?_
  rintro _ w19 ⟨rfl, r12, m17, z6⟩
  refine WL.op (op_app0 (i := Try.t33) (m := 15) (bt := 104) (news := [vS b'1 0 np c'1, vI (((zp.i + 1) % np : Nat) : Int), vI 3, vF tap, vF 0, vF 0, vF (stepS (3 : Int) tap 0 0 (zp.t0) (zp.t1) (zp.xs.getD zp.i 0)), vF (stepT (3 : Int) tap 0 0 (zp.t0) (zp.t1) (zp.xs.getD zp.i 0)), vI 2, vF dap, vF mwp, vF 0, vF (stepS (2 : Int) dap mwp 0 (zp.d0) (zp.d1) (stepY (3 : Int) tap 0 0 (zp.t0) (zp.t1) (zp.xs.getD zp.i 0))), vF (stepT (2 : Int) dap mwp 0 (zp.d0) (zp.d1) (stepY (3 : Int) tap 0 0 (zp.t0) (zp.t1) (zp.xs.getD zp.i 0))), vF lwp]) (q := 0) (.inr ⟨_, rfl⟩) rfl rfl Try.underlying59 rfl rfl rfl rfl rfl (by decide) r12.rng rfl rfl (by omega) (by decide)) rfl rfl (ltb rfl) ?_
  rintro _ w20 ⟨b2, c2, rfl, ow2, ge3, m18⟩
  have r13 : Row w20 b2 0 [vS b'1 0 np c'1, vI (((zp.i + 1) % np : Nat) : Int), vI 3, vF tap, vF 0, vF 0, vF (stepS (3 : Int) tap 0 0 (zp.t0) (zp.t1) (zp.xs.getD zp.i 0)), vF (stepT (3 : Int) tap 0 0 (zp.t0) (zp.t1) (zp.xs.getD zp.i 0)), vI 2, vF dap, vF mwp, vF 0, vF (stepS (2 : Int) dap mwp 0 (zp.d0) (zp.d1) (stepY (3 : Int) tap 0 0 (zp.t0) (zp.t1) (zp.xs.getD zp.i 0))), vF (stepT (2 : Int) dap mwp 0 (zp.d0) (zp.d1) (stepY (3 : Int) tap 0 0 (zp.t0) (zp.t1) (zp.xs.getD zp.i 0))), vF lwp] := (Own.row1 ow2).1
  refine WL.det (op_assign rfl) rfl rfl rfl ?_
  refine WL.end ?_
  refine NE.blk ?_
  refine NE.code ?_
  refine CE.region ?_
  refine WL.det (op_move rfl) rfl rfl rfl ?_
  refine WL.det (op_add (r := 1) rfl rfl (by decide)) rfl rfl rfl ?_
  refine WL.det (op_assign rfl) rfl rfl rfl ?_
  refine WL.end ?_
  refine NE.round ?_
  refine RN.one ?_
  refine CE.seq ?_
  refine CE.seq ?_
  refine CE.region ?_
  refine WL.det (op_move rfl) rfl rfl rfl ?_
  refine WL.det (op_move rfl) rfl rfl rfl ?_
  refine WL.det (op_len rfl Try.runUnderlying59) rfl rfl rfl ?_
  refine WL.det (op_lti rfl rfl) rfl rfl rfl ?_
  refine WL.end ?_
  refine NE.code ?_
  refine CE.cond_t rfl rfl ?_
  refine CE.skip' ?_
  refine NE.code ?_
  refine CE.seq ?_
  refine CE.block ?_
  refine CE.seq ?_
  refine CE.region ?_
  refine WL.det (op_move rfl) rfl rfl rfl ?_
  refine WL.det (op_move rfl) rfl rfl rfl ?_
  refine WL.det (op_indexSl (off' := 15) rfl rfl rfl Try.runUnderlying59 Try.sizeOf33 (by omega) (by omega) rfl) rfl rfl rfl ?_
  refine WL.call (oc_call (vs := [vP v 15]) (cap := []) rfl rfl rfl Try.call72 (c_l03Copy nq cq bq zq.xs ((zq.i : Nat) : Int) (3 : Int) taq 0 0 (zq.t0) (zq.t1) (2 : Int) daq mwq 0 (zq.d0) (zq.d1) lwq v 15 [vS bp 0 np cp, vI ((zp.i : Nat) : Int), vI 3, vF tap, vF 0, vF 0, vF (zp.t0), vF (zp.t1), vI 2, vF dap, vF mwp, vF 0, vF (zp.d0), vF (zp.d1), vF lwp, vS bq 0 nq cq, vI ((zq.i : Nat) : Int), vI 3, vF taq, vF 0, vF 0, vF (zq.t0), vF (zq.t1), vI 2, vF daq, vF mwq, vF 0, vF (zq.d0), vF (zq.d1), vF lwq] hq.l (by omega) (by omega) (lB rfl) w20 (Rng.congr (((((Rng.youngS rv ((Rng.youngS rv (((((((((((((rv.ext m1).ext m2).ext m3).ext md1).ext m4).ext md2).ext m5).ext m6).ext m7).ext m8).ext m9).ext m10).ext m11) m12 (allge_cons (lT (lT (lT (lT (lT (lT (lT (lT (lT (lT (lT (lT m1.size m2.size) m3.size) md1.size) m4.size) md2.size) m5.size) m6.size) m7.size) m8.size) m9.size) m10.size) lR) allge_nil)).ext m13) m14 (allge_cons (lT (lT (lT (lT (lT (lT (lT (lT (lT (lT (lT (lT m1.size m2.size) m3.size) md1.size) m4.size) md2.size) m5.size) m6.size) m7.size) m8.size) m9.size) m10.size) lR) (allge_cons (lT (lT (lT (lT (lT (lT (lT (lT (lT (lT (lT m1.size m2.size) m3.size) md1.size) m4.size) md2.size) m5.size) m6.size) m7.size) m8.size) m9.size) ge1) allge_nil))).ext m15).ext m16).ext m17).ext m18) rfl) (((((Rng.youngS rq ((Rng.youngS rq (((((((((((((rq.ext m1).ext m2).ext m3).ext md1).ext m4).ext md2).ext m5).ext m6).ext m7).ext m8).ext m9).ext m10).ext m11) m12 (allge_cons (lT (lT (lT (lT (lT (lT (lT (lT (lT (lT (lT (lT m1.size m2.size) m3.size) md1.size) m4.size) md2.size) m5.size) m6.size) m7.size) m8.size) m9.size) m10.size) lR) allge_nil)).ext m13) m14 (allge_cons (lT (lT (lT (lT (lT (lT (lT (lT (lT (lT (lT (lT m1.size m2.size) m3.size) md1.size) m4.size) md2.size) m5.size) m6.size) m7.size) m8.size) m9.size) m10.size) lR) (allge_cons (lT (lT (lT (lT (lT (lT (lT (lT (lT (lT (lT m1.size m2.size) m3.size) md1.size) m4.size) md2.size) m5.size) m6.size) m7.size) m8.size) m9.size) ge1) allge_nil))).ext m15).ext m16).ext m17).ext m18))) rfl rfl (ltb rfl) ?_
  rintro _ w21 ⟨b'2, c'2, rfl, r14, ge4, m19⟩
  refine WL.op (op_alloc (cs := [.slice none 0 0, vI 0, vI 0, vF 0, vF 0, vF 0, vF 0, vF 0, vI 0, vF 0, vF 0, vF 0, vF 0, vF 0, vF 0]) Try.zeroValue33 rfl) rfl rfl (ltb rfl) ?_
  rintro _ w22 ⟨rfl, r15, m20, z7⟩
  refine WL.op0 (op_store (i := 0) (cs := [vS b'2 0 nq c'2, vI ((zq.i : Nat) : Int), vI 3, vF taq, vF 0, vF 0, vF (zq.t0), vF (zq.t1), vI 2, vF daq, vF mwq, vF 0, vF (zq.d0), vF (zq.d1), vF lwq]) rfl rfl rfl Try.sizeOf33 rfl r15 rfl (lB rfl) rfl) rfl rfl ?_
  rintro _ w23 ⟨r16, m21, z8⟩
  have r17 : Row w23 w21.heap.size 0 [vS b'2 0 nq c'2, vI ((zq.i : Nat) : Int), vI 3, vF taq, vF 0, vF 0, vF (zq.t0), vF (zq.t1), vI 2, vF daq, vF mwq, vF 0, vF (zq.d0), vF (zq.d1), vF lwq] := Row.congr r16 rfl
  refine WL.end ?_
  refine NE.code ?_
  refine CE.seq ?_
  refine CE.region ?_
  refine WL.det (op_move rfl) rfl rfl rfl ?_
  refine WL.det (op_move rfl) rfl rfl rfl ?_
  refine WL.det (op_move rfl) rfl rfl rfl ?_
  refine WL.det (op_indexSl (off' := 1) rfl rfl rfl Try.runUnderlying24 Try.sizeOf27 (by omega) (by omega) rfl) rfl rfl rfl ?_
  refine WL.det (op_load1 (i := 1) rfl Try.isAgg27 (Rng.youngS ri (((((((Rng.youngS ri ((Rng.youngS ri (((((((((((((ri.ext m1).ext m2).ext m3).ext md1).ext m4).ext md2).ext m5).ext m6).ext m7).ext m8).ext m9).ext m10).ext m11) m12 (allge_cons (lT (lT (lT (lT (lT (lT (lT (lT (lT (lT (lT (lT m1.size m2.size) m3.size) md1.size) m4.size) md2.size) m5.size) m6.size) m7.size) m8.size) m9.size) m10.size) lR) allge_nil)).ext m13) m14 (allge_cons (lT (lT (lT (lT (lT (lT (lT (lT (lT (lT (lT (lT m1.size m2.size) m3.size) md1.size) m4.size) md2.size) m5.size) m6.size) m7.size) m8.size) m9.size) m10.size) lR) (allge_cons (lT (lT (lT (lT (lT (lT (lT (lT (lT (lT (lT m1.size m2.size) m3.size) md1.size) m4.size) md2.size) m5.size) m6.size) m7.size) m8.size) m9.size) ge1) allge_nil))).ext m15).ext m16).ext m17).ext m18).ext m19).ext m20) m21 (allge_cons (lT (lT (lT (lT (lT (lT (lT (lT (lT (lT (lT (lT (lT (lT (lT (lT (lT (lT (lT (lT (lT m1.size m2.size) m3.size) md1.size) m4.size) md2.size) m5.size) m6.size) m7.size) m8.size) m9.size) m10.size) m11.size) m12.size) m13.size) m14.size) m15.size) m16.size) m17.size) m18.size) m19.size) lR) allge_nil)) rfl rfl) rfl rfl rfl ?_
  refine WL.det (op_move rfl) rfl rfl rfl ?_
  refine WL.op (op_farith (e := (fop .add .f32 aq (fop .mul .f32 sh (fop .add .f32 (zp.xs.getD zp.i 0) (zq.xs.getD zq.i 0))))) (.inl rfl) rfl rfl rfl hf2 rfl) rfl rfl (ltb rfl) ?_
  rintro _ w24 ⟨⟨f4, rfl, hf4, lf4⟩, m22⟩
  refine WL.call (oc_call (vs := [vP w21.heap.size 0, vF f4]) (cap := []) rfl rfl rfl Try.call87 (c_l03Step nq c'2 b'2 zq.xs zq.i (3 : Int) taq 0 0 (zq.t0) (zq.t1) (2 : Int) daq mwq 0 (zq.d0) (zq.d1) lwq w21.heap.size 0 [vS b'2 0 nq c'2, vI ((zq.i : Nat) : Int), vI 3, vF taq, vF 0, vF 0, vF (zq.t0), vF (zq.t1), vI 2, vF daq, vF mwq, vF 0, vF (zq.d0), vF (zq.d1), vF lwq] f4 (fop .add .f32 aq (fop .mul .f32 sh (fop .add .f32 (zp.xs.getD zp.i 0) (zq.xs.getD zq.i 0)))) hq.l (by first | omega | exact Nat.mod_lt _ (by omega)) (by omega) hq.b0 hq.b1 hq.b2 (by rw [hq.e]; decide +kernel) (lB rfl) hf4 lf4 (by first | assumption | exact W32.set (by assumption) (by first | assumption | exact wid_lt (by assumption)) | exact W32.zeros _ | exact W32.nil) w24 (Row.congr (r17.ext m22) rfl) (((r14.ext m20).mod m21 (nC (lE (lL r14.lt lR)) nN)).ext m22) (lG (lL r14.lt lR)))) rfl rfl (ltb rfl) ?_
  rintro _ w25 ⟨rfl, h6, h7, h8, h9, h10, r18, r19, m23⟩
  have r20 : Row w25 w21.heap.size 0 [vS b'2 0 nq c'2, vI (((zq.i + 1) % nq : Nat) : Int), vI 3, vF taq, vF 0, vF 0, vF (stepS (3 : Int) taq 0 0 (zq.t0) (zq.t1) (zq.xs.getD zq.i 0)), vF (stepT (3 : Int) taq 0 0 (zq.t0) (zq.t1) (zq.xs.getD zq.i 0)), vI 2, vF daq, vF mwq, vF 0, vF (stepS (2 : Int) daq mwq 0 (zq.d0) (zq.d1) (stepY (3 : Int) taq 0 0 (zq.t0) (zq.t1) (zq.xs.getD zq.i 0))), vF (stepT (2 : Int) daq mwq 0 (zq.d0) (zq.d1) (stepY (3 : Int) taq 0 0 (zq.t0) (zq.t1) (zq.xs.getD zq.i 0))), vF lwq] := r18
  refine WL.op (op_buildSl (qs := [(0, vF (zq.xs.getD zq.i 0))]) (cells := #[vF (zq.xs.getD zq.i 0)]) rfl Try.runUnderlying24 Try.sizeOf27 Try.zeroValue27 (by decide) (by decide) (by kernel_rfl)) rfl rfl (ltb rfl) ?_
  rintro _ w26 ⟨rfl, r21, m24, z9⟩
  refine WL.op (op_appk (i := Try.t27) (m := 1) (bt := 4) (news := [vF (zq.xs.getD zq.i 0)]) (q := 0) rfl rfl Try.underlying24 rfl rfl rfl rfl rfl (by decide) r21.rng rfl rfl (Own.modb (Own.modb (Own.modb (Own.modb (Own.modb (Own.modb (Own.modb (Own.modb ow1 m17 nN) m18 nN) m19 nN) m20 nN) m21 (nC (lE (lL (lL r11.lt (lT (lT m17.size m18.size) m19.size)) lR)) nN)) m22 nN) m23 (nC (lE (lL (lL r11.lt (lT (lT m17.size m18.size) m19.size)) lR)) (nC (lE (lL (lL r11.lt (lT m17.size m18.size)) ge4)) nN))) m24 nN) (lT (lT (lT (lT (lT (lT (lT (lT m16.size m17.size) m18.size) m19.size) m20.size) m21.size) m22.size) m23.size) m24.size) (by omega) (by omega) (by decide)) rfl rfl (ltb rfl) ?_
  rintro _ w27 ⟨b3, c3, rfl, ow3, hb1, m25⟩
  have r22 : Row w27 b3 0 [vF (zp.xs.getD zp.i 0), vF (zq.xs.getD zq.i 0)] := (Own.row1 ow3).1
  refine WL.det (op_assign rfl) rfl rfl rfl ?_
  refine WL.end ?_
  refine NE.code ?_
  refine CE.region ?_
  refine WL.det (op_move rfl) rfl rfl rfl ?_
  refine WL.det (op_loadA (i := 0) (cs := [vS b'2 0 nq c'2, vI (((zq.i + 1) % nq : Nat) : Int), vI 3, vF taq, vF 0, vF 0, vF (stepS (3 : Int) taq 0 0 (zq.t0) (zq.t1) (zq.xs.getD zq.i 0)), vF (stepT (3 : Int) taq 0 0 (zq.t0) (zq.t1) (zq.xs.getD zq.i 0)), vI 2, vF daq, vF mwq, vF 0, vF (stepS (2 : Int) daq mwq 0 (zq.d0) (zq.d1) (stepY (3 : Int) taq 0 0 (zq.t0) (zq.t1) (zq.xs.getD zq.i 0))), vF (stepT (2 : Int) daq mwq 0 (zq.d0) (zq.d1) (stepY (3 : Int) taq 0 0 (zq.t0) (zq.t1) (zq.xs.getD zq.i 0))), vF lwq]) rfl Try.isAgg33 Try.sizeOf33 ((r20.ext m24).mod m25 (nC (lG (lL (lL r11.lt (lT (lT m17.size m18.size) m19.size)) lR)) nN)).rng rfl rfl rfl) rfl rfl rfl ?_
  refine WL.op (op_buildSl (qs := [(0, .agg #[vS b'2 0 nq c'2, vI (((zq.i + 1) % nq : Nat) : Int), vI 3, vF taq, vF 0, vF 0, vF (stepS (3 : Int) taq 0 0 (zq.t0) (zq.t1) (zq.xs.getD zq.i 0)), vF (stepT (3 : Int) taq 0 0 (zq.t0) (zq.t1) (zq.xs.getD zq.i 0)), vI 2, vF daq, vF mwq, vF 0, vF (stepS (2 : Int) daq mwq 0 (zq.d0) (zq.d1) (stepY (3 : Int) taq 0 0 (zq.t0) (zq.t1) (zq.xs.getD zq.i 0))), vF (stepT (2 : Int) daq mwq 0 (zq.d0) (zq.d1) (stepY (3 : Int) taq 0 0 (zq.t0) (zq.t1) (zq.xs.getD zq.i 0))), vF lwq])]) (cells := #[vS b'2 0 nq c'2, vI (((zq.i + 1) % nq : Nat) : Int), vI 3, vF taq, vF 0, vF 0, vF (stepS (3 : Int) taq 0 0 (zq.t0) (zq.t1) (zq.xs.getD zq.i 0)), vF (stepT (3 : Int) taq 0 0 (zq.t0) (zq.t1) (zq.xs.getD zq.i 0)), vI 2, vF daq, vF mwq, vF 0, vF (stepS (2 : Int) daq mwq 0 (zq.d0) (zq.d1) (stepY (3 : Int) taq 0 0 (zq.t0) (zq.t1) (zq.xs.getD zq.i 0))), vF (stepT (2 : Int) daq mwq 0 (zq.d0) (zq.d1) (stepY (3 : Int) taq 0 0 (zq.t0) (zq.t1) (zq.xs.getD zq.i 0))), vF lwq]) rfl Try.runUnderlying59 Try.sizeOf33 Try.zeroValue33 (by decide) (by decide) (by kernel_rfl)) rfl rfl (ltb rfl) ?_
  rintro _ w28 ⟨rfl, r23, m26, z10⟩
  refine WL.op (op_appk (i := Try.t33) (m := 15) (bt := 104) (news := [vS b'2 0 nq c'2, vI (((zq.i + 1) % nq : Nat) : Int), vI 3, vF taq, vF 0, vF 0, vF (stepS (3 : Int) taq 0 0 (zq.t0) (zq.t1) (zq.xs.getD zq.i 0)), vF (stepT (3 : Int) taq 0 0 (zq.t0) (zq.t1) (zq.xs.getD zq.i 0)), vI 2, vF daq, vF mwq, vF 0, vF (stepS (2 : Int) daq mwq 0 (zq.d0) (zq.d1) (stepY (3 : Int) taq 0 0 (zq.t0) (zq.t1) (zq.xs.getD zq.i 0))), vF (stepT (2 : Int) daq mwq 0 (zq.d0) (zq.d1) (stepY (3 : Int) taq 0 0 (zq.t0) (zq.t1) (zq.xs.getD zq.i 0))), vF lwq]) (q := 0) rfl rfl Try.underlying59 rfl rfl rfl rfl rfl (by decide) r23.rng rfl rfl (Own.modb (Own.modb (Own.modb (Own.modb (Own.modb (Own.modb (Own.modb (Own.modb ow2 m19 nN) m20 nN) m21 (nC (lE (lL (lL r13.lt m19.size) lR)) nN)) m22 nN) m23 (nC (lE (lL (lL r13.lt m19.size) lR)) (nC (lE (lL r13.lt ge4)) nN))) m24 nN) m25 (nC (lG (lL (lL r11.lt m17.size) ge3)) nN)) m26 nN) (lT (lT (lT (lT (lT (lT (lT (lT m18.size m19.size) m20.size) m21.size) m22.size) m23.size) m24.size) m25.size) m26.size) (by omega) (by omega) (by decide)) rfl rfl (ltb rfl) ?_
  rintro _ w29 ⟨b4, c4, rfl, ow4, hb2, m27⟩
  have r24 : Row w29 b4 0 [vS b'1 0 np c'1, vI (((zp.i + 1) % np : Nat) : Int), vI 3, vF tap, vF 0, vF 0, vF (stepS (3 : Int) tap 0 0 (zp.t0) (zp.t1) (zp.xs.getD zp.i 0)), vF (stepT (3 : Int) tap 0 0 (zp.t0) (zp.t1) (zp.xs.getD zp.i 0)), vI 2, vF dap, vF mwp, vF 0, vF (stepS (2 : Int) dap mwp 0 (zp.d0) (zp.d1) (stepY (3 : Int) tap 0 0 (zp.t0) (zp.t1) (zp.xs.getD zp.i 0))), vF (stepT (2 : Int) dap mwp 0 (zp.d0) (zp.d1) (stepY (3 : Int) tap 0 0 (zp.t0) (zp.t1) (zp.xs.getD zp.i 0))), vF lwp, vS b'2 0 nq c'2, vI (((zq.i + 1) % nq : Nat) : Int), vI 3, vF taq, vF 0, vF 0, vF (stepS (3 : Int) taq 0 0 (zq.t0) (zq.t1) (zq.xs.getD zq.i 0)), vF (stepT (3 : Int) taq 0 0 (zq.t0) (zq.t1) (zq.xs.getD zq.i 0)), vI 2, vF daq, vF mwq, vF 0, vF (stepS (2 : Int) daq mwq 0 (zq.d0) (zq.d1) (stepY (3 : Int) taq 0 0 (zq.t0) (zq.t1) (zq.xs.getD zq.i 0))), vF (stepT (2 : Int) daq mwq 0 (zq.d0) (zq.d1) (stepY (3 : Int) taq 0 0 (zq.t0) (zq.t1) (zq.xs.getD zq.i 0))), vF lwq] := (Own.row1 ow4).1
  refine WL.det (op_assign rfl) rfl rfl rfl ?_
  refine WL.end ?_
  refine NE.blk ?_
  refine NE.code ?_
  refine CE.region ?_
  refine WL.det (op_move rfl) rfl rfl rfl ?_
  refine WL.det (op_add (r := 2) rfl rfl (by decide)) rfl rfl rfl ?_
  refine WL.det (op_assign rfl) rfl rfl rfl ?_
  refine WL.end ?_
  refine NE.round ?_
  refine RN.one ?_
  refine CE.seq ?_
  refine CE.seq ?_
  refine CE.region ?_
  refine WL.det (op_move rfl) rfl rfl rfl ?_
  refine WL.det (op_move rfl) rfl rfl rfl ?_
  refine WL.det (op_len rfl Try.runUnderlying59) rfl rfl rfl ?_
  refine WL.det (op_lti rfl rfl) rfl rfl rfl ?_
  refine WL.end ?_
  refine NE.code ?_
  refine CE.cond_f rfl rfl ?_
  refine CE.exit' ?_
  refine XE.exit_then ?_
  refine XE.exit_then ?_
  refine XE.exit_here ?_
  refine NE.code ?_
  refine CE.seq ?_
  refine CE.region ?_
  refine WL.det (op_move rfl) rfl rfl rfl ?_
  refine WL.det (op_move rfl) rfl rfl rfl ?_
  refine WL.det (op_assign rfl) rfl rfl rfl ?_
  refine WL.det (op_assign rfl) rfl rfl rfl ?_
  refine WL.det (op_assign rfl) rfl rfl rfl ?_
  refine WL.end ?_
  refine NE.code ?_
  refine CE.ret' ?_
  refine XE.leaveT Try.results36 (res_tmp rfl (res_tmp rfl (res_tmp rfl res_nil))) ?_
  refine ⟨b4, c4, b3, c3, b'1, c'1, b'2, c'2, rfl, ?_, ?_, (Row.congr r24 ?_), (Row.congr ((r22.ext m26).mod m27 (nC (Ne.symm (own_ne hb1 (lG (lL (lL r11.lt m17.size) ge3)) (lL r13.lt (lT (lT (lT (lT (lT m19.size m20.size) m21.size) m22.size) m23.size) m24.size)))) nN)) ?_), (Row.congr (((((((((((((r8.ext m15).ext m16).ext m17).ext m18).ext m19).ext m20).mod m21 (nC (lE (lL (lL r3.lt (lT (lT (lT (lT (lT (lT (lT (lT m11.size m12.size) m13.size) m14.size) m15.size) m16.size) m17.size) m18.size) m19.size)) lR)) nN)).ext m22).mod m23 (nC (lE (lL (lL r3.lt (lT (lT (lT (lT (lT (lT (lT (lT m11.size m12.size) m13.size) m14.size) m15.size) m16.size) m17.size) m18.size) m19.size)) lR)) (nC (lE (lL (lL r3.lt (lT (lT (lT (lT (lT (lT (lT m11.size m12.size) m13.size) m14.size) m15.size) m16.size) m17.size) m18.size)) ge4)) nN))).ext m24).mod m25 (nC (lE (lL (lL r3.lt (lT (lT (lT (lT m11.size m12.size) m13.size) m14.size) m15.size)) ge2)) nN)).ext m26).mod m27 (nC (lE (lL (lL r3.lt (lT (lT (lT (lT (lT (lT m11.size m12.size) m13.size) m14.size) m15.size) m16.size) m17.size)) ge3)) nN)) ?_), (Row.congr ((((r19.ext m24).mod m25 (nC (lG (lL (lL r11.lt (lT m17.size m18.size)) ge4)) nN)).ext m26).mod m27 (nC (lG (lL r13.lt ge4)) nN)) ?_), (lT (lT (lT (lT (lT (lT (lT (lT (lT (lT (lT (lT (lT (lT (lT (lT (lT (lT (lT m1.size m2.size) m3.size) md1.size) m4.size) md2.size) m5.size) m6.size) m7.size) m8.size) m9.size) m10.size) m11.size) m12.size) m13.size) m14.size) m15.size) m16.size) m17.size) (Own.row1 ow4).2), (lT (lT (lT (lT (lT (lT (lT (lT (lT (lT (lT (lT (lT (lT (lT (lT (lT m1.size m2.size) m3.size) md1.size) m4.size) md2.size) m5.size) m6.size) m7.size) m8.size) m9.size) m10.size) m11.size) m12.size) m13.size) m14.size) m15.size) (Own.row1 ow3).2), (lT (lT (lT (lT (lT (lT (lT (lT (lT (lT (lT m1.size m2.size) m3.size) md1.size) m4.size) md2.size) m5.size) m6.size) m7.size) m8.size) m9.size) ge1), (lT (lT (lT (lT (lT (lT (lT (lT (lT (lT (lT (lT (lT (lT (lT (lT (lT (lT (lT (lT m1.size m2.size) m3.size) md1.size) m4.size) md2.size) m5.size) m6.size) m7.size) m8.size) m9.size) m10.size) m11.size) m12.size) m13.size) m14.size) m15.size) m16.size) m17.size) m18.size) ge4), ((((((((((((((((((((((((((((((Mod.refl [] w).nt m1).nt m2).nt m3).nt md1).nt m4).nt md2).nt m5).nt m6).nt m7).nt m8).nt m9).nt m10).nt m11).then m12 ((aC (.inr (lT (lT (lT (lT (lT (lT (lT (lT (lT (lT (lT (lT m1.size m2.size) m3.size) md1.size) m4.size) md2.size) m5.size) m6.size) m7.size) m8.size) m9.size) m10.size) lR)) aN))).nt m13).then m14 ((aC (.inr (lT (lT (lT (lT (lT (lT (lT (lT (lT (lT (lT (lT m1.size m2.size) m3.size) md1.size) m4.size) md2.size) m5.size) m6.size) m7.size) m8.size) m9.size) m10.size) lR)) (aC (.inr (lT (lT (lT (lT (lT (lT (lT (lT (lT (lT (lT m1.size m2.size) m3.size) md1.size) m4.size) md2.size) m5.size) m6.size) m7.size) m8.size) m9.size) ge1)) aN)))).nt m15).nt m16).nt m17).nt m18).nt m19).nt m20).then m21 ((aC (.inr (lT (lT (lT (lT (lT (lT (lT (lT (lT (lT (lT (lT (lT (lT (lT (lT (lT (lT (lT (lT (lT m1.size m2.size) m3.size) md1.size) m4.size) md2.size) m5.size) m6.size) m7.size) m8.size) m9.size) m10.size) m11.size) m12.size) m13.size) m14.size) m15.size) m16.size) m17.size) m18.size) m19.size) lR)) aN))).nt m22).then m23 ((aC (.inr (lT (lT (lT (lT (lT (lT (lT (lT (lT (lT (lT (lT (lT (lT (lT (lT (lT (lT (lT (lT (lT m1.size m2.size) m3.size) md1.size) m4.size) md2.size) m5.size) m6.size) m7.size) m8.size) m9.size) m10.size) m11.size) m12.size) m13.size) m14.size) m15.size) m16.size) m17.size) m18.size) m19.size) lR)) (aC (.inr (lT (lT (lT (lT (lT (lT (lT (lT (lT (lT (lT (lT (lT (lT (lT (lT (lT (lT (lT (lT m1.size m2.size) m3.size) md1.size) m4.size) md2.size) m5.size) m6.size) m7.size) m8.size) m9.size) m10.size) m11.size) m12.size) m13.size) m14.size) m15.size) m16.size) m17.size) m18.size) ge4)) aN)))).nt m24).then m25 ((aC (.inr (lT (lT (lT (lT (lT (lT (lT (lT (lT (lT (lT (lT (lT (lT (lT (lT (lT m1.size m2.size) m3.size) md1.size) m4.size) md2.size) m5.size) m6.size) m7.size) m8.size) m9.size) m10.size) m11.size) m12.size) m13.size) m14.size) m15.size) ge2)) aN))).nt m26).then m27 ((aC (.inr (lT (lT (lT (lT (lT (lT (lT (lT (lT (lT (lT (lT (lT (lT (lT (lT (lT (lT (lT m1.size m2.size) m3.size) md1.size) m4.size) md2.size) m5.size) m6.size) m7.size) m8.size) m9.size) m10.size) m11.size) m12.size) m13.size) m14.size) m15.size) m16.size) m17.size) ge3)) aN)))⟩
  all_goals first | assumption | exact (List.length_set).trans hp.l | exact (List.length_set).trans hq.l | rfl

theorem c_iStepZ (np : Nat) (cp : Nat) (bp : Nat) (tap : Nat) (dap : Nat) (mwp : Nat) (lwp : Nat) (zp : StrSt) (ap : Nat) (op : LawS np tap dap mwp lwp) (hp : Way np zp) (lap : ap < wid .f32) (w : World) (rp : Rng w bp 0 (fl zp.xs)) : Cl Try.prog 34 #[.agg #[vS bp 0 np cp, vI ((zp.i : Nat) : Int), vI 3, vF tap, vF 0, vF 0, vF (zp.t0), vF (zp.t1), vI 2, vF dap, vF mwp, vF 0, vF (zp.d0), vF (zp.d1), vF lwp], vF ap] w fun v w' => ∃ (b1' : Nat) (c1' : Nat), v = .tuple #[.agg #[vS b1' 0 np c1', vI (((zp.i + 1) % np : Nat) : Int), vI 3, vF tap, vF 0, vF 0, vF (stepS 3 tap 0 0 (zp.t0) (zp.t1) ((zp.xs).getD (zp.i) 0)), vF (stepT 3 tap 0 0 (zp.t0) (zp.t1) ((zp.xs).getD (zp.i) 0)), vI 2, vF dap, vF mwp, vF 0, vF (stepS 2 dap mwp 0 (zp.d0) (zp.d1) (stepY 3 tap 0 0 (zp.t0) (zp.t1) ((zp.xs).getD (zp.i) 0))), vF (stepT 2 dap mwp 0 (zp.d0) (zp.d1) (stepY 3 tap 0 0 (zp.t0) (zp.t1) ((zp.xs).getD (zp.i) 0))), vF lwp], vF ((zp.xs).getD (zp.i) 0), vI 0] ∧ ((zp.xs.set zp.i (keptF (fop .add .f32 (fop .mul .f32 (stepY 2 dap mwp 0 (zp.d0) (zp.d1) (stepY 3 tap 0 0 (zp.t0) (zp.t1) ((zp.xs).getD (zp.i) 0))) lwp) ap))).length = np) ∧ Row w' b1' 0 (fl (zp.xs.set zp.i (keptF (fop .add .f32 (fop .mul .f32 (stepY 2 dap mwp 0 (zp.d0) (zp.d1) (stepY 3 tap 0 0 (zp.t0) (zp.t1) ((zp.xs).getD (zp.i) 0))) lwp) ap)))) ∧ w.heap.size ≤ b1' ∧ Mod [] w w' := by
  refine (c_iStepStr np cp bp zp.xs zp.i 3 tap 0 0 zp.t0 zp.t1 2 dap mwp 0 zp.d0 zp.d1 lwp ap hp.l hp.i op.n2 hp.b0 hp.b1 hp.b2 (by rw [hp.e]; decide +kernel) lap hp.w (Way.valid op hp) w rp).mono ?_
  rintro v w' ⟨b', c', hv, rest⟩
  exact ⟨b', c', hv, (List.length_set).trans hp.l, rest⟩

set_option maxRecDepth 100000 in
set_option maxHeartbeats 2000000 in
theorem c_SameSamplesX (n : Nat) (c : Nat) (b : Nat) (xs : List Nat) (c' : Nat) (d' : Nat) (ys : List Nat) (ln : xs.length = n) (lm : ys.length = n) (he : Cn xs ys) (hn : n ≤ 1048576) (w : World) (r : Rng w b 0 (fl xs)) (rr : Rng w d' 0 (fl ys)) : Cl Try.prog 37 #[vS b 0 n c, vS d' 0 n c'] w fun v w' => v = .bool true ∧ Mod [] w w' := by
  refine Cl.of Try.func37 Try.ntmps37 rfl rfl (ρ := [(0, vS b 0 n c), (1, vS d' 0 n c')]) rfl ?_
  refine CE.seq ?_
  refine CE.region ?_
  refine WL.det (op_assign rfl) rfl rfl rfl ?_
  refine WL.end ?_
  refine NE.code ?_
  refine CE.seq ?_
  refine CE.region ?_
  refine WL.det (op_move rfl) rfl rfl rfl ?_
  refine WL.det (op_move rfl) rfl rfl rfl ?_
  refine WL.call (oc_call (vs := [vS b 0 n c, vS d' 0 n c']) (cap := []) rfl rfl rfl Try.call105 (c_sameListX n c b xs c' d' ys ln lm (by first | with_reducible exact Cn.refl _ | assumption | exact Cn.eq2 (by assumption) (by assumption)) (by omega) w r rr)) rfl rfl (ltb rfl) ?_
  rintro _ w1 ⟨rfl, m1⟩
  refine WL.det (op_assign rfl) rfl rfl rfl ?_
  refine WL.end ?_
  refine NE.code ?_
  refine CE.ret' ?_
  refine XE.leave1 Try.results37 rfl ?_
  refine ⟨rfl, ((Mod.refl [] w).nt m1)⟩

end Go.Proofs.Ytabfdgpldcegiaa
