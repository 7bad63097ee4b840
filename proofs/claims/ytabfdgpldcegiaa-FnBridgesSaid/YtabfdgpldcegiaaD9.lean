/- The same strings; strings that are silent. -/
import Derived.Test.YtabfdgpldcegiaaD6
import Derived.Test.YtabfdgpldcegiaaD8
import Derived.Test.YtabfdgpldcegiaaG6
set_option linter.unusedVariables false
set_option linter.unusedSimpArgs false
namespace Go.Proofs.Ytabfdgpldcegiaa

theorem QI.ex (n : Nat) (xs : List Nat) (i : Nat) : ∃ r, QI n xs i r ∧ r ≤ n := by
  have key : ∀ e, e ≤ n → (∀ j, 1 ≤ j → j ≤ e → fEq .f32 (xs.getD ((i + n - j) % n) 0) 0 = true) ∨ ∃ r, r < e ∧ QI n xs i r := by
    intro e
    induction e with
    | zero => intro _; exact .inl fun j h1 h2 => absurd h1 (by omega)
    | succ e ih =>
      intro he
      rcases ih (by omega) with h | ⟨r, h1, h2⟩
      · cases hb : fEq .f32 (xs.getD ((i + n - (e + 1)) % n) 0) 0
        · exact .inr ⟨e, by omega, QI.of h fun _ => hb⟩
        · exact .inl (QI.step h hb)
      · exact .inr ⟨r, by omega, h2⟩
  rcases key n (Nat.le_refl _) with h | ⟨r, h1, h2⟩
  · exact ⟨n, QI.of h fun h3 => absurd h3 (by omega), Nat.le_refl _⟩
  · exact ⟨r, h2, by omega⟩
theorem cn_beq {xs ys : List Nat} (h : Cn xs ys) (i : Nat) : (cn .f32 (xs.getD i 0) == cn .f32 (ys.getD i 0)) = true := by rw [h.get i]; exact beq_self_eq_true _

set_option maxRecDepth 100000 in
set_option maxHeartbeats 2000000 in
theorem c_l02Same (kd : Int) (c0 : Nat) (c1 : Nat) (c2 : Nat) (s0 : Nat) (s1 : Nat) (p : Nat) (k : Nat) (vs : List Value) (p2 : Nat) (k2 : Nat) (us : List Value) (hk : k + 6 ≤ vs.length) (hk2 : k2 + 6 ≤ us.length) (w : World) (r : Rng w p 0 (splice vs k [vI kd, vF c0, vF c1, vF c2, vF s0, vF s1])) (r2 : Rng w p2 0 (splice us k2 [vI kd, vF c0, vF c1, vF c2, vF s0, vF s1])) : Cl Try.prog 76 #[vP p k, vP p2 k2] w fun v w' => v = .bool true ∧ Mod [] w w' := by
  refine Cl.of Try.func76 Try.ntmps76 rfl rfl (ρ := [(0, vP p k), (1, vP p2 k2)]) rfl ?_
  refine CE.seq ?_
  refine CE.region ?_
  refine WL.det (op_assign rfl) rfl rfl rfl ?_
  refine WL.end ?_
  refine NE.code ?_
  refine CE.seq ?_
  refine CE.seq ?_
  refine CE.draw (fun _ => none) [0, 1, 2, 3, 4, 5, 6, 7] [8] [] (by kernel_rfl) (by kernel_rfl) ?_
  have md1 : Mod [] w w.drew := (Mod.refl _ _).drew
  generalize w.drew = w1 at md1 ⊢
  refine DR.det (i := 0) rfl rfl (by kernel_rfl) (.free rfl) rfl rfl (fun wD mD => op_move rfl) ?_
  refine DR.det (i := 1) rfl rfl (by kernel_rfl) (.free rfl) rfl rfl (fun wD mD => op_nilCheck rfl) ?_
  refine DR.det (i := 2) rfl rfl (by kernel_rfl) (.free rfl) rfl rfl (fun wD mD => op_fieldAddr (off' := k) rfl Try.runUnderlying31 rfl rfl Try.sizeOf2 rfl) ?_
  refine DR.det (i := 3) rfl rfl (by kernel_rfl) (.free rfl) rfl rfl (fun wD mD => op_load1 (i := k) rfl Try.isAgg2 ((r.ext md1).ext mD) (Nat.zero_add _) (sub_get (i := 0) hk rfl)) ?_
  refine DR.det (i := 4) rfl rfl (by kernel_rfl) (.free rfl) rfl rfl (fun wD mD => op_move rfl) ?_
  refine DR.det (i := 5) rfl rfl (by kernel_rfl) (.free rfl) rfl rfl (fun wD mD => op_nilCheck rfl) ?_
  refine DR.det (i := 6) rfl rfl (by kernel_rfl) (.free rfl) rfl rfl (fun wD mD => op_fieldAddr (off' := k2) rfl Try.runUnderlying31 rfl rfl Try.sizeOf2 rfl) ?_
  refine DR.det (i := 7) rfl rfl (by kernel_rfl) (.free rfl) rfl rfl (fun wD mD => op_load1 (i := k2) rfl Try.isAgg2 ((r2.ext md1).ext mD) (Nat.zero_add _) (sub_get (i := 0) hk2 rfl)) ?_
  refine DR.done rfl ?_
  intro w2 m1
  refine WO.det (op_nei_f rfl rfl rfl) rfl (.free rfl) rfl rfl ?_
  refine WO.end ?_
  refine NE.code ?_
  refine CE.cond_f rfl rfl ?_
  refine CE.skip' ?_
  refine NE.code ?_
  refine CE.seq ?_
  refine CE.seq ?_
  refine CE.region ?_
  refine WL.det (op_assign rfl) rfl rfl rfl ?_
  refine WL.end ?_
  refine NE.code ?_
  refine CE.block ?_
  refine CE.rounds 4 ?_
  refine RN.one ?_
  refine CE.seq ?_
  refine CE.seq ?_
  refine CE.region ?_
  refine WL.det (op_move rfl) rfl rfl rfl ?_
  refine WL.det (op_lti rfl rfl) rfl rfl rfl ?_
  refine WL.end ?_
  refine NE.code ?_
  refine CE.cond_t rfl rfl ?_
  refine CE.skip' ?_
  refine NE.code ?_
  refine CE.seq ?_
  refine CE.block ?_
  refine CE.seq ?_
  refine CE.draw (fun _ => none) [0, 1, 2, 3, 4, 5, 6, 7, 8, 9, 10, 11] [12, 13] [] (by kernel_rfl) (by kernel_rfl) ?_
  have md2 : Mod [] w2 w2.drew := (Mod.refl _ _).drew
  generalize w2.drew = w3 at md2 ⊢
  refine DR.det (i := 0) rfl rfl (by kernel_rfl) (.free rfl) rfl rfl (fun wD mD => op_move rfl) ?_
  refine DR.det (i := 1) rfl rfl (by kernel_rfl) (.free rfl) rfl rfl (fun wD mD => op_move rfl) ?_
  refine DR.det (i := 2) rfl rfl (by kernel_rfl) (.free rfl) rfl rfl (fun wD mD => op_nilCheck rfl) ?_
  refine DR.det (i := 3) rfl rfl (by kernel_rfl) (.free rfl) rfl rfl (fun wD mD => op_fieldAddr (off' := k + 1) rfl Try.runUnderlying31 rfl rfl Try.sizeOf28 rfl) ?_
  refine DR.det (i := 4) rfl rfl (by kernel_rfl) (.free rfl) rfl rfl (fun wD mD => op_indexArr (off' := k + 1) rfl rfl Try.runUnderlying28 Try.sizeOf27 (by decide) (by decide) rfl) ?_
  refine DR.det (i := 5) rfl rfl (by kernel_rfl) (.free rfl) rfl rfl (fun wD mD => op_load1 (i := k + 1) rfl Try.isAgg27 ((((r.ext md1).ext m1).ext md2).ext mD) (Nat.zero_add _) (sub_get (i := 1) hk rfl)) ?_
  refine DR.det (i := 6) rfl rfl (by kernel_rfl) (.free rfl) rfl rfl (fun wD mD => op_move rfl) ?_
  refine DR.det (i := 7) rfl rfl (by kernel_rfl) (.free rfl) rfl rfl (fun wD mD => op_move rfl) ?_
  refine DR.det (i := 8) rfl rfl (by kernel_rfl) (.free rfl) rfl rfl (fun wD mD => op_nilCheck rfl) ?_
  refine DR.det (i := 9) rfl rfl (by kernel_rfl) (.free rfl) rfl rfl (fun wD mD => op_fieldAddr (off' := k2 + 1) rfl Try.runUnderlying31 rfl rfl Try.sizeOf28 rfl) ?_
  refine DR.det (i := 10) rfl rfl (by kernel_rfl) (.free rfl) rfl rfl (fun wD mD => op_indexArr (off' := k2 + 1) rfl rfl Try.runUnderlying28 Try.sizeOf27 (by decide) (by decide) rfl) ?_
  refine DR.det (i := 11) rfl rfl (by kernel_rfl) (.free rfl) rfl rfl (fun wD mD => op_load1 (i := k2 + 1) rfl Try.isAgg27 ((((r2.ext md1).ext m1).ext md2).ext mD) (Nat.zero_add _) (sub_get (i := 1) hk2 rfl)) ?_
  refine DR.done rfl ?_
  intro w4 m2
  refine WO.call rfl (.free rfl) rfl (ltb rfl) (oc_call (vs := [vF c0, vF c0]) (cap := []) rfl rfl rfl Try.call77 (c_l01Same c0 c0 c0 c0 rfl rfl w4)) ?_
  rintro _ _ ⟨rfl, rfl⟩
  refine WO.det (op_not rfl) rfl (.free rfl) rfl rfl ?_
  refine WO.end ?_
  refine NE.code ?_
  refine CE.cond_f rfl (bnot_t (beq_self_eq_true _)) ?_
  refine CE.skip' ?_
  refine NE.blk ?_
  refine NE.code ?_
  refine CE.region ?_
  refine WL.det (op_move rfl) rfl rfl rfl ?_
  refine WL.det (op_add (r := 1) rfl rfl (by decide)) rfl rfl rfl ?_
  refine WL.det (op_assign rfl) rfl rfl rfl ?_
  refine WL.end ?_
  refine NE.round ?_
  refine RN.one ?_
  refine CE.seq ?_
  refine CE.seq ?_
  refine CE.region ?_
  refine WL.det (op_move rfl) rfl rfl rfl ?_
  refine WL.det (op_lti rfl rfl) rfl rfl rfl ?_
  refine WL.end ?_
  refine NE.code ?_
  refine CE.cond_t rfl rfl ?_
  refine CE.skip' ?_
  refine NE.code ?_
  refine CE.seq ?_
  refine CE.block ?_
  refine CE.seq ?_
  refine CE.draw (fun _ => none) [0, 1, 2, 3, 4, 5, 6, 7, 8, 9, 10, 11] [12, 13] [] (by kernel_rfl) (by kernel_rfl) ?_
  have md3 : Mod [] w4 w4.drew := (Mod.refl _ _).drew
  generalize w4.drew = w5 at md3 ⊢
  refine DR.det (i := 0) rfl rfl (by kernel_rfl) (.free rfl) rfl rfl (fun wD mD => op_move rfl) ?_
  refine DR.det (i := 1) rfl rfl (by kernel_rfl) (.free rfl) rfl rfl (fun wD mD => op_move rfl) ?_
  refine DR.det (i := 2) rfl rfl (by kernel_rfl) (.free rfl) rfl rfl (fun wD mD => op_nilCheck rfl) ?_
  refine DR.det (i := 3) rfl rfl (by kernel_rfl) (.free rfl) rfl rfl (fun wD mD => op_fieldAddr (off' := k + 1) rfl Try.runUnderlying31 rfl rfl Try.sizeOf28 rfl) ?_
  refine DR.det (i := 4) rfl rfl (by kernel_rfl) (.free rfl) rfl rfl (fun wD mD => op_indexArr (off' := k + 2) rfl rfl Try.runUnderlying28 Try.sizeOf27 (by decide) (by decide) rfl) ?_
  refine DR.det (i := 5) rfl rfl (by kernel_rfl) (.free rfl) rfl rfl (fun wD mD => op_load1 (i := k + 2) rfl Try.isAgg27 ((((((r.ext md1).ext m1).ext md2).ext m2).ext md3).ext mD) (Nat.zero_add _) (sub_get (i := 2) hk rfl)) ?_
  refine DR.det (i := 6) rfl rfl (by kernel_rfl) (.free rfl) rfl rfl (fun wD mD => op_move rfl) ?_
  refine DR.det (i := 7) rfl rfl (by kernel_rfl) (.free rfl) rfl rfl (fun wD mD => op_move rfl) ?_
  refine DR.det (i := 8) rfl rfl (by kernel_rfl) (.free rfl) rfl rfl (fun wD mD => op_nilCheck rfl) ?_
  refine DR.det (i := 9) rfl rfl (by kernel_rfl) (.free rfl) rfl rfl (fun wD mD => op_fieldAddr (off' := k2 + 1) rfl Try.runUnderlying31 rfl rfl Try.sizeOf28 rfl) ?_
  refine DR.det (i := 10) rfl rfl (by kernel_rfl) (.free rfl) rfl rfl (fun wD mD => op_indexArr (off' := k2 + 2) rfl rfl Try.runUnderlying28 Try.sizeOf27 (by decide) (by decide) rfl) ?_
  refine DR.det (i := 11) rfl rfl (by kernel_rfl) (.free rfl) rfl rfl (fun wD mD => op_load1 (i := k2 + 2) rfl Try.isAgg27 ((((((r2.ext md1).ext m1).ext md2).ext m2).ext md3).ext mD) (Nat.zero_add _) (sub_get (i := 2) hk2 rfl)) ?_
  refine DR.done rfl ?_
  intro w6 m3
  refine WO.call rfl (.free rfl) rfl (ltb rfl) (oc_call (vs := [vF c1, vF c1]) (cap := []) rfl rfl rfl Try.call77 (c_l01Same c1 c1 c1 c1 rfl rfl w6)) ?_
  rintro _ _ ⟨rfl, rfl⟩
  refine WO.det (op_not rfl) rfl (.free rfl) rfl rfl ?_
  refine WO.end ?_
  refine NE.code ?_
  refine CE.cond_f rfl (bnot_t (beq_self_eq_true _)) ?_
  refine CE.skip' ?_
  refine NE.blk ?_
  refine NE.code ?_
  refine CE.region ?_
  refine WL.det (op_move rfl) rfl rfl rfl ?_
  refine WL.det (op_add (r := 2) rfl rfl (by decide)) rfl rfl rfl ?_
  refine WL.det (op_assign rfl) rfl rfl rfl ?_
  refine WL.end ?_
  refine NE.round ?_
  refine RN.one ?_
  refine CE.seq ?_
  refine CE.seq ?_
  refine CE.region ?_
  refine WL.det (op_move rfl) rfl rfl rfl ?_
  refine WL.det (op_lti rfl rfl) rfl rfl rfl ?_
  refine WL.end ?_
  refine NE.code ?_
  refine CE.cond_t rfl rfl ?_
  refine CE.skip' ?_
  refine NE.code ?_
  refine CE.seq ?_
  refine CE.block ?_
  refine CE.seq ?_
  refine CE.draw (fun _ => none) [0, 1, 2, 3, 4, 5, 6, 7, 8, 9, 10, 11] [12, 13] [] (by kernel_rfl) (by kernel_rfl) ?_
  have md4 : Mod [] w6 w6.drew := (Mod.refl _ _).drew
  generalize w6.drew = w7 at md4 ⊢
  refine DR.det (i := 0) rfl rfl (by kernel_rfl) (.free rfl) rfl rfl (fun wD mD => op_move rfl) ?_
  refine DR.det (i := 1) rfl rfl (by kernel_rfl) (.free rfl) rfl rfl (fun wD mD => op_move rfl) ?_
  refine DR.det (i := 2) rfl rfl (by kernel_rfl) (.free rfl) rfl rfl (fun wD mD => op_nilCheck rfl) ?_
  refine DR.det (i := 3) rfl rfl (by kernel_rfl) (.free rfl) rfl rfl (fun wD mD => op_fieldAddr (off' := k + 1) rfl Try.runUnderlying31 rfl rfl Try.sizeOf28 rfl) ?_
  refine DR.det (i := 4) rfl rfl (by kernel_rfl) (.free rfl) rfl rfl (fun wD mD => op_indexArr (off' := k + 3) rfl rfl Try.runUnderlying28 Try.sizeOf27 (by decide) (by decide) rfl) ?_
  refine DR.det (i := 5) rfl rfl (by kernel_rfl) (.free rfl) rfl rfl (fun wD mD => op_load1 (i := k + 3) rfl Try.isAgg27 ((((((((r.ext md1).ext m1).ext md2).ext m2).ext md3).ext m3).ext md4).ext mD) (Nat.zero_add _) (sub_get (i := 3) hk rfl)) ?_
  refine DR.det (i := 6) rfl rfl (by kernel_rfl) (.free rfl) rfl rfl (fun wD mD => op_move rfl) ?_
  refine DR.det (i := 7) rfl rfl (by kernel_rfl) (.free rfl) rfl rfl (fun wD mD => op_move rfl) ?_
  refine DR.det (i := 8) rfl rfl (by kernel_rfl) (.free rfl) rfl rfl (fun wD mD => op_nilCheck rfl) ?_
  refine DR.det (i := 9) rfl rfl (by kernel_rfl) (.free rfl) rfl rfl (fun wD mD => op_fieldAddr (off' := k2 + 1) rfl Try.runUnderlying31 rfl rfl Try.sizeOf28 rfl) ?_
  refine DR.det (i := 10) rfl rfl (by kernel_rfl) (.free rfl) rfl rfl (fun wD mD => op_indexArr (off' := k2 + 3) rfl rfl Try.runUnderlying28 Try.sizeOf27 (by decide) (by decide) rfl) ?_
  refine DR.det (i := 11) rfl rfl (by kernel_rfl) (.free rfl) rfl rfl (fun wD mD => op_load1 (i := k2 + 3) rfl Try.isAgg27 ((((((((r2.ext md1).ext m1).ext md2).ext m2).ext md3).ext m3).ext md4).ext mD) (Nat.zero_add _) (sub_get (i := 3) hk2 rfl)) ?_
  refine DR.done rfl ?_
  intro w8 m4
  refine WO.call rfl (.free rfl) rfl (ltb rfl) (oc_call (vs := [vF c2, vF c2]) (cap := []) rfl rfl rfl Try.call77 (c_l01Same c2 c2 c2 c2 rfl rfl w8)) ?_
  rintro _ _ ⟨rfl, rfl⟩
  refine WO.det (op_not rfl) rfl (.free rfl) rfl rfl ?_
  refine WO.end ?_
  refine NE.code ?_
  refine CE.cond_f rfl (bnot_t (beq_self_eq_true _)) ?_
  refine CE.skip' ?_
  refine NE.blk ?_
  refine NE.code ?_
  refine CE.region ?_
  refine WL.det (op_move rfl) rfl rfl rfl ?_
  refine WL.det (op_add (r := 3) rfl rfl (by decide)) rfl rfl rfl ?_
  refine WL.det (op_assign rfl) rfl rfl rfl ?_
  refine WL.end ?_
  refine NE.round ?_
  refine RN.one ?_
  refine CE.seq ?_
  refine CE.seq ?_
  refine CE.region ?_
  refine WL.det (op_move rfl) rfl rfl rfl ?_
  refine WL.det (op_lti rfl rfl) rfl rfl rfl ?_
  refine WL.end ?_
  refine NE.code ?_
  refine CE.cond_f rfl rfl ?_
  refine CE.exit' ?_
  refine XE.exit_then ?_
  refine XE.exit_then ?_
  refine XE.exit_here ?_
  refine NE.code ?_
  refine CE.seq ?_
  refine CE.draw (fun | 10 => some (fun _ wA uA wB => uA = .bool (cn .f32 s0 == cn .f32 s0) ∧ wA = wB) | _ => none) [0, 1, 2, 3, 4, 5, 6, 7, 8, 9, 10, 11, 12, 13, 14, 15, 16, 17, 18, 19, 20, 21] [22, 23, 24] [] (by kernel_rfl) (by kernel_rfl) ?_
  have md5 : Mod [] w8 w8.drew := (Mod.refl _ _).drew
  generalize w8.drew = w9 at md5 ⊢
  refine DR.det (i := 0) rfl rfl (by kernel_rfl) (.free rfl) rfl rfl (fun wD mD => op_move rfl) ?_
  refine DR.det (i := 1) rfl rfl (by kernel_rfl) (.free rfl) rfl rfl (fun wD mD => op_nilCheck rfl) ?_
  refine DR.det (i := 2) rfl rfl (by kernel_rfl) (.free rfl) rfl rfl (fun wD mD => op_fieldAddr (off' := k + 4) rfl Try.runUnderlying31 rfl rfl Try.sizeOf29 rfl) ?_
  refine DR.det (i := 3) rfl rfl (by kernel_rfl) (.free rfl) rfl rfl (fun wD mD => op_indexArr (off' := k + 4) rfl rfl Try.runUnderlying29 Try.sizeOf27 (by decide) (by decide) rfl) ?_
  refine DR.det (i := 4) rfl rfl (by kernel_rfl) (.free rfl) rfl rfl (fun wD mD => op_load1 (i := k + 4) rfl Try.isAgg27 ((((((((((r.ext md1).ext m1).ext md2).ext m2).ext md3).ext m3).ext md4).ext m4).ext md5).ext mD) (Nat.zero_add _) (sub_get (i := 4) hk rfl)) ?_
  refine DR.det (i := 5) rfl rfl (by kernel_rfl) (.free rfl) rfl rfl (fun wD mD => op_move rfl) ?_
  refine DR.det (i := 6) rfl rfl (by kernel_rfl) (.free rfl) rfl rfl (fun wD mD => op_nilCheck rfl) ?_
  refine DR.det (i := 7) rfl rfl (by kernel_rfl) (.free rfl) rfl rfl (fun wD mD => op_fieldAddr (off' := k2 + 4) rfl Try.runUnderlying31 rfl rfl Try.sizeOf29 rfl) ?_
  refine DR.det (i := 8) rfl rfl (by kernel_rfl) (.free rfl) rfl rfl (fun wD mD => op_indexArr (off' := k2 + 4) rfl rfl Try.runUnderlying29 Try.sizeOf27 (by decide) (by decide) rfl) ?_
  refine DR.det (i := 9) rfl rfl (by kernel_rfl) (.free rfl) rfl rfl (fun wD mD => op_load1 (i := k2 + 4) rfl Try.isAgg27 ((((((((((r2.ext md1).ext m1).ext md2).ext m2).ext md3).ext m3).ext md4).ext m4).ext md5).ext mD) (Nat.zero_add _) (sub_get (i := 4) hk2 rfl)) ?_
  refine DR.call (i := 10) (fun uA => uA = .bool (cn .f32 s0 == cn .f32 s0)) rfl rfl (by kernel_rfl) (.free rfl) rfl (ltb rfl) ⟨_, rfl⟩ (vs := [.func (.func 77) #[] #[], vF s0, vF s0]) rfl (fun wD mD => oc_call (vs := [vF s0, vF s0]) (cap := []) rfl rfl rfl Try.call77 (c_l01Same s0 s0 s0 s0 rfl rfl wD)) ?_ ?_
  · rintro w1 _ _ m1 ⟨rfl, rfl⟩; exact ⟨rfl, Mod.refl _ _⟩
  rintro _ rfl
  refine DR.det (i := 11) rfl rfl (by kernel_rfl) (.free rfl) rfl rfl (fun wD mD => op_move rfl) ?_
  refine DR.det (i := 12) rfl rfl (by kernel_rfl) (.yes rfl rfl rfl (ltb rfl) rfl (beq_self_eq_true _)) rfl rfl (fun wD mD => op_move rfl) ?_
  refine DR.det (i := 13) rfl rfl (by kernel_rfl) (.yes rfl rfl rfl (ltb rfl) rfl (beq_self_eq_true _)) rfl rfl (fun wD mD => op_nilCheck rfl) ?_
  refine DR.det (i := 14) rfl rfl (by kernel_rfl) (.yes rfl rfl rfl (ltb rfl) rfl (beq_self_eq_true _)) rfl rfl (fun wD mD => op_fieldAddr (off' := k + 4) rfl Try.runUnderlying31 rfl rfl Try.sizeOf29 rfl) ?_
  refine DR.det (i := 15) rfl rfl (by kernel_rfl) (.yes rfl rfl rfl (ltb rfl) rfl (beq_self_eq_true _)) rfl rfl (fun wD mD => op_indexArr (off' := k + 5) rfl rfl Try.runUnderlying29 Try.sizeOf27 (by decide) (by decide) rfl) ?_
  refine DR.det (i := 16) rfl rfl (by kernel_rfl) (.yes rfl rfl rfl (ltb rfl) rfl (beq_self_eq_true _)) rfl rfl (fun wD mD => op_load1 (i := k + 5) rfl Try.isAgg27 ((((((((((r.ext md1).ext m1).ext md2).ext m2).ext md3).ext m3).ext md4).ext m4).ext md5).ext mD) (Nat.zero_add _) (sub_get (i := 5) hk rfl)) ?_
  refine DR.det (i := 17) rfl rfl (by kernel_rfl) (.yes rfl rfl rfl (ltb rfl) rfl (beq_self_eq_true _)) rfl rfl (fun wD mD => op_move rfl) ?_
  refine DR.det (i := 18) rfl rfl (by kernel_rfl) (.yes rfl rfl rfl (ltb rfl) rfl (beq_self_eq_true _)) rfl rfl (fun wD mD => op_nilCheck rfl) ?_
  refine DR.det (i := 19) rfl rfl (by kernel_rfl) (.yes rfl rfl rfl (ltb rfl) rfl (beq_self_eq_true _)) rfl rfl (fun wD mD => op_fieldAddr (off' := k2 + 4) rfl Try.runUnderlying31 rfl rfl Try.sizeOf29 rfl) ?_
  refine DR.det (i := 20) rfl rfl (by kernel_rfl) (.yes rfl rfl rfl (ltb rfl) rfl (beq_self_eq_true _)) rfl rfl (fun wD mD => op_indexArr (off' := k2 + 5) rfl rfl Try.runUnderlying29 Try.sizeOf27 (by decide) (by decide) rfl) ?_
  refine DR.det (i := 21) rfl rfl (by kernel_rfl) (.yes rfl rfl rfl (ltb rfl) rfl (beq_self_eq_true _)) rfl rfl (fun wD mD => op_load1 (i := k2 + 5) rfl Try.isAgg27 ((((((((((r2.ext md1).ext m1).ext md2).ext m2).ext md3).ext m3).ext md4).ext m4).ext md5).ext mD) (Nat.zero_add _) (sub_get (i := 5) hk2 rfl)) ?_
  refine DR.done rfl ?_
  intro w10 m5
  refine WO.call rfl (.yes rfl rfl rfl (ltb rfl) rfl (beq_self_eq_true _)) rfl (ltb rfl) (oc_call (vs := [vF s1, vF s1]) (cap := []) rfl rfl rfl Try.call77 (c_l01Same s1 s1 s1 s1 rfl rfl w10)) ?_
  rintro _ _ ⟨rfl, rfl⟩
  refine WO.det (op_pick_t rfl (beq_self_eq_true _) rfl) rfl (.free rfl) rfl rfl ?_
  refine WO.det (op_assign rfl) rfl (.free rfl) rfl rfl ?_
  refine WO.end ?_
  refine NE.code ?_
  refine CE.ret' ?_
  refine XE.leave1 Try.results76 rfl ?_
  refine ⟨?_, (((((((((((Mod.refl [] w).nt md1).nt m1).nt md2).nt m2).nt md3).nt m3).nt md4).nt m4).nt md5).nt m5)⟩
  all_goals simp_all

set_option maxRecDepth 100000 in
set_option maxHeartbeats 2000000 in
theorem c_sameListX (n : Nat) (c : Nat) (b : Nat) (xs : List Nat) (c' : Nat) (d' : Nat) (ys : List Nat) (ln : xs.length = n) (lm : ys.length = n) (he : Cn xs ys) (hn : n ≤ 1048576) (w : World) (r : Rng w b 0 (fl xs)) (rr : Rng w d' 0 (fl ys)) : Cl Try.prog 105 #[vS b 0 n c, vS d' 0 n c'] w fun v w' => v = .bool true ∧ Mod [] w w' := by
  refine Cl.of Try.func105 Try.ntmps105 rfl rfl (ρ := [(0, vS b 0 n c), (1, vS d' 0 n c')]) rfl ?_
  refine CE.seq ?_
  refine CE.region ?_
  refine WL.det (op_assign rfl) rfl rfl rfl ?_
  refine WL.end ?_
  refine NE.code ?_
  refine CE.seq ?_
  refine CE.seq ?_
  refine CE.region ?_
  refine WL.det (op_move rfl) rfl rfl rfl ?_
  refine WL.det (op_len rfl Try.runUnderlying24) rfl rfl rfl ?_
  refine WL.det (op_move rfl) rfl rfl rfl ?_
  refine WL.det (op_len rfl Try.runUnderlying24) rfl rfl rfl ?_
  refine WL.det (op_nei_f rfl rfl rfl) rfl rfl rfl ?_
  refine WL.end ?_
  refine NE.code ?_
  refine CE.cond_f rfl rfl ?_
  refine CE.skip' ?_
  refine NE.code ?_
  refine CE.seq ?_
  refine CE.seq ?_
  refine CE.region ?_
  refine WL.det (op_assign rfl) rfl rfl rfl ?_
  refine WL.end ?_
  refine NE.code ?_
  refine CE.block ?_
  refine CE.loop (fun (i : Nat) => [(5, vI ((i : Nat) : Int)), (0, vS b 0 n c), (1, vS d' 0 n c'), (4, .bool false)]) (fun (i : Nat) => fun W => (i ≤ n) ∧ Mod [] w W) (fun (i : Nat) => n - i) 0 (⟨rfl, rfl, rfl, rfl, trivial⟩) ⟨(by omega), Mod.refl _ _⟩ ?_
  rintro i w1 ⟨hi, m1⟩
  show CE _ _ _ _ [(5, vI ((i : Nat) : Int)), (0, vS b 0 n c), (1, vS d' 0 n c'), (4, .bool false)] _
  refine CE.seq ?_
  refine CE.seq ?_
  refine CE.region ?_
  refine WL.det (op_move rfl) rfl rfl rfl ?_
  refine WL.det (op_move rfl) rfl rfl rfl ?_
  refine WL.det (op_len rfl Try.runUnderlying24) rfl rfl rfl ?_
  refine WL.det (op_lti rfl rfl) rfl rfl rfl ?_
  refine WL.end ?_
  refine NE.code ?_
  rcases Bool.eq_false_or_eq_true (decide (((i : Nat) : Int) < ((n : Nat) : Int))) with hb1 | hb1
  · have hp1 := of_decide_eq_true hb1
    refine CE.cond_t rfl hb1 ?_
    refine CE.skip' ?_
    refine NE.code ?_
    refine CE.seq ?_
    refine CE.block ?_
    refine CE.seq ?_
    refine CE.draw (fun _ => none) [0, 1, 2, 3, 4, 5, 6, 7] [8, 9] [] (by kernel_rfl) (by kernel_rfl) ?_
    have md1 : Mod [] w1 w1.drew := (Mod.refl _ _).drew
    generalize w1.drew = w2 at md1 ⊢
    refine DR.det (i := 0) rfl rfl (by kernel_rfl) (.free rfl) rfl rfl (fun wD mD => op_move rfl) ?_
    refine DR.det (i := 1) rfl rfl (by kernel_rfl) (.free rfl) rfl rfl (fun wD mD => op_move rfl) ?_
    refine DR.det (i := 2) rfl rfl (by kernel_rfl) (.free rfl) rfl rfl (fun wD mD => op_indexSl (off' := 0 + i) rfl rfl rfl Try.runUnderlying24 Try.sizeOf27 (by omega) (by omega) (by omega)) ?_
    refine DR.det (i := 3) rfl rfl (by kernel_rfl) (.free rfl) rfl rfl (fun wD mD => op_load1 (i := i) rfl Try.isAgg27 (((r.ext m1).ext md1).ext mD) rfl (fl_get (by have eL : List.length xs = n := ln; omega))) ?_
    refine DR.det (i := 4) rfl rfl (by kernel_rfl) (.free rfl) rfl rfl (fun wD mD => op_move rfl) ?_
    refine DR.det (i := 5) rfl rfl (by kernel_rfl) (.free rfl) rfl rfl (fun wD mD => op_move rfl) ?_
    refine DR.det (i := 6) rfl rfl (by kernel_rfl) (.free rfl) rfl rfl (fun wD mD => op_indexSl (off' := 0 + i) rfl rfl rfl Try.runUnderlying24 Try.sizeOf27 (by omega) (by omega) (by omega)) ?_
    refine DR.det (i := 7) rfl rfl (by kernel_rfl) (.free rfl) rfl rfl (fun wD mD => op_load1 (i := i) rfl Try.isAgg27 (((rr.ext m1).ext md1).ext mD) rfl (fl_get (by have eL : List.length ys = n := lm; omega))) ?_
    refine DR.done rfl ?_
    intro w3 m2
    refine WO.call rfl (.free rfl) rfl (ltb rfl) (oc_call (vs := [vF (xs.getD i 0), vF (ys.getD i 0)]) (cap := []) rfl rfl rfl Try.call77 (c_l01Same (xs.getD i 0) (xs.getD i 0) (ys.getD i 0) (ys.getD i 0) rfl rfl w3)) ?_
    rintro _ _ ⟨rfl, rfl⟩
    refine WO.det (op_not rfl) rfl (.free rfl) rfl rfl ?_
    refine WO.end ?_
    refine NE.code ?_
    refine CE.cond_f rfl (bnot_t (cn_beq he i)) ?_
    refine CE.skip' ?_
    refine NE.blk ?_
    refine NE.code ?_
    refine CE.region ?_
    refine WL.det (op_move rfl) rfl rfl rfl ?_
    refine WL.det (op_add (r := ((i + 1 : Nat) : Int)) rfl rfl (w_i64 (by omega) (by omega))) rfl rfl rfl ?_
    refine WL.det (op_assign rfl) rfl rfl rfl ?_
    refine WL.end ?_
    exact NE.again (i + 1) (⟨rfl, rfl, rfl, rfl, trivial⟩) ⟨(by omega), ((m1.nt md1).nt m2)⟩ (by first | (dsimp only; omega) | omega)
  · have hp1 := of_decide_eq_false hb1
    refine CE.cond_f rfl hb1 ?_
    refine CE.exit' ?_
    refine XE.exit_then ?_
    refine XE.exit_then ?_
    refine XE.exit_here ?_
    refine NE.code ?_
    refine CE.seq ?_
    refine CE.region ?_
    refine WL.det (op_assign rfl) rfl rfl rfl ?_
    refine WL.end ?_
    refine NE.code ?_
    refine CE.ret' ?_
    refine XE.leave1 Try.results105 rfl ?_
    refine ⟨rfl, ((Mod.refl [] w).nt m1)⟩

set_option maxRecDepth 100000 in
set_option maxHeartbeats 2000000 in
theorem c_SameRing (n : Nat) (c : Nat) (b : Nat) (xs : List Nat) (j : Int) (c' : Nat) (d' : Nat) (ys : List Nat) (ln : xs.length = n) (lm : ys.length = n) (he : Cn xs ys) (hn : n ≤ 1048576) (w : World) (r : Rng w b 0 (fl xs)) (rr : Rng w d' 0 (fl ys)) : Cl Try.prog 75 #[.agg #[vS b 0 n c, vI j], .agg #[vS d' 0 n c', vI j]] w fun v w' => v = .bool true ∧ Mod [] w w' := by
  refine Cl.of Try.func75 Try.ntmps75 rfl rfl (ρ := [(0, .agg #[vS b 0 n c, vI j]), (1, .agg #[vS d' 0 n c', vI j])]) rfl ?_
  refine CE.seq ?_
  refine CE.region ?_
  refine WL.op (op_box (cs := [vS b 0 n c, vI j]) rfl rfl) rfl rfl (ltb rfl) ?_
  rintro _ w1 ⟨rfl, r1, m1, z1⟩
  refine WL.op (op_box (cs := [vS d' 0 n c', vI j]) rfl rfl) rfl rfl (ltb rfl) ?_
  rintro _ w2 ⟨rfl, r2, m2, z2⟩
  refine WL.det (op_assign rfl) rfl rfl rfl ?_
  refine WL.end ?_
  refine NE.code ?_
  refine CE.seq ?_
  refine CE.region ?_
  refine WL.det (op_fieldAddr (off' := 1) rfl Try.runUnderlying26 rfl rfl Try.sizeOf2 rfl) rfl rfl rfl ?_
  refine WL.det (op_load1 (i := 1) rfl Try.isAgg2 (r1.ext m2).rng rfl rfl) rfl rfl rfl ?_
  refine WL.det (op_fieldAddr (off' := 1) rfl Try.runUnderlying26 rfl rfl Try.sizeOf2 rfl) rfl rfl rfl ?_
  refine WL.det (op_load1 (i := 1) rfl Try.isAgg2 r2.rng rfl rfl) rfl rfl rfl ?_
  refine WL.det (op_eqi_t rfl rfl rfl) rfl rfl rfl ?_
  refine WL.det (op_move rfl) rfl rfl rfl ?_
  refine WL.yes rfl rfl rfl (ltb rfl) rfl rfl ?_
  refine WL.det (op_fieldAddr (off' := 0) rfl Try.runUnderlying26 rfl rfl Try.sizeOf24 rfl) rfl rfl rfl ?_
  refine WL.yes rfl rfl rfl (ltb rfl) rfl rfl ?_
  refine WL.det (op_load1 (i := 0) rfl Try.isAgg24 (r1.ext m2).rng rfl rfl) rfl rfl rfl ?_
  refine WL.yes rfl rfl rfl (ltb rfl) rfl rfl ?_
  refine WL.det (op_fieldAddr (off' := 0) rfl Try.runUnderlying26 rfl rfl Try.sizeOf24 rfl) rfl rfl rfl ?_
  refine WL.yes rfl rfl rfl (ltb rfl) rfl rfl ?_
  refine WL.det (op_load1 (i := 0) rfl Try.isAgg24 r2.rng rfl rfl) rfl rfl rfl ?_
  refine WL.yes rfl rfl rfl (ltb rfl) rfl rfl ?_
  refine WL.call (oc_call (vs := [vS b 0 n c, vS d' 0 n c']) (cap := []) rfl rfl rfl Try.call105 (c_sameListX n c b xs c' d' ys ln lm (by first | assumption | exact Cn.eq2 (by assumption) (by assumption)) (by omega) w2 ((r.ext m1).ext m2) ((rr.ext m1).ext m2))) rfl rfl (ltb rfl) ?_
  rintro _ w3 ⟨rfl, m3⟩
  refine WL.det (op_pick_t rfl rfl rfl) rfl rfl rfl ?_
  refine WL.det (op_assign rfl) rfl rfl rfl ?_
  refine WL.end ?_
  refine NE.code ?_
  refine CE.ret' ?_
  refine XE.leave1 Try.results75 rfl ?_
  refine ⟨rfl, ((((Mod.refl [] w).nt m1).nt m2).nt m3)⟩

set_option maxRecDepth 100000 in
set_option maxHeartbeats 2000000 in
theorem c_SameString (n : Nat) (c : Nat) (b : Nat) (xs : List Nat) (j : Int) (tk : Int) (tc0 : Nat) (tc1 : Nat) (tc2 : Nat) (ts0 : Nat) (ts1 : Nat) (dk : Int) (dc0 : Nat) (dc1 : Nat) (dc2 : Nat) (ds0 : Nat) (ds1 : Nat) (g : Nat) (c' : Nat) (d' : Nat) (ys : List Nat) (ln : xs.length = n) (lm : ys.length = n) (he : Cn xs ys) (hn : n ≤ 1048576) (w : World) (r : Rng w b 0 (fl xs)) (rr : Rng w d' 0 (fl ys)) : Cl Try.prog 20 #[.agg #[vS b 0 n c, vI j, vI tk, vF tc0, vF tc1, vF tc2, vF ts0, vF ts1, vI dk, vF dc0, vF dc1, vF dc2, vF ds0, vF ds1, vF g], .agg #[vS d' 0 n c', vI j, vI tk, vF tc0, vF tc1, vF tc2, vF ts0, vF ts1, vI dk, vF dc0, vF dc1, vF dc2, vF ds0, vF ds1, vF g]] w fun v w' => v = .bool true ∧ Mod [] w w' := by
  refine Cl.of Try.func20 Try.ntmps20 rfl rfl (ρ := [(0, .agg #[vS b 0 n c, vI j, vI tk, vF tc0, vF tc1, vF tc2, vF ts0, vF ts1, vI dk, vF dc0, vF dc1, vF dc2, vF ds0, vF ds1, vF g]), (1, .agg #[vS d' 0 n c', vI j, vI tk, vF tc0, vF tc1, vF tc2, vF ts0, vF ts1, vI dk, vF dc0, vF dc1, vF dc2, vF ds0, vF ds1, vF g])]) rfl ?_
  refine CE.seq ?_
  refine CE.region ?_
  refine WL.op (op_box (cs := [vS b 0 n c, vI j, vI tk, vF tc0, vF tc1, vF tc2, vF ts0, vF ts1, vI dk, vF dc0, vF dc1, vF dc2, vF ds0, vF ds1, vF g]) rfl rfl) rfl rfl (ltb rfl) ?_
  rintro _ w1 ⟨rfl, r1, m1, z1⟩
  refine WL.op (op_box (cs := [vS d' 0 n c', vI j, vI tk, vF tc0, vF tc1, vF tc2, vF ts0, vF ts1, vI dk, vF dc0, vF dc1, vF dc2, vF ds0, vF ds1, vF g]) rfl rfl) rfl rfl (ltb rfl) ?_
  rintro _ w2 ⟨rfl, r2, m2, z2⟩
  refine WL.det (op_assign rfl) rfl rfl rfl ?_
  refine WL.end ?_
  refine NE.code ?_
  refine CE.seq ?_
  refine CE.region ?_
  refine WL.det (op_fieldAddr (off' := 0) rfl Try.runUnderlying33 rfl rfl Try.sizeOf26 rfl) rfl rfl rfl ?_
  refine WL.det (op_loadA (i := 0) (cs := [vS b 0 n c, vI j]) rfl Try.isAgg26 Try.sizeOf26 (r1.ext m2).rng rfl rfl rfl) rfl rfl rfl ?_
  refine WL.det (op_fieldAddr (off' := 0) rfl Try.runUnderlying33 rfl rfl Try.sizeOf26 rfl) rfl rfl rfl ?_
  refine WL.det (op_loadA (i := 0) (cs := [vS d' 0 n c', vI j]) rfl Try.isAgg26 Try.sizeOf26 r2.rng rfl rfl rfl) rfl rfl rfl ?_
  refine WL.call (oc_call (vs := [.agg #[vS b 0 n c, vI j], .agg #[vS d' 0 n c', vI j]]) (cap := []) rfl rfl rfl Try.call75 (c_SameRing n c b xs j c' d' ys ln lm (by first | assumption | exact Cn.eq2 (by assumption) (by assumption)) (by omega) w2 ((r.ext m1).ext m2) ((rr.ext m1).ext m2))) rfl rfl (ltb rfl) ?_
  rintro _ w3 ⟨rfl, m3⟩
  refine WL.det (op_move rfl) rfl rfl rfl ?_
  refine WL.yes rfl rfl rfl (ltb rfl) rfl rfl ?_
  refine WL.det (op_fieldAddr (off' := 2) rfl Try.runUnderlying33 rfl rfl Try.sizeOf31 rfl) rfl rfl rfl ?_
  refine WL.yes rfl rfl rfl (ltb rfl) rfl rfl ?_
  refine WL.det (op_fieldAddr (off' := 2) rfl Try.runUnderlying33 rfl rfl Try.sizeOf31 rfl) rfl rfl rfl ?_
  refine WL.yes rfl rfl rfl (ltb rfl) rfl rfl ?_
  refine WL.call (oc_call (vs := [vP w.heap.size 2, vP w1.heap.size 2]) (cap := []) rfl rfl rfl Try.call76 (c_l02Same tk tc0 tc1 tc2 ts0 ts1 w.heap.size 2 [vS b 0 n c, vI j, vI tk, vF tc0, vF tc1, vF tc2, vF ts0, vF ts1, vI dk, vF dc0, vF dc1, vF dc2, vF ds0, vF ds1, vF g] w1.heap.size 2 [vS d' 0 n c', vI j, vI tk, vF tc0, vF tc1, vF tc2, vF ts0, vF ts1, vI dk, vF dc0, vF dc1, vF dc2, vF ds0, vF ds1, vF g] (lB rfl) (lB rfl) w3 (Row.congr ((r1.ext m2).ext m3) rfl).rng (Row.congr (r2.ext m3) rfl).rng)) rfl rfl (ltb rfl) ?_
  rintro _ w4 ⟨rfl, m4⟩
  refine WL.det (op_pick_t rfl rfl rfl) rfl rfl rfl ?_
  refine WL.det (op_move rfl) rfl rfl rfl ?_
  refine WL.yes rfl rfl rfl (ltb rfl) rfl rfl ?_
  refine WL.det (op_fieldAddr (off' := 8) rfl Try.runUnderlying33 rfl rfl Try.sizeOf31 rfl) rfl rfl rfl ?_
  refine WL.yes rfl rfl rfl (ltb rfl) rfl rfl ?_
  refine WL.det (op_fieldAddr (off' := 8) rfl Try.runUnderlying33 rfl rfl Try.sizeOf31 rfl) rfl rfl rfl ?_
  refine WL.yes rfl rfl rfl (ltb rfl) rfl rfl ?_
  refine WL.call (oc_call (vs := [vP w.heap.size 8, vP w1.heap.size 8]) (cap := []) rfl rfl rfl Try.call76 (c_l02Same dk dc0 dc1 dc2 ds0 ds1 w.heap.size 8 [vS b 0 n c, vI j, vI tk, vF tc0, vF tc1, vF tc2, vF ts0, vF ts1, vI dk, vF dc0, vF dc1, vF dc2, vF ds0, vF ds1, vF g] w1.heap.size 8 [vS d' 0 n c', vI j, vI tk, vF tc0, vF tc1, vF tc2, vF ts0, vF ts1, vI dk, vF dc0, vF dc1, vF dc2, vF ds0, vF ds1, vF g] (lB rfl) (lB rfl) w4 (Row.congr (((r1.ext m2).ext m3).ext m4) rfl).rng (Row.congr ((r2.ext m3).ext m4) rfl).rng)) rfl rfl (ltb rfl) ?_
  rintro _ w5 ⟨rfl, m5⟩
  refine WL.det (op_pick_t rfl rfl rfl) rfl rfl rfl ?_
  refine WL.det (op_move rfl) rfl rfl rfl ?_
  refine WL.yes rfl rfl rfl (ltb rfl) rfl rfl ?_
  refine WL.det (op_fieldAddr (off' := 14) rfl Try.runUnderlying33 rfl rfl Try.sizeOf27 rfl) rfl rfl rfl ?_
  refine WL.yes rfl rfl rfl (ltb rfl) rfl rfl ?_
  refine WL.det (op_load1 (i := 14) rfl Try.isAgg27 ((((r1.ext m2).ext m3).ext m4).ext m5).rng rfl rfl) rfl rfl rfl ?_
  refine WL.yes rfl rfl rfl (ltb rfl) rfl rfl ?_
  refine WL.det (op_fieldAddr (off' := 14) rfl Try.runUnderlying33 rfl rfl Try.sizeOf27 rfl) rfl rfl rfl ?_
  refine WL.yes rfl rfl rfl (ltb rfl) rfl rfl ?_
  refine WL.det (op_load1 (i := 14) rfl Try.isAgg27 (((r2.ext m3).ext m4).ext m5).rng rfl rfl) rfl rfl rfl ?_
  refine WL.yes rfl rfl rfl (ltb rfl) rfl rfl ?_
  refine WL.call (oc_call (vs := [vF g, vF g]) (cap := []) rfl rfl rfl Try.call77 (c_l01Same g g g g rfl rfl w5)) rfl rfl (ltb rfl) ?_
  rintro _ _ ⟨rfl, rfl⟩
  refine WL.det (op_pick_t rfl rfl rfl) rfl rfl rfl ?_
  refine WL.det (op_assign rfl) rfl rfl rfl ?_
  refine WL.end ?_
  refine NE.code ?_
  refine CE.ret' ?_
  refine XE.leave1 Try.results20 rfl ?_
  refine ⟨?_, ((((((Mod.refl [] w).nt m1).nt m2).nt m3).nt m4).nt m5)⟩
  all_goals simp_all

end Go.Proofs.Ytabfdgpldcegiaa
