/- What is done to the strings of the law on tuning. -/
import Derived.Test.YtabfdgpldcegiaaD14
set_option linter.unusedVariables false
set_option linter.unusedSimpArgs false
namespace Go.Proofs.Ytabfdgpldcegiaa

theorem c_NewStringT (pw : Nat) (mw : Nat) (lp : pw < wid .f32) (lm : mw < wid .f32) (ho : NewOk pw mw) (to : TunOk (fop .sub .f32 pw mw)) (w : World) : Cl Try.prog 15 #[vF pw, vF mw, vF 1065353216] w fun v w' => ∃ (n' : Nat) (b' : Nat) (ta : Nat) (da : Nat), v = .tuple #[.agg #[vS b' 0 n' n', vI 0, vI 3, vF ta, vF 0, vF 0, vF 0, vF 0, vI 2, vF da, vF mw, vF 0, vF 0, vF 0, vF 1065353216], vI 0] ∧ (TunE pw mw n' ta da) ∧ Row w' b' 0 (fl (List.replicate n' 0)) ∧ w.heap.size ≤ b' ∧ Mod [] w w' := by
  refine (c_NewStringX pw mw 1065353216 lp lm (by decide +kernel) ho to (by decide +kernel) w).mono ?_
  rintro v w' ⟨n', b', ta, da, hv, p0, p1, p2, p3, p4, rest⟩
  exact ⟨n', b', ta, da, hv, p4, rest⟩

theorem c_sNewStringT (n'1 : Nat) (ta1 : Nat) (da1 : Nat) (pw : Nat) (mw : Nat) (lp : pw < wid .f32) (lm : mw < wid .f32) (ho : NewOk pw mw) (to : TunOk (fop .sub .f32 pw mw)) (hE : TunE pw mw n'1 ta1 da1) (w : World) : Cl Try.prog 51 #[vF pw, vF mw, vF 1065353216] w fun v w' => ∃ (b' : Nat), v = .tuple #[.agg #[vS b' 0 n'1 n'1, vI 0, vI 3, vF ta1, vF 0, vF 0, vF 0, vF 0, vI 2, vF da1, vF mw, vF 0, vF 0, vF 0, vF 1065353216], vI 0] ∧ Row w' b' 0 (fl (List.replicate n'1 0)) ∧ w.heap.size ≤ b' ∧ Mod [] w w' := by
  refine (c_sNewStringX pw mw 1065353216 lp lm (by decide +kernel) ho to (by decide +kernel) w).mono ?_
  rintro v w' ⟨n', b', ta, da, hv, p0, p1, p2, p3, p4, rest⟩
  have e1 := p4.n.trans hE.n.symm
  have e2 := p4.t.trans hE.t.symm
  have e3 : da = da1 := by rw [eq_of_cn p4.d (fin_num ho.f), eq_of_cn hE.d (fin_num ho.f)]
  subst e1 e2 e3
  exact ⟨b', hv, rest⟩

theorem c_iSilentT (n : Nat) (c : Nat) (b : Nat) (ta : Nat) (da : Nat) (mw : Nat) (xs : List Nat) (ho : LawS n ta da mw 1065353216) (hx : xs = List.replicate n 0) (ln : xs.length = n) (w : World) (r : Rng w b 0 (fl xs)) : Cl Try.prog 24 #[.agg #[vS b 0 n c, vI 0, vI 3, vF ta, vF 0, vF 0, vF 0, vF 0, vI 2, vF da, vF mw, vF 0, vF 0, vF 0, vF 1065353216]] w fun v w' => v = .tuple #[.bool true, vI 0] ∧ Mod [] w w' := by
  subst hx
  refine (c_IsSilentStr n c b (List.replicate n 0) 0 3 ta 0 0 0 0 2 da mw 0 0 0 1065353216 List.length_replicate ho.n1 (by have := ho.n2; omega) (vStr_law (i := 0) ho.n1 ho.n2 ho.n1 ho.f1 ho.f2 ho.f3 ho.f4 fz9 fz9 fz9) w r).mono ?_
  rintro v w' ⟨hv, m⟩
  rw [new_silent] at hv
  exact ⟨hv, m⟩

theorem c_SameT (n : Nat) (c : Nat) (b : Nat) (ta : Nat) (da : Nat) (mw : Nat) (xs : List Nat) (c2 : Nat) (b2 : Nat) (ys : List Nat) (ho : LawS n ta da mw 1065353216) (ln : xs.length = n) (lm : ys.length = n) (he : Cn xs ys) (w : World) (r : Rng w b 0 (fl xs)) (rr : Rng w b2 0 (fl ys)) : Cl Try.prog 20 #[.agg #[vS b 0 n c, vI 0, vI 3, vF ta, vF 0, vF 0, vF 0, vF 0, vI 2, vF da, vF mw, vF 0, vF 0, vF 0, vF 1065353216], .agg #[vS b2 0 n c2, vI 0, vI 3, vF ta, vF 0, vF 0, vF 0, vF 0, vI 2, vF da, vF mw, vF 0, vF 0, vF 0, vF 1065353216]] w fun v w' => v = .bool true ∧ Mod [] w w' := by
  exact c_SameString n c b xs 0 3 ta 0 0 0 0 2 da mw 0 0 0 1065353216 c2 b2 ys ln lm he (by have := ho.n2; omega) w r rr

theorem c_iPluckT (n : Nat) (c : Nat) (b : Nat) (ta : Nat) (da : Nat) (mw : Nat) (xs : List Nat) (pl : Nat) (fo : Nat) (ho : LawS n ta da mw 1065353216) (ln : xs.length = n) (wx : W32 xs) (lpl : pl < wid .f32) (lfo : fo < wid .f32) (hp : placeF pl = true) (hf : finF fo = true) (w : World) (r : Rng w b 0 (fl xs)) : Cl Try.prog 31 #[.agg #[vS b 0 n c, vI 0, vI 3, vF ta, vF 0, vF 0, vF 0, vF 0, vI 2, vF da, vF mw, vF 0, vF 0, vF 0, vF 1065353216], vF pl, vF fo] w fun v w' => ∃ (b' : Nat) (c' : Nat) (zs : List Nat), v = .tuple #[.agg #[vS b' 0 n c', vI 0, vI 3, vF ta, vF 0, vF 0, vF 0, vF 0, vI 2, vF da, vF mw, vF 0, vF 0, vF 0, vF 1065353216], vI 0] ∧ (zs.length = n) ∧ (W32 zs) ∧ (Cn zs (chg (pluckF fo (FloatKind.f32.nearest ((n : Nat) : Int)) (fop .mul .f32 pl (FloatKind.f32.nearest ((n : Nat) : Int)))) n 0 xs n)) ∧ Row w' b' 0 (fl zs) ∧ w.heap.size ≤ b' ∧ Mod [] w w' := by
  exact c_iPluck n c b xs 0 3 ta 0 0 0 0 2 da mw 0 0 0 1065353216 pl fo ln ho.n1 ho.n2 wx ho.n1 (by decide +kernel) (by decide +kernel) (by decide +kernel) (by decide +kernel) lpl lfo (vStr_law (i := 0) ho.n1 ho.n2 ho.n1 ho.f1 ho.f2 ho.f3 ho.f4 fz9 fz9 fz9) hp hf w r

theorem c_iStrikeT (n : Nat) (c : Nat) (b : Nat) (ta : Nat) (da : Nat) (mw : Nat) (xs : List Nat) (pl : Nat) (cm : Nat) (bh : Nat) (ho : LawS n ta da mw 1065353216) (ln : xs.length = n) (wx : W32 xs) (lpl : pl < wid .f32) (hp : placeF pl = true) (w : World) (r : Rng w b 0 (fl xs)) (rh : Rng w bh 0 [vF 1048576000]) : Cl Try.prog 42 #[.agg #[vS b 0 n c, vI 0, vI 3, vF ta, vF 0, vF 0, vF 0, vF 0, vI 2, vF da, vF mw, vF 0, vF 0, vF 0, vF 1065353216], vF pl, vS bh 0 1 cm] w fun v w' => ∃ (b' : Nat) (c' : Nat) (zs : List Nat), v = .tuple #[.agg #[vS b' 0 n c', vI 0, vI 3, vF ta, vF 0, vF 0, vF 0, vF 0, vI 2, vF da, vF mw, vF 0, vF 0, vF 0, vF 1065353216], vI 0] ∧ (zs.length = n) ∧ (W32 zs) ∧ (Cn zs (chg (strikeF [1048576000] 1 (posF (fop .mul .f32 pl (FloatKind.f32.nearest ((n : Nat) : Int))))) n 0 xs n)) ∧ Row w' b' 0 (fl zs) ∧ w.heap.size ≤ b' ∧ Mod [] w w' := by
  exact c_iStrike n c b xs 0 3 ta 0 0 0 0 2 da mw 0 0 0 1065353216 pl 1 cm bh [1048576000] ln ho.n1 ho.n2 wx ho.n1 (by decide +kernel) (by decide +kernel) (by decide +kernel) (by decide +kernel) lpl (vStr_law (i := 0) ho.n1 ho.n2 ho.n1 ho.f1 ho.f2 ho.f3 ho.f4 fz9 fz9 fz9) hp (by decide +kernel) rfl w32_q (by omega) w r rh

theorem c_sStrikeT (n : Nat) (c : Nat) (b : Nat) (ta : Nat) (da : Nat) (mw : Nat) (xs : List Nat) (pl : Nat) (cm : Nat) (bh : Nat) (ho : LawS n ta da mw 1065353216) (ln : xs.length = n) (wx : W32 xs) (lpl : pl < wid .f32) (hp : placeF pl = true) (w : World) (r : Rng w b 0 (fl xs)) (rh : Rng w bh 0 [vF 1048576000]) : Cl Try.prog 40 #[.agg #[vS b 0 n c, vI 0, vI 3, vF ta, vF 0, vF 0, vF 0, vF 0, vI 2, vF da, vF mw, vF 0, vF 0, vF 0, vF 1065353216], vF pl, vS bh 0 1 cm] w fun v w' => ∃ (b' : Nat) (c' : Nat) (zs : List Nat), v = .tuple #[.agg #[vS b' 0 n c', vI 0, vI 3, vF ta, vF 0, vF 0, vF 0, vF 0, vI 2, vF da, vF mw, vF 0, vF 0, vF 0, vF 1065353216], vI 0] ∧ (zs.length = n) ∧ (W32 zs) ∧ (Cn zs (chg (strikeF [1048576000] 1 (posF (fop .mul .f32 pl (FloatKind.f32.nearest ((n : Nat) : Int))))) n 0 xs n)) ∧ Row w' b' 0 (fl zs) ∧ w.heap.size ≤ b' ∧ Mod [] w w' := by
  exact c_sStrike n c b xs 0 3 ta 0 0 0 0 2 da mw 0 0 0 1065353216 pl 1 cm bh [1048576000] ln ho.n1 ho.n2 wx ho.n1 (by decide +kernel) (by decide +kernel) (by decide +kernel) (by decide +kernel) lpl (vStr_law (i := 0) ho.n1 ho.n2 ho.n1 ho.f1 ho.f2 ho.f3 ho.f4 fz9 fz9 fz9) hp (by decide +kernel) rfl w32_q (by omega) w r rh

theorem c_iPlayT (n : Nat) (c : Nat) (b : Nat) (ta : Nat) (da : Nat) (mw : Nat) (xs : List Nat) (ho : LawS n ta da mw 1065353216) (ln : xs.length = n) (wx : W32 xs) (w : World) (r : Rng w b 0 (fl xs)) : Cl Try.prog 23 #[.agg #[vS b 0 n c, vI 0, vI 3, vF ta, vF 0, vF 0, vF 0, vF 0, vI 2, vF da, vF mw, vF 0, vF 0, vF 0, vF 1065353216], vI ((n : Nat) : Int)] w fun v w' => ∃ (zz : StrSt) (b' : Nat) (c' : Nat) (e' : Nat) (c3' : Nat) (A' : Option Addr), v = .tuple #[.agg #[vS b' 0 n c', vI ((zz.i : Nat) : Int), vI 3, vF ta, vF 0, vF 0, vF (zz.t0), vF (zz.t1), vI 2, vF da, vF mw, vF 0, vF (zz.d0), vF (zz.d1), vF 1065353216], .slice A' n c3', vI 0] ∧ (0 < n → A' = some ⟨e', 0, none⟩) ∧ Row w' e' 0 (fl xs) ∧ w.heap.size ≤ e' ∧ Mod [] w w' := by
  have hn : n ≤ 4096 := by have := ho.n2; omega
  refine (c_iPlayStr n c b xs 0 3 ta 0 0 0 0 2 da mw 0 0 0 1065353216 n _ _ ln ho.n1 ho.n2 wx (by decide +kernel) (by decide +kernel) (by decide +kernel) (by decide +kernel) rfl rfl hn (vStr_law (i := 0) ho.n1 ho.n2 ho.n1 ho.f1 ho.f2 ho.f3 ho.f4 fz9 fz9 fz9) w r).mono ?_
  rintro v w' ⟨b', c', e', c3', A', hv, p0, p1, p2, r1, r2, f1, f2, n1, m⟩
  rw [outs_self ln] at r2
  exact ⟨_, b', c', e', c3', A', hv, p2, r2, f2, m⟩

end Go.Proofs.Ytabfdgpldcegiaa
