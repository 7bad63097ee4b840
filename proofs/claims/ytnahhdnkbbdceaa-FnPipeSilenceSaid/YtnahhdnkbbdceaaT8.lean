/- When a pipe of three sections is silent: the program. -/
import Derived.Test.YtnahhdnkbbdceaaT7
set_option linter.unusedVariables false
set_option linter.unusedSimpArgs false
set_option maxRecDepth 100000
set_option maxHeartbeats 8000000
namespace Go.Proofs.Ytnahhdnkbbdceaa

set_option maxRecDepth 100000 in
theorem c_iSilP0 (nR : Nat) (GR : List RD) (nL : Nat) (GL : List RD) (xS : List Nat) (cR : Nat) (bR : Nat) (PR : List BC) (loR : Nat) (cL : Nat) (bL : Nat) (PL : List BC) (loL : Nat) (cS : Nat) (bS : Nat) (k : Int) (kc0 : Nat) (kc1 : Nat) (kc2 : Nat) (ks0 : Nat) (ks1 : Nat) (op : Bool) (lo : Nat) (re : Nat) (sl : Nat) (most : Nat) (rv : Int × Int) (lDR : GR.length = nR) (lDL : GL.length = nL) (lnS : xS.length = 0) (hzR : ∀ i, (GR.getD i RD.d).xs.length ≤ 1048576) (hzL : ∀ i, (GL.getD i RD.d).xs.length ≤ 1048576) (lPR : PR.length = nR) (lPL : PL.length = nL) (mR : nR ≤ 1048576) (mL : nL ≤ 1048576) (h0n : 0 < nR) (h0m : 0 < nL) (hpR : ∀ i, i < nR → 0 < (GR.getD i RD.d).xs.length) (hpL : ∀ i, i < nL → 0 < (GL.getD i RD.d).xs.length) (hs : 1 ≤ nR ∧ nR ≤ 3 ∧ nL = nR ∧ 0 + 1 = nR) (gR : GoodD GR nR) (gL : GoodD GL nL) (lks0 : ks0 < wid .f32) (lks1 : ks1 < wid .f32) (hm : most ≤ 100000) (hv : vPipe nR nL 0 GR GL xS k kc0 kc1 kc2 ks0 ks1 lo re sl = true) (erv : rv = silG (fun ii => pipeSil nR nL (pipeAt nR 0 xS k kc0 kc1 kc2 op lo re sl (PipeSt.mk GR GL ks0 ks1) (fun _ => 0) ii)) (most + 1) 0) (w : World) (rR : Rng w bR 0 (olc GR PR)) (rL : Rng w bL 0 (olc GL PL)) (rS : Rng w bS 0 (fl xS))  (FR : OF loR w GR PR) (FL : OF loL w GL PL) : Cl Try.prog 19 #[.agg #[vS bR 0 nR cR, vS bL 0 nL cL, vS bS 0 0 cS, vI k, vF kc0, vF kc1, vF kc2, vF ks0, vF ks1, .bool op, vF lo, vF re, vF sl], vI ((most : Nat) : Int)] w fun v w' => v = .tuple #[vI rv.1, vI rv.2] ∧ Mod [] w w' := by
  have e : nR = 1 := by omega
  obtain rfl : nL = 1 := by omega
  subst e
  exact c_iSilP1 GR GL xS cR bR PR loR cL bL PL loL cS bS k kc0 kc1 kc2 ks0 ks1 op lo re sl most rv lDR lDL lnS hzR hzL lPR lPL hpR hpL gR gL lks0 lks1 hm hv erv w rR rL rS  FR FL

end Go.Proofs.Ytnahhdnkbbdceaa
