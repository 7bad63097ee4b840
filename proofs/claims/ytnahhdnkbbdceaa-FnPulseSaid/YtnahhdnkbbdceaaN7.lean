/- Pipes of any number of sections that are drawn: what holds of them at any time. -/
import Derived.Test.YtnahhdnkbbdceaaN6
set_option linter.unusedVariables false
set_option linter.unusedSimpArgs false
set_option maxRecDepth 100000
namespace Go.Proofs.Ytnahhdnkbbdceaa
open Ieee

/-- a drawn pipe at some time; its samples are at most 2 ^ k -/
structure DPz (nR nS : Nat) (xS : List Nat) (c0 c1 lo re sl : Nat) (z : PipeSt) (k : Nat) : Prop where
  n1 : 1 ≤ nR
  n3 : nR ≤ 3
  sn : nS + 1 = nR
  lS : xS.length = nS
  lR : z.R.length = nR
  lL : z.L.length = nR
  ln : ∀ i, i < nR → 1 ≤ (z.R.getD i RD.d).xs.length ∧ (z.R.getD i RD.d).xs.length ≤ 5 ∧ (z.L.getD i RD.d).xs.length = (z.R.getD i RD.d).xs.length
  gR : GoodD z.R nR
  gL : GoodD z.L nR
  cb : CBd re sl lo c0 c1 xS
  sc : vSc xS nS = true
  zb : ZB z k
  w0 : z.s0 < wid .f32
  w1 : z.s1 = 0
section
variable {nR nS c0 c1 lo re sl k : Nat} {xS : List Nat} {z : PipeSt} {op : Bool} {x : Nat} {f : Nat → Nat}
theorem kept_lt (y : Nat) (h : y < wid .f32) : keptF y < wid .f32 := (kept_good y h).lt'
theorem GoodD.stR {R L : List RD} {n : Nat} (h : GoodD R n) (hl : R.length = n) : ∀ m, GoodD (stR R L xS re sl x m) n
  | 0 => h.push hl (kept_lt _ (fop_lt _ _ _ _))
  | m + 1 => (h.stR hl m).push (stR_len hl m) (kept_lt _ (fop_lt _ _ _ _))
theorem GoodD.stL {R L : List RD} {n : Nat} (h : GoodD L n) (hl : L.length = n) : ∀ m, GoodD (stL R L xS m) n
  | 0 => h
  | m + 1 => (h.stL hl m).push (stL_len hl m) (kept_lt _ (fop_lt _ _ _ _))
theorem DPz.next (h : DPz nR nS xS c0 c1 lo re sl z k) (hx : Bd x k) (hk : k ≤ 90) : DPz nR nS xS c0 c1 lo re sl (pipeNext nR nS xS 1 c0 c1 0 op lo re sl z x) (k + 2) := by
  refine ⟨h.n1, h.n3, h.sn, h.lS, stR_len h.lR _, endL_len h.lL, fun i hi => ?_, h.gR.stR h.lR _, ?_, h.cb, h.sc, h.cb.next h.zb hx hk, ?_, ?_⟩
  · have a := h.ln i hi
    have e1 : ((pipeNext nR nS xS 1 c0 c1 0 op lo re sl z x).R.getD i RD.d).xs.length = (z.R.getD i RD.d).xs.length := stR_lens i nS
    have e2 : ((pipeNext nR nS xS 1 c0 c1 0 op lo re sl z x).L.getD i RD.d).xs.length = (z.L.getD i RD.d).xs.length := endL_lens i
    rw [e1, e2]; exact a
  · exact (h.gL.stL h.lL _).push (stL_len h.lL _) (kept_lt _ back_lt)
  · show stepS 1 c0 c1 0 z.s0 z.s1 (oldD z.R (nR - 1)) < _
    unfold stepS
    rw [if_pos rfl]
    rw [stepY_one]
    exact kept_lt _ (fop_lt _ _ _ _)
  · show stepT 1 c0 c1 0 z.s0 z.s1 (oldD z.R (nR - 1)) = 0
    unfold stepT
    rw [if_pos rfl]; exact h.w1
theorem DPz.mono {l : Nat} (h : DPz nR nS xS c0 c1 lo re sl z k) (hl : k ≤ l) : DPz nR nS xS c0 c1 lo re sl z l :=
  ⟨h.n1, h.n3, h.sn, h.lS, h.lR, h.lL, h.ln, h.gR, h.gL, h.cb, h.sc, ⟨h.zb.r.mono hl, h.zb.l.mono hl, h.zb.s.mono hl⟩, h.w0, h.w1⟩
theorem DPz.at (h : DPz nR nS xS c0 c1 lo re sl z k) (hf : ∀ j, Bd (f j) 2) (h2 : 2 ≤ k) : ∀ q, k + 2 * q ≤ 92 → DPz nR nS xS c0 c1 lo re sl (pipeAt nR nS xS 1 c0 c1 0 op lo re sl z f q) (k + 2 * q)
  | 0, _ => by rw [pipeAt_zero]; exact h
  | q + 1, hq => by
    rw [pipeAt_succ]
    exact (h.at hf h2 q (by omega)).next ((hf q).mono (by omega)) (by omega)
theorem out_len {D : List RD} {n i : Nat} (hl : D.length = n) (hi : ¬ i < n) : (D.getD i RD.d).xs.length = 0 := by
  rw [List.getD_eq_getElem?_getD, List.getElem?_eq_none (by omega)]; rfl
theorem DPz.small (h : DPz nR nS xS c0 c1 lo re sl z k) : (∀ i, (z.R.getD i RD.d).xs.length ≤ 1048576) ∧ (∀ i, (z.L.getD i RD.d).xs.length ≤ 1048576) := by
  refine ⟨fun i => ?_, fun i => ?_⟩
  · by_cases hi : i < nR
    · have := h.ln i hi; omega
    · rw [out_len h.lR hi]; omega
  · by_cases hi : i < nR
    · have := h.ln i hi; omega
    · rw [out_len h.lL hi]; omega
theorem DPz.pos (h : DPz nR nS xS c0 c1 lo re sl z k) : (∀ i, i < nR → 0 < (z.R.getD i RD.d).xs.length) ∧ (∀ i, i < nR → 0 < (z.L.getD i RD.d).xs.length) :=
  ⟨fun i hi => by have := h.ln i hi; omega, fun i hi => by have := h.ln i hi; omega⟩
theorem ring_ok {r : RD} (h1 : 1 ≤ r.xs.length) (h2 : r.xs.length ≤ 5) (a : 0 ≤ r.at_) (b : r.at_ < ((r.xs.length : Nat) : Int)) (f : ∀ j, finF (r.xs.getD j 0) = true) : vRingF r.xs.length r.at_ r.xs = true := by
  rw [vRingF, Bool.and_eq_true]
  refine ⟨?_, List.all_eq_true.2 fun j _ => f j⟩
  unfold vRing
  rw [Bool.and_eq_true, vIn_t, vIn_t]
  exact ⟨⟨by omega, by omega⟩, a, by omega⟩
theorem rings_ok {D : List RD} : ∀ {n : Nat}, (∀ i, i < n → vRingF (D.getD i RD.d).xs.length (D.getD i RD.d).at_ (D.getD i RD.d).xs = true) → vRings D n = true
  | 0, _ => rfl
  | n + 1, h => by
    show (vRings D n && _) = true
    rw [rings_ok (fun i hi => h i (by omega)), h n (by omega)]; rfl
theorem lens_ok {D E : List RD} : ∀ {n : Nat}, (∀ i, i < n → (E.getD i RD.d).xs.length = (D.getD i RD.d).xs.length) → vLens D E n = true
  | 0, _ => rfl
  | n + 1, h => by
    show (vLens D E n && _) = true
    rw [lens_ok (fun i hi => h i (by omega)), h n (by omega)]; exact beq_self_eq_true _
theorem DPz.valid (h : DPz nR nS xS c0 c1 lo re sl z k) (hk : k ≤ 100) : vPipe nR nR nS z.R z.L xS 1 c0 c1 0 z.s0 z.s1 lo re sl = true := by
  have fin : ∀ {y l : Nat}, Bd y l → l ≤ 100 → finF y = true := fun b hl => fin_of (b.fin hl)
  have a := rings_ok (D := z.R) (n := nR) fun i hi => ring_ok (h.ln i hi).1 (h.ln i hi).2.1 (h.gR.ge i hi) (h.gR.lt i hi) fun j => fin (h.zb.r i j) hk
  have b := rings_ok (D := z.L) (n := nR) fun i hi => ring_ok (by have := h.ln i hi; omega) (by have := h.ln i hi; omega) (h.gL.ge i hi) (h.gL.lt i hi) fun j => fin (h.zb.l i j) hk
  have c := lens_ok (D := z.R) (E := z.L) (n := nR) fun i hi => (h.ln i hi).2.2
  have f0 := fin h.cb.c0 (by omega)
  have f1 := fin h.cb.c1 (by omega)
  have fl := fin h.cb.lo (by omega)
  have fr := fin h.cb.re (by omega)
  have fs := fin h.cb.sl (by omega)
  have f9 := fin h.zb.s hk
  have d : vFil 1 c0 c1 0 z.s0 z.s1 = true := by
    rw [h.w1]
    simp [vFil, usedF, usesC, usesS, List.range_succ, okF, f0, f1, f9, fz0, cn_zero]
  have e : allF [lo, re, sl] 3 = true := by simp [allF, List.range_succ, fl, fr, fs]
  rw [vPipe_eq h.n1 h.n3 rfl h.sn, a, b, c, h.sc, d, e]; rfl
/-- another reed -/
theorem DPz.reed {re' sl' : Nat} (h : DPz nR nS xS c0 c1 lo re sl z k) (a : Bd re' 2) (b : Bd sl' 2) : DPz nR nS xS c0 c1 lo re' sl' z k :=
  ⟨h.n1, h.n3, h.sn, h.lS, h.lR, h.lL, h.ln, h.gR, h.gL, ⟨a, b, h.cb.lo, h.cb.c0, h.cb.c1, h.cb.xS⟩, h.sc, h.zb, h.w0, h.w1⟩
theorem getD_ringN {ns : List Nat} {i : Nat} (hi : i < ns.length) : (ns.map ringN).getD i RD.d = ringN (ns.getD i 0) := by
  rw [List.getD_eq_getElem?_getD, List.getElem?_map, List.getD_eq_getElem?_getD, List.getElem?_eq_getElem hi]; rfl
/-- a new pipe -/
theorem DPz.new {ns : List Nat} (h1 : 1 ≤ ns.length) (h3 : ns.length ≤ 3) (hS : xS.length + 1 = ns.length) (hn : ∀ i, i < ns.length → 1 ≤ ns.getD i 0 ∧ ns.getD i 0 ≤ 5) (cb : CBd re sl lo c0 c1 xS) (sc : vSc xS xS.length = true) : DPz ns.length xS.length xS c0 c1 lo re sl (zNewL ns) 3 := by
  have g : GoodD (ns.map ringN) ns.length := ⟨fun i hi => by rw [getD_ringN hi]; exact Int.le_refl _, fun i hi => by
      rw [getD_ringN hi, ringN_len]
      have := hn i hi
      show (0 : Int) < _
      omega, fun i => by
      by_cases hi : i < ns.length
      · rw [getD_ringN hi]; exact ringN_w
      · rw [List.getD_eq_getElem?_getD, List.getElem?_eq_none (by rw [List.length_map]; omega)]; exact W32.nil⟩
  exact ⟨h1, h3, hS, rfl, List.length_map _, List.length_map _, fun i hi => by
    show 1 ≤ ((ns.map ringN).getD i RD.d).xs.length ∧ ((ns.map ringN).getD i RD.d).xs.length ≤ 5 ∧ _
    rw [getD_ringN hi, ringN_len]
    refine ⟨(hn i hi).1, (hn i hi).2, ?_⟩
    show ((ns.map ringN).getD i RD.d).xs.length = ((ns.map ringN).getD i RD.d).xs.length
    rfl, g, g, cb, sc, newB _ _, by rw [wid32]; exact (by omega : (0 : Nat) < 4294967296), rfl⟩
/-- a pipe that is played on -/
theorem at_more {n m : Nat} {g : Nat → Nat} {p : Nat} (h : ∀ j, g j = f (p + j)) : ∀ q, pipeAt n m xS 1 c0 c1 0 op lo re sl (pipeAt n m xS 1 c0 c1 0 op lo re sl z f p) g q = pipeAt n m xS 1 c0 c1 0 op lo re sl z f (p + q)
  | 0 => by rw [pipeAt_zero]; rfl
  | q + 1 => by rw [pipeAt_succ, at_more h q, h q, ← Nat.add_assoc, pipeAt_succ]
theorem at_congr {n m : Nat} {g : Nat → Nat} : ∀ {q : Nat}, (∀ j, j < q → g j = f j) → pipeAt n m xS 1 c0 c1 0 op lo re sl z g q = pipeAt n m xS 1 c0 c1 0 op lo re sl z f q
  | 0, _ => by rw [pipeAt_zero, pipeAt_zero]
  | q + 1, h => by rw [pipeAt_succ, pipeAt_succ, at_congr (fun j hj => h j (by omega)), h q (by omega)]
theorem out_more {n m : Nat} {g : Nat → Nat} {p : Nat} (h : ∀ j, g j = f (p + j)) (q : Nat) : pipeOut n m xS 1 c0 c1 0 op lo re sl (pipeAt n m xS 1 c0 c1 0 op lo re sl z f p) g q = pipeOut n m xS 1 c0 c1 0 op lo re sl z f (p + q) := by
  unfold pipeOut; rw [at_more h]
theorem out_congr {n m : Nat} {g : Nat → Nat} {q : Nat} (h : ∀ j, j < q → g j = f j) : pipeOut n m xS 1 c0 c1 0 op lo re sl z g q = pipeOut n m xS 1 c0 c1 0 op lo re sl z f q := by
  unfold pipeOut; rw [at_congr h]
end
end Go.Proofs.Ytnahhdnkbbdceaa
