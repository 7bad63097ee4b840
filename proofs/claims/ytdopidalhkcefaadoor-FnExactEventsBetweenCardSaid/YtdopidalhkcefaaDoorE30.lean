/- The engine of this claim's walks, thirtieth part: maps of the call's own, from whole numbers to whole numbers or to truth values. -/
import Derived.Test.YtdopidalhkcefaaDoorE2
import Derived.Maps.OwnSet
set_option linter.unusedVariables false
set_option linter.unusedSimpArgs false
namespace Go.Proofs.YtdopidalhkcefaaDoor
open Go.Maps (Keyed)

/-- what a map holds: what stands at a key, how many entries -/
structure MapC where
  P : Program
  k : TypeId
  e : TypeId
  look : Int → Option Lit
  sz : Nat
def MapR (w : World) (b o : Nat) (c : MapC) : Prop := ∃ D : DataW Unit, w.ownsMap c.P c.k (plainElem c.P c.e) b c.sz D ∧ Go.Maps.size D = c.sz ∧
  ∀ z : Int, (Lit.int .i64 z).wf = true → Go.Maps.has D (.int .i64 z) = (c.look z).isSome ∧ ∀ l, c.look z = some l → ∀ zd, D.atKey (.int .i64 z) zd = .lit l
/-- what is there behind a store -/
def putL (f : Int → Option Lit) (z : Int) (l : Lit) : Int → Option Lit := fun y => if y = z then some l else f y
def putN (f : Int → Option Lit) (z : Int) (n : Nat) : Nat := if (f z).isSome then n else n + 1
def lkI : Option Lit → Int
  | some (.int _ a) => a
  | _ => 0
def lkB : Option Lit → Bool
  | some (.bool x) => x
  | _ => false
section
variable {w w' : World} {b o : Nat} {c : MapC}
theorem MapR.mod {S : List Nat} (h : MapR w b o c) (m : Mod S w w') (hn : b ∉ S) : MapR w' b o c := by
  obtain ⟨D, ⟨es, clock, hb, F, hs, hD⟩, h2⟩ := h
  exact ⟨D, ⟨es, clock, (m.block b (Array.getElem?_eq_some_iff.1 hb).1 hn).trans hb, F, hs, hD⟩, h2⟩
theorem MapR.ext (h : MapR w b o c) (m : Mod [] w w') : MapR w' b o c := h.mod m (by simp)
theorem MapR.lt (h : MapR w b o c) : b < w.heap.size := by
  obtain ⟨D, h1, _⟩ := h
  exact h1.lt
theorem MapR.congr {c' : MapC} (h : MapR w b o c) (e : c = c') : MapR w b o c' := e ▸ h
end
section
variable {P : Program} {n : Nat} {ρ : Env} {w : World} {dst : Option Tmp} {ty : TypeId} {pos : String} {af : Array Edge} {g : Option (Nat × Bool)}
theorem wfI {z : Int} (h1 : -9223372036854775808 ≤ z) (h2 : z ≤ 9223372036854775807) : (Lit.int .i64 z).wf = true := by
  have a : IntKind.i64.min = -9223372036854775808 := rfl
  have b : IntKind.i64.max = 9223372036854775807 := rfl
  simp [Lit.wf]; omega
theorem keyI {z : Int} : WideAt.IsKeyLit (.int .i64 z) := by simp [WideAt.IsKeyLit]
theorem op_makeMap {t k e : TypeId} : Op1 P n ⟨dst, .makeMap t none, ty, pos, af, g⟩ ρ w (fun u w' => u = .map (some w.heap.size) ∧ MapR w' w.heap.size 0 ⟨P, k, e, fun _ => none, 0⟩ ∧ Mod [] w w' ∧ w.heap.size < w'.heap.size) := by
  refine op_run (v := .map (some w.heap.size)) (w' := w.alloc (.map #[] 0)) (fun a ha => ?_) ⟨rfl, ⟨.map [], World.ownsMap_made w P k _, rfl, fun z _ => ⟨rfl, fun l h => by cases h⟩⟩, Mod.alloc _ _, by simp⟩
  rfl
theorem turned_mod {w w' : World} {b : Nat} (h : w.mapTurned w' b) : Mod [b] w w' := by
  have k := h.grown
  exact ⟨k.os, k.tape, k.output, k.size, fun i hi hn => k.block i hi (fun e => hn (by simpa using (Option.some.inj e)))⟩
theorem sz_fit {k : TypeId} {R : Value → Option (DataW Unit × List MemPlace)} {b m s : Nat} {D : DataW Unit} (h : w.ownsMap P k R b m D) (e : Go.Maps.size D = s) : w.ownsMap P k R b s D := by
  obtain ⟨es, clock, hb, F, hs, rfl⟩ := h
  refine ⟨es, clock, hb, F, ?_, rfl⟩
  have e1 : Go.Maps.size (DataW.map ((es.toList.map (Go.WideElems.rg P k R)).foldr DataW.insert [])) = es.size := by simp [Go.Maps.size, length_sorted]
  omega
theorem op_mapPut {t k e : TypeId} {b s : Nat} {f : Int → Option Lit} {x y v : Operand} {z : Int} {val : Value} {l : Lit} (ht : P.underlying t = some (.map k e)) (hk : P.underlying k = some (.int .i64))
    (hx : ev ρ x = some (.map (some b))) (hy : ev ρ y = some (.int .i64 z)) (hv : ev ρ v = some val) (hr : plainElem (H := Unit) P e val = some (.lit l, [])) (hz : (Lit.int .i64 z).wf = true) (hs : s < 4096) (h : MapR w b 0 ⟨P, k, e, f, s⟩) :
    Op1 P n ⟨dst, .mapUpdate t x y v, ty, pos, af, g⟩ ρ w (fun u w' => MapR w' b 0 ⟨P, k, e, putL f z l, putN f z s⟩ ∧ Mod [b] w w' ∧ w.heap.size ≤ w'.heap.size) := by
  obtain ⟨D, h1, h2, h3⟩ := h
  dsimp only at h1 h2 h3
  have K : Keyed P k := Go.Maps.int_keyed hk
  obtain ⟨w', hrun, h4, h5⟩ := h1.store K ht (Nat.lt_trans hs (by decide)) (Go.Maps.keyOf_int_mk hk hz) hr
  have m := turned_mod h5
  have hD := h1.isMap
  have hsz : Go.Maps.size (D.put (.int .i64 z) (.lit l)) = putN f z s := by
    rw [Go.Maps.size_put (h1.tidy K), (h3 z hz).1]
    unfold putN
    rw [h2]
  refine fun a ha => ⟨undef, w', .inr ⟨?_, rfl⟩, ⟨_, sz_fit h4 hsz, hsz, fun y hy' => ?_⟩, m, m.size⟩
  · simp [execOp, ha.ev hx, ha.ev hy, ha.ev hv, hrun, Sem.run_bind, Result.andThen]
  · unfold putL
    by_cases e' : y = z
    · subst e'
      simp only [if_true]
      refine ⟨Go.Maps.has_put_same hD keyI _, fun l' hl zd => ?_⟩
      rw [Go.Maps.atKey_put_same hD keyI]
      cases hl; rfl
    · have ne : (Lit.int .i64 y) ≠ .int .i64 z := fun h => e' (by injection h)
      simp only [if_neg e']
      rw [Go.Maps.has_put_other ne]
      refine ⟨(h3 y hy').1, fun l' hl zd => ?_⟩
      rw [Go.Maps.atKey_put_other ne]
      exact (h3 y hy').2 l' hl zd
theorem op_mapOkI {t k e : TypeId} {b s : Nat} {f : Int → Option Lit} {x y : Operand} {z : Int} (ht : P.underlying t = some (.map k e)) (hk : P.underlying k = some (.int .i64)) (he : P.underlying e = some (.int .i64)) (h0 : ∀ w, (zeroValue e).run P w = .ok (.int .i64 0) w)
    (hx : ev ρ x = some (.map (some b))) (hy : ev ρ y = some (.int .i64 z)) (hz : (Lit.int .i64 z).wf = true) (h : MapR w b 0 ⟨P, k, e, f, s⟩) :
    Op1 P n ⟨dst, .lookup t x y true, ty, pos, af, g⟩ ρ w (Det (.tuple #[.int .i64 (lkI (f z)), .bool (f z).isSome]) w) := by
  obtain ⟨D, h1, h2, h3⟩ := h
  dsimp only at h1 h2 h3
  have K : Keyed P k := Go.Maps.int_keyed hk
  obtain ⟨v, ps, hrun, hv⟩ := h1.look_ok K ht (h0 w) (plainElem_int he (by decide)) (Go.Maps.keyOf_int_mk hk hz)
  obtain ⟨a, rfl, ha, _⟩ := plainElem_int_inv he hv
  rw [(h3 z hz).1] at hrun
  have e1 : lkI (f z) = a := by
    have h4 := h3 z hz
    cases hf : f z with
    | none =>
      rw [hf] at h4
      have := Go.Maps.atKey_of_not_has h4.1 (DataW.lit (H := Unit) (.int .i64 0))
      rw [this] at ha
      injection ha with e1 e2
      injection e1 with e1
      injection e1 with e1 e2
    | some l =>
      rw [h4.2 l hf] at ha
      injection ha with e1 e2
      injection e1 with e1
      subst e1; rfl
  rw [e1]
  exact op_run (fun a' ha' => by simp [execOp, ha'.ev hx, ha'.ev hy, hrun, Sem.run_bind, Result.andThen]) ⟨rfl, rfl⟩
theorem op_mapB {t k e : TypeId} {b s : Nat} {f : Int → Option Lit} {x y : Operand} {z : Int} (ht : P.underlying t = some (.map k e)) (hk : P.underlying k = some (.int .i64)) (he : P.underlying e = some .bool) (h0 : ∀ w, (zeroValue e).run P w = .ok (.bool false) w)
    (hx : ev ρ x = some (.map (some b))) (hy : ev ρ y = some (.int .i64 z)) (hz : (Lit.int .i64 z).wf = true) (h : MapR w b 0 ⟨P, k, e, f, s⟩) :
    Op1 P n ⟨dst, .lookup t x y false, ty, pos, af, g⟩ ρ w (Det (.bool (lkB (f z))) w) := by
  obtain ⟨D, h1, h2, h3⟩ := h
  dsimp only at h1 h2 h3
  have K : Keyed P k := Go.Maps.int_keyed hk
  obtain ⟨v, ps, hrun, hv⟩ := h1.lookup K ht (h0 w) (plainElem_bool he false) (Go.Maps.keyOf_int_mk hk hz)
  have e0 : ∃ q, v = .bool q ∧ D.atKey (.int .i64 z) (.lit (.bool false)) = .lit (.bool q) := by
    unfold plainElem at hv
    rw [he] at hv
    cases v <;> simp at hv
    exact ⟨_, rfl, hv.1.symm⟩
  obtain ⟨q, rfl, hq⟩ := e0
  have e1 : lkB (f z) = q := by
    have h4 := h3 z hz
    cases hf : f z with
    | none =>
      rw [hf] at h4
      have := Go.Maps.atKey_of_not_has h4.1 (DataW.lit (H := Unit) (.bool false))
      rw [this] at hq
      injection hq with e1
      injection e1 with e1
    | some l =>
      rw [h4.2 l hf] at hq
      injection hq with e1
      subst e1; rfl
  rw [e1]
  exact op_run (fun a' ha' => by simp [execOp, ha'.ev hx, ha'.ev hy, hrun, Sem.run_bind, Result.andThen]) ⟨rfl, rfl⟩
theorem op_lenMap {t k e : TypeId} {b s : Nat} {f : Int → Option Lit} {x : Operand} (ht : P.underlying t = some (.map k e)) (hx : ev ρ x = some (.map (some b))) (h : MapR w b 0 ⟨P, k, e, f, s⟩) :
    Op1 P n ⟨dst, .call { callee := .builtin .len, args := #[x], argTypes := #[t] }, ty, pos, af, g⟩ ρ w (Det (.int .i64 ((s : Nat) : Int)) w) := by
  obtain ⟨D, h1, h2, h3⟩ := h
  dsimp only at h1 h2 h3
  have hrun := h1.len ht ty
  rw [h2] at hrun
  exact op_run (fun a ha => by simp only [execOp, resolve, invoke, builtin, List.map_toArray, List.map_cons, List.map_nil, ha.ev hx, Sem.run_bind, Sem.run_pure, Result.andThen_ok, hrun]) ⟨rfl, rfl⟩
end
end Go.Proofs.YtdopidalhkcefaaDoor
