/- The engine of this claim's walks, twenty-third part: records at places that are sums. -/
import Derived.Test.YteonmpphpeopiaaDoorE13
set_option linter.unusedVariables false
namespace Go.Proofs.YteonmpphpeopiaaDoor

theorem zf_ {k m n : Nat} (h : k + m ≤ n) : 0 + k + m ≤ n := by omega
theorem zp_ {k : Nat} {vs ws cs : List Value} (h : vs = splice ws k cs) : vs = splice ws (0 + k) cs := by rw [Nat.zero_add]; exact h
theorem zs_ {k : Nat} {vs ws cs : List Value} (h : splice ws k cs = vs) : splice ws (0 + k) cs = vs := by rw [Nat.zero_add]; exact h

section
variable {P : Program} {n : Nat} {ρ : Env} {w : World} {dst : Option Tmp} {ty : TypeId} {pos : String} {af : Array Edge} {g : Option (Nat × Bool)}
/-- 'append(empty, records...)' -/
theorem op_appendR {α : Type} {f : α → List Value} {t e b m c b0 o0 sz bt : Nat} {x y : Operand} {i : TypeInfo} {z : Value} {es : List α} (hf : ∀ a, (f a).length = sz) (hx : ev ρ x = some (.slice (some ⟨b0, o0, none⟩) 0 0)) (hy : ev ρ y = some (.slice (some ⟨b, 0, none⟩) m c))
    (ht : P.underlying t = some (.slice e)) (hi : P.info? e = some i) (hz : i.zero = some z) (hs : i.size = sz) (hby : i.bytes = bt)
    (hr : Rng w b 0 (cat f es)) (hl : es.length = m) (h0 : 0 < m) (hm : m ≤ 16777216) (hbt : bt ≤ 4096) :
    Op1 P n ⟨dst, .call { callee := .builtin .append, args := #[x, y], argTypes := #[t, t] }, ty, pos, af, g⟩ ρ w
      (fun u w' => ∃ b' c', u = .slice (some ⟨b', 0, none⟩) m c' ∧ w.heap.size ≤ b' ∧ Row w' b' 0 (cat f es) ∧ Mod [] w w') := by
  have hlen : (cat f es).length = m * sz := by rw [cat_len hf, hl]
  have hnews : ∀ j v, (cat f es)[j]? = some v → w.cell? ((⟨b, 0, none⟩ : Addr).add j) = some v := fun j v hv => by rw [addr_add]; exact hr j v hv
  have hc : Builtin.nextslicecap (0 + m) 0 * i.bytes ≤ 281474976710656 := by
    rw [Nat.zero_add, nextslicecap_zero h0, hby]
    exact Nat.le_trans (Nat.mul_le_mul hm hbt) (by omega)
  have h1 := run_append_grow (P := P) w t ty e i z ht hi hz ⟨b0, o0, none⟩ 0 0 [] (by simp) (by simp) ⟨b, 0, none⟩ m c (cat f es) (by rw [hlen, hs]) hnews (by omega) (by omega) hc
  rw [Nat.zero_add] at h1
  refine op_run (v := .slice (some ⟨w.heap.size, 0, none⟩) m (grownCap w m 0 e)) (w' := w.drew.alloc (.cells ((#[] : Array Value) ++ (cat f es).toArray ++ Builtin.zeroCells z.cells (grownCap w m 0 e - m)) e)) (fun a ha => ?_) ⟨w.heap.size, _, rfl, Nat.le_refl _, ?_, ?_⟩
  · simp only [execOp, resolve, invoke, builtin, List.map_toArray, List.map_cons, List.map_nil, ha.ev hx, ha.ev hy, Sem.run_bind, Sem.run_pure, Result.andThen_ok, h1]
  · have := (Row.new w.drew ((#[] : Array Value) ++ (cat f es).toArray ++ Builtin.zeroCells z.cells (grownCap w m 0 e - m)) e).take (m * sz)
    refine this.congr ?_
    simp [hlen]
  · exact ((Mod.refl [] w).drew).trans (Mod.alloc _ _)
end
end Go.Proofs.YteonmpphpeopiaaDoor
