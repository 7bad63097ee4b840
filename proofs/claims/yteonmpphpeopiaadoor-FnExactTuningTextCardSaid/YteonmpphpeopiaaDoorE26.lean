/- Slices of slices; the append of a made slice; capacities. -/
import Derived.Test.YteonmpphpeopiaaDoorE25
import Derived.Lib.AppendZeros
set_option linter.unusedVariables false
namespace Go.Proofs.YteonmpphpeopiaaDoor

section
variable {e : TypeId} {m lo : Nat} {w : World} {b n c : Nat} {xs : List Value}
/-- a slice of one's own without cells, with room -/
def Room (e : TypeId) (lo : Nat) (w : World) (b c : Nat) : Prop := 0 < c ∧ Own e 1 lo w (some ⟨b, 0, none⟩) 0 c []
theorem Own.row0 (h : Own e m lo w (some ⟨b, 0, none⟩) n c xs) (hc : 0 < c) : Row w b 0 xs ∧ lo ≤ b := by
  rcases h.own with ⟨_, h1, _⟩ | ⟨g, cur, h1, h2, h3, h4, _, h6, h7⟩
  · omega
  · obtain rfl : b = g := by simpa using h1
    refine ⟨⟨cur, e, h3, fun i v hv => ?_⟩, h2⟩
    rw [← h7, List.getElem?_take] at hv
    split at hv
    · simpa using hv
    · cases hv
end
theorem fl_app (xs ys : List Nat) : fl xs ++ fl ys = fl (xs ++ ys) := by simp [fl]
theorem app_len {xs ys : List Nat} {a b : Nat} (h : xs.length = a) (k : ys.length = b) : (xs ++ ys).length = a + b := by rw [List.length_append, h, k]
theorem fl_take (xs : List Nat) (k : Nat) : fl (xs.take k) = (fl xs).take k := by simp [fl]
theorem fl_drop (xs : List Nat) (k : Nat) : fl (xs.drop k) = (fl xs).drop k := by simp [fl]
theorem rng_head {w : World} {b : Nat} {xs : List Nat} (h : Rng w b 0 (fl xs)) (k : Nat) : Rng w b 0 (fl (xs.take k)) := by rw [fl_take]; exact h.take k
theorem rng_part {w : World} {b : Nat} {xs : List Nat} (h : Rng w b 0 (fl xs)) (i k : Nat) : Rng w b (0 + i) (fl ((xs.drop i).take k)) := by rw [fl_take, fl_drop]; exact (h.drop i).take k
theorem head_len {xs : List Nat} {n k : Nat} (h : xs.length = n) (hk : k ≤ n) : (xs.take k).length = k := by rw [List.length_take]; omega
theorem part_len {xs : List Nat} {n i k : Nat} (h : xs.length = n) (hk : i + k ≤ n) : ((xs.drop i).take k).length = k := by rw [List.length_take, List.length_drop]; omega
section
variable {P : Program} {n : Nat} {ρ : Env} {w : World} {dst : Option Tmp} {ty : TypeId} {pos : String} {af : Array Edge} {g : Option (Nat × Bool)}
theorem op_cap {t l c : Nat} {x : Operand} {A : Option Addr} (hx : ev ρ x = some (.slice A l c)) {e : Nat} (hu : ∀ w, (underlying t).run P w = .ok (.slice e) w) :
    Op1 P n ⟨dst, .call { callee := .builtin .cap, args := #[x], argTypes := #[t] }, ty, pos, af, g⟩ ρ w (Det (.int .i64 c) w) :=
  op_run (fun a ha => by simp [execOp, resolve, invoke, builtin, ha.ev hx, Builtin.cap_, hu, goInt]) ⟨rfl, rfl⟩
theorem op_slLo {t e b o m c i : Nat} {x y : Operand} {k : IntKind} {q : Int} (hx : ev ρ x = some (.slice (some ⟨b, o, none⟩) m c)) (hy : ev ρ y = some (.int k q)) (hq : q = (i : Int)) (hu : ∀ w, (underlying t).run P w = .ok (.slice e) w) (hs : ∀ w, (sizeOf e).run P w = .ok 1 w) (h1 : i ≤ m) (h2 : i < c) :
    Op1 P n ⟨dst, .slice t x (some y) none none, ty, pos, af, g⟩ ρ w (Det (.slice (some ⟨b, o + i, none⟩) (m - i) (c - i)) w) := by
  subst hq
  refine op_run (fun a ha => ?_) ⟨rfl, rfl⟩
  have e1 : ¬ (c = i) := by omega
  have e2 : (0 : Int) ≤ (i : Int) ∧ (i : Int) ≤ (m : Int) := by omega
  simp [execOp, ha.ev hx, ha.ev hy, Instr.sliceAt, Instr.slice, hu, Instr.sliceBounds, Instr.sliceBound, asIntOf, hs, e1, e2, addr_add]
  exact fun h => absurd h (by omega)
theorem op_slHi {t e b o m c j : Nat} {x y : Operand} {k : IntKind} {q : Int} (hx : ev ρ x = some (.slice (some ⟨b, o, none⟩) m c)) (hy : ev ρ y = some (.int k q)) (hq : q = (j : Int)) (hu : ∀ w, (underlying t).run P w = .ok (.slice e) w) (hs : ∀ w, (sizeOf e).run P w = .ok 1 w) (h1 : j ≤ c) :
    Op1 P n ⟨dst, .slice t x none (some y) none, ty, pos, af, g⟩ ρ w (Det (.slice (some ⟨b, o, none⟩) j c) w) := by
  subst hq
  refine op_run (fun a ha => ?_) ⟨rfl, rfl⟩
  have e2 : (0 : Int) ≤ (j : Int) ∧ (j : Int) ≤ (c : Int) := by omega
  simp [execOp, ha.ev hx, ha.ev hy, Instr.sliceAt, Instr.slice, hu, Instr.sliceBounds, Instr.sliceBound, asIntOf, hs, e2, addr_add]
  exact fun h => absurd h (by omega)
theorem op_slHi' {t e b o m c j : Nat} {sz : Nat} {x y : Operand} {k : IntKind} {q : Int} (hx : ev ρ x = some (.slice (some ⟨b, o, none⟩) m c)) (hy : ev ρ y = some (.int k q)) (hq : q = (j : Int)) (hu : ∀ w, (underlying t).run P w = .ok (.slice e) w) (hs : ∀ w, (sizeOf e).run P w = .ok sz w) (h1 : j ≤ c) :
    Op1 P n ⟨dst, .slice t x none (some y) none, ty, pos, af, g⟩ ρ w (Det (.slice (some ⟨b, o, none⟩) j c) w) := by
  subst hq
  refine op_run (fun a ha => ?_) ⟨rfl, rfl⟩
  have e2 : (0 : Int) ≤ (j : Int) ∧ (j : Int) ≤ (c : Int) := by omega
  simp [execOp, ha.ev hx, ha.ev hy, Instr.sliceAt, Instr.slice, hu, Instr.sliceBounds, Instr.sliceBound, asIntOf, hs, e2, addr_add]
  exact fun h => absurd h (by omega)
theorem op_slNil {t e : Nat} {x y : Operand} {k : IntKind} (hx : ev ρ x = some (.slice none 0 0)) (hy : ev ρ y = some (.int k 0)) (hu : ∀ w, (underlying t).run P w = .ok (.slice e) w) {sz : Nat} (hs : ∀ w, (sizeOf e).run P w = .ok sz w) :
    Op1 P n ⟨dst, .slice t x none (some y) none, ty, pos, af, g⟩ ρ w (Det (.slice none 0 0) w) := by
  refine op_run (fun a ha => ?_) ⟨rfl, rfl⟩
  simp [execOp, ha.ev hx, ha.ev hy, Instr.sliceAt, Instr.slice, hu, Instr.sliceBounds, Instr.sliceBound, asIntOf, hs]
/-- an append to an empty slice leaves room for all -/
theorem op_appendFc {t e b m c b0 o0 : Nat} {x y : Operand} {i : TypeInfo} {xs : List Nat} (hx : ev ρ x = some (.slice (some ⟨b0, o0, none⟩) 0 0)) (hy : ev ρ y = some (.slice (some ⟨b, 0, none⟩) m c))
    (ht : P.underlying t = some (.slice e)) (hi : P.info? e = some i) (hz : i.zero = some (.float .f32 0)) (hs : i.size = 1) (hby : i.bytes = 4)
    (hr : Rng w b 0 (fl xs)) (hl : xs.length = m) (h0 : 0 < m) (hm : m ≤ 16777216) :
    Op1 P n ⟨dst, .call { callee := .builtin .append, args := #[x, y], argTypes := #[t, t] }, ty, pos, af, g⟩ ρ w
      (fun u w' => ∃ b' c', u = .slice (some ⟨b', 0, none⟩) m c' ∧ m ≤ c' ∧ w.heap.size ≤ b' ∧ Row w' b' 0 (fl xs) ∧ Mod [] w w') := by
  have hnews : ∀ j v, (fl xs)[j]? = some v → w.cell? ((⟨b, 0, none⟩ : Addr).add j) = some v := fun j v hv => by rw [addr_add]; exact hr j v hv
  have hc : Builtin.nextslicecap (0 + m) 0 * i.bytes ≤ 281474976710656 := by rw [Nat.zero_add, nextslicecap_zero h0, hby]; omega
  have h1 := run_append_grow (P := P) w t ty e i _ ht hi hz ⟨b0, o0, none⟩ 0 0 [] (by simp) (by simp) ⟨b, 0, none⟩ m c (fl xs) (by rw [fl_len hl, hs, Nat.mul_one]) hnews (by omega) (by omega) hc
  rw [Nat.zero_add] at h1
  refine op_run (v := .slice (some ⟨w.heap.size, 0, none⟩) m (grownCap w m 0 e)) (w' := w.drew.alloc (.cells ((#[] : Array Value) ++ (fl xs).toArray ++ Builtin.zeroCells (Value.float .f32 0).cells (grownCap w m 0 e - m)) e)) (fun a ha => ?_) ⟨w.heap.size, _, rfl, grownCap_ge w m 0 e, Nat.le_refl _, ?_, ?_⟩
  · simp only [execOp, resolve, invoke, builtin, List.map_toArray, List.map_cons, List.map_nil, ha.ev hx, ha.ev hy, Sem.run_bind, Sem.run_pure, Result.andThen_ok, h1]
  · have := (Row.new w.drew ((#[] : Array Value) ++ (fl xs).toArray ++ Builtin.zeroCells (Value.float .f32 0).cells (grownCap w m 0 e - m)) e).take m
    refine this.congr ?_
    simp [fl_len hl]
  · exact ((Mod.refl [] w).drew).trans (Mod.alloc _ _)
/-- the append of a slice that is made for it, of which nothing is kept but the room -/
theorem op_appZ {t tn e m bt : Nat} {x y : Operand} {i : TypeInfo} {z : Value} {k : IntKind} {q : Int} (hx : ev ρ x = some (.slice none 0 0)) (hy : ev ρ y = some (.int k q)) (hq : q = (m : Int))
    (ht : P.underlying t = some (.slice e)) {kn : IntKind} (htn : P.underlying tn = some (.int kn)) (hi : P.info? e = some i) (hz : i.zero = some z) (hs : i.size = 1) (hby : i.bytes = bt) (hzs : z.cells.size = 1) (hm : 0 < m) (hm2 : m ≤ 16777216) (hbt : bt ≤ 4096) :
    Op1 P n ⟨dst, .call { callee := .builtin .append, args := #[x, y], argTypes := #[t, tn] }, ty, pos, af, g⟩ ρ w
      (fun u w' => ∃ b' c', u = .slice (some ⟨b', 0, none⟩) m c' ∧ Room e w.heap.size w' b' c' ∧ w.heap.size ≤ b' ∧ Mod [] w w') := by
  subst hq
  have hb : m * i.bytes ≤ 281474976710656 := by rw [hby]; exact Nat.le_trans (Nat.mul_le_mul hm2 hbt) (by omega)
  have hrun := Go.Lib.run_append_nil_zeros (P := P) w t tn ty e i z k kn ht htn hi hz m hm (by omega) (by omega) hb
  refine op_run (v := .slice (some ⟨w.heap.size, 0, none⟩) m (grownCap w m 0 e)) (w' := w.drew.alloc (.cells (Builtin.zeroCells z.cells m ++ Builtin.zeroCells z.cells (grownCap w m 0 e - m)) e)) (fun a ha => by simp only [execOp, resolve, invoke, builtin, List.map_toArray, List.map_cons, List.map_nil, ha.ev hx, ha.ev hy, Sem.run_bind, Sem.run_pure, Result.andThen_ok, hrun]) ?_
  have hge := grownCap_ge w m 0 e
  refine ⟨w.heap.size, _, rfl, ⟨by omega, by simp, .inr ⟨w.heap.size, _, rfl, Nat.le_refl _, heap_alloc_new w.drew _, by omega, grownCap_le_maxLen w m 0 e (by simp only [maxLen]; omega), ?_, by simp⟩⟩, Nat.le_refl _, (((Mod.refl [] w).drew).trans (Mod.alloc _ _)).wide (by simp)⟩
  simp only [Array.size_append, size_zeroCells, hzs]; omega
end
end Go.Proofs.YteonmpphpeopiaaDoor
