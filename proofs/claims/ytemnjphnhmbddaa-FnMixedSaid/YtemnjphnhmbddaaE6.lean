/- The engine of this claim's walks, sixth part: new slices, appends, and short facts that printed walks name. -/
import Derived.Test.YtemnjphnhmbddaaE22
namespace Go.Proofs.Ytemnjphnhmbddaa

theorem W32.zeros (n : Nat) : W32 (List.replicate n 0) := fun x hx => by
  rw [(List.mem_replicate.1 hx).2, wid32]; decide
theorem W32.nil : W32 [] := fun x hx => by cases hx
theorem fl_len {xs : List Nat} {m : Nat} (h : xs.length = m) : (fl xs).length = m := by rw [fl_length, h]
theorem wid_lt {x : Nat} (h : x < wid .f32) : x < 4294967296 := by rw [wid32] at h; exact h
theorem lt_wid {x : Nat} (h : x < 4294967296) : x < wid .f32 := by rw [wid32]; exact h

section
variable {P : Program} {n : Nat} {ρ : Env} {w : World} {dst : Option Tmp} {ty : TypeId} {pos : String} {af : Array Edge} {g : Option (Nat × Bool)}

theorem madeFloats (m : Nat) : (madeCells (Value.float .f32 0).cells m).toList = fl (List.replicate m 0) := by
  apply List.ext_getElem?
  intro i
  unfold madeCells
  have hc : (Value.float .f32 0).cells = #[.float .f32 0] := rfl
  rw [hc]
  by_cases h : i < m
  · simp [fl, h, Nat.mod_one]
  · simp [fl, h]

/-- 'make([]float32, n)' -/
theorem op_makeF {t e m : Nat} {x y : Operand} {i : TypeInfo} {k k' : IntKind} {a b : Int} (hx : ev ρ x = some (.int k a)) (hy : ev ρ y = some (.int k' b)) (ha : a = (m : Int)) (hb : b = (m : Int))
    (ht : P.underlying t = some (.slice e)) (hi : P.info? e = some i) (hz : i.zero = some (.float .f32 0)) (hs : i.size = 1) (hby : i.bytes = 4) (hm : m ≤ 16777216) :
    Op1 P n ⟨dst, .makeSlice t x y, ty, pos, af, g⟩ ρ w (fun u w' => u = .slice (some ⟨w.heap.size, 0, none⟩) m m ∧ Row w' w.heap.size 0 (fl (List.replicate m 0)) ∧ Mod [] w w' ∧ w.heap.size < w'.heap.size) := by
  subst ha hb
  have hr := run_make (P := P) w t e i _ ht hi hz k k' m m (by omega) (by omega) (by rw [hby]; omega) (by omega)
  rw [Int.toNat_natCast, hs, Nat.mul_one] at hr
  refine op_run (v := .slice (some ⟨w.heap.size, 0, none⟩) m m) (w' := w.alloc (.cells (madeCells (Value.float .f32 0).cells m) e)) (fun a ha => ?_) ⟨rfl, ?_, Mod.alloc _ _, by simp⟩
  · simp only [execOp, ha.ev hx, ha.ev hy, Sem.run_bind, hr, Result.andThen_ok, Sem.run_pure]
  · rw [← madeFloats]; exact Row.new w _ e

/-- an empty slice literal -/
theorem op_emptySl {t e m : Nat} {ps : Array (Nat × Operand)} (hp : ps = #[]) (hu : ∀ w, (underlying t).run P w = .ok (.slice e) w) (hs : ∀ w, (sizeOf e).run P w = .ok m w) :
    Op1 P n ⟨dst, .buildSlice t 0 ps, ty, pos, af, g⟩ ρ w (fun u w' => u = .slice (some ⟨w.heap.size, 0, none⟩) 0 0 ∧ Row w' w.heap.size 0 [] ∧ Mod [] w w' ∧ w.heap.size < w'.heap.size) := by
  subst hp
  refine op_run (v := .slice (some ⟨w.heap.size, 0, none⟩) 0 0) (w' := w.alloc (.cells #[] e)) (fun a ha => ?_) ⟨rfl, Row.new w #[] e, Mod.alloc _ _, by simp⟩
  simp [execOp, Instr.buildSlice, hu, hs, Instr.fill, newRow, Array.range_zero']

/-- 'append(empty, xs...)' -/
theorem op_appendF {t e b m c b0 o0 : Nat} {x y : Operand} {i : TypeInfo} {xs : List Nat} (hx : ev ρ x = some (.slice (some ⟨b0, o0, none⟩) 0 0)) (hy : ev ρ y = some (.slice (some ⟨b, 0, none⟩) m c))
    (ht : P.underlying t = some (.slice e)) (hi : P.info? e = some i) (hz : i.zero = some (.float .f32 0)) (hs : i.size = 1) (hby : i.bytes = 4)
    (hr : Rng w b 0 (fl xs)) (hl : xs.length = m) (h0 : 0 < m) (hm : m ≤ 16777216) :
    Op1 P n ⟨dst, .call { callee := .builtin .append, args := #[x, y], argTypes := #[t, t] }, ty, pos, af, g⟩ ρ w
      (fun u w' => ∃ b' c', u = .slice (some ⟨b', 0, none⟩) m c' ∧ w.heap.size ≤ b' ∧ Row w' b' 0 (fl xs) ∧ Mod [] w w') := by
  have hnews : ∀ j v, (fl xs)[j]? = some v → w.cell? ((⟨b, 0, none⟩ : Addr).add j) = some v := fun j v hv => by rw [addr_add]; exact hr j v hv
  have hc : Builtin.nextslicecap (0 + m) 0 * i.bytes ≤ 281474976710656 := by rw [Nat.zero_add, nextslicecap_zero h0, hby]; omega
  have h1 := run_append_grow (P := P) w t ty e i _ ht hi hz ⟨b0, o0, none⟩ 0 0 [] (by simp) (by simp) ⟨b, 0, none⟩ m c (fl xs) (by rw [fl_len hl, hs, Nat.mul_one]) hnews (by omega) (by omega) hc
  rw [Nat.zero_add] at h1
  refine op_run (v := .slice (some ⟨w.heap.size, 0, none⟩) m (grownCap w m 0 e)) (w' := w.drew.alloc (.cells ((#[] : Array Value) ++ (fl xs).toArray ++ Builtin.zeroCells (Value.float .f32 0).cells (grownCap w m 0 e - m)) e)) (fun a ha => ?_) ⟨w.heap.size, _, rfl, Nat.le_refl _, ?_, ?_⟩
  · simp only [execOp, resolve, invoke, builtin, List.map_toArray, List.map_cons, List.map_nil, ha.ev hx, ha.ev hy, Sem.run_bind, Sem.run_pure, Result.andThen_ok, h1]
  · have := (Row.new w.drew ((#[] : Array Value) ++ (fl xs).toArray ++ Builtin.zeroCells (Value.float .f32 0).cells (grownCap w m 0 e - m)) e).take m
    refine this.congr ?_
    simp [fl_len hl]
  · exact ((Mod.refl [] w).drew).trans (Mod.alloc _ _)

theorem op_sl_nil {t u e l c l' c' : Nat} {x y : Operand} {a : Addr} (hx : ev ρ x = some (.slice (some a) l c)) (hy : ev ρ y = some (.slice none l' c')) (ht : P.underlying t = some (.slice e)) :
    Op1 P n ⟨dst, .binOp .eql t x y u, ty, pos, af, g⟩ ρ w (Det (.bool false) w) :=
  op_bin hx hy guard_slice (Lib.run_eql_slice_nil w t e (some a) l c l' c' ht)
theorem op_sl_isnil {t u e l c l' c' : Nat} {x y : Operand} (hx : ev ρ x = some (.slice none l c)) (hy : ev ρ y = some (.slice none l' c')) (ht : P.underlying t = some (.slice e)) :
    Op1 P n ⟨dst, .binOp .eql t x y u, ty, pos, af, g⟩ ρ w (Det (.bool true) w) :=
  op_bin hx hy guard_slice (Lib.run_eql_slice_nil w t e none l c l' c' ht)
end
end Go.Proofs.Ytemnjphnhmbddaa
