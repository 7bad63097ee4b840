/- The engine of this claim's walks, sixth part: new slices, appends, and short facts that printed walks name. -/
import Derived.Test.YteonmpphpeopiaaDoorE5
namespace Go.Proofs.YteonmpphpeopiaaDoor

theorem allow1 {S : List Nat} {n b : Nat} (h : b ∈ S ∨ n ≤ b) : ∀ x, x ∈ [b] → x ∈ S ∨ n ≤ x := fun x hx => by
  have : x = b := by simpa using hx
  subst this; exact h
theorem allow2 {S : List Nat} {n b c : Nat} (h : b ∈ S ∨ n ≤ b) (h2 : c ∈ S ∨ n ≤ c) : ∀ x, x ∈ [b, c] → x ∈ S ∨ n ≤ x := fun x hx => by
  rcases List.mem_cons.1 hx with rfl | hx
  · exact h
  · exact allow1 h2 x hx
theorem allow3 {S : List Nat} {n b c d : Nat} (h : b ∈ S ∨ n ≤ b) (h2 : c ∈ S ∨ n ≤ c) (h3 : d ∈ S ∨ n ≤ d) : ∀ x, x ∈ [b, c, d] → x ∈ S ∨ n ≤ x := fun x hx => by
  rcases List.mem_cons.1 hx with rfl | hx
  · exact h
  · exact allow2 h2 h3 x hx

theorem W32.zeros (n : Nat) : W32 (List.replicate n 0) := fun x hx => by
  rw [(List.mem_replicate.1 hx).2, wid32]; decide
theorem W32.nil : W32 [] := fun x hx => by cases hx
theorem fl_len {xs : List Nat} {m : Nat} (h : xs.length = m) : (fl xs).length = m := by rw [fl_length, h]
theorem fl_whole {xs : List Nat} {m : Nat} (h : xs.length = m) : ((fl xs).drop 0).take m = fl xs := by
  rw [List.drop_zero, List.take_of_length_le]; rw [fl_length, h]; exact Nat.le_refl _
theorem fl_one (xs : List Nat) : (fl xs).all Value.oneCell' = true := by
  rw [List.all_eq_true]; intro v hv
  obtain ⟨x, _, rfl⟩ := List.mem_map.1 hv
  rfl
theorem splice_all {vs cs : List Value} (h : vs.length = cs.length) : splice vs 0 cs = cs := by
  unfold splice
  rw [List.take_zero, Nat.zero_add, List.drop_eq_nil_of_le (by omega)]; simp
theorem set_here {vs : List Value} {i : Nat} {v : Value} (h : i < vs.length) : (vs.set i v)[i]? = some v := by simp [h]
theorem set_other {vs : List Value} {i j : Nat} {u v : Value} (h : i ≠ j) (hu : vs[j]? = some u) : (vs.set i v)[j]? = some u := by
  rw [List.getElem?_set_ne h]; exact hu
theorem quo_nat {a b : Nat} (h : a ≤ 9223372036854775807) : IntKind.i64.wrap ((a : Int).tdiv (b : Int)) = ((a / b : Nat) : Int) := by
  have h1 : ((a : Int).tdiv (b : Int)) = ((a / b : Nat) : Int) := rfl
  rw [h1]
  have h2 : ((a / b : Nat) : Int) ≤ a := Int.ofNat_le.2 (Nat.div_le_self a b)
  have h3 : (0 : Int) ≤ ((a / b : Nat) : Int) := Int.natCast_nonneg _
  exact w_i64 (by omega) (by omega)
theorem nearest_lt (k : FloatKind) (i : Int) : k.nearest i < wid k := by unfold FloatKind.nearest FloatKind.encode wid; exact Ieee.Format.write_lt k.format _
theorem wid_lt {x : Nat} (h : x < wid .f32) : x < 4294967296 := by rw [wid32] at h; exact h
theorem lt_wid {x : Nat} (h : x < 4294967296) : x < wid .f32 := by rw [wid32]; exact h

section
variable {P : Program} {n : Nat} {ρ : Env} {w : World} {dst : Option Tmp} {ty : TypeId} {pos : String} {af : Array Edge} {g : Option (Nat × Bool)}

theorem madeFloats (m : Nat) : (madeCells (Value.float .f32 0).cells m).toList = fl (List.replicate m 0) := by
  apply List.ext_getElem?
  intro i
  unfold madeCells
  have hc : (Value.float .f32 0).cells = #[.float .f32 0] := rfl
  rw [hc]
  by_cases h : i < m
  · simp [fl, h, Nat.mod_one]
  · simp [fl, h]

/-- 'make([]float32, n)' -/
theorem op_makeF {t e m : Nat} {x y : Operand} {i : TypeInfo} {k k' : IntKind} {a b : Int} (hx : ev ρ x = some (.int k a)) (hy : ev ρ y = some (.int k' b)) (ha : a = (m : Int)) (hb : b = (m : Int))
    (ht : P.underlying t = some (.slice e)) (hi : P.info? e = some i) (hz : i.zero = some (.float .f32 0)) (hs : i.size = 1) (hby : i.bytes = 4) (hm : m ≤ 16777216) :
    Op1 P n ⟨dst, .makeSlice t x y, ty, pos, af, g⟩ ρ w (fun u w' => u = .slice (some ⟨w.heap.size, 0, none⟩) m m ∧ Row w' w.heap.size 0 (fl (List.replicate m 0)) ∧ Mod [] w w' ∧ w.heap.size < w'.heap.size) := by
  subst ha hb
  have hr := run_make (P := P) w t e i _ ht hi hz k k' m m (by omega) (by omega) (by rw [hby]; omega) (by omega)
  rw [Int.toNat_natCast, hs, Nat.mul_one] at hr
  refine op_run (v := .slice (some ⟨w.heap.size, 0, none⟩) m m) (w' := w.alloc (.cells (madeCells (Value.float .f32 0).cells m) e)) (fun a ha => ?_) ⟨rfl, ?_, Mod.alloc _ _, by simp⟩
  · simp only [execOp, ha.ev hx, ha.ev hy, Sem.run_bind, hr, Result.andThen_ok, Sem.run_pure]
  · rw [← madeFloats]; exact Row.new w _ e

/-- an empty slice literal -/
theorem op_emptySl {t e m : Nat} {ps : Array (Nat × Operand)} (hp : ps = #[]) (hu : ∀ w, (underlying t).run P w = .ok (.slice e) w) (hs : ∀ w, (sizeOf e).run P w = .ok m w) :
    Op1 P n ⟨dst, .buildSlice t 0 ps, ty, pos, af, g⟩ ρ w (fun u w' => u = .slice (some ⟨w.heap.size, 0, none⟩) 0 0 ∧ Row w' w.heap.size 0 [] ∧ Mod [] w w' ∧ w.heap.size < w'.heap.size) := by
  subst hp
  refine op_run (v := .slice (some ⟨w.heap.size, 0, none⟩) 0 0) (w' := w.alloc (.cells #[] e)) (fun a ha => ?_) ⟨rfl, Row.new w #[] e, Mod.alloc _ _, by simp⟩
  simp [execOp, Instr.buildSlice, hu, hs, Instr.fill, newRow, Array.range_zero']

/-- 'append(empty, xs...)' -/
theorem op_appendF {t e b m c b0 o0 : Nat} {x y : Operand} {i : TypeInfo} {xs : List Nat} (hx : ev ρ x = some (.slice (some ⟨b0, o0, none⟩) 0 0)) (hy : ev ρ y = some (.slice (some ⟨b, 0, none⟩) m c))
    (ht : P.underlying t = some (.slice e)) (hi : P.info? e = some i) (hz : i.zero = some (.float .f32 0)) (hs : i.size = 1) (hby : i.bytes = 4)
    (hr : Rng w b 0 (fl xs)) (hl : xs.length = m) (h0 : 0 < m) (hm : m ≤ 16777216) :
    Op1 P n ⟨dst, .call { callee := .builtin .append, args := #[x, y], argTypes := #[t, t] }, ty, pos, af, g⟩ ρ w
      (fun u w' => ∃ b' c', u = .slice (some ⟨b', 0, none⟩) m c' ∧ w.heap.size ≤ b' ∧ Row w' b' 0 (fl xs) ∧ Mod [] w w') := by
  have hnews : ∀ j v, (fl xs)[j]? = some v → w.cell? ((⟨b, 0, none⟩ : Addr).add j) = some v := fun j v hv => by rw [addr_add]; exact hr j v hv
  have hc : Builtin.nextslicecap (0 + m) 0 * i.bytes ≤ 281474976710656 := by rw [Nat.zero_add, nextslicecap_zero h0, hby]; omega
  have h1 := run_append_grow (P := P) w t ty e i _ ht hi hz ⟨b0, o0, none⟩ 0 0 [] (by simp) (by simp) ⟨b, 0, none⟩ m c (fl xs) (by rw [fl_len hl, hs, Nat.mul_one]) hnews (by omega) (by omega) hc
  rw [Nat.zero_add] at h1
  refine op_run (v := .slice (some ⟨w.heap.size, 0, none⟩) m (grownCap w m 0 e)) (w' := w.drew.alloc (.cells ((#[] : Array Value) ++ (fl xs).toArray ++ Builtin.zeroCells (Value.float .f32 0).cells (grownCap w m 0 e - m)) e)) (fun a ha => ?_) ⟨w.heap.size, _, rfl, Nat.le_refl _, ?_, ?_⟩
  · simp only [execOp, resolve, invoke, builtin, List.map_toArray, List.map_cons, List.map_nil, ha.ev hx, ha.ev hy, Sem.run_bind, Sem.run_pure, Result.andThen_ok, h1]
  · have := (Row.new w.drew ((#[] : Array Value) ++ (fl xs).toArray ++ Builtin.zeroCells (Value.float .f32 0).cells (grownCap w m 0 e - m)) e).take m
    refine this.congr ?_
    simp [fl_len hl]
  · exact ((Mod.refl [] w).drew).trans (Mod.alloc _ _)

theorem op_sl_nil {t u e l c l' c' : Nat} {x y : Operand} {a : Addr} (hx : ev ρ x = some (.slice (some a) l c)) (hy : ev ρ y = some (.slice none l' c')) (ht : P.underlying t = some (.slice e)) :
    Op1 P n ⟨dst, .binOp .eql t x y u, ty, pos, af, g⟩ ρ w (Det (.bool false) w) :=
  op_bin hx hy guard_slice (Lib.run_eql_slice_nil w t e (some a) l c l' c' ht)
theorem op_sl_notnil {t u e l c l' c' : Nat} {x y : Operand} {a : Addr} (hx : ev ρ x = some (.slice (some a) l c)) (hy : ev ρ y = some (.slice none l' c')) (ht : P.underlying t = some (.slice e)) :
    Op1 P n ⟨dst, .binOp .neq t x y u, ty, pos, af, g⟩ ρ w (Det (.bool true) w) :=
  op_bin hx hy guard_slice (run_neq_slice_nil_any w t e (some a) l c l' c' ht)
theorem op_sl_isnil {t u e l c l' c' : Nat} {x y : Operand} (hx : ev ρ x = some (.slice none l c)) (hy : ev ρ y = some (.slice none l' c')) (ht : P.underlying t = some (.slice e)) :
    Op1 P n ⟨dst, .binOp .eql t x y u, ty, pos, af, g⟩ ρ w (Det (.bool true) w) :=
  op_bin hx hy guard_slice (Lib.run_eql_slice_nil w t e none l c l' c' ht)
theorem op_sl_isnotnil {t u e l c l' c' : Nat} {x y : Operand} (hx : ev ρ x = some (.slice none l c)) (hy : ev ρ y = some (.slice none l' c')) (ht : P.underlying t = some (.slice e)) :
    Op1 P n ⟨dst, .binOp .neq t x y u, ty, pos, af, g⟩ ρ w (Det (.bool false) w) :=
  op_bin hx hy guard_slice (run_neq_slice_nil_any w t e none l c l' c' ht)

end
end Go.Proofs.YteonmpphpeopiaaDoor
