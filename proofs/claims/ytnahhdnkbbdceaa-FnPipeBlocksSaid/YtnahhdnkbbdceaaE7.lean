/- The engine of this claim's walks, sixth part: new slices, appends, and short facts that printed walks name. -/
import Derived.Test.YtnahhdnkbbdceaaE22
namespace Go.Proofs.Ytnahhdnkbbdceaa

theorem W32.zeros (n : Nat) : W32 (List.replicate n 0) := fun x hx => by
  rw [(List.mem_replicate.1 hx).2, wid32]; decide
theorem W32.nil : W32 [] := fun x hx => by cases hx
theorem fl_len {xs : List Nat} {m : Nat} (h : xs.length = m) : (fl xs).length = m := by rw [fl_length, h]
theorem fl_whole {xs : List Nat} {m : Nat} (h : xs.length = m) : ((fl xs).drop 0).take m = fl xs := by
  rw [List.drop_zero, List.take_of_length_le]; rw [fl_length, h]; exact Nat.le_refl _
theorem fl_one (xs : List Nat) : (fl xs).all Value.oneCell' = true := by
  rw [List.all_eq_true]; intro v hv
  obtain ⟨x, _, rfl⟩ := List.mem_map.1 hv
  rfl
theorem splice_all {vs cs : List Value} (h : vs.length = cs.length) : splice vs 0 cs = cs := by
  unfold splice
  rw [List.take_zero, Nat.zero_add, List.drop_eq_nil_of_le (by omega)]; simp
theorem wid_lt {x : Nat} (h : x < wid .f32) : x < 4294967296 := by rw [wid32] at h; exact h
section
variable {P : Program} {n : Nat} {ρ : Env} {w : World} {dst : Option Tmp} {ty : TypeId} {pos : String} {af : Array Edge} {g : Option (Nat × Bool)}

theorem madeFloats (m : Nat) : (madeCells (Value.float .f32 0).cells m).toList = fl (List.replicate m 0) := by
  apply List.ext_getElem?
  intro i
  unfold madeCells
  have hc : (Value.float .f32 0).cells = #[.float .f32 0] := rfl
  rw [hc]
  by_cases h : i < m
  · simp [fl, h, Nat.mod_one]
  · simp [fl, h]

/-- 'make([]float32, n)' -/
theorem op_makeF {t e m : Nat} {x y : Operand} {i : TypeInfo} {k k' : IntKind} {a b : Int} (hx : ev ρ x = some (.int k a)) (hy : ev ρ y = some (.int k' b)) (ha : a = (m : Int)) (hb : b = (m : Int))
    (ht : P.underlying t = some (.slice e)) (hi : P.info? e = some i) (hz : i.zero = some (.float .f32 0)) (hs : i.size = 1) (hby : i.bytes = 4) (hm : m ≤ 16777216) :
    Op1 P n ⟨dst, .makeSlice t x y, ty, pos, af, g⟩ ρ w (fun u w' => u = .slice (some ⟨w.heap.size, 0, none⟩) m m ∧ Row w' w.heap.size 0 (fl (List.replicate m 0)) ∧ Mod [] w w' ∧ w.heap.size < w'.heap.size) := by
  subst ha hb
  have hr := run_make (P := P) w t e i _ ht hi hz k k' m m (by omega) (by omega) (by rw [hby]; omega) (by omega)
  rw [Int.toNat_natCast, hs, Nat.mul_one] at hr
  refine op_run (v := .slice (some ⟨w.heap.size, 0, none⟩) m m) (w' := w.alloc (.cells (madeCells (Value.float .f32 0).cells m) e)) (fun a ha => ?_) ⟨rfl, ?_, Mod.alloc _ _, by simp⟩
  · simp only [execOp, ha.ev hx, ha.ev hy, Sem.run_bind, hr, Result.andThen_ok, Sem.run_pure]
  · rw [← madeFloats]; exact Row.new w _ e

/-- an empty slice literal -/
theorem op_emptySl {t e m : Nat} {ps : Array (Nat × Operand)} (hp : ps = #[]) (hu : ∀ w, (underlying t).run P w = .ok (.slice e) w) (hs : ∀ w, (sizeOf e).run P w = .ok m w) :
    Op1 P n ⟨dst, .buildSlice t 0 ps, ty, pos, af, g⟩ ρ w (fun u w' => u = .slice (some ⟨w.heap.size, 0, none⟩) 0 0 ∧ Row w' w.heap.size 0 [] ∧ Mod [] w w' ∧ w.heap.size < w'.heap.size) := by
  subst hp
  refine op_run (v := .slice (some ⟨w.heap.size, 0, none⟩) 0 0) (w' := w.alloc (.cells #[] e)) (fun a ha => ?_) ⟨rfl, Row.new w #[] e, Mod.alloc _ _, by simp⟩
  simp [execOp, Instr.buildSlice, hu, hs, Instr.fill, newRow, Array.range_zero']

/-- 'append(empty, xs...)' -/
theorem op_appendF {t e b m c b0 o0 : Nat} {x y : Operand} {i : TypeInfo} {xs : List Nat} (hx : ev ρ x = some (.slice (some ⟨b0, o0, none⟩) 0 0)) (hy : ev ρ y = some (.slice (some ⟨b, 0, none⟩) m c))
    (ht : P.underlying t = some (.slice e)) (hi : P.info? e = some i) (hz : i.zero = some (.float .f32 0)) (hs : i.size = 1) (hby : i.bytes = 4)
    (hr : Rng w b 0 (fl xs)) (hl : xs.length = m) (h0 : 0 < m) (hm : m ≤ 16777216) :
    Op1 P n ⟨dst, .call { callee := .builtin .append, args := #[x, y], argTypes := #[t, t] }, ty, pos, af, g⟩ ρ w
      (fun u w' => ∃ b' c', u = .slice (some ⟨b', 0, none⟩) m c' ∧ w.heap.size ≤ b' ∧ Row w' b' 0 (fl xs) ∧ Mod [] w w') := by
  have hnews : ∀ j v, (fl xs)[j]? = some v → w.cell? ((⟨b, 0, none⟩ : Addr).add j) = some v := fun j v hv => by rw [addr_add]; exact hr j v hv
  have hc : Builtin.nextslicecap (0 + m) 0 * i.bytes ≤ 281474976710656 := by rw [Nat.zero_add, nextslicecap_zero h0, hby]; omega
  have h1 := run_append_grow (P := P) w t ty e i _ ht hi hz ⟨b0, o0, none⟩ 0 0 [] (by simp) (by simp) ⟨b, 0, none⟩ m c (fl xs) (by rw [fl_len hl, hs, Nat.mul_one]) hnews (by omega) (by omega) hc
  rw [Nat.zero_add] at h1
  refine op_run (v := .slice (some ⟨w.heap.size, 0, none⟩) m (grownCap w m 0 e)) (w' := w.drew.alloc (.cells ((#[] : Array Value) ++ (fl xs).toArray ++ Builtin.zeroCells (Value.float .f32 0).cells (grownCap w m 0 e - m)) e)) (fun a ha => ?_) ⟨w.heap.size, _, rfl, Nat.le_refl _, ?_, ?_⟩
  · simp only [execOp, resolve, invoke, builtin, List.map_toArray, List.map_cons, List.map_nil, ha.ev hx, ha.ev hy, Sem.run_bind, Sem.run_pure, Result.andThen_ok, h1]
  · have := (Row.new w.drew ((#[] : Array Value) ++ (fl xs).toArray ++ Builtin.zeroCells (Value.float .f32 0).cells (grownCap w m 0 e - m)) e).take m
    refine this.congr ?_
    simp [fl_len hl]
  · exact ((Mod.refl [] w).drew).trans (Mod.alloc _ _)

theorem op_sl_nil {t u e l c l' c' : Nat} {x y : Operand} {a : Addr} (hx : ev ρ x = some (.slice (some a) l c)) (hy : ev ρ y = some (.slice none l' c')) (ht : P.underlying t = some (.slice e)) :
    Op1 P n ⟨dst, .binOp .eql t x y u, ty, pos, af, g⟩ ρ w (Det (.bool false) w) :=
  op_bin hx hy guard_slice (Lib.run_eql_slice_nil w t e (some a) l c l' c' ht)
end
end Go.Proofs.Ytnahhdnkbbdceaa

/- The engine of this claim's walks, seventh part: comparisons whose answer is known, lists of words that are equal but for the payloads of NaNs, filling of lists. -/
namespace Go.Proofs.Ytnahhdnkbbdceaa

theorem w_nsub {l n : Nat} (h : n ≤ l) (hl : l ≤ 9223372036854775807) : IntKind.i64.wrap ((l : Int) - (n : Int)) = ((l - n : Nat) : Int) := by
  rw [show ((l : Int) - (n : Int)) = ((l - n : Nat) : Int) by omega]; exact w_i64 (by omega) (by omega)
theorem bnot_t {b : Bool} (h : b = true) : (!b) = false := by rw [h]; rfl
theorem bnot_f {b : Bool} (h : b = false) : (!b) = true := by rw [h]; rfl

section
variable {P : Program} {n : Nat} {ρ : Env} {w : World} {dst : Option Tmp} {ty : TypeId} {pos : String} {af : Array Edge} {g : Option (Nat × Bool)}
variable {t u : Nat} {x y : Operand} {k : IntKind} {i j r : Int}
theorem op_nei_f (hx : ev ρ x = some (.int k i)) (hy : ev ρ y = some (.int k j)) (h : i = j) : Op1 P n ⟨dst, .binOp .neq t x y u, ty, pos, af, g⟩ ρ w (Det (.bool false) w) := by
  have := op_nei (P := P) (n := n) (w := w) (dst := dst) (ty := ty) (pos := pos) (af := af) (g := g) (t := t) (u := u) hx hy
  rwa [show (i != j) = false by simpa using h] at this
end

/-! ### Lists of words -/

/-- the same words, but for the payloads of NaNs -/
def Cn (xs ys : List Nat) : Prop := xs.map (cn .f32) = ys.map (cn .f32)

theorem Cn.refl (xs : List Nat) : Cn xs xs := rfl
theorem Cn.symm {xs ys : List Nat} (h : Cn xs ys) : Cn ys xs := Eq.symm h
theorem Cn.trans {xs ys zs : List Nat} (h : Cn xs ys) (k : Cn ys zs) : Cn xs zs := Eq.trans h k
theorem Cn.len {xs ys : List Nat} (h : Cn xs ys) : xs.length = ys.length := by have := congrArg List.length h; simpa using this
theorem Cn.get {xs ys : List Nat} (h : Cn xs ys) (i : Nat) : cn .f32 (xs.getD i 0) = cn .f32 (ys.getD i 0) := by
  have h1 := congrArg (fun l => l.getD i (cn .f32 0)) h
  simpa [List.getD_eq_getElem?_getD, List.getElem?_map, Option.getD_map] using h1
theorem Cn.set {xs ys : List Nat} (h : Cn xs ys) {a b : Nat} (hab : cn .f32 a = cn .f32 b) (i : Nat) : Cn (xs.set i a) (ys.set i b) := by
  unfold Cn at *
  rw [List.map_set, List.map_set, h, hab]
theorem Cn.same {xs ys : List Nat} (h : Cn xs ys) (hx : W32 xs) (hy : W32 ys) (i : Nat) : sameF (wide (xs.getD i 0)) (wide (ys.getD i 0)) = true := by
  rw [sameF_wide (wid_lt (hx.get i)) (wid_lt (hy.get i)), h.get i]; simp
/-- the first `i` words of a list, then zeros -/
def fill (xs : List Nat) (i : Nat) : List Nat := xs.take i ++ List.replicate (xs.length - i) 0
/-- the first `i` words of a list are `k`, `k + 1`, ..., as words -/
def marks (xs : List Nat) (k i : Nat) : List Nat := (List.range i).map (fun j => FloatKind.f32.nearest ((k + j : Nat) : Int)) ++ xs.drop i
def Held (hs : List Nat) (k n : Nat) : Prop := ∀ i, i < n → hs.getD i 0 = FloatKind.f32.nearest ((k + i : Nat) : Int)
theorem isNaN_near (k : FloatKind) (i : Int) : isNaN k (k.nearest i) = false := by
  unfold isNaN FloatKind.nearest FloatKind.encode
  exact read_write_noNaN k.format rfl
theorem Held.eq {hs : List Nat} {k n i : Nat} (h : Held hs k n) (hi : i < n) : fEq .f32 (hs.getD i 0) (FloatKind.f32.nearest ((k + i : Nat) : Int)) = true := by
  rw [h i hi, fEq_self, isNaN_near]; rfl

/-! ### Ranges of whole numbers -/
def vIn (a b c : Int) : Bool := decide (b ≤ a) && decide (a ≤ c)
theorem vIn_t (a b c : Int) : vIn a b c = true ↔ b ≤ a ∧ a ≤ c := by simp [vIn]
theorem vIn_f (a b c : Int) : vIn a b c = false ↔ ¬ (b ≤ a ∧ a ≤ c) := by rw [← vIn_t]; simp

end Go.Proofs.Ytnahhdnkbbdceaa
