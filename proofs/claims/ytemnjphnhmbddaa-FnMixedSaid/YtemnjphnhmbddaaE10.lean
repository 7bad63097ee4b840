/- The engine of this claim's walks, tenth part: a part of a block whose other cells stay. -/
import Derived.Test.YtemnjphnhmbddaaE9
namespace Go.Proofs.Ytemnjphnhmbddaa

/-! short names, which keep printed walks small -/
abbrev vF (x : Nat) : Value := .float .f32 x
abbrev vI (x : Int) : Value := .int .i64 x
abbrev vP (b o : Nat) : Value := .pointer (some ⟨b, o, none⟩)
abbrev vS (b o n c : Nat) : Value := .slice (some ⟨b, o, none⟩) n c
theorem lT {a b c : Nat} (h : a ≤ b) (k : b ≤ c) : a ≤ c := Nat.le_trans h k
theorem lL {a b c : Nat} (h : a < b) (k : b ≤ c) : a < c := Nat.lt_of_lt_of_le h k
theorem lR {a : Nat} : a ≤ a := Nat.le_refl a
theorem lB {a b : Nat} (h : Nat.ble a b = true) : a ≤ b := Nat.le_of_ble_eq_true h

section
variable {vs cs new cs' : List Value} {k i m : Nat}

theorem sub_len (hk : k + cs.length ≤ vs.length) : (splice vs k cs).length = vs.length := by
  unfold splice
  simp only [List.length_append, List.length_take, List.length_drop]
  omega

theorem sub_get {v : Value} (hk : k + cs.length ≤ vs.length) (hv : cs[i]? = some v) : (splice vs k cs)[k + i]? = some v := by
  have hi : i < cs.length := (List.getElem?_eq_some_iff.1 hv).1
  unfold splice
  have h1 : (vs.take k).length = k := by rw [List.length_take]; omega
  rw [List.append_assoc, List.getElem?_append_right (by omega), h1, Nat.add_sub_cancel_left, List.getElem?_append_left hi]
  exact hv

theorem sub_drop (hk : k + cs.length ≤ vs.length) (hi : i ≤ cs.length) : (splice vs k cs).drop (k + i) = cs.drop i ++ vs.drop (k + cs.length) := by
  unfold splice
  have h1 : (vs.take k).length = k := by rw [List.length_take]; omega
  rw [List.append_assoc, ← List.drop_drop, List.drop_left' h1, List.drop_append_of_le_length hi]

theorem sub_take (hk : k + cs.length ≤ vs.length) (hi : i + m ≤ cs.length) (h : (cs.drop i).take m = new) : ((splice vs k cs).drop (k + i)).take m = new := by
  rw [sub_drop hk (by omega), List.take_append_of_le_length (by rw [List.length_drop]; omega)]
  exact h

theorem sub_put (hk : k + cs.length ≤ vs.length) (hi : i + new.length ≤ cs.length) (h : splice cs i new = cs') : splice (splice vs k cs) (k + i) new = splice vs k cs' := by
  subst h
  have h1 : (vs.take k).length = k := by rw [List.length_take]; omega
  have hc : (splice cs i new).length = cs.length := by
    unfold splice; simp only [List.length_append, List.length_take, List.length_drop]; omega
  have hd : (splice vs k cs).drop (k + i + new.length) = cs.drop (i + new.length) ++ vs.drop (k + cs.length) := by
    rw [Nat.add_assoc]; exact sub_drop hk (by omega)
  have ht : (splice vs k cs).take (k + i) = vs.take k ++ cs.take i := by
    unfold splice
    rw [List.append_assoc, List.take_append, h1, List.take_of_length_le (by omega), Nat.add_sub_cancel_left, List.take_append_of_le_length (by omega)]
  show (splice vs k cs).take (k + i) ++ new ++ (splice vs k cs).drop (k + i + new.length) = vs.take k ++ splice cs i new ++ vs.drop (k + (splice cs i new).length)
  rw [hc, hd, ht]
  unfold splice
  simp only [List.append_assoc]

theorem sub_same (hk : k + cs.length ≤ vs.length) (hi : i + new.length ≤ cs.length) (h : splice cs i new = cs) : splice vs k cs = splice (splice vs k cs) (k + i) new := (sub_put hk hi h).symm

theorem sub_fit (hk : k + cs.length ≤ vs.length) (hi : i + m ≤ cs.length) : k + i + m ≤ (splice vs k cs).length := by
  rw [sub_len hk]; omega

theorem Rng.sub {w : World} {p : Nat} (h : Rng w p 0 (splice vs k cs)) (hk : k + cs.length ≤ vs.length) : Rng w p k cs := fun i v hv => by
  have := h (k + i) v (sub_get hk hv)
  rwa [Nat.zero_add] at this

end
theorem Rng.youngS {S : List Nat} {w0 w w' : World} {b o : Nat} {vs : List Value} (h0 : Rng w0 b o vs) (h : Rng w b o vs) (m : Mod S w w') (hS : ∀ c, c ∈ S → w0.heap.size ≤ c) : Rng w' b o vs := fun i v hv => by
  have hlt := World.block_lt_of_cell? w0 _ (h0 i v hv)
  exact m.cell (h i v hv) fun hc => by
    have h1 := hS _ hc
    have h2 : b < w0.heap.size := hlt
    have h3 : w0.heap.size ≤ b := h1
    omega
section
variable {P : Program} {n : Nat} {ρ : Env} {w : World} {dst : Option Tmp} {ty : TypeId} {pos : String} {af : Array Edge} {g : Option (Nat × Bool)} {t u : Nat} {x y : Operand} {p : Bool}
end
theorem allge_nil {n : Nat} : ∀ x, x ∈ ([] : List Nat) → n ≤ x := fun x hx => by cases hx
theorem allge_cons {n b : Nat} {S : List Nat} (h : n ≤ b) (hs : ∀ x, x ∈ S → n ≤ x) : ∀ x, x ∈ b :: S → n ≤ x := fun x hx => by
  rcases List.mem_cons.1 hx with rfl | hx
  · exact h
  · exact hs x hx
theorem allow_nil {S : List Nat} {n : Nat} : ∀ x, x ∈ ([] : List Nat) → x ∈ S ∨ n ≤ x := fun x hx => by cases hx
theorem allow_cons {S T : List Nat} {n b : Nat} (h : b ∈ S ∨ n ≤ b) (hs : ∀ x, x ∈ T → x ∈ S ∨ n ≤ x) : ∀ x, x ∈ b :: T → x ∈ S ∨ n ≤ x := fun x hx => by
  rcases List.mem_cons.1 hx with rfl | hx
  · exact h
  · exact hs x hx
theorem notin_nil {b : Nat} : b ∉ ([] : List Nat) := fun h => by cases h
theorem notin_cons {b c : Nat} {S : List Nat} (h : b ≠ c) (hs : b ∉ S) : b ∉ c :: S := fun hm => by
  rcases List.mem_cons.1 hm with rfl | hm
  · exact h rfl
  · exact hs hm

theorem Mod.nt {S : List Nat} {a b c : World} (h : Mod S a b) (k : Mod [] b c) : Mod S a c := h.nil_then k
theorem aN {S : List Nat} {n : Nat} : ∀ x, x ∈ ([] : List Nat) → x ∈ S ∨ n ≤ x := allow_nil
theorem aC {S T : List Nat} {n b : Nat} (h : b ∈ S ∨ n ≤ b) (hs : ∀ x, x ∈ T → x ∈ S ∨ n ≤ x) : ∀ x, x ∈ b :: T → x ∈ S ∨ n ≤ x := allow_cons h hs
theorem nN {b : Nat} : b ∉ ([] : List Nat) := notin_nil
theorem nC {b c : Nat} {S : List Nat} (h : b ≠ c) (hs : b ∉ S) : b ∉ c :: S := notin_cons h hs
theorem lE {a b : Nat} (h : a < b) : a ≠ b := Nat.ne_of_lt h
theorem lG {a b : Nat} (h : b < a) : a ≠ b := Nat.ne_of_gt h

/-! ### Lists that are overwritten from the front -/
def over (f : Nat → Nat) (bs : List Nat) (i : Nat) : List Nat := (List.range i).map f ++ bs.drop i
end Go.Proofs.Ytemnjphnhmbddaa
