/- The engine of this claim's walks, tenth part: a part of a block whose other cells stay. -/
import Derived.Test.YtabfdgpldcegiaaE9
namespace Go.Proofs.Ytabfdgpldcegiaa

section
variable {vs cs new cs' : List Value} {k i m : Nat}

theorem sub_len (hk : k + cs.length ≤ vs.length) : (splice vs k cs).length = vs.length := by
  unfold splice
  simp only [List.length_append, List.length_take, List.length_drop]
  omega

theorem sub_get {v : Value} (hk : k + cs.length ≤ vs.length) (hv : cs[i]? = some v) : (splice vs k cs)[k + i]? = some v := by
  have hi : i < cs.length := (List.getElem?_eq_some_iff.1 hv).1
  unfold splice
  have h1 : (vs.take k).length = k := by rw [List.length_take]; omega
  rw [List.append_assoc, List.getElem?_append_right (by omega), h1, Nat.add_sub_cancel_left, List.getElem?_append_left hi]
  exact hv

theorem sub_get0 {v : Value} (hk : k + cs.length ≤ vs.length) (hv : cs[0]? = some v) : (splice vs k cs)[k]? = some v := sub_get (i := 0) hk hv

theorem sub_drop (hk : k + cs.length ≤ vs.length) (hi : i ≤ cs.length) : (splice vs k cs).drop (k + i) = cs.drop i ++ vs.drop (k + cs.length) := by
  unfold splice
  have h1 : (vs.take k).length = k := by rw [List.length_take]; omega
  rw [List.append_assoc, ← List.drop_drop, List.drop_left' h1, List.drop_append_of_le_length hi]

theorem sub_take (hk : k + cs.length ≤ vs.length) (hi : i + m ≤ cs.length) (h : (cs.drop i).take m = new) : ((splice vs k cs).drop (k + i)).take m = new := by
  rw [sub_drop hk (by omega), List.take_append_of_le_length (by rw [List.length_drop]; omega)]
  exact h

theorem sub_put (hk : k + cs.length ≤ vs.length) (hi : i + new.length ≤ cs.length) (h : splice cs i new = cs') : splice (splice vs k cs) (k + i) new = splice vs k cs' := by
  subst h
  have h1 : (vs.take k).length = k := by rw [List.length_take]; omega
  have hc : (splice cs i new).length = cs.length := by
    unfold splice; simp only [List.length_append, List.length_take, List.length_drop]; omega
  have hd : (splice vs k cs).drop (k + i + new.length) = cs.drop (i + new.length) ++ vs.drop (k + cs.length) := by
    rw [Nat.add_assoc]; exact sub_drop hk (by omega)
  have ht : (splice vs k cs).take (k + i) = vs.take k ++ cs.take i := by
    unfold splice
    rw [List.append_assoc, List.take_append, h1, List.take_of_length_le (by omega), Nat.add_sub_cancel_left, List.take_append_of_le_length (by omega)]
  show (splice vs k cs).take (k + i) ++ new ++ (splice vs k cs).drop (k + i + new.length) = vs.take k ++ splice cs i new ++ vs.drop (k + (splice cs i new).length)
  rw [hc, hd, ht]
  unfold splice
  simp only [List.append_assoc]

theorem sub_same (hk : k + cs.length ≤ vs.length) (hi : i + new.length ≤ cs.length) (h : splice cs i new = cs) : splice vs k cs = splice (splice vs k cs) (k + i) new := (sub_put hk hi h).symm

theorem sub_fit (hk : k + cs.length ≤ vs.length) (hi : i + m ≤ cs.length) : k + i + m ≤ (splice vs k cs).length := by
  rw [sub_len hk]; omega

theorem Rng.sub {w : World} {p : Nat} (h : Rng w p 0 (splice vs k cs)) (hk : k + cs.length ≤ vs.length) : Rng w p k cs := fun i v hv => by
  have := h (k + i) v (sub_get hk hv)
  rwa [Nat.zero_add] at this

end
end Go.Proofs.Ytabfdgpldcegiaa
