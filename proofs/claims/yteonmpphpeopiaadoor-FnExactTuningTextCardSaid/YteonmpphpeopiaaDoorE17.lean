/- The engine of this claim's walks, seventeenth part: slices that are appended to, one by one, at places that are told. -/
import Derived.Test.YteonmpphpeopiaaDoorE16
import Derived.Maps.AppendAt
import Derived.Deep.Upon
namespace Go.Proofs.YteonmpphpeopiaaDoor

section
variable {e : TypeId} {m lo : Nat} {w w' : World} {A : Option Addr} {n c b : Nat} {xs : List Value}
theorem Own.modb {S : List Nat} (h : Own e m lo w (some ⟨b, 0, none⟩) n c xs) (k : Mod S w w') (hS : b ∉ S) : Own e m lo w' (some ⟨b, 0, none⟩) n c xs := by
  refine ⟨h.len, ?_⟩
  rcases h.own with h1 | ⟨g, cur, h1, h2, h3, h4⟩
  · exact .inl h1
  · obtain rfl : b = g := by simpa using h1
    refine .inr ⟨b, cur, rfl, h2, ?_, h4⟩
    rw [k.block b (Array.getElem?_eq_some_iff.1 h3).1 hS]
    exact h3
theorem Own.row1 (h : Own e m lo w (some ⟨b, 0, none⟩) (n + 1) c xs) : Row w b 0 xs ∧ lo ≤ b := by
  rcases h.own with ⟨h1, _⟩ | ⟨g, cur, h1, h2, h3, h4, _, h6, h7⟩
  · omega
  · obtain rfl : b = g := by simpa using h1
    refine ⟨⟨cur, e, h3, fun i v hv => ?_⟩, h2⟩
    rw [← h7, List.getElem?_take] at hv
    split at hv
    · simpa using hv
    · cases hv
end

section
variable {P : Program} {n : Nat} {ρ : Env} {w : World} {dst : Option Tmp} {ty : TypeId} {pos : String} {af : Array Edge} {g : Option (Nat × Bool)}
/-- the first elements -/
theorem op_app0 {t e b o m bt c' q : Nat} {x y : Operand} {i : TypeInfo} {z : Value} {A : Option Addr} {news : List Value} (hA : A = none ∨ ∃ g, A = some ⟨g, 0, none⟩) (hx : ev ρ x = some (.slice A 0 0)) (hy : ev ρ y = some (.slice (some ⟨b, o, none⟩) (q + 1) c'))
    (ht : P.underlying t = some (.slice e)) (hi : P.info? e = some i) (hz : i.zero = some z) (hs : i.size = m) (hby : i.bytes = bt) (hzs : z.cells.size = m) (hm : 0 < m)
    (hr : Rng w b o news) (hl : news.length = (q + 1) * m) (h1 : news.all Value.oneCell' = true) (hq : q ≤ 4096) (hbt : bt ≤ 4096) :
    Op1 P n ⟨dst, .call { callee := .builtin .append, args := #[x, y], argTypes := #[t, t] }, ty, pos, af, g⟩ ρ w
      (fun u w' => ∃ b' c', u = .slice (some ⟨b', 0, none⟩) (q + 1) c' ∧ Own e m w.heap.size w' (some ⟨b', 0, none⟩) (q + 1) c' news ∧ w.heap.size ≤ b' ∧ Mod [] w w') := by
  have hnews : ∀ j v, news[j]? = some v → w.cell? ((⟨b, o, none⟩ : Addr).add j) = some v := fun j v hv => by rw [addr_add]; exact hr j v hv
  have hone : ∀ u ∈ news, u.oneCell' = true := fun u hu => List.all_eq_true.1 h1 u hu
  have hmx : 0 + (q + 1) ≤ maxLen := by simp only [maxLen]; omega
  have hbb : (0 + (q + 1)) * bt ≤ 140737488355328 := Nat.le_trans (Nat.mul_le_mul_left _ hbt) (by omega)
  have fin : ∀ v' w', (Builtin.append_ #[t, t] ty #[.slice A 0 0, .slice (some ⟨b, o, none⟩) (q + 1) c']).run P w = .ok v' w' →
      (∃ b' c', v' = .slice (some ⟨b', 0, none⟩) (q + 1) c' ∧ Own e m w.heap.size w' (some ⟨b', 0, none⟩) (q + 1) c' news ∧ w.heap.size ≤ b' ∧ Mod [] w w') →
      Op1 P n ⟨dst, .call { callee := .builtin .append, args := #[x, y], argTypes := #[t, t] }, ty, pos, af, g⟩ ρ w
      (fun u w' => ∃ b' c', u = .slice (some ⟨b', 0, none⟩) (q + 1) c' ∧ Own e m w.heap.size w' (some ⟨b', 0, none⟩) (q + 1) c' news ∧ w.heap.size ≤ b' ∧ Mod [] w w') := fun v' w' hrun hp =>
    op_run (fun a ha => by simp only [execOp, resolve, invoke, builtin, List.map_toArray, List.map_cons, List.map_nil, ha.ev hx, ha.ev hy, Sem.run_bind, Sem.run_pure, Result.andThen_ok, hrun]) hp
  rcases hA with rfl | ⟨g0, rfl⟩
  · obtain ⟨v', w', hrun, h2, h3, h4, h5⟩ := run_append_own_at (P := P) w w.heap.size t ty e i z m bt ht hi hz hs hby hzs hm (.slice none 0 0) 0 [] ⟨by simp, .inl ⟨rfl, rfl⟩⟩ ⟨b, o, none⟩ (q + 1) c' news hl hnews hone hmx hbb (Nat.le_refl _)
    refine fin v' w' hrun ?_
    rcases h2.2 with ⟨h6, h⟩ | ⟨g', cap, cur, rfl, a1, a2, a3, a4, a5, a6⟩
    · have := h4.1 h6; omega
    · rw [Nat.zero_add] at a3 a6
      refine ⟨g', cap, by rw [Nat.zero_add], ⟨by simpa using hl, .inr ⟨g', cur, rfl, a1, a2, a3, a4, a5, a6⟩⟩, a1, h3.os, h3.tape, h3.output, h3.size, fun j hj _ => h3.block j hj (by simp [Value.ownBlock])⟩
  · have hc : Builtin.nextslicecap (0 + (q + 1)) 0 * i.bytes ≤ 281474976710656 := by
      rw [Nat.zero_add, nextslicecap_zero (by omega), hby]
      exact Nat.le_trans (Nat.mul_le_mul_left _ hbt) (by omega)
    have hrun := run_append_grow (P := P) w t ty e i z ht hi hz ⟨g0, 0, none⟩ 0 0 [] (by simp) (by simp) ⟨b, o, none⟩ (q + 1) c' news (by rw [hl, hs]) hnews (by omega) (by omega) hc
    refine fin _ _ hrun ⟨w.heap.size, _, by rw [Nat.zero_add], ⟨hl, .inr ⟨w.heap.size, _, rfl, Nat.le_refl _, heap_alloc_new w.drew _, ?_, grownCap_le_maxLen w (0 + (q + 1)) 0 e hmx, ?_, ?_⟩⟩, Nat.le_refl _, (((Mod.refl [] w).drew).trans (Mod.alloc _ _)).wide (by simp)⟩
    · have := grownCap_ge w (0 + (q + 1)) 0 e
      simpa using this
    · have hge := grownCap_ge w (0 + (q + 1)) 0 e
      simp only [Array.size_append, List.size_toArray, size_zeroCells, hzs, hl, List.length_nil, Nat.zero_add]
      simp only [Nat.zero_add] at hge
      rw [Nat.sub_mul]
      have : (q + 1) * m ≤ grownCap w (q + 1) 0 e * m := Nat.mul_le_mul_right _ hge
      omega
    · simp only [Array.toList_append, List.nil_append]
      rw [← hl]; exact List.take_left

/-- nothing is appended -/
theorem op_appN {t e b o c c' k : Nat} {x y : Operand} {i : TypeInfo} {A : Option Addr} (hx : ev ρ x = some (.slice A k c)) (hy : ev ρ y = some (.slice (some ⟨b, o, none⟩) 0 c')) (hk : k ≤ c)
    (ht : P.underlying t = some (.slice e)) (hi : P.info? e = some i) :
    Op1 P n ⟨dst, .call { callee := .builtin .append, args := #[x, y], argTypes := #[t, t] }, ty, pos, af, g⟩ ρ w (Det (.slice A k c) w) := by
  have hrun := run_append_nothing (P := P) w t t ty e i ht hi A k c hk _ (Src.ofSlice w (news := []) ht ⟨b, o, none⟩ 0 c' (by simp) (by simp) (by simp))
  exact op_run (fun a ha => by simp only [execOp, resolve, invoke, builtin, List.map_toArray, List.map_cons, List.map_nil, ha.ev hx, ha.ev hy, Sem.run_bind, Sem.run_pure, Result.andThen_ok, hrun]) ⟨rfl, rfl⟩

/-- further elements -/
theorem op_appk {t e b0 b o m bt c c' k q lo : Nat} {x y : Operand} {i : TypeInfo} {z : Value} {xs news : List Value} (hx : ev ρ x = some (.slice (some ⟨b0, 0, none⟩) (k + 1) c)) (hy : ev ρ y = some (.slice (some ⟨b, o, none⟩) (q + 1) c'))
    (ht : P.underlying t = some (.slice e)) (hi : P.info? e = some i) (hz : i.zero = some z) (hs : i.size = m) (hby : i.bytes = bt) (hzs : z.cells.size = m) (hm : 0 < m)
    (hr : Rng w b o news) (hl : news.length = (q + 1) * m) (h1 : news.all Value.oneCell' = true) (how : Own e m lo w (some ⟨b0, 0, none⟩) (k + 1) c xs) (hlo : lo ≤ w.heap.size) (hk : k ≤ 16777216) (hq : q ≤ 4096) (hbt : bt ≤ 4096) :
    Op1 P n ⟨dst, .call { callee := .builtin .append, args := #[x, y], argTypes := #[t, t] }, ty, pos, af, g⟩ ρ w
      (fun u w' => ∃ b' c', u = .slice (some ⟨b', 0, none⟩) (k + 1 + (q + 1)) c' ∧ Own e m lo w' (some ⟨b', 0, none⟩) (k + 1 + (q + 1)) c' (xs ++ news) ∧ (b' = b0 ∨ w.heap.size ≤ b') ∧ Mod [b0] w w') := by
  have hnews : ∀ j v, news[j]? = some v → w.cell? ((⟨b, o, none⟩ : Addr).add j) = some v := fun j v hv => by rw [addr_add]; exact hr j v hv
  have hone : ∀ u ∈ news, u.oneCell' = true := fun u hu => List.all_eq_true.1 h1 u hu
  have hmx : k + 1 + (q + 1) ≤ maxLen := by simp only [maxLen]; omega
  have hbb : (k + 1 + (q + 1)) * bt ≤ 140737488355328 := Nat.le_trans (Nat.mul_le_mul_left _ hbt) (by omega)
  obtain ⟨cur0, d1, d2, d3, d4, d5, d6⟩ : ∃ cur, lo ≤ b0 ∧ w.heap[b0]? = some (.cells cur e (0, 0)) ∧ k + 1 ≤ c ∧ c ≤ maxLen ∧ cur.size = c * m ∧ cur.toList.take ((k + 1) * m) = xs := by
    rcases how.own with ⟨h1, _⟩ | ⟨g, cur, h1, h2⟩
    · omega
    · obtain rfl : b0 = g := by simpa using h1
      exact ⟨cur, h2⟩
  obtain ⟨v', w', hrun, h2, h3, h4, h5⟩ := run_append_own_at (P := P) w lo t ty e i z m bt ht hi hz hs hby hzs hm (.slice (some ⟨b0, 0, none⟩) (k + 1) c) (k + 1) xs ⟨how.len, .inr ⟨b0, c, cur0, rfl, d1, d2, d3, d4, d5, d6⟩⟩ ⟨b, o, none⟩ (q + 1) c' news hl hnews hone hmx hbb hlo
  refine op_run (v := v') (w' := w') (fun a ha => by simp only [execOp, resolve, invoke, builtin, List.map_toArray, List.map_cons, List.map_nil, ha.ev hx, ha.ev hy, Sem.run_bind, Sem.run_pure, Result.andThen_ok, hrun]) ?_
  rcases h2.2 with ⟨h6, h⟩ | ⟨g', cap, cur, rfl, a1, a2, a3, a4, a5, a6⟩
  · have := h4.1 h6; omega
  · refine ⟨g', cap, rfl, ⟨h2.1, .inr ⟨g', cur, rfl, a1, a2, a3, a4, a5, a6⟩⟩, ?_, h3.os, h3.tape, h3.output, h3.size, fun j hj hn => h3.block j hj (by simp only [Value.ownBlock]; intro h; simp at h hn; exact hn h)⟩
    simp only [Value.ownBlock] at h5
    rcases h5 with h5 | h5
    · exact .inl (by simpa using h5)
    · exact .inr (by simp at h5; omega)
end
end Go.Proofs.YteonmpphpeopiaaDoor
