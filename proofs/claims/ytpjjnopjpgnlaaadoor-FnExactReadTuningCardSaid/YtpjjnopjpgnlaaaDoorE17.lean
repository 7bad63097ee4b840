/- The engine of this claim's walks, seventeenth part: slices that are appended to, one by one, at places that are told. -/
import Derived.Test.YtpjjnopjpgnlaaaDoorE16
import Derived.Maps.AppendAt
import Derived.Deep.Upon
namespace Go.Proofs.YtpjjnopjpgnlaaaDoor

section
variable {e : TypeId} {m lo : Nat} {w w' : World} {A : Option Addr} {n c b : Nat} {xs : List Value}
end

section
variable {P : Program} {n : Nat} {ρ : Env} {w : World} {dst : Option Tmp} {ty : TypeId} {pos : String} {af : Array Edge} {g : Option (Nat × Bool)}
/-- the first elements -/
theorem op_app0 {t e b o m bt c' q : Nat} {x y : Operand} {i : TypeInfo} {z : Value} {A : Option Addr} {news : List Value} (hA : A = none ∨ ∃ g, A = some ⟨g, 0, none⟩) (hx : ev ρ x = some (.slice A 0 0)) (hy : ev ρ y = some (.slice (some ⟨b, o, none⟩) (q + 1) c'))
    (ht : P.underlying t = some (.slice e)) (hi : P.info? e = some i) (hz : i.zero = some z) (hs : i.size = m) (hby : i.bytes = bt) (hzs : z.cells.size = m) (hm : 0 < m)
    (hr : Rng w b o news) (hl : news.length = (q + 1) * m) (h1 : news.all Value.oneCell' = true) (hq : q ≤ 4096) (hbt : bt ≤ 4096) :
    Op1 P n ⟨dst, .call { callee := .builtin .append, args := #[x, y], argTypes := #[t, t] }, ty, pos, af, g⟩ ρ w
      (fun u w' => ∃ b' c', u = .slice (some ⟨b', 0, none⟩) (q + 1) c' ∧ Own e m w.heap.size w' (some ⟨b', 0, none⟩) (q + 1) c' news ∧ w.heap.size ≤ b' ∧ Mod [] w w') := by
  have hnews : ∀ j v, news[j]? = some v → w.cell? ((⟨b, o, none⟩ : Addr).add j) = some v := fun j v hv => by rw [addr_add]; exact hr j v hv
  have hone : ∀ u ∈ news, u.oneCell' = true := fun u hu => List.all_eq_true.1 h1 u hu
  have hmx : 0 + (q + 1) ≤ maxLen := by simp only [maxLen]; omega
  have hbb : (0 + (q + 1)) * bt ≤ 140737488355328 := Nat.le_trans (Nat.mul_le_mul_left _ hbt) (by omega)
  have fin : ∀ v' w', (Builtin.append_ #[t, t] ty #[.slice A 0 0, .slice (some ⟨b, o, none⟩) (q + 1) c']).run P w = .ok v' w' →
      (∃ b' c', v' = .slice (some ⟨b', 0, none⟩) (q + 1) c' ∧ Own e m w.heap.size w' (some ⟨b', 0, none⟩) (q + 1) c' news ∧ w.heap.size ≤ b' ∧ Mod [] w w') →
      Op1 P n ⟨dst, .call { callee := .builtin .append, args := #[x, y], argTypes := #[t, t] }, ty, pos, af, g⟩ ρ w
      (fun u w' => ∃ b' c', u = .slice (some ⟨b', 0, none⟩) (q + 1) c' ∧ Own e m w.heap.size w' (some ⟨b', 0, none⟩) (q + 1) c' news ∧ w.heap.size ≤ b' ∧ Mod [] w w') := fun v' w' hrun hp =>
    op_run (fun a ha => by simp only [execOp, resolve, invoke, builtin, List.map_toArray, List.map_cons, List.map_nil, ha.ev hx, ha.ev hy, Sem.run_bind, Sem.run_pure, Result.andThen_ok, hrun]) hp
  rcases hA with rfl | ⟨g0, rfl⟩
  · obtain ⟨v', w', hrun, h2, h3, h4, h5⟩ := run_append_own_at (P := P) w w.heap.size t ty e i z m bt ht hi hz hs hby hzs hm (.slice none 0 0) 0 [] ⟨by simp, .inl ⟨rfl, rfl⟩⟩ ⟨b, o, none⟩ (q + 1) c' news hl hnews hone hmx hbb (Nat.le_refl _)
    refine fin v' w' hrun ?_
    rcases h2.2 with ⟨h6, h⟩ | ⟨g', cap, cur, rfl, a1, a2, a3, a4, a5, a6⟩
    · have := h4.1 h6; omega
    · rw [Nat.zero_add] at a3 a6
      refine ⟨g', cap, by rw [Nat.zero_add], ⟨by simpa using hl, .inr ⟨g', cur, rfl, a1, a2, a3, a4, a5, a6⟩⟩, a1, h3.os, h3.tape, h3.output, h3.size, fun j hj _ => h3.block j hj (by simp [Value.ownBlock])⟩
  · have hc : Builtin.nextslicecap (0 + (q + 1)) 0 * i.bytes ≤ 281474976710656 := by
      rw [Nat.zero_add, nextslicecap_zero (by omega), hby]
      exact Nat.le_trans (Nat.mul_le_mul_left _ hbt) (by omega)
    have hrun := run_append_grow (P := P) w t ty e i z ht hi hz ⟨g0, 0, none⟩ 0 0 [] (by simp) (by simp) ⟨b, o, none⟩ (q + 1) c' news (by rw [hl, hs]) hnews (by omega) (by omega) hc
    refine fin _ _ hrun ⟨w.heap.size, _, by rw [Nat.zero_add], ⟨hl, .inr ⟨w.heap.size, _, rfl, Nat.le_refl _, heap_alloc_new w.drew _, ?_, grownCap_le_maxLen w (0 + (q + 1)) 0 e hmx, ?_, ?_⟩⟩, Nat.le_refl _, (((Mod.refl [] w).drew).trans (Mod.alloc _ _)).wide (by simp)⟩
    · have := grownCap_ge w (0 + (q + 1)) 0 e
      simpa using this
    · have hge := grownCap_ge w (0 + (q + 1)) 0 e
      simp only [Array.size_append, List.size_toArray, size_zeroCells, hzs, hl, List.length_nil, Nat.zero_add]
      simp only [Nat.zero_add] at hge
      rw [Nat.sub_mul]
      have : (q + 1) * m ≤ grownCap w (q + 1) 0 e * m := Nat.mul_le_mul_right _ hge
      omega
    · simp only [Array.toList_append, List.nil_append]
      rw [← hl]; exact List.take_left

end
end Go.Proofs.YtpjjnopjpgnlaaaDoor
