/- The engine of this claim's walks, eleventh part: slices that are appended to. -/
import Derived.Test.YtemnjphnhmbddaaE10
namespace Go.Proofs.Ytemnjphnhmbddaa

/-- A slice that is appended to: still without room, or at the front of a block that is younger than `lo`. -/
structure Own (e : TypeId) (m lo : Nat) (w : World) (A : Option Addr) (n c : Nat) (xs : List Value) : Prop where
  len : xs.length = n * m
  own : (n = 0 ∧ c = 0 ∧ (A = none ∨ ∃ g, A = some ⟨g, 0, none⟩)) ∨ ∃ g cur, A = some ⟨g, 0, none⟩ ∧ lo ≤ g ∧ w.heap[g]? = some (.cells cur e (0, 0)) ∧ n ≤ c ∧ c ≤ maxLen ∧ cur.size = c * m ∧ cur.toList.take (n * m) = xs

section
variable {e : TypeId} {m lo : Nat} {w w' : World} {A : Option Addr} {n c : Nat} {xs : List Value}

theorem Own.nil : Own e m lo w none 0 0 [] := ⟨by simp, .inl ⟨rfl, rfl, .inl rfl⟩⟩
theorem Own.emp {g : Nat} : Own e m lo w (some ⟨g, 0, none⟩) 0 0 [] := ⟨by simp, .inl ⟨rfl, rfl, .inr ⟨g, rfl⟩⟩⟩
theorem Own.congr {ys : List Value} (h : Own e m lo w A n c xs) (he : xs = ys) : Own e m lo w A n c ys := he ▸ h

theorem Own.mod {S : List Nat} (h : Own e m lo w A n c xs) (k : Mod S w w') (hS : ∀ x, x ∈ S → x < lo) : Own e m lo w' A n c xs := by
  refine ⟨h.len, ?_⟩
  rcases h.own with h1 | ⟨g, cur, h1, h2, h3, h4⟩
  · exact .inl h1
  · refine .inr ⟨g, cur, h1, h2, ?_, h4⟩
    rw [k.block g (Array.getElem?_eq_some_iff.1 h3).1 fun hm => absurd (hS g hm) (Nat.not_lt.2 h2)]
    exact h3
theorem Own.ext (h : Own e m lo w A n c xs) (k : Mod [] w w') : Own e m lo w' A n c xs := h.mod k fun x hx => by cases hx

theorem altN {k : Nat} : ∀ x, x ∈ ([] : List Nat) → x < k := fun x hx => by cases hx
theorem altC {k b : Nat} {S : List Nat} (h : b < k) (hs : ∀ x, x ∈ S → x < k) : ∀ x, x ∈ b :: S → x < k := fun x hx => by
  rcases List.mem_cons.1 hx with rfl | hx
  · exact h
  · exact hs x hx

/-- as a row; an empty one lies wherever there is a block -/
theorem Own.out {q : Nat} {vs : List Value} (h : Own e m lo w A n c xs) (hq : Row w q 0 vs) :
    ∃ b, (0 < n → A = some ⟨b, 0, none⟩) ∧ Row w b 0 xs ∧ (b = q ∨ lo ≤ b) := by
  rcases h.own with ⟨rfl, rfl, _⟩ | ⟨g, cur, rfl, h2, h3, h4, _, h6, h7⟩
  · have hx : xs = [] := List.eq_nil_of_length_eq_zero (by rw [h.len]; simp)
    subst hx
    obtain ⟨cur, t, k1, _⟩ := hq.ex
    exact ⟨q, fun h => absurd h (Nat.lt_irrefl _), ⟨cur, t, k1, fun i v hv => by simp at hv⟩, .inl rfl⟩
  · refine ⟨g, fun _ => rfl, ⟨cur, e, h3, fun i v hv => ?_⟩, .inr h2⟩
    rw [← h7, List.getElem?_take] at hv
    split at hv
    · simpa using hv
    · cases hv
theorem own_ge {b q k : Nat} (h : b = q ∨ lo ≤ b) (h1 : k ≤ q) (h2 : k ≤ lo) : k ≤ b := by rcases h with rfl | h <;> omega
end

section
variable {P : Program} {n : Nat} {ρ : Env} {w : World} {dst : Option Tmp} {ty : TypeId} {pos : String} {af : Array Edge} {g : Option (Nat × Bool)}

/-- one element is appended -/
theorem op_app {t e b o m bt c c' k lo : Nat} {x y : Operand} {i : TypeInfo} {z : Value} {A : Option Addr} {xs news : List Value} (hx : ev ρ x = some (.slice A k c)) (hy : ev ρ y = some (.slice (some ⟨b, o, none⟩) 1 c'))
    (ht : P.underlying t = some (.slice e)) (hi : P.info? e = some i) (hz : i.zero = some z) (hs : i.size = m) (hby : i.bytes = bt) (hzs : z.cells.size = m) (hm : 0 < m)
    (hr : Rng w b o news) (hl : news.length = m) (h1 : news.all Value.oneCell' = true) (how : Own e m lo w A k c xs) (hlo : lo ≤ w.heap.size) (hk : k ≤ 16777216) (hbt : bt ≤ 4096) :
    Op1 P n ⟨dst, .call { callee := .builtin .append, args := #[x, y], argTypes := #[t, t] }, ty, pos, af, g⟩ ρ w
      (fun u w' => ∃ A' c' h, u = .slice A' (k + 1) c' ∧ Own e m lo w' A' (k + 1) c' (xs ++ news) ∧ lo ≤ h ∧ Mod [h] w w') := by
  have hnews : ∀ j v, news[j]? = some v → w.cell? ((⟨b, o, none⟩ : Addr).add j) = some v := fun j v hv => by rw [addr_add]; exact hr j v hv
  have hone : ∀ u ∈ news, u.oneCell' = true := fun u hu => List.all_eq_true.1 h1 u hu
  have hmx : k + 1 ≤ maxLen := by simp only [maxLen]; omega
  have hbb : (k + 1) * bt ≤ 140737488355328 := Nat.le_trans (Nat.mul_le_mul_left _ hbt) (by omega)
  have fin : ∀ v' w', (Builtin.append_ #[t, t] ty #[.slice A k c, .slice (some ⟨b, o, none⟩) 1 c']).run P w = .ok v' w' →
      (∃ A' c' h, v' = .slice A' (k + 1) c' ∧ Own e m lo w' A' (k + 1) c' (xs ++ news) ∧ lo ≤ h ∧ Mod [h] w w') →
      Op1 P n ⟨dst, .call { callee := .builtin .append, args := #[x, y], argTypes := #[t, t] }, ty, pos, af, g⟩ ρ w
      (fun u w' => ∃ A' c' h, u = .slice A' (k + 1) c' ∧ Own e m lo w' A' (k + 1) c' (xs ++ news) ∧ lo ≤ h ∧ Mod [h] w w') := fun v' w' hrun hp =>
    op_run (fun a ha => by simp only [execOp, resolve, invoke, builtin, List.map_toArray, List.map_cons, List.map_nil, ha.ev hx, ha.ev hy, Sem.run_bind, Sem.run_pure, Result.andThen_ok, hrun]) hp
  have own : w.ownsRow lo e m (.slice A k c) k xs → Op1 P n ⟨dst, .call { callee := .builtin .append, args := #[x, y], argTypes := #[t, t] }, ty, pos, af, g⟩ ρ w
      (fun u w' => ∃ A' c' h, u = .slice A' (k + 1) c' ∧ Own e m lo w' A' (k + 1) c' (xs ++ news) ∧ lo ≤ h ∧ Mod [h] w w') := fun hown => by
    obtain ⟨v', w', hrun, h2, h3, h4⟩ := run_append_own (P := P) w lo t ty e i z m bt ht hi hz hs hby hzs hm _ k xs hown ⟨b, o, none⟩ 1 c' news (by rw [hl]; simp) hnews hone hmx hbb hlo
    refine fin v' w' hrun ?_
    rcases h2.2 with ⟨rfl, h⟩ | ⟨g', cap, cur, rfl, a1, a2, a3, a4, a5, a6⟩
    · omega
    · rcases hb : Value.ownBlock (.slice A k c) with _ | g0
      · rw [hb] at h3
        exact ⟨_, _, w.heap.size, rfl, ⟨h2.1, .inr ⟨g', cur, rfl, a1, a2, a3, a4, a5, a6⟩⟩, hlo, h3.os, h3.tape, h3.output, h3.size, fun j hj _ => h3.block j hj (by simp)⟩
      · rw [hb] at h3
        exact ⟨_, _, g0, rfl, ⟨h2.1, .inr ⟨g', cur, rfl, a1, a2, a3, a4, a5, a6⟩⟩, (hown.lt g0 hb).1, h3.os, h3.tape, h3.output, h3.size, fun j hj hn => h3.block j hj (by simpa using hn)⟩
  rcases how.own with ⟨rfl, rfl, rfl | ⟨g0, rfl⟩⟩ | ⟨g0, cur, rfl, h2, h3, h4, h5, h6, h7⟩
  · refine own ⟨how.len, .inl ⟨rfl, rfl⟩⟩
  · have hx0 : xs = [] := List.eq_nil_of_length_eq_zero (by rw [how.len]; simp)
    subst hx0
    have hc : Builtin.nextslicecap (0 + 1) 0 * i.bytes ≤ 281474976710656 := by rw [Nat.zero_add, nextslicecap_zero (by omega), hby]; omega
    have hrun := run_append_grow (P := P) w t ty e i z ht hi hz ⟨g0, 0, none⟩ 0 0 [] (by simp) (by simp) ⟨b, o, none⟩ 1 c' news (by rw [hl, hs]; simp) hnews (by omega) (by omega) hc
    refine fin _ _ hrun ⟨_, _, w.heap.size, rfl, ⟨by simp [hl], .inr ⟨w.heap.size, _, rfl, hlo, heap_alloc_new w.drew _, grownCap_ge w (0 + 1) 0 e, grownCap_le_maxLen w (0 + 1) 0 e hmx, ?_, ?_⟩⟩, hlo, (((Mod.refl [] w).drew).trans (Mod.alloc _ _)).wide (by simp)⟩
    · have hge := grownCap_ge w (0 + 1) 0 e
      simp only [Array.size_append, List.size_toArray, size_zeroCells, hzs, hl, List.length_nil, Nat.zero_add]
      rw [Nat.sub_mul, Nat.one_mul]
      have : m ≤ grownCap w (0 + 1) 0 e * m := Nat.le_mul_of_pos_left _ (by omega)
      simp only [Nat.zero_add] at this ⊢
      omega
    · simp only [Array.toList_append, List.nil_append, Nat.zero_add, Nat.one_mul]
      rw [← hl]; exact List.take_left
  · exact own ⟨how.len, .inr ⟨g0, c, cur, rfl, h2, h3, h4, h5, h6, h7⟩⟩
end

section
variable {P : Program} {n : Nat} {ρ : Env} {w : World} {dst : Option Tmp} {ty : TypeId} {pos : String} {af : Array Edge} {g : Option (Nat × Bool)}
end

/-! ### What is made one by one -/
def outs (f : Nat → Nat) (n : Nat) : List Nat := (List.range n).map f
theorem outs_len (f : Nat → Nat) (n : Nat) : (outs f n).length = n := by simp [outs]
theorem outs_zero (f : Nat → Nat) : ([] : List Value) = fl (outs f 0) := rfl
theorem outs_succ (f : Nat → Nat) (n : Nat) : fl (outs f n) ++ [Value.float .f32 (f n)] = fl (outs f (n + 1)) := by
  simp [outs, fl, List.range_succ]

end Go.Proofs.Ytemnjphnhmbddaa
