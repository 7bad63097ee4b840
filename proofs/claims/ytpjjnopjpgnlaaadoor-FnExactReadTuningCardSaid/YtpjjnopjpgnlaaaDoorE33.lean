/- Lists of floats of any length are appended to a slice of one's own. -/
import Derived.Test.YtpjjnopjpgnlaaaDoorE17
import Derived.Test.YtpjjnopjpgnlaaaDoorE26
set_option linter.unusedVariables false
set_option linter.unusedSimpArgs false
namespace Go.Proofs.YtpjjnopjpgnlaaaDoor
/-- an order of sizes that `omega` does not see -/
def SzLe (a b : Nat) : Prop := a ≤ b
theorem SzLe.mk {a b : Nat} (h : a ≤ b) : SzLe a b := h
section
variable {P : Program} {n : Nat} {ρ : Env} {w : World} {dst : Option Tmp} {ty : TypeId} {pos : String} {af : Array Edge} {g : Option (Nat × Bool)}
/-- so many cells, perhaps none -/
theorem op_appX {t e b o bt c c' k q lo : Nat} {x y : Operand} {i : TypeInfo} {z : Value} {A A2 : Option Addr} {xs news : List Value} (hx : ev ρ x = some (.slice A k c)) (hy : ev ρ y = some (.slice A2 q c')) (hA : 0 < q → A2 = some ⟨b, o, none⟩)
    (ht : P.underlying t = some (.slice e)) (hi : P.info? e = some i) (hz : i.zero = some z) (hs : i.size = 1) (hby : i.bytes = bt) (hzs : z.cells.size = 1)
    (hr : Rng w b o news) (hl : news.length = q) (h1 : news.all Value.oneCell' = true) (how : Own e 1 lo w A k c xs) (hlo : lo ≤ w.heap.size) (hk : k ≤ 16777216) (hq : q ≤ 4096) (hbt : bt ≤ 4096) :
    Op1 P n ⟨dst, .call { callee := .builtin .append, args := #[x, y], argTypes := #[t, t] }, ty, pos, af, g⟩ ρ w
      (fun u w' => ∃ A' c' h, u = .slice A' (k + q) c' ∧ Own e 1 lo w' A' (k + q) c' (xs ++ news) ∧ lo ≤ h ∧ Mod [h] w w') := by
  have fin : ∀ v' w', (Builtin.append_ #[t, t] ty #[.slice A k c, .slice A2 q c']).run P w = .ok v' w' →
      (∃ A' c' h, v' = .slice A' (k + q) c' ∧ Own e 1 lo w' A' (k + q) c' (xs ++ news) ∧ lo ≤ h ∧ Mod [h] w w') →
      Op1 P n ⟨dst, .call { callee := .builtin .append, args := #[x, y], argTypes := #[t, t] }, ty, pos, af, g⟩ ρ w
      (fun u w' => ∃ A' c' h, u = .slice A' (k + q) c' ∧ Own e 1 lo w' A' (k + q) c' (xs ++ news) ∧ lo ≤ h ∧ Mod [h] w w') := fun v' w' hrun hp =>
    op_run (fun a ha => by simp only [execOp, resolve, invoke, builtin, List.map_toArray, List.map_cons, List.map_nil, ha.ev hx, ha.ev hy, Sem.run_bind, Sem.run_pure, Result.andThen_ok, hrun]) hp
  have hkc : k ≤ c := by
    rcases how.own with ⟨h, h', _⟩ | ⟨_, _, _, _, _, h4, _⟩ <;> omega
  by_cases h0 : q = 0
  · subst h0
    have hn : news = [] := List.eq_nil_of_length_eq_zero hl
    subst hn
    have hsrc : Src P i.size t (.slice A2 0 c') 0 [] w := by
      cases A2 with
      | none => exact Src.ofNil w ht c'
      | some a => exact Src.ofSlice w ht a 0 c' [] (by simp) (by simp) (by simp)
    refine fin _ _ (run_append_nothing (P := P) w t t ty e i ht hi A k c hkc _ hsrc) ⟨A, c, lo, rfl, ?_, Nat.le_refl _, (Mod.refl [] w).wide (by simp)⟩
    rw [List.append_nil]; exact how
  · obtain rfl := hA (by omega)
    have hnews : ∀ j v, news[j]? = some v → w.cell? ((⟨b, o, none⟩ : Addr).add j) = some v := fun j v hv => by rw [addr_add]; exact hr j v hv
    have hone : ∀ u ∈ news, u.oneCell' = true := fun u hu => List.all_eq_true.1 h1 u hu
    have hmx : k + q ≤ maxLen := by simp only [maxLen]; omega
    have hbb : (k + q) * bt ≤ 140737488355328 := Nat.le_trans (Nat.mul_le_mul_left _ hbt) (by omega)
    have own : w.ownsRow lo e 1 (.slice A k c) k xs → Op1 P n ⟨dst, .call { callee := .builtin .append, args := #[x, y], argTypes := #[t, t] }, ty, pos, af, g⟩ ρ w
        (fun u w' => ∃ A' c' h, u = .slice A' (k + q) c' ∧ Own e 1 lo w' A' (k + q) c' (xs ++ news) ∧ lo ≤ h ∧ Mod [h] w w') := fun hown => by
      obtain ⟨v', w', hrun, h2, h3, h4⟩ := run_append_own (P := P) w lo t ty e i z 1 bt ht hi hz hs hby hzs (by omega) _ k xs hown ⟨b, o, none⟩ q c' news (by rw [hl]; simp) hnews hone hmx hbb hlo
      refine fin v' w' hrun ?_
      rcases h2.2 with ⟨rfl, h⟩ | ⟨g', cap, cur, rfl, a1, a2, a3, a4, a5, a6⟩
      · omega
      · rcases hb : Value.ownBlock (.slice A k c) with _ | g0
        · rw [hb] at h3
          exact ⟨_, _, w.heap.size, rfl, ⟨h2.1, .inr ⟨g', cur, rfl, a1, a2, a3, a4, a5, a6⟩⟩, hlo, h3.os, h3.tape, h3.output, h3.size, fun j hj _ => h3.block j hj (by simp)⟩
        · rw [hb] at h3
          exact ⟨_, _, g0, rfl, ⟨h2.1, .inr ⟨g', cur, rfl, a1, a2, a3, a4, a5, a6⟩⟩, (hown.lt g0 hb).1, h3.os, h3.tape, h3.output, h3.size, fun j hj hn => h3.block j hj (by simpa using hn)⟩
    rcases how.own with ⟨rfl, rfl, rfl | ⟨g0, rfl⟩⟩ | ⟨g0, cur, rfl, h2, h3, h4, h5, h6, h7⟩
    · exact own ⟨how.len, .inl ⟨rfl, rfl⟩⟩
    · have hx0 : xs = [] := List.eq_nil_of_length_eq_zero (by rw [how.len])
      subst hx0
      obtain ⟨q, rfl⟩ : ∃ q', q = q' + 1 := ⟨q - 1, by omega⟩
      have hh := op_app0 (P := P) (n := n) (ρ := ρ) (w := w) (dst := dst) (ty := ty) (pos := pos) (af := af) (g := g) (m := 1) (q := q) (bt := bt) (.inr ⟨g0, rfl⟩) hx hy ht hi hz hs hby hzs (by omega) hr (by rw [hl, Nat.mul_one]) h1 (by omega) hbt
      refine hh.mono ?_
      rintro u w' ⟨b', c2, rfl, ho, hb, hm⟩
      refine ⟨_, c2, w.heap.size, by rw [Nat.zero_add], ?_, hlo, hm.wide (fun _ h => by cases h)⟩
      rw [Nat.zero_add, List.nil_append]
      refine ⟨ho.len, ?_⟩
      rcases ho.own with h | ⟨g1, cur1, e1, e2, e3⟩
      · exact .inl h
      · exact .inr ⟨g1, cur1, e1, Nat.le_trans hlo e2, e3⟩
    · exact own ⟨how.len, .inr ⟨g0, c, cur, rfl, h2, h3, h4, h5, h6, h7⟩⟩
theorem Own.place {e : TypeId} {lo : Nat} {w : World} {A : Option Addr} {k c : Nat} {xs : List Value} (h : Own e 1 lo w A k c xs) : ∃ b, (0 < k → A = some ⟨b, 0, none⟩) ∧ Rng w b 0 xs ∧ lo ≤ b := by
  rcases h.own with ⟨rfl, rfl, _⟩ | ⟨g, cur, rfl, h2, h3, h4, _, h6, h7⟩
  · have hx : xs = [] := List.eq_nil_of_length_eq_zero (by rw [h.len])
    subst hx
    exact ⟨lo, fun h => absurd h (Nat.lt_irrefl _), Rng.nil _ _ _, Nat.le_refl _⟩
  · have r : Row w g 0 xs := ⟨cur, e, h3, fun i v hv => by
      rw [← h7, List.getElem?_take] at hv
      split at hv
      · simpa using hv
      · cases hv⟩
    exact ⟨g, fun _ => rfl, r.rng, h2⟩
/-- the same, with the place of the result -/
theorem op_appP {t e b o bt c c' k q lo r : Nat} {x y : Operand} {i : TypeInfo} {z : Value} {A A2 : Option Addr} {xs news ys : List Value} (hx : ev ρ x = some (.slice A k c)) (hy : ev ρ y = some (.slice A2 q c')) (hA : 0 < q → A2 = some ⟨b, o, none⟩)
    (ht : P.underlying t = some (.slice e)) (hi : P.info? e = some i) (hz : i.zero = some z) (hs : i.size = 1) (hby : i.bytes = bt) (hzs : z.cells.size = 1)
    (hr : Rng w b o news) (hl : news.length = q) (h1 : news.all Value.oneCell' = true) (how : Own e 1 lo w A k c xs) (hlo : lo ≤ w.heap.size) (hk : k ≤ 16777216) (hq : q ≤ 4096) (hbt : bt ≤ 4096) (hkq : k + q = r) (hys : xs ++ news = ys) :
    Op1 P n ⟨dst, .call { callee := .builtin .append, args := #[x, y], argTypes := #[t, t] }, ty, pos, af, g⟩ ρ w
      (fun u w' => ∃ A' c' h b', u = .slice A' r c' ∧ Own e 1 lo w' A' r c' ys ∧ (0 < r → A' = some ⟨b', 0, none⟩) ∧ Rng w' b' 0 ys ∧ lo ≤ b' ∧ lo ≤ h ∧ Mod [h] w w') := by
  subst hkq hys
  refine (op_appX hx hy hA ht hi hz hs hby hzs hr hl h1 how hlo hk hq hbt).mono ?_
  rintro u w' ⟨A', c', h, rfl, ho, hh, hm⟩
  obtain ⟨b', k1, k2, k3⟩ := ho.place
  exact ⟨A', c', h, b', rfl, ho, k1, k2, k3, hh, hm⟩
end
end Go.Proofs.YtpjjnopjpgnlaaaDoor
