/- What a ring holds behind some samples; an append of many cells to a slice of one's own; slices of slices. -/
import Derived.Test.YteonmpphpeopiaaDoorE11
import Derived.Test.YteonmpphpeopiaaDoorE24
set_option linter.unusedVariables false
namespace Go.Proofs.YteonmpphpeopiaaDoor

/-- a ring of `n` behind `i` samples -/
def rgF (n : Nat) (L : List Nat) : Nat → List Nat
  | 0 => List.replicate n 0
  | i + 1 => (rgF n L i).set (i % n) (L.getD i 0)
/-- the sample that came `k` samples ago, when `i` have come -/
def dueF (L : List Nat) (i k : Nat) : Nat := if k ≤ i then L.getD (i - k) 0 else 0
section
variable {n : Nat} {L : List Nat}
theorem rgF_len (i : Nat) : (rgF n L i).length = n := by
  induction i with
  | zero => exact List.length_replicate
  | succ i ih => exact (List.length_set).trans ih
theorem rgF_w32 (h : W32 L) (i : Nat) : W32 (rgF n L i) := by
  induction i with
  | zero => exact W32.zeros n
  | succ i ih => exact W32.set ih (h.get _)
theorem mod_back {n i k : Nat} (h1 : 1 ≤ k) (h2 : k ≤ n) : (i + n - k) % n = (i % n + n - k) % n := by
  have e : i + n - k = n * (i / n) + (i % n + n - k) := by have := Nat.div_add_mod i n; omega
  rw [e, Nat.mul_add_mod]
theorem back_val {p n k : Nat} (hp : p < n) (h1 : 1 ≤ k) (h2 : k ≤ n) : (p + n - k) % n = if k ≤ p then p - k else p + n - k := by
  by_cases h : k ≤ p
  · rw [if_pos h, show p + n - k = (p - k) + n by omega, Nat.add_mod_right, Nat.mod_eq_of_lt (by omega)]
  · rw [if_neg h, Nat.mod_eq_of_lt (by omega)]
theorem rgF_back (hn : 0 < n) : ∀ i k, 1 ≤ k → k ≤ n → (rgF n L i).getD ((i % n + n - k) % n) 0 = dueF L i k := by
  intro i
  induction i with
  | zero =>
    intro k h1 h2
    unfold dueF
    rw [if_neg (by omega)]
    show (List.replicate n 0).getD _ 0 = 0
    rw [List.getD_eq_getElem?_getD, List.getElem?_replicate]; split <;> rfl
  | succ i ih =>
    intro k h1 h2
    have hp : i % n < n := Nat.mod_lt _ hn
    rw [← mod_back h1 h2]
    show ((rgF n L i).set (i % n) (L.getD i 0)).getD _ 0 = _
    by_cases e : k = 1
    · subst e
      rw [show i + 1 + n - 1 = i + n by omega, Nat.add_mod_right, List.getD_eq_getElem?_getD, List.getElem?_set_self (by rw [rgF_len]; exact hp)]
      unfold dueF; rw [if_pos (by omega)]; rfl
    · have q : i + 1 + n - k = i + n - (k - 1) := by omega
      have q2 := mod_back (n := n) (i := i) (k := k - 1) (by omega) (by omega)
      have q3 := back_val (p := i % n) (n := n) (k := k - 1) hp (by omega) (by omega)
      rw [q, q2, List.getD_eq_getElem?_getD, List.getElem?_set_ne (by rw [q3]; split <;> omega), ← List.getD_eq_getElem?_getD, ih (k - 1) (by omega) (by omega)]
      unfold dueF
      by_cases h : k ≤ i + 1
      · rw [if_pos (by omega), if_pos h]; congr 1; omega
      · rw [if_neg (by omega), if_neg h]
theorem rgF_old (hn : 0 < n) (i : Nat) : (rgF n L i).getD (i % n) 0 = dueF L i n := by
  have := rgF_back (L := L) hn i n hn (Nat.le_refl _)
  rwa [show i % n + n - n = i % n by omega, Nat.mod_eq_of_lt (Nat.mod_lt _ hn)] at this
theorem due_in {i k : Nat} (h : k ≤ i) : dueF L i k = L.getD (i - k) 0 := if_pos h
theorem due_out {i k : Nat} (h : ¬ k ≤ i) : dueF L i k = 0 := if_neg h
end

section
variable {P : Program} {n : Nat} {ρ : Env} {w : World} {dst : Option Tmp} {ty : TypeId} {pos : String} {af : Array Edge} {g : Option (Nat × Bool)}
/-- some cells are appended to a slice of one's own that has its block -/
theorem op_appG {t e b0 b o m bt c c' k q lo : Nat} {x y : Operand} {i : TypeInfo} {z : Value} {xs news : List Value} (hx : ev ρ x = some (.slice (some ⟨b0, 0, none⟩) k c)) (hy : ev ρ y = some (.slice (some ⟨b, o, none⟩) q c'))
    (ht : P.underlying t = some (.slice e)) (hi : P.info? e = some i) (hz : i.zero = some z) (hs : i.size = m) (hby : i.bytes = bt) (hzs : z.cells.size = m) (hm : 0 < m)
    (hr : Rng w b o news) (hl : news.length = q * m) (h1 : news.all Value.oneCell' = true) (how : Own e m lo w (some ⟨b0, 0, none⟩) k c xs) (hc : 0 < c) (hkq : 0 < k + q) (hlo : lo ≤ w.heap.size) {r : Nat} (hr' : k + q = r) (hk : k ≤ 16777216) (hq : q ≤ 4096) (hbt : bt ≤ 4096) :
    Op1 P n ⟨dst, .call { callee := .builtin .append, args := #[x, y], argTypes := #[t, t] }, ty, pos, af, g⟩ ρ w
      (fun u w' => ∃ b' c', u = .slice (some ⟨b', 0, none⟩) r c' ∧ Own e m lo w' (some ⟨b', 0, none⟩) r c' (xs ++ news) ∧ 0 < c' ∧ lo ≤ b' ∧ Mod [b0] w w') := by
  subst hr'
  have hnews : ∀ j v, news[j]? = some v → w.cell? ((⟨b, o, none⟩ : Addr).add j) = some v := fun j v hv => by rw [addr_add]; exact hr j v hv
  have hone : ∀ u ∈ news, u.oneCell' = true := fun u hu => List.all_eq_true.1 h1 u hu
  have hmx : k + q ≤ maxLen := by simp only [maxLen]; omega
  have hbb : (k + q) * bt ≤ 140737488355328 := Nat.le_trans (Nat.mul_le_mul_left _ hbt) (by omega)
  obtain ⟨cur0, d1, d2, d3, d4, d5, d6⟩ : ∃ cur, lo ≤ b0 ∧ w.heap[b0]? = some (.cells cur e (0, 0)) ∧ k ≤ c ∧ c ≤ maxLen ∧ cur.size = c * m ∧ cur.toList.take (k * m) = xs := by
    rcases how.own with ⟨_, h1, _⟩ | ⟨g, cur, h1, h2⟩
    · omega
    · obtain rfl : b0 = g := by simpa using h1
      exact ⟨cur, h2⟩
  obtain ⟨v', w', hrun, h2, h3, h4, h5⟩ := run_append_own_at (P := P) w lo t ty e i z m bt ht hi hz hs hby hzs hm (.slice (some ⟨b0, 0, none⟩) k c) k xs ⟨how.len, .inr ⟨b0, c, cur0, rfl, d1, d2, d3, d4, d5, d6⟩⟩ ⟨b, o, none⟩ q c' news hl hnews hone hmx hbb hlo
  refine op_run (v := v') (w' := w') (fun a ha => by simp only [execOp, resolve, invoke, builtin, List.map_toArray, List.map_cons, List.map_nil, ha.ev hx, ha.ev hy, Sem.run_bind, Sem.run_pure, Result.andThen_ok, hrun]) ?_
  rcases h2.2 with ⟨h6, h⟩ | ⟨g', cap, cur, rfl, a1, a2, a3, a4, a5, a6⟩
  · exact absurd (h4.1 h6).1 (by simp)
  · refine ⟨g', cap, rfl, ⟨h2.1, .inr ⟨g', cur, rfl, a1, a2, a3, a4, a5, a6⟩⟩, by omega, a1, h3.os, h3.tape, h3.output, h3.size, fun j hj hn => h3.block j hj (by simp only [Value.ownBlock]; intro h; simp at h hn; exact hn h)⟩
end
end Go.Proofs.YteonmpphpeopiaaDoor
