/- An append of one element that tells what it wrote. -/
import Derived.Test.YtpjjnopjpgnlaaaDoorE33
import Derived.Test.YtpjjnopjpgnlaaaDoorE26
set_option linter.unusedVariables false
set_option linter.unusedSimpArgs false
namespace Go.Proofs.YtpjjnopjpgnlaaaDoor
section
variable {P : Program} {n : Nat} {ρ : Env} {w : World} {dst : Option Tmp} {ty : TypeId} {pos : String} {af : Array Edge} {g : Option (Nat × Bool)}
/-- one element is appended; what is written is new, or was there when the slice was last looked at -/
theorem op_appW {t e b o m bt c c' k lo : Nat} {x y : Operand} {i : TypeInfo} {z : Value} {A : Option Addr} {xs xs0 news : List Value} {w0 : World} (hx : ev ρ x = some (.slice A k c)) (hy : ev ρ y = some (.slice (some ⟨b, o, none⟩) 1 c'))
    (ht : P.underlying t = some (.slice e)) (hi : P.info? e = some i) (hz : i.zero = some z) (hs : i.size = m) (hby : i.bytes = bt) (hzs : z.cells.size = m) (hm : 0 < m)
    (hr : Rng w b o news) (hl : news.length = m) (h1 : news.all Value.oneCell' = true) (how0 : Own e m lo w0 A k c xs0) (how : Own e m lo w A k c xs) (hlo : lo ≤ w.heap.size) (hk : k ≤ 16777216) (hbt : bt ≤ 4096) :
    Op1 P n ⟨dst, .call { callee := .builtin .append, args := #[x, y], argTypes := #[t, t] }, ty, pos, af, g⟩ ρ w
      (fun u w' => ∃ A' c' h, u = .slice A' (k + 1) c' ∧ Own e m lo w' A' (k + 1) c' (xs ++ news) ∧ lo ≤ h ∧ (h < w0.heap.size ∨ w.heap.size ≤ h) ∧ Mod [h] w w') := by
  have first : ∀ (hk0 : k = 0) (hc0 : c = 0) (hA : A = none ∨ ∃ g, A = some ⟨g, 0, none⟩), Op1 P n ⟨dst, .call { callee := .builtin .append, args := #[x, y], argTypes := #[t, t] }, ty, pos, af, g⟩ ρ w
      (fun u w' => ∃ A' c' h, u = .slice A' (k + 1) c' ∧ Own e m lo w' A' (k + 1) c' (xs ++ news) ∧ lo ≤ h ∧ (h < w0.heap.size ∨ w.heap.size ≤ h) ∧ Mod [h] w w') := fun hk0 hc0 hA => by
    subst hk0 hc0
    have hx0 : xs = [] := List.eq_nil_of_length_eq_zero (by rw [how.len]; simp)
    subst hx0
    refine (op_app0 (q := 0) hA hx hy ht hi hz hs hby hzs hm hr (by rw [hl]; simp) h1 (by omega) hbt).mono ?_
    rintro u w' ⟨b', c2, rfl, ho, hb, hm'⟩
    refine ⟨_, c2, w.heap.size, rfl, ?_, hlo, .inr (Nat.le_refl _), hm'.wide (fun _ h => by cases h)⟩
    rw [List.nil_append]
    refine ⟨ho.len, ?_⟩
    rcases ho.own with h | ⟨g1, cur1, e1, e2, e3⟩
    · exact .inl h
    · exact .inr ⟨g1, cur1, e1, Nat.le_trans hlo e2, e3⟩
  rcases how0.own with ⟨a1, a2, hA⟩ | ⟨g1, cur1, rfl, f2, f3, _⟩
  · exact first a1 a2 hA
  · rcases how.own with ⟨a1, a2, hA⟩ | ⟨g0, cur, e1, h2, h3, h4, h5, h6, h7⟩
    · exact first a1 a2 hA
    · obtain rfl : g1 = g0 := by simpa using e1
      have hnews : ∀ j v, news[j]? = some v → w.cell? ((⟨b, o, none⟩ : Addr).add j) = some v := fun j v hv => by rw [addr_add]; exact hr j v hv
      have hone : ∀ u ∈ news, u.oneCell' = true := fun u hu => List.all_eq_true.1 h1 u hu
      have hmx : k + 1 ≤ maxLen := by simp only [maxLen]; omega
      have hbb : (k + 1) * bt ≤ 140737488355328 := Nat.le_trans (Nat.mul_le_mul_left _ hbt) (by omega)
      have hown : w.ownsRow lo e m (.slice (some ⟨g1, 0, none⟩) k c) k xs := ⟨how.len, .inr ⟨g1, c, cur, rfl, h2, h3, h4, h5, h6, h7⟩⟩
      obtain ⟨v', w', hrun, k2, k3, k4⟩ := run_append_own (P := P) w lo t ty e i z m bt ht hi hz hs hby hzs hm _ k xs hown ⟨b, o, none⟩ 1 c' news (by rw [hl]; simp) hnews hone hmx hbb hlo
      refine op_run (v := v') (w' := w') (fun a ha => by simp only [execOp, resolve, invoke, builtin, List.map_toArray, List.map_cons, List.map_nil, ha.ev hx, ha.ev hy, Sem.run_bind, Sem.run_pure, Result.andThen_ok, hrun]) ?_
      rcases k2.2 with ⟨rfl, h⟩ | ⟨g', cap, cur', rfl, a1, a2, a3, a4, a5, a6⟩
      · omega
      · exact ⟨_, _, g1, rfl, ⟨k2.1, .inr ⟨g', cur', rfl, a1, a2, a3, a4, a5, a6⟩⟩, h2, .inl (Array.getElem?_eq_some_iff.1 f3).1, k3.os, k3.tape, k3.output, k3.size, fun j hj hn => k3.block j hj (by simp only [Value.ownBlock]; intro h; simp at h hn; exact hn h)⟩
/-- where a slice from `i` on lies, of which perhaps nothing is left -/
def slA (b o c i : Nat) : Option Addr := if c = i then some ⟨b, o, none⟩ else some ⟨b, o + i, none⟩
theorem slA_eq {b o c i m : Nat} (h : m ≤ c) (k : 0 < m - i) : slA b o c i = some ⟨b, o + i, none⟩ := if_neg (by omega)
theorem op_slLoX {t e b o m c i : Nat} {x y : Operand} {k : IntKind} {q : Int} (hx : ev ρ x = some (.slice (some ⟨b, o, none⟩) m c)) (hy : ev ρ y = some (.int k q)) (hq : q = (i : Int)) (hu : ∀ w, (underlying t).run P w = .ok (.slice e) w) (hs : ∀ w, (sizeOf e).run P w = .ok 1 w) (h1 : i ≤ m) (h2 : m ≤ c) :
    Op1 P n ⟨dst, .slice t x (some y) none none, ty, pos, af, g⟩ ρ w (Det (.slice (slA b o c i) (m - i) (c - i)) w) := by
  by_cases hc : c = i
  · subst hc
    subst hq
    obtain rfl : m = c := by omega
    refine op_run (fun a ha => ?_) ⟨rfl, rfl⟩
    simp [execOp, ha.ev hx, ha.ev hy, Instr.sliceAt, Instr.slice, hu, Instr.sliceBounds, Instr.sliceBound, asIntOf, hs, addr_add, slA]
  · rw [slA, if_neg hc]
    exact op_slLo hx hy hq hu hs h1 (by omega)
end
end Go.Proofs.YtpjjnopjpgnlaaaDoor
