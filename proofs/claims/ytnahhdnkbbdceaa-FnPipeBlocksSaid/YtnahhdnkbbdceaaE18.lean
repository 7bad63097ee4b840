/- The engine of this claim's walks, eighteenth part: lists of rings that are appended to. -/
import Derived.Test.YtnahhdnkbbdceaaE17
namespace Go.Proofs.Ytnahhdnkbbdceaa

section
variable {D : List RD} {P : List BC} {n i c g lo : Nat} {e : TypeId} {w0 w w' : World} {S : List Nat} {A : Option Addr}

theorem olc_push {xs : List Nat} {a : Int} {b c m : Nat} (hl : D.length = n) (hp : P.length = n) (hm : xs.length = m) : olc D P ++ [vS b 0 m c, vI a] = olc (D ++ [⟨xs, a⟩]) (P ++ [⟨b, c⟩]) := by
  subst hm
  unfold olc
  rw [List.zip_append (by omega), cat_app]
  rfl
theorem take_D (hl : D.length = n) (hi : i < n) : D.take i ++ [(⟨(D.getD i RD.d).xs, (D.getD i RD.d).at_⟩ : RD)] = D.take (i + 1) := by
  have h : D[i]? = some (D.getD i RD.d) := by
    have : i < D.length := by omega
    simp [this]
  rw [List.take_add_one, h]
  rfl
theorem take_Dall (hl : D.length = n) : D.take n = D := List.take_of_length_le (by omega)

/-- a list of rings that is appended to: it lies at the front of the block `g`, each ring in a block of its own -/
structure OwnL (e : TypeId) (lo : Nat) (w : World) (A : Option Addr) (n c g : Nat) (D : List RD) (P : List BC) : Prop where
  own : Own e 2 lo w A n c (olc D P)
  lD : D.length = n
  lP : P.length = n
  fam : OF lo w D P
  adr : 0 < n → A = some ⟨g, 0, none⟩
  ne : 0 < n → ∀ i, i < n → (P.getD i BC.d).b ≠ g
  z : n = 0 → c = 0 ∧ (A = none ∨ ∃ g, A = some ⟨g, 0, none⟩)

theorem OwnL.nil : OwnL e lo w none 0 0 0 [] [] := ⟨Own.nil, rfl, rfl, OF.nil, fun h => absurd h (Nat.lt_irrefl _), fun h => absurd h (Nat.lt_irrefl _), fun _ => ⟨rfl, .inl rfl⟩⟩
theorem OwnL.emp {g0 : Nat} : OwnL e lo w (some ⟨g0, 0, none⟩) 0 0 0 [] [] := ⟨Own.emp, rfl, rfl, OF.nil, fun h => absurd h (Nat.lt_irrefl _), fun h => absurd h (Nat.lt_irrefl _), fun _ => ⟨rfl, .inr ⟨_, rfl⟩⟩⟩
theorem OwnL.congr {D' : List RD} (h : OwnL e lo w A n c g D P) (k : D = D') : OwnL e lo w A n c g D' P := k ▸ h
theorem Own.low {m k : Nat} {xs : List Value} (h : Own e m lo w A n c xs) (hk : k ≤ lo) : Own e m k w A n c xs := by
  refine ⟨h.len, ?_⟩
  rcases h.own with h1 | ⟨g, cur, h1, h2, h3⟩
  · exact .inl h1
  · exact .inr ⟨g, cur, h1, Nat.le_trans hk h2, h3⟩
theorem OwnL.out (h : OwnL e lo w A n c g D P) (hn : 0 < n) : A = some ⟨g, 0, none⟩ ∧ Row w g 0 (olc D P) ∧ lo ≤ g := by
  obtain ⟨k, rfl⟩ : ∃ k, n = k + 1 := ⟨n - 1, by omega⟩
  have ha := h.adr hn
  have ho := h.own
  rw [ha] at ho
  exact ⟨ha, Own.row1 ho⟩
theorem OwnL.mod (h0 : OwnL e lo w0 A n c g D P) (h : OwnL e lo w A n c g D P) (m : Mod S w w') (hS : ∀ x, x ∈ S → x < lo ∨ w0.heap.size ≤ x) : OwnL e lo w' A n c g D P := by
  refine ⟨?_, h.lD, h.lP, h.fam.mod m fun i hi hm => ?_, h.adr, h.ne, h.z⟩
  · rcases Nat.eq_zero_or_pos n with h1 | h1
    · exact ⟨h.own.len, .inl ⟨h1, (h.z h1).1, (h.z h1).2⟩⟩
    · obtain ⟨ha, hr, hg⟩ := h0.out h1
      have ho := h.own
      rw [ha] at ho ⊢
      exact ho.modb m fun hm => by
        have := hr.lt
        rcases hS _ hm with hx | hx <;> omega
  · have h1 := h0.fam.ge i hi
    have h2 := h0.fam.lt hi
    rcases hS _ hm with hx | hx <;> omega
end

theorem aoN {k l : Nat} : ∀ x, x ∈ ([] : List Nat) → x < k ∨ l ≤ x := fun x hx => by cases hx
theorem aoC {k l b : Nat} {S : List Nat} (h : b < k ∨ l ≤ b) (hs : ∀ x, x ∈ S → x < k ∨ l ≤ x) : ∀ x, x ∈ b :: S → x < k ∨ l ≤ x := fun x hx => by
  rcases List.mem_cons.1 hx with rfl | hx
  · exact h
  · exact hs x hx

section
variable {P0 : Program} {n : Nat} {ρ : Env} {w w0 : World} {dst : Option Tmp} {ty : TypeId} {pos : String} {af : Array Edge} {g : Option (Nat × Bool)}
/-- one ring is appended -/
theorem op_appL {t e b bs os bt c c' c2 m k lo g0 : Nat} {a : Int} {x y : Operand} {i : TypeInfo} {z : Value} {A : Option Addr} {D : List RD} {P : List BC} {xs : List Nat} (hx : ev ρ x = some (.slice A k c)) (hy : ev ρ y = some (.slice (some ⟨bs, os, none⟩) 1 c'))
    (ht : P0.underlying t = some (.slice e)) (hi : P0.info? e = some i) (hz : i.zero = some z) (hs : i.size = 2) (hby : i.bytes = bt) (hzs : z.cells.size = 2)
    (hr : Rng w bs os [vS b 0 m c2, vI a]) (rb : Row w b 0 (fl xs)) (hm : xs.length = m) (h0 : OwnL e lo w0 A k c g0 D P) (how : OwnL e lo w A k c g0 D P) (hlo : lo ≤ w0.heap.size) (hlw : lo ≤ w.heap.size) (hb : w0.heap.size ≤ b) (hk : k ≤ 16777216) (hbt : bt ≤ 4096) :
    Op1 P0 n ⟨dst, .call { callee := .builtin .append, args := #[x, y], argTypes := #[t, t] }, ty, pos, af, g⟩ ρ w
      (fun u w' => ∃ A' c' g' h, u = .slice A' (k + 1) c' ∧ OwnL e lo w' A' (k + 1) c' g' (D ++ [⟨xs, a⟩]) (P ++ [⟨b, c2⟩]) ∧ lo ≤ h ∧ Mod [h] w w') := by
  have hD : (D ++ [(⟨xs, a⟩ : RD)]).length = k + 1 := by simp [how.lD]
  have hP : (P ++ [(⟨b, c2⟩ : BC)]).length = k + 1 := by simp [how.lP]
  have gp : (P ++ [(⟨b, c2⟩ : BC)]).getD k BC.d = ⟨b, c2⟩ := by have := how.lP; subst this; simp [List.getD_eq_getElem?_getD]
  have gq : ∀ j, j < k → (P ++ [(⟨b, c2⟩ : BC)]).getD j BC.d = P.getD j BC.d := fun j hj => by simp only [List.getD_eq_getElem?_getD, List.getElem?_append_left (show j < P.length by rw [how.lP]; exact hj)]
  have hne : ∀ j, j < D.length → (P.getD j BC.d).b ≠ b := fun j hj => by have := h0.fam.lt hj; omega
  rcases Nat.eq_zero_or_pos k with h1 | h1
  · subst h1
    obtain ⟨rfl, hA⟩ := how.z rfl
    obtain rfl : D = [] := List.eq_nil_of_length_eq_zero how.lD
    obtain rfl : P = [] := List.eq_nil_of_length_eq_zero how.lP
    refine Op1.mono (op_app0 (q := 0) hA hx hy ht hi hz hs hby hzs (by decide) hr rfl rfl (by decide) hbt) fun u w' h => ?_
    obtain ⟨b', c'', rfl, ho, hge, hmod⟩ := h
    refine ⟨_, c'', b', w.heap.size, by rw [Nat.zero_add], ⟨Own.congr (Own.low (by rw [Nat.zero_add]; exact ho) hlw) (by subst hm; rfl), hD, hP, OF.push (n := 0) rfl rfl OF.nil (rb.ext hmod) (Nat.le_trans hlo hb) (fun i hi => by simp at hi), fun _ => rfl, fun _ j hj => ?_, fun h => by omega⟩, hlw, hmod.wide (by simp)⟩
    obtain rfl : j = 0 := by omega
    rw [gp]
    have := rb.lt
    show b ≠ b'
    omega
  · obtain ⟨q, rfl⟩ : ∃ q, k = q + 1 := ⟨k - 1, by omega⟩
    obtain ⟨ha, hr0, hg0⟩ := h0.out h1
    have hbg : b ≠ g0 := by have := hr0.lt; omega
    have ho := how.own
    rw [ha] at ho hx
    refine Op1.mono (op_appk (q := 0) hx hy ht hi hz hs hby hzs (by decide) hr rfl rfl ho hlw (by omega) (by decide) hbt) fun u w' h => ?_
    obtain ⟨b', c'', rfl, ho', hb', hmod⟩ := h
    have hgw : g0 < w.heap.size := by have := (how.out h1).2.1.lt; exact this
    refine ⟨_, c'', b', g0, rfl, ⟨Own.congr ho' (olc_push how.lD how.lP hm), hD, hP, OF.push how.lD how.lP (how.fam.mod hmod fun j hj hmem => ?_) (rb.mod hmod fun hmem => ?_) (Nat.le_trans hlo hb) hne, fun _ => rfl, fun _ j hj => ?_, fun h => by omega⟩, hg0, hmod⟩
    · exact h0.ne h1 j (by have := how.lD; omega) (by simpa using hmem)
    · exact hbg (by simpa using hmem)
    · rcases Nat.lt_or_ge j (q + 1) with hj' | hj'
      · rw [gq j hj']
        have h2 := how.fam.lt (i := j) (by rw [how.lD]; exact hj')
        have h3 := how.ne h1 j hj'
        rcases hb' with rfl | hb'
        · exact h3
        · omega
      · obtain rfl : j = q + 1 := by omega
        rw [gp]
        have := rb.lt
        show b ≠ b'
        rcases hb' with rfl | hb'
        · exact hbg
        · omega
end
end Go.Proofs.Ytnahhdnkbbdceaa
