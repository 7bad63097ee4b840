/- The engine of this claim's walks, fifteenth part: lists of rings, each of which has a block of its own. -/
import Derived.Test.YtnahhdnkbbdceaaE14
namespace Go.Proofs.Ytnahhdnkbbdceaa

/-- a ring's samples and its place -/
structure RD where
  xs : List Nat
  at_ : Int
def RD.d : RD := ⟨[], 0⟩
/-- the same, where the place is a natural number -/
structure RG where
  xs : List Nat
  i : Nat
def RG.d : RG := ⟨[], 0⟩
def RG.rd (r : RG) : RD := ⟨r.xs, ((r.i : Nat) : Int)⟩
/-- where its samples lie -/
structure BC where
  b : Nat
  c : Nat
def BC.d : BC := ⟨0, 0⟩
/-- a ring that came in -/
structure RiR where
  A : Option Addr
  n : Nat
  c : Nat
  b : Nat
  o : Nat
  xs : List Nat
  at_ : Int
def RiR.d : RiR := ⟨none, 0, 0, 0, 0, [], 0⟩
def RiR.cells (e : RiR) : List Value := [.slice e.A e.n e.c, vI e.at_]
def RiR.rd (e : RiR) : RD := ⟨e.xs, e.at_⟩
/-- the rings that came in lie in this world -/
structure InF (w : World) (es : List RiR) : Prop where
  len : ∀ i, (es.getD i RiR.d).xs.length = (es.getD i RiR.d).n
  adr : ∀ i, 0 < (es.getD i RiR.d).n → (es.getD i RiR.d).A = some ⟨(es.getD i RiR.d).b, (es.getD i RiR.d).o, none⟩
  wid : ∀ i, W32 (es.getD i RiR.d).xs
  row : ∀ i, Rng w (es.getD i RiR.d).b (es.getD i RiR.d).o (fl (es.getD i RiR.d).xs)
  small : ∀ i, (es.getD i RiR.d).n ≤ 9223372036854775807

theorem InF.mod {S : List Nat} {w0 w w' : World} {es : List RiR} (h0 : InF w0 es) (h : InF w es) (m : Mod S w w') (hS : ∀ c, c ∈ S → w0.heap.size ≤ c) : InF w' es :=
  ⟨h.len, h.adr, h.wid, fun i => Rng.youngS (h0.row i) (h.row i) m hS, h.small⟩
theorem InF.ext {w w' : World} {es : List RiR} (h : InF w es) (m : Mod [] w w') : InF w' es := h.mod h m fun _ hc => by cases hc
theorem InF.rd {es : List RiR} (i : Nat) : (es.map RiR.rd).getD i RD.d = (es.getD i RiR.d).rd := by
  simp only [List.getD_eq_getElem?_getD, List.getElem?_map]
  cases es[i]? <;> rfl

def olf (q : RD × BC) : List Value := [vS q.2.b 0 q.1.xs.length q.2.c, vI q.1.at_]
theorem olf_len (q : RD × BC) : (olf q).length = 2 := rfl
/-- the cells of a list of rings of known places -/
def olc (D : List RD) (P : List BC) : List Value := cat olf (D.zip P)

section
variable {D : List RD} {P : List BC} {n i k : Nat}
theorem zip_len (hl : D.length = n) (hp : P.length = n) : (D.zip P).length = n := by simp [hl, hp]
theorem zip_getD (hl : D.length = n) (hp : P.length = n) (hi : i < n) : (D.zip P).getD i (RD.d, BC.d) = (D.getD i RD.d, P.getD i BC.d) := by
  have h1 : i < D.length := by omega
  have h2 : i < P.length := by omega
  have h3 : i < (D.zip P).length := by rw [zip_len hl hp]; exact hi
  simp only [List.getD_eq_getElem?_getD, List.getElem?_eq_getElem h1, List.getElem?_eq_getElem h2, List.getElem?_eq_getElem h3, Option.getD_some]
  simp
theorem olc_at (hl : D.length = n) (hp : P.length = n) (hi : i < n) : ((olc D P).drop (i * 2)).take 2 = [vS (P.getD i BC.d).b 0 (D.getD i RD.d).xs.length (P.getD i BC.d).c, vI (D.getD i RD.d).at_] := by
  unfold olc
  rw [cat_at (d := (RD.d, BC.d)) olf_len (by rw [zip_len hl hp]; exact hi), zip_getD hl hp hi]
  rfl
theorem olc_get0 (hl : D.length = n) (hp : P.length = n) (hi : i < n) : (olc D P)[i * 2]? = some (vS (P.getD i BC.d).b 0 (D.getD i RD.d).xs.length (P.getD i BC.d).c) := by
  unfold olc
  refine cat_get0 (d := (RD.d, BC.d)) olf_len (by rw [zip_len hl hp]; exact hi) ?_
  rw [zip_getD hl hp hi]; rfl
theorem olc_get1 (hl : D.length = n) (hp : P.length = n) (hi : i < n) : (olc D P)[i * 2 + 1]? = some (vI (D.getD i RD.d).at_) := by
  unfold olc
  refine cat_get (d := (RD.d, BC.d)) olf_len (by rw [zip_len hl hp]; exact hi) ?_
  rw [zip_getD hl hp hi]; rfl
theorem olc_fit (hl : D.length = n) (hp : P.length = n) (hi : i < n) (hk : k = i * 2) : k + 2 ≤ (olc D P).length := by
  subst hk; exact cat_fit olf_len (zip_len hl hp) hi
theorem olc_part (hl : D.length = n) (hp : P.length = n) (hi : i < n) (hk : k = i * 2) : olc D P = splice (olc D P) k [vS (P.getD i BC.d).b 0 (D.getD i RD.d).xs.length (P.getD i BC.d).c, vI (D.getD i RD.d).at_] := by
  subst hk
  have := cat_part (f := olf) (d := (RD.d, BC.d)) olf_len (zip_len hl hp) hi
  rw [zip_getD hl hp hi] at this
  exact this
theorem zip_set (hl : D.length = n) (hp : P.length = n) (hi : i < n) (a : RD) : (D.zip P).set i (a, P.getD i BC.d) = (D.set i a).zip P := by
  have h1 : i < D.length := by omega
  have h2 : i < P.length := by omega
  apply List.ext_getElem
  · simp
  · intro j hj hj'
    by_cases e : i = j
    · subst e; simp [h2]
    · simp [List.getElem_set_ne e]
theorem olc_put {xs' : List Nat} {at' : Int} {m : Nat} (hl : D.length = n) (hp : P.length = n) (hi : i < n) (hk : k = i * 2) (hn : xs'.length = m) : splice (olc D P) k [vS (P.getD i BC.d).b 0 m (P.getD i BC.d).c, vI at'] = olc (D.set i ⟨xs', at'⟩) P := by
  subst hk; subst hn
  unfold olc
  rw [← zip_set hl hp hi]
  exact cat_set (f := olf) olf_len (zip_len hl hp) hi (⟨xs', at'⟩, P.getD i BC.d)

/-- every ring of the list lies in a block of its own, younger than `lo` -/
structure OF (lo : Nat) (w : World) (D : List RD) (P : List BC) : Prop where
  ge : ∀ i, i < D.length → lo ≤ (P.getD i BC.d).b
  row : ∀ i, i < D.length → Row w (P.getD i BC.d).b 0 (fl (D.getD i RD.d).xs)
  ne : ∀ i j, i < D.length → j < D.length → i ≠ j → (P.getD i BC.d).b ≠ (P.getD j BC.d).b

variable {lo : Nat} {w w' : World} {S : List Nat}
theorem OF.lt (h : OF lo w D P) (hi : i < D.length) : (P.getD i BC.d).b < w.heap.size := (h.row i hi).lt
theorem OF.mod (h : OF lo w D P) (m : Mod S w w') (hS : ∀ i, i < D.length → (P.getD i BC.d).b ∉ S) : OF lo w' D P := ⟨h.ge, fun i hi => (h.row i hi).mod m (hS i hi), h.ne⟩
theorem OF.ext (h : OF lo w D P) (m : Mod [] w w') : OF lo w' D P := h.mod m fun _ _ hc => by cases hc
theorem OF.low (h : OF lo w D P) {k : Nat} (hk : k ≤ lo) : OF k w D P := ⟨fun i hi => Nat.le_trans hk (h.ge i hi), h.row, h.ne⟩
theorem OF.upd {xs' : List Nat} {at' : Int} (h : OF lo w D P) (hi : i < D.length) (m : Mod S w w') (hS : ∀ j, j < D.length → j ≠ i → (P.getD j BC.d).b ∉ S) (r : Row w' (P.getD i BC.d).b 0 (fl xs')) : OF lo w' (D.set i ⟨xs', at'⟩) P := by
  refine ⟨fun j hj => h.ge j (by simpa using hj), fun j hj => ?_, fun j k hj hk => h.ne j k (by simpa using hj) (by simpa using hk)⟩
  have hj' : j < D.length := by simpa using hj
  by_cases e : i = j
  · subst e
    have : (D.set i ⟨xs', at'⟩).getD i RD.d = ⟨xs', at'⟩ := by simp [List.getD_eq_getElem?_getD, hi]
    rw [this]; exact r
  · have : (D.set i ⟨xs', at'⟩).getD j RD.d = D.getD j RD.d := by simp only [List.getD_eq_getElem?_getD, List.getElem?_set_ne e]
    rw [this]; exact (h.row j hj').mod m (hS j hj' (Ne.symm e))
/-- one more ring -/
theorem OF.push {a : RD} {q : BC} (hl : D.length = n) (hp : P.length = n) (h : OF lo w D P) (r : Row w q.b 0 (fl a.xs)) (hlo : lo ≤ q.b) (hne : ∀ i, i < D.length → (P.getD i BC.d).b ≠ q.b) : OF lo w (D ++ [a]) (P ++ [q]) := by
  have g1 : ∀ j, j < n → (D ++ [a]).getD j RD.d = D.getD j RD.d := fun j hj => by simp only [List.getD_eq_getElem?_getD, List.getElem?_append_left (show j < D.length by omega)]
  have g2 : ∀ j, j < n → (P ++ [q]).getD j BC.d = P.getD j BC.d := fun j hj => by simp only [List.getD_eq_getElem?_getD, List.getElem?_append_left (show j < P.length by omega)]
  have g3 : (D ++ [a]).getD n RD.d = a := by subst hl; simp [List.getD_eq_getElem?_getD]
  have g4 : (P ++ [q]).getD n BC.d = q := by subst hp; simp [List.getD_eq_getElem?_getD]
  have hs : (D ++ [a]).length = n + 1 := by simp [hl]
  refine ⟨fun j hj => ?_, fun j hj => ?_, fun j k hj hk hjk => ?_⟩
  · rw [hs] at hj
    rcases Nat.lt_or_ge j n with c | c
    · rw [g2 j c]; exact h.ge j (by omega)
    · obtain rfl : j = n := by omega
      rw [g4]; exact hlo
  · rw [hs] at hj
    rcases Nat.lt_or_ge j n with c | c
    · rw [g1 j c, g2 j c]; exact h.row j (by omega)
    · obtain rfl : j = n := by omega
      rw [g3, g4]; exact r
  · rw [hs] at hj hk
    rcases Nat.lt_or_ge j n with c | c <;> rcases Nat.lt_or_ge k n with c' | c'
    · rw [g2 j c, g2 k c']; exact h.ne j k (by omega) (by omega) hjk
    · obtain rfl : k = n := by omega
      rw [g2 j c, g4]; exact hne j (by omega)
    · obtain rfl : j = n := by omega
      rw [g2 k c', g4]; exact Ne.symm (hne k (by omega))
    · omega
theorem OF.nil : OF lo w [] [] := ⟨fun i hi => by simp at hi, fun i hi => by simp at hi, fun i j hi => by simp at hi⟩
end

/-! lists of blocks with those of such lists -/
section
variable {P : List BC} {n k b : Nat} {S T : List Nat}
theorem bc_mem (hl : P.length = n) {x : Nat} (h : x ∈ P.map BC.b) : ∃ i, i < n ∧ x = (P.getD i BC.d).b := by
  obtain ⟨q, hq, rfl⟩ := List.mem_map.1 h
  obtain ⟨i, hi, rfl⟩ := List.getElem_of_mem hq
  exact ⟨i, by omega, by simp [List.getD_eq_getElem?_getD, hi]⟩
theorem mem_bc (hl : P.length = n) {i : Nat} (hi : i < n) : (P.getD i BC.d).b ∈ P.map BC.b :=
  List.mem_map.2 ⟨P.getD i BC.d, by
    have h : i < P.length := by omega
    simp [List.getD_eq_getElem?_getD, h], rfl⟩
theorem nA (hl : P.length = n) (h : ∀ i, i < n → (P.getD i BC.d).b ≠ b) (hs : b ∉ S) : b ∉ P.map BC.b ++ S := fun hm => by
  rcases List.mem_append.1 hm with hm | hm
  · obtain ⟨i, hi, e⟩ := bc_mem hl hm; exact h i hi e.symm
  · exact hs hm
theorem aA (hl : P.length = n) (h : ∀ i, i < n → k ≤ (P.getD i BC.d).b) (hs : ∀ x, x ∈ T → x ∈ S ∨ k ≤ x) : ∀ x, x ∈ P.map BC.b ++ T → x ∈ S ∨ k ≤ x := fun x hm => by
  rcases List.mem_append.1 hm with hm | hm
  · obtain ⟨i, hi, rfl⟩ := bc_mem hl hm; exact .inr (h i hi)
  · exact hs x hm
theorem aI (h : ∀ x, x ∈ P.map BC.b → x ∈ S) (hs : ∀ x, x ∈ T → x ∈ S ∨ k ≤ x) : ∀ x, x ∈ P.map BC.b ++ T → x ∈ S ∨ k ≤ x := fun x hm => by
  rcases List.mem_append.1 hm with hm | hm
  · exact .inl (h x hm)
  · exact hs x hm
theorem gA (hl : P.length = n) (h : ∀ i, i < n → k ≤ (P.getD i BC.d).b) (hs : ∀ x, x ∈ S → k ≤ x) : ∀ x, x ∈ P.map BC.b ++ S → k ≤ x := fun x hm => by
  rcases List.mem_append.1 hm with hm | hm
  · obtain ⟨i, hi, rfl⟩ := bc_mem hl hm; exact h i hi
  · exact hs x hm
end

/-! the same with places that are natural numbers -/
section
variable {D : List RG} {P : List BC} {n i k : Nat}
end
end Go.Proofs.Ytnahhdnkbbdceaa
