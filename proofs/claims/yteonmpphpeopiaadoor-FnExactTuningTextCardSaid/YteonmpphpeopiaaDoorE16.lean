/- The engine of this claim's walks, sixteenth part: lists of rings that are filled, ring by ring, and rings that are overwritten. -/
import Derived.Test.YteonmpphpeopiaaDoorE15
namespace Go.Proofs.YteonmpphpeopiaaDoor

section
variable {D : List RD} {P : List BC} {n i k : Nat} {lo : Nat} {w w' : World} {S : List Nat}

/-- a ring that came in lies in this world -/
def RiR.Ok (w : World) (e : RiR) : Prop := e.xs.length = e.n ∧ (0 < e.n → e.A = some ⟨e.b, e.o, none⟩) ∧ W32 e.xs ∧ Rng w e.b e.o (fl e.xs) ∧ e.n ≤ 9223372036854775807
theorem RiR.of {w : World} (cs : List Value) (h : Cells w [isSl [isF .f32], isI .i64] cs) : ∃ a, cs = RiR.cells a ∧ RiR.Ok w a := by
  obtain ⟨u0, r0, rfl, s0, k0⟩ := Cells.cons h
  obtain ⟨u1, r1, rfl, ⟨i, rfl, h0, h1⟩, k1⟩ := Cells.cons k0
  obtain rfl := Cells.nil k1
  obtain ⟨A, n, c, b, o, xs, rfl, hA, hn, hc, hz, hl, hr, hw⟩ := isSl_floats s0
  exact ⟨⟨A, n, c, b, o, xs, i⟩, rfl, hl, hA, hw, hr, Nat.le_trans hn hc⟩
theorem InF.of {w : World} {es : List RiR} (h : ∀ x ∈ es, RiR.Ok w x) : InF w es := by
  have k : ∀ i, RiR.Ok w (es.getD i RiR.d) := fun i => getD_all h ⟨rfl, fun h => absurd h (Nat.lt_irrefl _), W32.nil, Rng.nil _ _ _, Nat.zero_le _⟩ i
  exact ⟨fun i => (k i).1, fun i => (k i).2.1, fun i => (k i).2.2.1, fun i => (k i).2.2.2.1, fun i => (k i).2.2.2.2⟩

/-- an empty ring -/
def zf (_ : Unit) : List Value := [.slice none 0 0, vI 0]
theorem zf_len (u : Unit) : (zf u).length = 2 := rfl
/-- the cells of a list of `n` rings of which the first ones are filled -/
def olz (n : Nat) (D : List RD) (P : List BC) : List Value := olc D P ++ cat zf (List.replicate (n - D.length) ())
theorem olz_zero : cat zf (List.replicate n ()) = olz n [] [] := rfl
theorem olz_done (hl : D.length = n) : olz n D P = olc D P := by
  subst hl; simp [olz, cat]
theorem olc_len (hl : D.length = n) (hp : P.length = n) : (olc D P).length = n * 2 := by
  unfold olc; rw [cat_len olf_len, zip_len hl hp]
theorem olz_len (hl : D.length = i) (hp : P.length = i) (hi : i ≤ n) : (olz n D P).length = n * 2 := by
  unfold olz
  rw [List.length_append, olc_len hl hp, cat_len zf_len, List.length_replicate, hl]; omega
theorem olz_fit (hl : D.length = i) (hp : P.length = i) (hi : i < n) : i * 2 + 2 ≤ (olz n D P).length := by
  rw [olz_len hl hp (by omega)]; omega
theorem olz_put {xs : List Nat} {a : Int} {b c m : Nat} (hl : D.length = i) (hp : P.length = i) (hi : i < n) (hm : xs.length = m) : splice (olz n D P) (i * 2) [vS b 0 m c, vI a] = olz n (D ++ [⟨xs, a⟩]) (P ++ [⟨b, c⟩]) := by
  have h1 := olc_len hl hp
  subst hm
  unfold olz splice
  rw [List.take_left' h1, show i * 2 + [vS b 0 xs.length c, vI a].length = (olc D P).length + 2 by rw [h1]; rfl, ← List.drop_drop, List.drop_left' rfl]
  rw [hl, show n - i = (n - (i + 1)) + 1 by omega, List.replicate_succ, cat, List.length_append, hl]
  unfold olc
  rw [List.zip_append (by omega), cat_app]
  simp [cat, zf, olf]
theorem take_rd {es : List RiR} (hl : es.length = n) (hi : i < n) : (es.take i).map RiR.rd ++ [(⟨(es.getD i RiR.d).xs, (es.getD i RiR.d).at_⟩ : RD)] = (es.take (i + 1)).map RiR.rd := by
  have h : es[i]? = some (es.getD i RiR.d) := by
    have : i < es.length := by omega
    simp [this]
  rw [List.take_add_one, h]
  simp only [List.map_append, Option.toList_some, List.map_cons, List.map_nil]
  rfl
theorem take_all {es : List RiR} (hl : es.length = n) (hi : n ≤ i) : (es.take i).map RiR.rd = es.map RiR.rd := by
  rw [List.take_of_length_le (by omega)]
theorem take_len {es : List RiR} (hl : es.length = n) (hi : i ≤ n) : ((es.take i).map RiR.rd).length = i := by
  simp; omega

/-- a ring's samples are others, as many as before -/
theorem olc_same {xs' : List Nat} (hl : D.length = n) (hp : P.length = n) (hi : i < n) (hm : xs'.length = (D.getD i RD.d).xs.length) : olc D P = olc (D.set i ⟨xs', (D.getD i RD.d).at_⟩) P :=
  (olc_part hl hp hi rfl).trans (olc_put (k := i * 2) hl hp hi rfl hm)
/-- a ring's place is another one -/
theorem olc_setat {a : Int} (hl : D.length = n) (hp : P.length = n) (hi : i < n) : splice (olc D P) (i * 2 + 1) [vI a] = olc (D.set i ⟨(D.getD i RD.d).xs, a⟩) P := by
  rw [← olc_put (k := i * 2) hl hp hi rfl rfl]
  conv => lhs; rw [olc_part (k := i * 2) hl hp hi rfl]
  have hf := olc_fit (k := i * 2) hl hp hi rfl
  exact sub_put (i := 1) hf (by simp) rfl
theorem OF.setat {a : Int} (h : OF lo w D P) (hi : i < D.length) : OF lo w (D.set i ⟨(D.getD i RD.d).xs, a⟩) P := by
  refine ⟨fun j hj => h.ge j (by simpa using hj), fun j hj => ?_, fun j k hj hk => h.ne j k (by simpa using hj) (by simpa using hk)⟩
  have hj' : j < D.length := by simpa using hj
  by_cases e : i = j
  · subst e
    have : (D.set i ⟨(D.getD i RD.d).xs, a⟩).getD i RD.d = ⟨(D.getD i RD.d).xs, a⟩ := by simp [List.getD_eq_getElem?_getD, hi]
    rw [this]; exact h.row i hj'
  · have : (D.set i ⟨(D.getD i RD.d).xs, a⟩).getD j RD.d = D.getD j RD.d := by simp only [List.getD_eq_getElem?_getD, List.getElem?_set_ne e]
    rw [this]; exact h.row j hj'
end
end Go.Proofs.YteonmpphpeopiaaDoor
