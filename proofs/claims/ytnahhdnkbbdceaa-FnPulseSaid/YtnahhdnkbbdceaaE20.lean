/- The engine of this claim's walks, twentieth part: a drawn region whose stores all wait for the rest. -/
import Derived.Test.YtnahhdnkbbdceaaE3
namespace Go.Proofs.Ytnahhdnkbbdceaa

section
variable {P : Program} {n : Nat} {T : Tab} {l : List Oper} {pre : List Nat} {Fin : Act → World → Prop} {S : List Nat} {w0 : World}

/-- what is listed is closed; what is left of `pre` besides `pre1` waits for all of `pre1` -/
def cutB (l : List Oper) (pre pre1 : List Nat) (listed L : Array Bool) : Bool :=
  decide (listed.size = l.length) && (List.range l.length).all (fun i => listed.getD i false == false || (depsOf l i).all fun d => listed.getD d false) &&
  pre1.all (fun i => pre.contains i && decide (i < l.length)) && (List.range l.length).all (fun j => !pre.contains j || pre1.contains j || listed.getD j true || pre1.all fun p => (reachOf l l.length (depsOf l j)).contains p) &&
  (pre1.foldl (fun s i => s.setIfInBounds i true) listed == L)

theorem foldl_getD (n : Nat) : ∀ (pre : List Nat) (s : Array Bool), s.size = n → ∀ i, i < n → (pre.foldl (fun s i => s.setIfInBounds i true) s).getD i true = (pre.contains i || s.getD i true) := listedOf_getD n

theorem ST.cut {pre1 : List Nat} {L listed0 : Array Bool} {k2 : Nat} (hB : cutB l pre pre1 listed0 L = true) : ∀ (k : Nat) (listed : Array Bool) (a : Act) (w w0' : World), Mod S w0 w0' → listed.size = l.length → DC l listed →
    (∀ i, i < l.length → listed.getD i true = true → listed0.getD i true = true ∨ i ∈ pre1) → (∀ i, i < l.length → listed0.getD i true = true → listed.getD i true = true) →
    ST P T l pre1 (fun a w => ST P T l pre Fin S w0 k2 L a w) [] w0' k listed a w → ST P T l pre Fin S w0 (k + k2) listed a w := by
  simp only [cutB, Bool.and_eq_true, decide_eq_true_eq, List.all_eq_true, List.contains_iff_mem, List.mem_range, Bool.or_eq_true, Bool.not_eq_true', beq_iff_eq] at hB
  obtain ⟨⟨⟨⟨hsz, hdc⟩, hin⟩, hwait⟩, hL⟩ := hB
  intro k
  induction k with
  | zero =>
    intro listed a w w0' _ hs _ hsub hsup h
    have e : listed = L := by
      rw [← hL]
      refine Array.ext (by rw [hs]; exact (by rw [size_listedOf l.length pre1 _ hsz])) fun i h1 h2 => ?_
      have hil : i < l.length := by omega
      have g1 := foldl_getD l.length pre1 listed0 hsz i hil
      have g2 : listed.getD i true = listed[i] := by simp [h1]
      have g3 : (pre1.foldl (fun s i => s.setIfInBounds i true) listed0).getD i true = (pre1.foldl (fun s i => s.setIfInBounds i true) listed0)[i] := by simp [h2]
      rw [← g2, ← g3, g1]
      by_cases hp : i ∈ pre1
      · rw [h.1 i hp]; simp [hp]
      · cases hl0 : listed0.getD i true
        · cases hl1 : listed.getD i true
          · simp [hp]
          · rcases hsub i hil hl1 with h3 | h3
            · rw [hl0] at h3; cases h3
            · exact absurd h3 hp
        · rw [hsup i hil hl0]; simp
    subst e
    have := h.2 w (Mod.refl [] w)
    simpa using this
  | succ k ih =>
    intro listed a w w0' hm0 hs hdc' hsub hsup h
    rw [Nat.add_right_comm]
    have hr : rdy l pre listed = rdy l pre1 listed := by
      unfold rdy
      refine List.filter_congr fun j hj => ?_
      have hjl : j < l.length := by
        obtain ⟨_, o, ho, _⟩ := mem_ready.1 hj
        have := (Array.getElem?_eq_some_iff.1 ho).1
        simpa using this
      by_cases hp : j ∈ pre1
      · have := (hin j hp).1
        simp [hp, this]
      · by_cases hq : j ∈ pre
        · exfalso
          obtain ⟨p, hp1⟩ : ∃ p, p ∈ rdy l pre1 listed := by
            have := h.1
            cases hx : rdy l pre1 listed with
            | nil => exact absurd hx this
            | cons p _ => exact ⟨p, by simp⟩
          obtain ⟨hp1, hp2⟩ := mem_rdy.1 hp1
          have hpu := (mem_ready.1 hp1).1
          have hju := (mem_ready.1 hj).1
          have hj0 : listed0.getD j true = false := by
            cases hx : listed0.getD j true
            · rfl
            · have := hsup j hjl hx
              rw [hju] at this; cases this
          have hw := hwait j hjl
          have hreach : p ∈ reachOf l l.length (depsOf l j) := by
            rcases hw with ((hw | hw) | hw) | hw
            · exact absurd hq (by simpa using hw)
            · exact absurd hw hp
            · rw [hj0] at hw; cases hw
            · exact hw p hp2
          have := DC.reach hdc' l.length _ (ready_deps hj) p hreach
          have hpl := (hin p hp2).2
          have e1 : listed.getD p false = listed.getD p true := by
            have : p < listed.size := by omega
            simp [this]
          rw [e1, hpu] at this; cases this
        · simp [hp, hq]
    have h1 := h.1
    have h2 := h.2
    refine ⟨by rw [hr]; exact h1, fun w1 m1 i hi o ho => ?_⟩
    rw [hr] at hi
    have hk := h2 w1 m1 i hi o ho
    obtain ⟨hi1, hi2⟩ := mem_rdy.1 hi
    have hil := (hin i hi2).2
    have hsub' : ∀ j, j < l.length → (listed.setIfInBounds i true).getD j true = true → listed0.getD j true = true ∨ j ∈ pre1 := fun j hj hx => by
      by_cases e : i = j
      · subst e; exact .inr hi2
      · rw [getD_set_ne true e] at hx; exact hsub j hj hx
    have hsup' : ∀ j, j < l.length → listed0.getD j true = true → (listed.setIfInBounds i true).getD j true = true := fun j hj hx => by
      by_cases e : i = j
      · subst e; exact getD_set_self (by omega) true
      · rw [getD_set_ne true e]; exact hsup j hj hx
    split at hk
    · rename_i hw
      rw [if_pos hw]
      refine ⟨hk.1, fun u w' hg => ⟨?_, ih _ _ _ _ hm0 (by simpa using hs) (hdc'.set hi1) hsub' hsup' (hk.2 u w' hg).2⟩⟩
      exact hm0.nil_then (hk.2 u w' hg).1
    · rename_i hw
      rw [if_neg hw]
      exact ih _ _ _ _ hm0 (by simpa using hs) (hdc'.set hi1) hsub' hsup' hk

/-- the first part of a drawn region, behind which its stores come -/
theorem DR.cut (pre1 : List Nat) (k1 k2 : Nat) {listed : Array Bool} {k : Nat} {ρ : Env} {w : World} (hk : k1 + k2 = k) (hB : cutB l pre pre1 listed (pre1.foldl (fun s i => s.setIfInBounds i true) listed) = true)
    (h : DR P n T l pre1 (fun a w => ST P T l pre Fin S w0 k2 (pre1.foldl (fun s i => s.setIfInBounds i true) listed) a w) [] w k1 listed ρ w) : DR P n T l pre Fin S w0 k listed ρ w := fun hb0 a ha => by
  subst hk
  have hB' := hB
  simp only [cutB, Bool.and_eq_true, decide_eq_true_eq, List.all_eq_true, List.contains_iff_mem, List.mem_range, Bool.or_eq_true, Bool.not_eq_true', beq_iff_eq] at hB'
  obtain ⟨⟨⟨⟨hsz, hdc⟩, _⟩, _⟩, _⟩ := hB'
  refine ST.cut hB k1 listed a w w hb0 hsz (fun i hi d hd => ?_) (fun _ _ h => .inl h) (fun _ _ h => h) (h (Mod.refl _ _) a ha)
  have hil : i < l.length := by
    rcases Nat.lt_or_ge i l.length with c | c
    · exact c
    · rw [Array.getD_eq_getD_getElem?, Array.getElem?_eq_none (by omega)] at hi; cases hi
  rcases hdc i hil with h1 | h1
  · rw [hi] at h1; cases h1
  · exact h1 d hd
/-- behind the first part -/
theorem DR.join {pre1 : List Nat} {L listed : Array Bool} {k2 : Nat} {ρ : Env} {w w1 : World} (hp : pre1.all (fun i => listed.getD i true) = true)
    (h : ∀ w2, Mod [] w w2 → Mod [] w1 w → Mod S w0 w2 ∧ DR P n T l pre Fin S w0 k2 L ρ w2) : DR P n T l pre1 (fun a w => ST P T l pre Fin S w0 k2 L a w) [] w1 0 listed ρ w := fun hb0 a ha =>
  ⟨fun i hi => List.all_eq_true.1 hp i hi, fun w2 m2 => (h w2 m2 hb0).2 (h w2 m2 hb0).1 a ha⟩
end
end Go.Proofs.Ytnahhdnkbbdceaa
