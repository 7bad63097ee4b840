/- Valid scores: the two checks of events answer alike. -/
import Derived.Test.YtdopidalhkcefaaDoorW4
set_option linter.unusedVariables false
set_option linter.unusedSimpArgs false
set_option maxRecDepth 10000
namespace Go.Proofs.YtdopidalhkcefaaDoor

def sumZ (f : Nat → Nat) : Nat → Nat
  | 0 => 0
  | q + 1 => sumZ f q + f q
theorem sumZ_congr {f g : Nat → Nat} : ∀ {q : Nat}, (∀ z, z < q → f z = g z) → sumZ f q = sumZ g q
  | 0, _ => rfl
  | q + 1, h => by unfold sumZ; rw [sumZ_congr (fun z hz => h z (by omega)), h q (by omega)]
theorem sumZ_add (f g : Nat → Nat) : ∀ q, sumZ (fun z => f z + g z) q = sumZ f q + sumZ g q
  | 0 => rfl
  | q + 1 => by unfold sumZ; rw [sumZ_add f g q]; omega
theorem sumZ_one {z0 : Nat} : ∀ q, sumZ (fun z => if z = z0 then 1 else 0) q = if z0 < q then 1 else 0
  | 0 => by rw [if_neg (by omega)]; rfl
  | q + 1 => by
    unfold sumZ
    rw [sumZ_one q]
    by_cases h1 : z0 < q
    · rw [if_pos h1, if_neg (by omega), if_pos (by omega)]
    · by_cases h2 : q = z0
      · rw [if_neg h1, if_pos h2, if_pos (by omega)]
      · rw [if_neg h1, if_neg h2, if_neg (by omega)]
theorem sumZ_up {f g : Nat → Nat} {z0 q : Nat} (h0 : z0 < q) (h : ∀ z, z < q → g z = f z + if z = z0 then 1 else 0) : sumZ g q = sumZ f q + 1 := by
  rw [sumZ_congr h, sumZ_add, sumZ_one, if_pos h0]
theorem sumZ_le {f : Nat → Nat} {c : Nat} : ∀ {q : Nat}, (∀ z, z < q → f z ≤ c) → sumZ f q ≤ c * q
  | 0, _ => Nat.le_refl _
  | q + 1, h => by
    have := sumZ_le (q := q) (fun z hz => h z (by omega))
    have := h q (by omega)
    unfold sumZ; rw [Nat.mul_succ]; omega
theorem sumZ_ge {f : Nat → Nat} {c : Nat} : ∀ {q : Nat}, (∀ z, z < q → c ≤ f z) → c * q ≤ sumZ f q
  | 0, _ => Nat.le_refl _
  | q + 1, h => by
    have := sumZ_ge (q := q) (fun z hz => h z (by omega))
    have := h q (by omega)
    unfold sumZ; rw [Nat.mul_succ]; omega
theorem sumZ_top {f : Nat → Nat} {c : Nat} : ∀ {q : Nat}, (∀ z, z < q → f z ≤ c) → sumZ f q = c * q → ∀ z, z < q → f z = c
  | 0, _, _, z, hz => absurd hz (by omega)
  | q + 1, h, e, z, hz => by
    have h1 := sumZ_le (q := q) (fun z hz => h z (by omega))
    have h2 := h q (by omega)
    unfold sumZ at e; rw [Nat.mul_succ] at e
    rcases Nat.lt_or_eq_of_le (Nat.le_of_lt_succ hz) with k | k
    · exact sumZ_top (fun z hz => h z (by omega)) (by omega) z k
    · subst k; omega
theorem sumZ_low {f : Nat → Nat} {c : Nat} : ∀ {q : Nat}, (∀ z, z < q → c ≤ f z) → sumZ f q = c * q → ∀ z, z < q → f z = c
  | 0, _, _, z, hz => absurd hz (by omega)
  | q + 1, h, e, z, hz => by
    have h1 := sumZ_ge (q := q) (fun z hz => h z (by omega))
    have h2 := h q (by omega)
    unfold sumZ at e; rw [Nat.mul_succ] at e
    rcases Nat.lt_or_eq_of_le (Nat.le_of_lt_succ hz) with k | k
    · exact sumZ_low (fun z hz => h z (by omega)) (by omega) z k
    · subst k; omega

section
variable {es : List EvR} {k z : Int}
theorem cnt_succ (k : Int) (es : List EvR) (z : Int) (i : Nat) : cntK k es z (i + 1) = cntK k es z i + (if (es.getD i EvR.d).kind = k ∧ (es.getD i EvR.d).note = z then 1 else 0) := rfl
theorem cnt_mono {i j : Nat} (h : i ≤ j) : cntK k es z i ≤ cntK k es z j := by
  induction j with
  | zero =>
    obtain rfl : i = 0 := by omega
    exact Nat.le_refl _
  | succ j ih =>
    rcases Nat.lt_or_eq_of_le h with h1 | h1
    · have := ih (by omega)
      rw [cnt_succ]; omega
    · rw [h1]; exact Nat.le_refl _
theorem cnt_hit {i : Nat} (hk : (es.getD i EvR.d).kind = k) (hz : (es.getD i EvR.d).note = z) : cntK k es z (i + 1) = cntK k es z i + 1 := by rw [cnt_succ, if_pos ⟨hk, hz⟩]
theorem cnt_pos : ∀ {i : Nat}, 0 < cntK k es z i → ∃ p, p < i ∧ (es.getD p EvR.d).kind = k ∧ (es.getD p EvR.d).note = z
  | 0, h => absurd h (by simp [cntK])
  | i + 1, h => by
    by_cases c : (es.getD i EvR.d).kind = k ∧ (es.getD i EvR.d).note = z
    · exact ⟨i, by omega, c.1, c.2⟩
    · rw [cnt_succ, if_neg c] at h
      obtain ⟨p, h1, h2⟩ := cnt_pos (i := i) (by omega)
      exact ⟨p, by omega, h2⟩
theorem starts_some (es : List EvR) (z : Int) : ∀ i, (startsF es i z).isSome = decide (0 < cntK 2 es z i)
  | 0 => rfl
  | i + 1 => by
    have ih := starts_some es z i
    have e : startsF es (i + 1) = if (es.getD i EvR.d).kind = 2 then putL (startsF es i) (es.getD i EvR.d).note (.int .i64 (es.getD i EvR.d).at_) else startsF es i := rfl
    rw [e, cnt_succ]
    by_cases h1 : (es.getD i EvR.d).kind = 2
    · rw [if_pos h1]
      unfold putL
      by_cases h2 : z = (es.getD i EvR.d).note
      · rw [if_pos h2, if_pos ⟨h1, h2.symm⟩]
        rw [decide_eq_true (by omega)]; rfl
      · rw [if_neg h2, if_neg (fun h => h2 h.2.symm), ih, Nat.add_zero]
    · rw [if_neg h1, if_neg (fun h => h1 h.1), ih, Nat.add_zero]
theorem stops_some (es : List EvR) (z : Int) : ∀ i, (stopsF es i z).isSome = decide (0 < cntK 1 es z i) ∧ lkB (stopsF es i z) = decide (0 < cntK 1 es z i)
  | 0 => ⟨rfl, rfl⟩
  | i + 1 => by
    have ih := stops_some es z i
    have e : stopsF es (i + 1) = if (es.getD i EvR.d).kind = 1 then putL (stopsF es i) (es.getD i EvR.d).note (.bool true) else stopsF es i := rfl
    rw [e, cnt_succ]
    by_cases h1 : (es.getD i EvR.d).kind = 1
    · rw [if_pos h1]
      unfold putL
      by_cases h2 : z = (es.getD i EvR.d).note
      · rw [if_pos h2, if_pos ⟨h1, h2.symm⟩]
        rw [decide_eq_true (by omega)]; exact ⟨rfl, rfl⟩
      · rw [if_neg h2, if_neg (fun h => h2 h.2.symm), Nat.add_zero]; exact ih
    · rw [if_neg h1, if_neg (fun h => h1 h.1), Nat.add_zero]; exact ih
theorem starts_first (es : List EvR) (z : Int) : ∀ i, (cntK 2 es z i = 0 → startsF es i z = none ∧ firstF es z i = none) ∧ (cntK 2 es z i = 1 → ∃ a, startsF es i z = some (.int .i64 a) ∧ firstF es z i = some a)
  | 0 => ⟨fun _ => ⟨rfl, rfl⟩, fun h => absurd h (by simp [cntK])⟩
  | i + 1 => by
    obtain ⟨ih0, ih1⟩ := starts_first es z i
    have e : startsF es (i + 1) = if (es.getD i EvR.d).kind = 2 then putL (startsF es i) (es.getD i EvR.d).note (.int .i64 (es.getD i EvR.d).at_) else startsF es i := rfl
    have f : firstF es z (i + 1) = match firstF es z i with
      | some a => some a
      | none => if (es.getD i EvR.d).kind = 2 ∧ (es.getD i EvR.d).note = z then some (es.getD i EvR.d).at_ else none := rfl
    rw [e, f, cnt_succ]
    by_cases c : (es.getD i EvR.d).kind = 2 ∧ (es.getD i EvR.d).note = z
    · rw [if_pos c]
      refine ⟨fun h => absurd h (by omega), fun h => ?_⟩
      obtain ⟨_, g⟩ := ih0 (by omega)
      rw [g, if_pos c.1]
      refine ⟨_, ?_, if_pos c⟩
      unfold putL
      rw [if_pos c.2.symm]
    · rw [if_neg c, Nat.add_zero]
      have k : (if (es.getD i EvR.d).kind = 2 then putL (startsF es i) (es.getD i EvR.d).note (.int .i64 (es.getD i EvR.d).at_) else startsF es i) z = startsF es i z := by
        by_cases h1 : (es.getD i EvR.d).kind = 2
        · rw [if_pos h1]; unfold putL; rw [if_neg (fun h => c ⟨h1, h.symm⟩)]
        · rw [if_neg h1]
      rw [k]
      refine ⟨fun h => ?_, fun h => ?_⟩
      · obtain ⟨g1, g2⟩ := ih0 h
        rw [g2]; exact ⟨g1, if_neg c⟩
      · obtain ⟨a, g1, g2⟩ := ih1 h
        rw [g2]; exact ⟨a, g1, rfl⟩
theorem first_at {p N : Nat} (hp : p < N) (hk : (es.getD p EvR.d).kind = 2) (hz : (es.getD p EvR.d).note = z) (h1 : cntK 2 es z N ≤ 1) : startsF es N z = some (.int .i64 (es.getD p EvR.d).at_) ∧ firstI es z N = (es.getD p EvR.d).at_ := by
  have a := cnt_hit hk hz
  have b := cnt_mono (k := 2) (es := es) (z := z) (show p + 1 ≤ N by omega)
  have c := ((starts_first es z p).1 (by omega)).2
  have d : firstF es z (p + 1) = some (es.getD p EvR.d).at_ := by
    have f : firstF es z (p + 1) = match firstF es z p with
      | some a => some a
      | none => if (es.getD p EvR.d).kind = 2 ∧ (es.getD p EvR.d).note = z then some (es.getD p EvR.d).at_ else none := rfl
    rw [f, c]; exact if_pos ⟨hk, hz⟩
  have e := first_stay d (show p + 1 ≤ N by omega)
  obtain ⟨x, f1, f2⟩ := (starts_first es z N).2 (by omega)
  rw [e] at f2
  obtain rfl := Option.some.inj f2
  refine ⟨f1, ?_⟩
  unfold firstI; rw [e]; rfl
end

theorem less4_iff {a b c d x y z u : Int} : less4 a b c d x y z u = true ↔ (a < x ∨ (a = x ∧ (b < y ∨ (b = y ∧ (c < z ∨ (c = z ∧ d < u)))))) := by
  unfold less4
  by_cases h1 : a = x
  · by_cases h2 : b = y
    · by_cases h3 : c = z
      · by_cases h4 : d = u
        · simp [h1, h2, h3, h4]
        · simp [h1, h2, h3, h4]
      · simp [h1, h2, h3]
    · simp [h1, h2]
  · simp [h1]
theorem cmpI_lt {a b : Int} : (cmpI a b < 0 ↔ a < b) ∧ (cmpI a b = 0 ↔ a = b) := by
  unfold cmpI
  split
  · constructor <;> omega
  · split <;> constructor <;> omega
theorem cmp4_less {a b c d x y z u : Int} : (cmp4 a b c d x y z u < 0) ↔ less4 a b c d x y z u = true := by
  rw [less4_iff]
  have h1 := @cmpI_lt a x
  have h2 := @cmpI_lt b y
  have h3 := @cmpI_lt c z
  have h4 := @cmpI_lt d u
  unfold cmp4
  split
  · omega
  · split
    · omega
    · split
      · omega
      · split <;> omega

/-- the parts of what orders events -/
def kB (es : List EvR) (N i : Nat) : Int := lateS (firstI es (es.getD i EvR.d).note N) (es.getD i EvR.d).at_ (es.getD i EvR.d).kind
def ltK (es : List EvR) (N i j : Nat) : Prop := less4 (es.getD i EvR.d).at_ (kB es N i) (es.getD i EvR.d).note (stopK (es.getD i EvR.d).kind) (es.getD j EvR.d).at_ (kB es N j) (es.getD j EvR.d).note (stopK (es.getD j EvR.d).kind) = true
theorem ltK_trans {es : List EvR} {N i j l : Nat} (h : ltK es N i j) (k : ltK es N j l) : ltK es N i l := by
  unfold ltK at *
  rw [less4_iff] at *
  omega
/-- what both checks say -/
structure Fine (es : List EvR) (N q : Nat) (m : Int) : Prop where
  at_ : ∀ i, i < N → vIn (es.getD i EvR.d).at_ (0 : Int) (100000 : Int) = true
  note : ∀ i, i < N → 0 ≤ (es.getD i EvR.d).note ∧ (es.getD i EvR.d).note < ((q : Nat) : Int)
  kind : ∀ i, i < N → ((es.getD i EvR.d).kind = 2 ∧ vIn (es.getD i EvR.d).ins (0 : Int) (m - (1 : Int)) = true ∧ vIn (es.getD i EvR.d).key (-100 : Int) (100 : Int) = true ∧ finF (es.getD i EvR.d).force = true) ∨ ((es.getD i EvR.d).kind = 1 ∧ (es.getD i EvR.d).ins = 0 ∧ (es.getD i EvR.d).key = 0 ∧ cn .f32 (es.getD i EvR.d).force = 0)
  one : ∀ z : Nat, z < q → cntK 2 es ((z : Nat) : Int) N = 1 ∧ cntK 1 es ((z : Nat) : Int) N = 1
  ord : ∀ i, 0 < i → i < N → ltK es N (i - 1) i
  first : ∀ i, i < N → (es.getD i EvR.d).kind = 1 → cntK 2 es (es.getD i EvR.d).note i = 1
section
variable {es : List EvR} {N q : Nat} {m : Int}
theorem evS1_all : ∀ {K : Nat} {n : Int}, evS1 es n m K = true ↔ ∀ i, i < K → stepS es n m i = true
  | 0, n => ⟨fun _ i hi => absurd hi (by omega), fun _ => rfl⟩
  | K + 1, n => by
    unfold evS1
    rw [Bool.and_eq_true, evS1_all (K := K)]
    exact ⟨fun h i hi => (Nat.lt_or_eq_of_le (Nat.le_of_lt_succ hi)).elim (h.1 i) (fun e => e ▸ h.2), fun h => ⟨fun i hi => h i (by omega), h K (by omega)⟩⟩
theorem evI1_all {L : Nat} : ∀ {K : Nat} {n : Int}, evI1 es L n m K = true ↔ ∀ i, i < K → stepI es L n m i = true
  | 0, n => ⟨fun _ i hi => absurd hi (by omega), fun _ => rfl⟩
  | K + 1, n => by
    unfold evI1
    rw [Bool.and_eq_true, evI1_all (K := K)]
    exact ⟨fun h i hi => (Nat.lt_or_eq_of_le (Nat.le_of_lt_succ hi)).elim (h.1 i) (fun e => e ▸ h.2), fun h => ⟨fun i hi => h i (by omega), h K (by omega)⟩⟩
theorem evS2_all {L : Nat} : ∀ {K : Nat}, evS2 es L K = true ↔ ∀ i, 0 < i → i < K → ordS es L i = true
  | 0 => ⟨fun _ i _ hi => absurd hi (by omega), fun _ => rfl⟩
  | K + 1 => by
    unfold evS2
    rw [Bool.and_eq_true, evS2_all (K := K)]
    constructor
    · intro h i h0 hi
      rcases Nat.lt_or_eq_of_le (Nat.le_of_lt_succ hi) with h1 | h1
      · exact h.1 i h0 h1
      · subst h1
        have := h.2
        rwa [if_neg (by omega)] at this
    · intro h
      refine ⟨fun i h0 hi => h i h0 (by omega), ?_⟩
      split
      · rfl
      · exact h K (by omega) (by omega)
theorem sum_cnt (hn : ∀ i, i < N → 0 ≤ (es.getD i EvR.d).note ∧ (es.getD i EvR.d).note < ((q : Nat) : Int)) (hk : ∀ i, i < N → (es.getD i EvR.d).kind = 2 ∨ (es.getD i EvR.d).kind = 1) : ∀ i, i ≤ N → sumZ (fun z => cntK 2 es ((z : Nat) : Int) i + cntK 1 es ((z : Nat) : Int) i) q = i
  | 0, _ => by
    have : ∀ q, sumZ (fun z => cntK 2 es ((z : Nat) : Int) 0 + cntK 1 es ((z : Nat) : Int) 0) q = 0 := fun q => by
      induction q with
      | zero => rfl
      | succ q ih => unfold sumZ; rw [ih]; rfl
    exact this q
  | i + 1, hi => by
    have ih := sum_cnt hn hk i (by omega)
    obtain ⟨h0, h1⟩ := hn i (by omega)
    have e := sumZ_up (f := fun z => cntK 2 es ((z : Nat) : Int) i + cntK 1 es ((z : Nat) : Int) i) (g := fun z => cntK 2 es ((z : Nat) : Int) (i + 1) + cntK 1 es ((z : Nat) : Int) (i + 1)) (z0 := (es.getD i EvR.d).note.toNat) (q := q) (by omega) (fun z hz => by
      show cntK 2 es ((z : Nat) : Int) (i + 1) + cntK 1 es ((z : Nat) : Int) (i + 1) = cntK 2 es ((z : Nat) : Int) i + cntK 1 es ((z : Nat) : Int) i + _
      rw [cnt_succ, cnt_succ]
      by_cases c : z = (es.getD i EvR.d).note.toNat
      · have c' : (es.getD i EvR.d).note = ((z : Nat) : Int) := by omega
        rw [if_pos c]
        rcases hk i (by omega) with k | k
        · rw [if_pos ⟨k, c'⟩, if_neg (fun e => by rw [k] at e; exact absurd e.1 (by decide))]; omega
        · rw [if_neg (fun e => by rw [k] at e; exact absurd e.1 (by decide)), if_pos ⟨k, c'⟩]; omega
      · have c' : ¬ (es.getD i EvR.d).note = ((z : Nat) : Int) := by omega
        rw [if_neg c, if_neg (fun e => c' e.2), if_neg (fun e => c' e.2)]; omega)
    rw [e, ih]
theorem starts_num (hn : ∀ i, i < N → 0 ≤ (es.getD i EvR.d).note ∧ (es.getD i EvR.d).note < ((q : Nat) : Int)) : ∀ i, i ≤ N → sumZ (fun z => if 0 < cntK 2 es ((z : Nat) : Int) i then 1 else 0) q = startsN es i
  | 0, _ => by
    have : ∀ q, sumZ (fun z => if 0 < cntK 2 es ((z : Nat) : Int) 0 then 1 else 0) q = 0 := fun q => by
      induction q with
      | zero => rfl
      | succ q ih => unfold sumZ; rw [ih]; rfl
    exact this q
  | i + 1, hi => by
    have ih := starts_num hn i (by omega)
    obtain ⟨h0, h1⟩ := hn i (by omega)
    have e : startsN es (i + 1) = if (es.getD i EvR.d).kind = 2 then putN (startsF es i) (es.getD i EvR.d).note (startsN es i) else startsN es i := rfl
    rw [e]
    by_cases k : (es.getD i EvR.d).kind = 2
    · rw [if_pos k]
      unfold putN
      rw [starts_some]
      have cz : ∀ z : Nat, z ≠ (es.getD i EvR.d).note.toNat → cntK 2 es ((z : Nat) : Int) (i + 1) = cntK 2 es ((z : Nat) : Int) i := fun z hz => by
        rw [cnt_succ, if_neg (fun e => hz (by have := e.2; omega))]; rfl
      have ch := cnt_hit (es := es) (i := i) k rfl
      by_cases c : 0 < cntK 2 es (es.getD i EvR.d).note i
      · rw [decide_eq_true c, if_pos rfl, ← ih]
        refine sumZ_congr fun z hz => ?_
        by_cases hz' : z = (es.getD i EvR.d).note.toNat
        · have c' : ((z : Nat) : Int) = (es.getD i EvR.d).note := by omega
          rw [c', ch, if_pos (by omega), if_pos c]
        · rw [cz z hz']
      · rw [decide_eq_false c, if_neg (by decide), ← ih]
        refine sumZ_up (z0 := (es.getD i EvR.d).note.toNat) (by omega) fun z hz => ?_
        by_cases hz' : z = (es.getD i EvR.d).note.toNat
        · have c' : ((z : Nat) : Int) = (es.getD i EvR.d).note := by omega
          rw [if_pos hz', c', ch, if_pos (by omega), if_neg c]
        · rw [if_neg hz', cz z hz']; rfl
    · rw [if_neg k, ← ih]
      refine sumZ_congr fun z hz => ?_
      have e3 : cntK 2 es ((z : Nat) : Int) (i + 1) = cntK 2 es ((z : Nat) : Int) i := by rw [cnt_succ, if_neg (fun e => k e.1)]; rfl
      rw [e3]
theorem stops_num (hn : ∀ i, i < N → 0 ≤ (es.getD i EvR.d).note ∧ (es.getD i EvR.d).note < ((q : Nat) : Int)) : ∀ i, i ≤ N → sumZ (fun z => if 0 < cntK 1 es ((z : Nat) : Int) i then 1 else 0) q = stopsN es i
  | 0, _ => by
    have : ∀ q, sumZ (fun z => if 0 < cntK 1 es ((z : Nat) : Int) 0 then 1 else 0) q = 0 := fun q => by
      induction q with
      | zero => rfl
      | succ q ih => unfold sumZ; rw [ih]; rfl
    exact this q
  | i + 1, hi => by
    have ih := stops_num hn i (by omega)
    obtain ⟨h0, h1⟩ := hn i (by omega)
    have e : stopsN es (i + 1) = if (es.getD i EvR.d).kind = 1 then putN (stopsF es i) (es.getD i EvR.d).note (stopsN es i) else stopsN es i := rfl
    rw [e]
    by_cases k : (es.getD i EvR.d).kind = 1
    · rw [if_pos k]
      unfold putN
      rw [(stops_some _ _ _).1]
      have cz : ∀ z : Nat, z ≠ (es.getD i EvR.d).note.toNat → cntK 1 es ((z : Nat) : Int) (i + 1) = cntK 1 es ((z : Nat) : Int) i := fun z hz => by
        rw [cnt_succ, if_neg (fun e => hz (by have := e.2; omega))]; rfl
      have ch := cnt_hit (es := es) (i := i) k rfl
      by_cases c : 0 < cntK 1 es (es.getD i EvR.d).note i
      · rw [decide_eq_true c, if_pos rfl, ← ih]
        refine sumZ_congr fun z hz => ?_
        by_cases hz' : z = (es.getD i EvR.d).note.toNat
        · have c' : ((z : Nat) : Int) = (es.getD i EvR.d).note := by omega
          rw [c', ch, if_pos (by omega), if_pos c]
        · rw [cz z hz']
      · rw [decide_eq_false c, if_neg (by decide), ← ih]
        refine sumZ_up (z0 := (es.getD i EvR.d).note.toNat) (by omega) fun z hz => ?_
        by_cases hz' : z = (es.getD i EvR.d).note.toNat
        · have c' : ((z : Nat) : Int) = (es.getD i EvR.d).note := by omega
          rw [if_pos hz', c', ch, if_pos (by omega), if_neg c]
        · rw [if_neg hz', cz z hz']; rfl
    · rw [if_neg k, ← ih]
      refine sumZ_congr fun z hz => ?_
      have e3 : cntK 1 es ((z : Nat) : Int) (i + 1) = cntK 1 es ((z : Nat) : Int) i := by rw [cnt_succ, if_neg (fun e => k e.1)]; rfl
      rw [e3]
theorem Fine.ltK (F : Fine es N q m) : ∀ d i, i + d + 1 < N → ltK es N i (i + d + 1)
  | 0, i, h => F.ord (i + 1) (by omega) h
  | d + 1, i, h => ltK_trans (F.ltK d i (by omega)) (F.ord (i + d + 2) (by omega) h)
theorem Fine.start (F : Fine es N q m) {i : Nat} (hi : i < N) : ∃ p, p < N ∧ (es.getD p EvR.d).kind = 2 ∧ (es.getD p EvR.d).note = (es.getD i EvR.d).note ∧ startsF es N (es.getD i EvR.d).note = some (.int .i64 (es.getD p EvR.d).at_) ∧ firstI es (es.getD i EvR.d).note N = (es.getD p EvR.d).at_ := by
  obtain ⟨h0, h1⟩ := F.note i hi
  have c := (F.one (es.getD i EvR.d).note.toNat (by omega)).1
  rw [Int.toNat_of_nonneg h0] at c
  obtain ⟨p, hp, hk, hz⟩ := cnt_pos (k := 2) (es := es) (z := (es.getD i EvR.d).note) (i := N) (by omega)
  obtain ⟨a, b⟩ := first_at hp hk hz (by omega)
  exact ⟨p, hp, hk, hz, a, b⟩
theorem one_of (hn : ∀ i, i < N → 0 ≤ (es.getD i EvR.d).note ∧ (es.getD i EvR.d).note < ((q : Nat) : Int)) (one : ∀ z : Nat, z < q → cntK 2 es ((z : Nat) : Int) N = 1 ∧ cntK 1 es ((z : Nat) : Int) N = 1) {i : Nat} (hi : i < N) : cntK 2 es (es.getD i EvR.d).note N = 1 ∧ cntK 1 es (es.getD i EvR.d).note N = 1 := by
  obtain ⟨h0, h1⟩ := hn i hi
  have c := one (es.getD i EvR.d).note.toNat (by omega)
  rwa [Int.toNat_of_nonneg h0] at c
/-- the late number is the same -/
theorem late_same (hn : ∀ i, i < N → 0 ≤ (es.getD i EvR.d).note ∧ (es.getD i EvR.d).note < ((q : Nat) : Int)) (one : ∀ z : Nat, z < q → cntK 2 es ((z : Nat) : Int) N = 1 ∧ cntK 1 es ((z : Nat) : Int) N = 1) {i : Nat} (hi : i < N) : lateI (startsF es N (es.getD i EvR.d).note) (es.getD i EvR.d).at_ (es.getD i EvR.d).kind = kB es N i := by
  have c := (one_of hn one hi).1
  obtain ⟨a, g1, g2⟩ := (starts_first es (es.getD i EvR.d).note N).2 c
  unfold kB lateI lateS firstI
  rw [g1, g2]
  by_cases k : (es.getD i EvR.d).kind = 1
  · rw [if_pos k, if_pos k]
    by_cases l : a < (es.getD i EvR.d).at_
    · rw [if_pos ⟨rfl, l⟩]; exact (if_pos l).symm
    · rw [if_neg (fun h => l h.2)]; exact (if_neg l).symm
  · rw [if_neg k, if_neg k]
theorem ord_same (hn : ∀ i, i < N → 0 ≤ (es.getD i EvR.d).note ∧ (es.getD i EvR.d).note < ((q : Nat) : Int)) (one : ∀ z : Nat, z < q → cntK 2 es ((z : Nat) : Int) N = 1 ∧ cntK 1 es ((z : Nat) : Int) N = 1) {i : Nat} (h0 : 0 < i) (hi : i < N) : ordI es N i < 0 ↔ ltK es N (i - 1) i := by
  unfold ordI ltK
  rw [cmp4_less, late_same hn one (show i - 1 < N by omega), late_same hn one hi]
theorem Fine.of_S (h : evS es N m = true) : N = 2 * (N / 2) ∧ N / 2 ≤ 64 ∧ Fine es N (N / 2) m := by
  unfold evS at h
  rw [Bool.and_eq_true, Bool.and_eq_true, Bool.and_eq_true, decide_eq_true_eq, decide_eq_true_eq] at h
  obtain ⟨⟨⟨h1, h2⟩, h3⟩, h4⟩ := h
  have le := evS1_cnt h3
  have st := evS1_all.1 h3
  have nt : ∀ i, i < N → 0 ≤ (es.getD i EvR.d).note ∧ (es.getD i EvR.d).note < ((N / 2 : Nat) : Int) := fun i hi => by
    have := (stepS_cnt (st i hi)).2.1
    rw [vIn_t] at this
    omega
  have kd : ∀ i, i < N → (es.getD i EvR.d).kind = 2 ∨ (es.getD i EvR.d).kind = 1 := fun i hi => by
    rcases (stepS_cnt (st i hi)).2.2 with c | c
    · exact .inl c.1
    · exact .inr c.1
  have s := sum_cnt nt kd N (Nat.le_refl _)
  have all := sumZ_top (f := fun z => cntK 2 es ((z : Nat) : Int) N + cntK 1 es ((z : Nat) : Int) N) (q := N / 2) (c := 2) (fun z hz => by have := le ((z : Nat) : Int); show cntK 2 es ((z : Nat) : Int) N + cntK 1 es ((z : Nat) : Int) N ≤ 2; omega) (by rw [s]; omega)
  refine ⟨h1, h2, fun i hi => (stepS_cnt (st i hi)).1, nt, fun i hi => ?_, fun z hz => ?_, fun i h0 hi => evS2_all.1 h4 i h0 hi, fun i hi hk => ?_⟩
  · have c := st i hi
    unfold stepS at c
    rw [Bool.and_eq_true] at c
    have c := c.2
    by_cases k : (es.getD i EvR.d).kind = 2
    · rw [if_pos k] at c
      simp only [Bool.and_eq_true] at c
      exact .inl ⟨k, c.1.1.1.2, c.1.1.2, c.1.2⟩
    · rw [if_neg k] at c
      simp only [Bool.and_eq_true] at c
      refine .inr ⟨eq_of_beq c.1.1.1.1.1, eq_of_beq c.1.1.1.2, eq_of_beq c.1.1.2, ?_⟩
      have := eq_of_beq c.1.2
      rw [this, cn_z]
  · have a := all z hz
    have b := le ((z : Nat) : Int)
    have a' : cntK 2 es ((z : Nat) : Int) N + cntK 1 es ((z : Nat) : Int) N = 2 := a
    omega
  · rcases (stepS_cnt (st i hi)).2.2 with c | c
    · rw [c.1] at hk; exact absurd hk (by decide)
    · have b := cnt_mono (k := 2) (es := es) (z := (es.getD i EvR.d).note) (show i ≤ N by omega)
      have := le (es.getD i EvR.d).note
      omega
theorem Fine.to_S (h1 : N = 2 * (N / 2)) (h2 : N / 2 ≤ 64) (F : Fine es N (N / 2) m) : evS es N m = true := by
  refine evS_t h1 h2 (evS1_all.2 fun i hi => ?_) (evS2_all.2 fun i h0 hi => F.ord i h0 hi)
  obtain ⟨n0, n1⟩ := F.note i hi
  obtain ⟨c2, c1⟩ := one_of F.note F.one hi
  have vn : vIn (es.getD i EvR.d).note (0 : Int) (((N / 2 : Nat) : Int) - (1 : Int)) = true := (vIn_t _ _ _).2 ⟨n0, by omega⟩
  rcases F.kind i hi with ⟨k, a, b, c⟩ | ⟨k, a, b, c⟩
  · have ch := cnt_hit (es := es) (i := i) k rfl
    have mo := cnt_mono (k := 2) (es := es) (z := (es.getD i EvR.d).note) (show i + 1 ≤ N by omega)
    refine stepS_2 k (F.at_ i hi) vn ?_ a b c (by omega)
    rcases Nat.eq_zero_or_pos (cntK 1 es (es.getD i EvR.d).note i) with e | e
    · exact e
    · exfalso
      obtain ⟨p, hp, hk, hz⟩ := cnt_pos e
      have f := F.first p (by omega) hk
      rw [hz] at f
      have m2 := cnt_mono (k := 2) (es := es) (z := (es.getD i EvR.d).note) (show p ≤ i by omega)
      omega
  · have ch := cnt_hit (es := es) (i := i) k rfl
    have mo := cnt_mono (k := 1) (es := es) (z := (es.getD i EvR.d).note) (show i + 1 ≤ N by omega)
    have f := F.first i hi k
    exact stepS_1 k (F.at_ i hi) vn (by omega) a b (by rw [c, cn_z]; rfl) (by omega)
theorem Fine.of_P (h : evP es N m = true) : N = 2 * (N / 2) ∧ N / 2 ≤ 64 ∧ Fine es N (N / 2) m := by
  unfold evP at h
  simp only [Bool.and_eq_true, decide_eq_true_eq] at h
  obtain ⟨⟨⟨⟨h1, h2⟩, h3⟩, h4⟩, h5⟩ := h
  have e1 : N = 2 * (N / 2) := by omega
  have st := evI1_all.1 h3
  have sp : ∀ i, i < N → evI (es.getD i EvR.d).at_ (es.getD i EvR.d).kind (es.getD i EvR.d).ins (es.getD i EvR.d).key (es.getD i EvR.d).force m = true ∧ vIn (es.getD i EvR.d).note (0 : Int) (((N / 2 : Nat) : Int) - (1 : Int)) = true ∧ (0 < i → ordI es N i < 0) ∧ ((es.getD i EvR.d).kind = 1 → (startsF es N (es.getD i EvR.d).note).isSome = true ∧ lkI (startsF es N (es.getD i EvR.d).note) ≤ (es.getD i EvR.d).at_ ∧ lkB (stopsF es i (es.getD i EvR.d).note) = false) := fun i hi => by
    have hb := st i hi
    unfold stepI at hb
    simp only [Bool.and_eq_true] at hb
    obtain ⟨⟨⟨a, b⟩, c⟩, d⟩ := hb
    refine ⟨a, b, fun h => ?_, fun h => ?_⟩
    · rw [if_pos h] at c; exact of_decide_eq_true c
    · rw [if_pos h] at d
      simp only [Bool.and_eq_true, decide_eq_true_eq, Bool.not_eq_true'] at d
      exact ⟨d.1.1, d.1.2, d.2⟩
  have nt : ∀ i, i < N → 0 ≤ (es.getD i EvR.d).note ∧ (es.getD i EvR.d).note < ((N / 2 : Nat) : Int) := fun i hi => by
    have := (sp i hi).2.1
    rw [vIn_t] at this
    omega
  have fields : ∀ i, i < N → vIn (es.getD i EvR.d).at_ (0 : Int) (100000 : Int) = true ∧ (((es.getD i EvR.d).kind = 2 ∧ vIn (es.getD i EvR.d).ins (0 : Int) (m - (1 : Int)) = true ∧ vIn (es.getD i EvR.d).key (-100 : Int) (100 : Int) = true ∧ finF (es.getD i EvR.d).force = true) ∨ ((es.getD i EvR.d).kind = 1 ∧ (es.getD i EvR.d).ins = 0 ∧ (es.getD i EvR.d).key = 0 ∧ cn .f32 (es.getD i EvR.d).force = 0)) := fun i hi => by
    have a := (sp i hi).1
    unfold evI at a
    rw [Bool.and_eq_true] at a
    refine ⟨a.1, ?_⟩
    have a := a.2
    by_cases k : (es.getD i EvR.d).kind = 1
    · rw [if_pos k] at a
      simp only [Bool.and_eq_true] at a
      exact .inr ⟨k, eq_of_beq a.1.1, eq_of_beq a.1.2, Int.ofNat.inj (eq_of_beq a.2)⟩
    · rw [if_neg k] at a
      simp only [Bool.and_eq_true] at a
      exact .inl ⟨eq_of_beq a.1.1.1, a.1.1.2, a.1.2, a.2⟩
  have kd : ∀ i, i < N → (es.getD i EvR.d).kind = 2 ∨ (es.getD i EvR.d).kind = 1 := fun i hi => by
    rcases (fields i hi).2 with c | c
    · exact .inl c.1
    · exact .inr c.1
  have s := sum_cnt nt kd N (Nat.le_refl _)
  have s2 := starts_num nt N (Nat.le_refl _)
  have s1 := stops_num nt N (Nat.le_refl _)
  rw [eq_of_beq h4] at s2
  rw [eq_of_beq h5] at s1
  have g2 := sumZ_top (f := fun z => if 0 < cntK 2 es ((z : Nat) : Int) N then 1 else 0) (q := N / 2) (c := 1) (fun z hz => by show (if 0 < cntK 2 es ((z : Nat) : Int) N then 1 else 0) ≤ 1; split <;> omega) (by rw [s2]; omega)
  have g1 := sumZ_top (f := fun z => if 0 < cntK 1 es ((z : Nat) : Int) N then 1 else 0) (q := N / 2) (c := 1) (fun z hz => by show (if 0 < cntK 1 es ((z : Nat) : Int) N then 1 else 0) ≤ 1; split <;> omega) (by rw [s1]; omega)
  have p2 : ∀ z : Nat, z < N / 2 → 0 < cntK 2 es ((z : Nat) : Int) N := fun z hz => by
    have a : (if 0 < cntK 2 es ((z : Nat) : Int) N then 1 else 0) = 1 := g2 z hz
    rcases Nat.eq_zero_or_pos (cntK 2 es ((z : Nat) : Int) N) with e | e
    · rw [if_neg (by omega)] at a; omega
    · exact e
  have p1 : ∀ z : Nat, z < N / 2 → 0 < cntK 1 es ((z : Nat) : Int) N := fun z hz => by
    have a : (if 0 < cntK 1 es ((z : Nat) : Int) N then 1 else 0) = 1 := g1 z hz
    rcases Nat.eq_zero_or_pos (cntK 1 es ((z : Nat) : Int) N) with e | e
    · rw [if_neg (by omega)] at a; omega
    · exact e
  have all := sumZ_low (f := fun z => cntK 2 es ((z : Nat) : Int) N + cntK 1 es ((z : Nat) : Int) N) (q := N / 2) (c := 2) (fun z hz => by have := p2 z hz; have := p1 z hz; show 2 ≤ cntK 2 es ((z : Nat) : Int) N + cntK 1 es ((z : Nat) : Int) N; omega) (by rw [s]; omega)
  have one : ∀ z : Nat, z < N / 2 → cntK 2 es ((z : Nat) : Int) N = 1 ∧ cntK 1 es ((z : Nat) : Int) N = 1 := fun z hz => by
    have a' : cntK 2 es ((z : Nat) : Int) N + cntK 1 es ((z : Nat) : Int) N = 2 := all z hz
    have := p2 z hz
    have := p1 z hz
    omega
  have od : ∀ i, 0 < i → i < N → Go.Proofs.YtdopidalhkcefaaDoor.ltK es N (i - 1) i := fun i h0 hi => (ord_same nt one h0 hi).1 ((sp i hi).2.2.1 h0)
  have F0 : ∀ d i, i + d + 1 < N → Go.Proofs.YtdopidalhkcefaaDoor.ltK es N i (i + d + 1) := fun d => by
    induction d with
    | zero => exact fun i h => od (i + 1) (by omega) h
    | succ d ih => exact fun i h => ltK_trans (ih i (by omega)) (od (i + d + 2) (by omega) h)
  refine ⟨e1, by omega, fun i hi => (fields i hi).1, nt, fun i hi => (fields i hi).2, one, od, fun i hi hk => ?_⟩
  obtain ⟨c2, c1⟩ := one_of nt one hi
  obtain ⟨p, hp, pk, pz⟩ := cnt_pos (k := 2) (es := es) (z := (es.getD i EvR.d).note) (i := N) (by omega)
  obtain ⟨f1, f2⟩ := first_at hp pk pz (by omega)
  have le := ((sp i hi).2.2.2 hk).2.1
  rw [f1] at le
  have le : (es.getD p EvR.d).at_ ≤ (es.getD i EvR.d).at_ := le
  have hpi : p < i := by
    rcases Nat.lt_trichotomy p i with c | c | c
    · exact c
    · subst c; rw [pk] at hk; exact absurd hk (by decide)
    · exfalso
      have l := F0 (p - i - 1) i (by omega)
      rw [show i + (p - i - 1) + 1 = p by omega] at l
      unfold Go.Proofs.YtdopidalhkcefaaDoor.ltK at l
      rw [less4_iff] at l
      have b1 : kB es N i = if (es.getD p EvR.d).at_ < (es.getD i EvR.d).at_ then 0 else 1 := by unfold kB lateS; rw [if_pos hk, f2]
      have b2 : kB es N p = 1 := by unfold kB lateS; rw [if_neg (by rw [pk]; decide)]
      have s1 : stopK (es.getD i EvR.d).kind = 1 := by unfold stopK; rw [if_pos hk]
      have s2 : stopK (es.getD p EvR.d).kind = 0 := by unfold stopK; rw [if_neg (by rw [pk]; decide)]
      rw [b1, b2, s1, s2, pz] at l
      split at l <;> omega
  have ch := cnt_hit (es := es) (i := p) pk pz
  have m1 := cnt_mono (k := 2) (es := es) (z := (es.getD i EvR.d).note) (show p + 1 ≤ i by omega)
  have m2 := cnt_mono (k := 2) (es := es) (z := (es.getD i EvR.d).note) (show i ≤ N by omega)
  omega
theorem Fine.to_P (h1 : N = 2 * (N / 2)) (h2 : N / 2 ≤ 64) (F : Fine es N (N / 2) m) : evP es N m = true := by
  have i1 : evI1 es N ((N / 2 : Nat) : Int) m N = true := evI1_all.2 fun i hi => by
    obtain ⟨n0, n1⟩ := F.note i hi
    obtain ⟨c2, c1⟩ := one_of F.note F.one hi
    refine stepI_t ?_ ((vIn_t _ _ _).2 ⟨n0, by omega⟩) (fun h0 => (ord_same F.note F.one h0 hi).2 (F.ord i h0 hi)) (fun hk => ?_)
    · unfold evI
      rw [F.at_ i hi]
      rcases F.kind i hi with ⟨k, a, b, c⟩ | ⟨k, a, b, c⟩
      · rw [if_neg (by rw [k]; decide), k, a, b, c]; rfl
      · rw [if_pos k, a, b, c]; rfl
    · obtain ⟨p, hp, pk, pz⟩ := cnt_pos (k := 2) (es := es) (z := (es.getD i EvR.d).note) (i := i) (by have := F.first i hi hk; omega)
      obtain ⟨f1, f2⟩ := first_at (z := (es.getD i EvR.d).note) (show p < N by omega) pk pz (by omega)
      rw [f1]
      refine ⟨rfl, ?_, ?_⟩
      · have l := F.ltK (i - p - 1) p (by omega)
        rw [show p + (i - p - 1) + 1 = i by omega] at l
        unfold Go.Proofs.YtdopidalhkcefaaDoor.ltK at l
        rw [less4_iff] at l
        show (es.getD p EvR.d).at_ ≤ _
        omega
      · rw [(stops_some es _ i).2]
        refine decide_eq_false ?_
        have ch := cnt_hit (es := es) (i := i) hk rfl
        have mo := cnt_mono (k := 1) (es := es) (z := (es.getD i EvR.d).note) (show i + 1 ≤ N by omega)
        omega
  rw [evP_t (by omega) (by omega) i1]
  have s2 := starts_num F.note N (Nat.le_refl _)
  have s1 := stops_num F.note N (Nat.le_refl _)
  have one : ∀ c, sumZ (fun _ => 1) c = c := fun c => by
    induction c with
    | zero => rfl
    | succ c ih => unfold sumZ; rw [ih]
  rw [sumZ_congr (g := fun _ => 1) (fun z hz => by rw [(F.one z hz).1]; rfl), one] at s2
  rw [sumZ_congr (g := fun _ => 1) (fun z hz => by rw [(F.one z hz).2]; rfl), one] at s1
  rw [← s2, ← s1]
  simp
end
theorem evP_eq (es : List EvR) (N : Nat) (m : Int) : evP es N m = evS es N m := by
  cases h : evS es N m
  · cases h2 : evP es N m
    · rfl
    · obtain ⟨a, b, F⟩ := Fine.of_P h2
      rw [F.to_S a b] at h; cases h
  · obtain ⟨a, b, F⟩ := Fine.of_S h
    exact F.to_P a b
theorem vScP_eq (ra ba oc : Nat) (ds : List Nat) (nD : Nat) (is_ : List InR) (nI : Nat) (es : List EvR) (nE : Nat) : vScP ra ba oc ds nD is_ nI es nE = vScS ra ba oc ds nD is_ nI es nE := by
  unfold vScP vScS; rw [evP_eq]
end Go.Proofs.YtdopidalhkcefaaDoor
