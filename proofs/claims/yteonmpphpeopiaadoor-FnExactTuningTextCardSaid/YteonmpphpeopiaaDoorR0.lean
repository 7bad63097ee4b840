/- Whole numbers in texts: what the program's reading and the reference's reading find is the same. -/
import Derived.Lib.ParseIntB
import Derived.Lib.ItoaNum
import Derived.Lib.IndexLaws
import Derived.Lib.IndexMore
set_option linter.unusedVariables false
set_option linter.unusedSimpArgs false
namespace Go.Proofs.YteonmpphpeopiaaDoor
open Go

/-- the number that digits spell behind `acc` -/
def digs (acc : Nat) : List UInt8 → Option Nat
  | [] => some acc
  | c :: r => if 48 ≤ c.toNat ∧ c.toNat ≤ 57 then digs (acc * 10 + (c.toNat - 48)) r else none
/-- a whole number of at most six digits -/
def wholeF (l : List UInt8) : Option Nat := if 1 ≤ l.length ∧ l.length ≤ 6 ∧ (l.head? = some 48 → l.length = 1) then digs 0 l else none
theorem digs_snoc (c : UInt8) : ∀ (l : List UInt8) (acc : Nat), digs acc (l ++ [c]) = (digs acc l).bind fun a => if 48 ≤ c.toNat ∧ c.toNat ≤ 57 then some (a * 10 + (c.toNat - 48)) else none
  | [], acc => rfl
  | b :: l, acc => by
    show (if _ then digs _ (l ++ [c]) else none) = (if _ then digs _ l else none).bind _
    by_cases h : 48 ≤ b.toNat ∧ b.toNat ≤ 57
    · rw [if_pos h, if_pos h, digs_snoc c l]
    · rw [if_neg h, if_neg h]; rfl
theorem dig_nat {k : Nat} (h : k < 10) : (UInt8.ofNat (48 + k)).toNat = 48 + k := by
  rw [UInt8.toNat_ofNat']; omega
theorem digs_dec : ∀ k, digs 0 (Lib.decDigits k) = some k := by
  intro k
  induction k using Nat.strongRecOn with
  | _ k ih =>
    rw [Lib.decDigits]
    by_cases h : k < 10
    · rw [dif_pos h]
      show (if _ then some _ else none) = _
      rw [dig_nat h, if_pos (by omega)]
      congr 1; omega
    · rw [dif_neg h, digs_snoc, ih (k / 10) (by omega)]
      show (if _ then some _ else none) = _
      rw [dig_nat (by omega), if_pos (by omega)]
      congr 1; omega
theorem dec_ne (k : Nat) : Lib.decDigits k ≠ [] := by
  rw [Lib.decDigits]; split <;> simp
/-- digits without a zero in front are the numeral -/
theorem dec_of_digs : ∀ (n : Nat) (l : List UInt8) (k : Nat), l.length = n → digs 0 l = some k → l ≠ [] → (l.head? = some 48 → l.length = 1) → Lib.decDigits k = l := by
  intro n
  induction n with
  | zero => intro l k hl _ hn; exact absurd (List.eq_nil_of_length_eq_zero hl) hn
  | succ n ih =>
    intro l k hl hd hn h0
    obtain ⟨l', c, rfl⟩ : ∃ l' c, l = l' ++ [c] := ⟨l.dropLast, l.getLast hn, (List.dropLast_concat_getLast hn).symm⟩
    rw [digs_snoc] at hd
    cases hq : digs 0 l' with
    | none => rw [hq] at hd; cases hd
    | some k' =>
      rw [hq] at hd
      have hd' : (if 48 ≤ c.toNat ∧ c.toNat ≤ 57 then some (k' * 10 + (c.toNat - 48)) else none) = some k := hd
      by_cases hc : 48 ≤ c.toNat ∧ c.toNat ≤ 57
      · rw [if_pos hc] at hd'
        have hk : k' * 10 + (c.toNat - 48) = k := by simpa using hd'
        have hb : ∀ m, m = c.toNat - 48 → [UInt8.ofNat (48 + m)] = [c] := fun m hm => by
          subst hm
          rw [show 48 + (c.toNat - 48) = c.toNat by omega]; simp
        by_cases he : l' = []
        · subst he
          have : k' = 0 := by simpa [digs] using hq.symm
          rw [Lib.decDigits, dif_pos (by omega)]
          exact hb k (by omega)
        · have hl' : l'.length = n := by simpa using hl
          have h48 : l'.head? ≠ some 48 := fun h => by
            have : (l' ++ [c]).head? = some 48 := by rw [List.head?_append, h]; rfl
            have := h0 this
            simp at this; exact he this
          have e := ih l' k' hl' hq he fun h => absurd h h48
          have hk' : 1 ≤ k' := by
            rcases Nat.eq_zero_or_pos k' with h | h
            · subst h
              rw [Lib.decDigits, dif_pos (by omega)] at e
              rw [← e] at h48; exact absurd rfl h48
            · exact h
          rw [Lib.decDigits, dif_neg (by omega), show k / 10 = k' by omega, e]
          rw [hb (k % 10) (by omega)]
      · rw [if_neg hc] at hd'; cases hd'
theorem dec_head : ∀ k, 1 ≤ k → (Lib.decDigits k).head? ≠ some 48 := by
  intro k
  induction k using Nat.strongRecOn with
  | _ k ih =>
    intro h1
    rw [Lib.decDigits]
    by_cases h : k < 10
    · rw [dif_pos h]
      intro e
      have e1 : UInt8.ofNat (48 + k) = 48 := by simpa using e
      have := dig_nat h
      rw [e1] at this
      have : (48 : UInt8).toNat = 48 := rfl
      omega
    · rw [dif_neg h, List.head?_append]
      have := ih (k / 10) (by omega) (by omega)
      cases hh : (Lib.decDigits (k / 10)).head? with
      | none => exact absurd (List.head?_eq_none_iff.1 hh) (dec_ne _)
      | some x => rw [hh] at this; exact this
theorem digs_le : ∀ (l : List UInt8) (acc u : Nat), digs acc l = some u → acc ≤ u
  | [], acc, u, h => by have : acc = u := by simpa [digs] using h
                        omega
  | c :: l, acc, u, h => by
    have h' : (if 48 ≤ c.toNat ∧ c.toNat ≤ 57 then digs (acc * 10 + (c.toNat - 48)) l else none) = some u := h
    split at h'
    · have := digs_le l _ u h'; omega
    · cases h'
theorem digs_lt : ∀ (l : List UInt8) (acc u : Nat), digs acc l = some u → u < (acc + 1) * 10 ^ l.length
  | [], acc, u, h => by have : acc = u := by simpa [digs] using h
                        simp; omega
  | c :: l, acc, u, h => by
    have h' : (if 48 ≤ c.toNat ∧ c.toNat ≤ 57 then digs (acc * 10 + (c.toNat - 48)) l else none) = some u := h
    split at h'
    · have h1 := digs_lt l _ u h'
      have h2 : acc * 10 + (c.toNat - 48) + 1 ≤ (acc + 1) * 10 := by omega
      have h3 := Nat.mul_le_mul_right (10 ^ l.length) h2
      rw [List.length_cons, Nat.pow_succ, Nat.mul_comm (10 ^ l.length) 10, ← Nat.mul_assoc]
      omega
    · cases h'
theorem parse_digs : ∀ (l : List UInt8) (acc u : Nat), Lib.parseUintM (2 ^ 64 - 1) acc l = .ok u → digs acc l = some u
  | [], acc, u, h => by
    simp only [Lib.parseUintM] at h
    injection h with h; rw [h]; rfl
  | c :: l, acc, u, h => by
    unfold Lib.parseUintM at h
    show (if _ then _ else none) = _
    split at h
    · rename_i hc
      rw [if_pos hc]
      split at h
      · cases h
      · split at h
        · cases h
        · exact parse_digs l _ u h
    · cases h
theorem digs_parse : ∀ (l : List UInt8) (acc u : Nat), digs acc l = some u → u ≤ 1000000 → Lib.parseUintM (2 ^ 64 - 1) acc l = .ok u
  | [], acc, u, h, _ => by
    have : acc = u := by simpa [digs] using h
    rw [this]; rfl
  | c :: l, acc, u, h, hu => by
    have h' : (if 48 ≤ c.toNat ∧ c.toNat ≤ 57 then digs (acc * 10 + (c.toNat - 48)) l else none) = some u := h
    split at h'
    · rename_i hc
      have h1 := digs_le l _ u h'
      unfold Lib.parseUintM
      rw [if_pos hc, if_neg (by omega), if_neg (by omega)]
      exact digs_parse l _ u h' hu
    · cases h'
theorem whole_lt {l : List UInt8} {k : Nat} (h : wholeF l = some k) : k < 1000000 := by
  unfold wholeF at h
  split at h
  · rename_i hc
    have h1 := digs_lt l 0 k h
    have h2 : 10 ^ l.length ≤ 10 ^ 6 := Nat.pow_le_pow_right (by omega) hc.2.1
    have : (10 : Nat) ^ 6 = 1000000 := by decide
    omega
  · cases h
/-- the program finds what the reference finds -/
theorem ok_dec {l : List UInt8} {k : Nat} (h : wholeF l = some k) : Lib.parseIntB 64 l = .ok (k : Int) ∧ Lib.itoa (k : Int) = l := by
  have hk := whole_lt h
  unfold wholeF at h
  split at h
  · rename_i hc
    have hn : l ≠ [] := fun e => by rw [e] at hc; simp at hc
    have hp := digs_parse l 0 k h (by omega)
    refine ⟨?_, ?_⟩
    · match l, hn, h, hp with
      | c :: r, _, h, hp =>
        have h' : (if 48 ≤ c.toNat ∧ c.toNat ≤ 57 then digs (0 * 10 + (c.toNat - 48)) r else none) = some k := h
        have hd : 48 ≤ c.toNat ∧ c.toNat ≤ 57 := by
          by_cases hd : 48 ≤ c.toNat ∧ c.toNat ≤ 57
          · exact hd
          · rw [if_neg hd] at h'; cases h'
        unfold Lib.parseIntB
        simp only []
        rw [if_neg (show ¬ (c.toNat = 43 ∨ c.toNat = 45) by omega)]
        unfold Lib.parseUintB
        rw [if_neg (by simp), hp]
        have e1 : ¬ (c.toNat = 45) := by omega
        have e2 : ¬ (2 ^ (64 - 1) ≤ k) := by omega
        simp only [e1, e2, and_false, false_and, if_false, not_false_eq_true, and_true]
    · have e := dec_of_digs l.length l k rfl h hn hc.2.2
      show (if _ then _ else _) = l
      rw [if_neg (by omega)]
      simpa using e
  · cases h
theorem dec_ok {l : List UInt8} {v : Int} (e : Lib.itoa v = l) (h0 : 0 ≤ v) (h6 : l.length ≤ 6) : wholeF l = some v.toNat := by
  obtain ⟨k, rfl⟩ := Int.eq_ofNat_of_zero_le h0
  have e' : Lib.decDigits k = l := by
    unfold Lib.itoa at e
    rw [if_neg (by omega)] at e
    simpa using e
  unfold wholeF
  have hd := digs_dec k
  rw [e'] at hd
  have hn := dec_ne k
  rw [e'] at hn
  have h1 : 1 ≤ l.length := by
    rcases Nat.eq_zero_or_pos l.length with h | h
    · exact absurd (List.eq_nil_of_length_eq_zero h) hn
    · exact h
  have hz : l.head? = some 48 → l.length = 1 := fun hh => by
    by_cases hk : k < 10
    · rw [← e', Lib.decDigits, dif_pos hk]; rfl
    · exact absurd hh (by rw [← e']; exact dec_head k (by omega))
  rw [if_pos ⟨h1, h6, hz⟩]
  simpa using hd
/-- what readDecimal answers -/
def decV (l : List UInt8) : Int := match Lib.parseIntB 64 l with | .ok v => v | .syntax => 0 | .range => Lib.intSat 64 l
def decO (l : List UInt8) : Bool := match Lib.parseIntB 64 l with | .ok v => Lib.itoa v == l | _ => false
theorem dec_some {l : List UInt8} {k : Nat} (h : wholeF l = some k) : decV l = k ∧ (decO l && decide (0 ≤ decV l) && decide ((l.length : Int) ≤ 6)) = true := by
  obtain ⟨h1, h2⟩ := ok_dec h
  have h3 : l.length ≤ 6 := by
    unfold wholeF at h
    split at h
    · rename_i hc; exact hc.2.1
    · cases h
  have e1 : decV l = k := by unfold decV; rw [h1]
  have e2 : decO l = true := by unfold decO; rw [h1]; simp [h2]
  refine ⟨e1, ?_⟩
  rw [e1, e2]
  simp only [Bool.true_and, Bool.and_eq_true, decide_eq_true_eq]
  omega
theorem dec_none {l : List UInt8} (h : wholeF l = none) : (decO l && decide (0 ≤ decV l) && decide ((l.length : Int) ≤ 6)) = false := by
  cases hb : (decO l && decide (0 ≤ decV l) && decide ((l.length : Int) ≤ 6))
  · rfl
  · rw [Bool.and_eq_true, Bool.and_eq_true, decide_eq_true_eq, decide_eq_true_eq] at hb
    obtain ⟨⟨h1, h2⟩, h3⟩ := hb
    unfold decO at h1
    unfold decV at h2
    cases hp : Lib.parseIntB 64 l with
    | ok v =>
      rw [hp] at h1 h2
      have := dec_ok (l := l) (v := v) (by simpa using h1) h2 (by omega)
      rw [h] at this; cases this
    | «syntax» => rw [hp] at h1; cases h1
    | range => rw [hp] at h1; cases h1
end Go.Proofs.YteonmpphpeopiaaDoor
