/- Samples that are read from their texts: plain laws. -/
import Derived.Test.YtpjjnopjpgnlaaaDoorR9
set_option linter.unusedVariables false
set_option linter.unusedSimpArgs false
namespace Go.Proofs.YtpjjnopjpgnlaaaDoor
open Go

/-- the number that small hexadecimal digits spell behind `acc` -/
def hexD : Nat → List UInt8 → Option Nat
  | acc, [] => some acc
  | acc, c :: r => if 48 ≤ c.toNat ∧ c.toNat ≤ 57 then hexD (acc * 16 + (c.toNat - 48)) r else if 97 ≤ c.toNat ∧ c.toNat ≤ 102 then hexD (acc * 16 + (c.toNat - 87)) r else none
theorem hexD_snoc (c : UInt8) : ∀ (l : List UInt8) (acc : Nat), hexD acc (l ++ [c]) = (hexD acc l).bind fun a => if 48 ≤ c.toNat ∧ c.toNat ≤ 57 then some (a * 16 + (c.toNat - 48)) else if 97 ≤ c.toNat ∧ c.toNat ≤ 102 then some (a * 16 + (c.toNat - 87)) else none
  | [], acc => rfl
  | b :: l, acc => by
    show (if _ then hexD _ (l ++ [c]) else if _ then hexD _ (l ++ [c]) else none) = (if _ then hexD _ l else if _ then hexD _ l else none).bind _
    split
    · exact hexD_snoc c l _
    · split
      · exact hexD_snoc c l _
      · rfl
theorem hxb_all : ∀ n : Fin 16, (hxb n.1).toNat = if n.1 < 10 then 48 + n.1 else 87 + n.1 := by decide +kernel
theorem hxb_nat {n : Nat} (h : n < 16) : (hxb n).toNat = if n < 10 then 48 + n else 87 + n := hxb_all ⟨n, h⟩
theorem hexD_hexN : ∀ k b, b < 16 ^ k → hexD 0 (hexN k b) = some b
  | 0, b, h => by
    have : b = 0 := by simpa using h
    rw [this]; rfl
  | k + 1, b, h => by
    have h1 : b / 16 < 16 ^ k := by
      rw [Nat.div_lt_iff_lt_mul (by decide)]
      rw [Nat.pow_succ] at h; exact h
    have hm : b % 16 < 16 := Nat.mod_lt _ (by decide)
    rw [hexN, hexD_snoc, hexD_hexN k (b / 16) h1, Option.bind_some, hxb_nat hm]
    by_cases h10 : b % 16 < 10
    · rw [if_pos h10, if_pos (by omega)]; congr 1; omega
    · rw [if_neg h10, if_neg (by omega), if_pos (by omega)]; congr 1; omega
theorem hexN_of : ∀ k l b, l.length = k → hexD 0 l = some b → b < 16 ^ k ∧ l = hexN k b
  | 0, l, b, hl, h => by
    rw [List.eq_nil_of_length_eq_zero hl] at h ⊢
    have : 0 = b := by simpa [hexD] using h
    rw [← this]; exact ⟨by decide, rfl⟩
  | k + 1, l, b, hl, h => by
    have hn : l ≠ [] := fun e => by rw [e] at hl; cases hl
    obtain ⟨l', c, rfl⟩ : ∃ l' c, l = l' ++ [c] := ⟨l.dropLast, l.getLast hn, (List.dropLast_concat_getLast hn).symm⟩
    rw [hexD_snoc] at h
    cases ha : hexD 0 l' with
    | none => rw [ha] at h; cases h
    | some a =>
      obtain ⟨h1, h2⟩ := hexN_of k l' a (by simpa using hl) ha
      rw [ha, Option.bind_some] at h
      have hc : ∃ d, d < 16 ∧ b = a * 16 + d ∧ c = hxb d := by
        split at h
        · rename_i hd
          refine ⟨c.toNat - 48, by omega, (Option.some.inj h).symm, UInt8.toNat_inj.1 ?_⟩
          rw [hxb_nat (by omega), if_pos (by omega)]; omega
        · split at h
          · rename_i hd
            refine ⟨c.toNat - 87, by omega, (Option.some.inj h).symm, UInt8.toNat_inj.1 ?_⟩
            rw [hxb_nat (by omega), if_neg (by omega)]; omega
          · cases h
      obtain ⟨d, hd, rfl, rfl⟩ := hc
      refine ⟨by rw [Nat.pow_succ]; omega, ?_⟩
      rw [hexN, show (a * 16 + d) / 16 = a by omega, show (a * 16 + d) % 16 = d by omega, h2]
/-- the sample with a text -/
def rd (l : List UInt8) : Option Nat := if l.length = 8 then (match hexD 0 l with | some b => if cn .f32 b = b then some b else none | none => none) else none
theorem p8 : (16 : Nat) ^ 8 = 4294967296 := by decide
theorem rd_some {l : List UInt8} {b : Nat} (h : rd l = some b) : l = hexN 8 b ∧ b < 4294967296 ∧ cn .f32 b = b := by
  unfold rd at h
  split at h
  · rename_i hl
    split at h
    · rename_i x hx
      split at h
      · rename_i hc
        obtain rfl := Option.some.inj h
        obtain ⟨h1, h2⟩ := hexN_of 8 l x hl hx
        exact ⟨h2, by rw [p8] at h1; exact h1, hc⟩
      · cases h
    · cases h
  · cases h
theorem rd_hexN {b : Nat} (h : b < 4294967296) (hc : cn .f32 b = b) : rd (hexN 8 b) = some b := by
  unfold rd
  rw [if_pos (hexN_len 8 b), hexD_hexN 8 b (by rw [p8]; exact h)]
  show (if _ then _ else _) = _
  rw [if_pos hc]
/-- how strconv.ParseUint reads a hexadecimal number of 32 bits: what kind of answer (0: a number, 1: too great, 2: none), and the number -/
def lowC (n : Nat) : Nat := n ||| 32
def dgt (n : Nat) : Nat := if 48 ≤ n ∧ n ≤ 57 then n - 48 else if 97 ≤ lowC n ∧ lowC n ≤ 122 then lowC n - 87 else 99
def pu : Nat → List UInt8 → Nat × Nat
  | acc, [] => (0, acc)
  | acc, c :: r => if 16 ≤ dgt c.toNat then (2, 0) else if 4294967295 < acc * 16 + dgt c.toNat then (1, 4294967295) else pu (acc * 16 + dgt c.toNat) r
def puF (l : List UInt8) : Nat × Nat := if l = [] then (2, 0) else pu 0 l
theorem low_all : ∀ n : Fin 256, 97 ≤ n.1 → n.1 ≤ 102 → lowC n.1 = n.1 := by decide +kernel
theorem hexD_le : ∀ (l : List UInt8) (acc b : Nat), hexD acc l = some b → acc ≤ b
  | [], acc, b, h => by
    have : acc = b := by simpa [hexD] using h
    omega
  | c :: l, acc, b, h => by
    have h' : (if 48 ≤ c.toNat ∧ c.toNat ≤ 57 then hexD (acc * 16 + (c.toNat - 48)) l else if 97 ≤ c.toNat ∧ c.toNat ≤ 102 then hexD (acc * 16 + (c.toNat - 87)) l else none) = some b := h
    split at h'
    · have := hexD_le l _ b h'; omega
    · split at h'
      · have := hexD_le l _ b h'; omega
      · cases h'
theorem pu_hex : ∀ (l : List UInt8) (acc b : Nat), hexD acc l = some b → b ≤ 4294967295 → pu acc l = (0, b)
  | [], acc, b, h, _ => by
    have : acc = b := by simpa [hexD] using h
    rw [this]; rfl
  | c :: l, acc, b, h, hb => by
    have h' : (if 48 ≤ c.toNat ∧ c.toNat ≤ 57 then hexD (acc * 16 + (c.toNat - 48)) l else if 97 ≤ c.toNat ∧ c.toNat ≤ 102 then hexD (acc * 16 + (c.toNat - 87)) l else none) = some b := h
    unfold pu
    split at h'
    · rename_i hd
      have e : dgt c.toNat = c.toNat - 48 := by unfold dgt; rw [if_pos hd]
      have hl := hexD_le l _ b h'
      rw [e, if_neg (by omega), if_neg (by omega)]
      exact pu_hex l _ b h' hb
    · split at h'
      · rename_i hd
        have hlow : lowC c.toNat = c.toNat := low_all ⟨c.toNat, c.toNat_lt⟩ hd.1 hd.2
        have e : dgt c.toNat = c.toNat - 87 := by unfold dgt; rw [if_neg (by omega), hlow, if_pos (by omega)]
        have hl := hexD_le l _ b h'
        rw [e, if_neg (by omega), if_neg (by omega)]
        exact pu_hex l _ b h' hb
      · cases h'
theorem pu_rd {l : List UInt8} {b : Nat} (h : rd l = some b) : puF l = (0, b) := by
  obtain ⟨h1, h2, _⟩ := rd_some h
  have hd := hexD_hexN 8 b (by rw [p8]; exact h2)
  rw [← h1] at hd
  have hn : l ≠ [] := fun e => by
    have := hexN_len 8 b
    rw [← h1, e] at this; cases this
  unfold puF
  rw [if_neg hn, pu_hex l 0 b hd (by omega)]
theorem pu_le : ∀ (l : List UInt8) (acc : Nat), acc ≤ 4294967295 → (pu acc l).2 ≤ 4294967295
  | [], acc, h => h
  | c :: l, acc, h => by
    unfold pu
    split
    · exact Nat.zero_le _
    · split
      · exact Nat.le_refl _
      · exact pu_le l _ (by omega)
theorem puF_le (l : List UInt8) : (puF l).2 ≤ 4294967295 := by
  unfold puF
  split
  · exact Nat.zero_le _
  · exact pu_le l 0 (Nat.zero_le _)
theorem rd_of {l : List UInt8} (h0 : (puF l).1 = 0) : (rd l).isSome = (hexN 8 (cn .f32 (puF l).2) == l) ∧ ((rd l).isSome = true → (puF l).2 = (rd l).getD 0) := by
  have hc : cn .f32 (cn .f32 (puF l).2) = cn .f32 (puF l).2 := cn_cn _ _
  have hlt : cn .f32 (puF l).2 < 4294967296 := by
    have := puF_le l
    unfold cn
    split
    · decide
    · omega
  cases hr : rd l with
  | none =>
    refine ⟨?_, fun h => by cases h⟩
    symm
    show (_ == _) = false
    rw [beq_eq_false_iff_ne]
    intro e
    have := rd_hexN hlt hc
    rw [e, hr] at this; cases this
  | some b =>
    have hp := pu_rd hr
    obtain ⟨h1, h2, h3⟩ := rd_some hr
    rw [hp]
    refine ⟨?_, fun _ => rfl⟩
    show true = (hexN 8 (cn .f32 b) == l)
    rw [h3, h1, beq_self_eq_true]
theorem rd_bad {l : List UInt8} (h0 : (puF l).1 ≠ 0) : rd l = none := by
  cases hr : rd l with
  | none => rfl
  | some b => rw [pu_rd hr] at h0; exact absurd rfl h0
end Go.Proofs.YtpjjnopjpgnlaaaDoor
