/- Fractions in texts: the reference cuts a text into words, the program at the first stroke; plain laws. -/
import Derived.Test.YteonmpphpeopiaaDoorR0
import Derived.Test.YteonmpphpeopiaaDoorE35
import Derived.Test.YteonmpphpeopiaaDoorE23
import Derived.Test.YteonmpphpeopiaaDoorE32
import Derived.Lib.IndexBytes
set_option linter.unusedVariables false
set_option linter.unusedSimpArgs false
namespace Go.Proofs.YteonmpphpeopiaaDoor
open Go

def tl (s : ByteArray) : List UInt8 := s.data.toList
theorem tl_len (s : ByteArray) : (tl s).length = s.size := by unfold tl; rw [Array.length_toList]; rfl
theorem byt_tl (s : ByteArray) (i : Nat) : byt s i = ((tl s).getD i 0).toNat := rfl
theorem tl_ext (s : ByteArray) (i j : Nat) : tl (s.extract i j) = ((tl s).drop i).take (j - i) := by
  unfold tl
  rw [ByteArray.data_extract, Array.toList_extract]
theorem tl_from (s : ByteArray) (i : Nat) (h : i ≤ s.size) : tl (s.extract i s.size) = (tl s).drop i := by
  rw [tl_ext, List.take_of_length_le]
  rw [List.length_drop, tl_len]; omega
theorem tl_mk (l : List UInt8) : tl ⟨l.toArray⟩ = l := rfl
theorem sEq_tl (l : List UInt8) (s : ByteArray) : sEq ⟨l.toArray⟩ s = (l == tl s) := by
  unfold sEq
  rw [ByteArray.toList_eq, ByteArray.toList_eq]
  rfl
def whole9 (l : List UInt8) : Option Nat := if 1 ≤ l.length ∧ l.length ≤ 9 ∧ (l.head? = some 48 → l.length = 1) then digs 0 l else none
theorem wholeF_9 (l : List UInt8) : wholeF l = if l.length ≤ 6 then whole9 l else none := by
  unfold wholeF whole9
  by_cases h6 : l.length ≤ 6
  · rw [if_pos h6]
    by_cases hc : 1 ≤ l.length ∧ l.length ≤ 6 ∧ (l.head? = some 48 → l.length = 1)
    · rw [if_pos hc, if_pos ⟨hc.1, by omega, hc.2.2⟩]
    · rw [if_neg hc, if_neg fun h => hc ⟨h.1, h6, h.2.2⟩]
  · rw [if_neg h6, if_neg fun h => h6 h.2.1]
theorem dig_sub {a : Nat} (h : 48 ≤ a) (h2 : a < 256) : IntKind.u8.wrap ((a : Int) - 48) = ((a - 48 : Nat) : Int) := by
  rw [w_u8 (by omega) (by omega)]; omega
theorem head_tl {s : ByteArray} {c : UInt8} (h : 0 < s.size) : (tl s).head? = some c ↔ byt s 0 = c.toNat := by
  rw [byt_tl]
  have hl : 0 < (tl s).length := by rw [tl_len]; exact h
  cases e : tl s with
  | nil => rw [e] at hl; simp at hl
  | cons a r =>
    show some a = some c ↔ a.toNat = c.toNat
    rw [UInt8.toNat_inj, Option.some.injEq]
theorem digs_next {s : ByteArray} {i n : Nat} (h : digs 0 ((tl s).take i) = some n) (hi : i < s.size) (h1 : 48 ≤ byt s i) (h2 : byt s i ≤ 57) : digs 0 ((tl s).take (i + 1)) = some (n * 10 + (byt s i - 48)) := by
  have hl : i < (tl s).length := by rw [tl_len]; exact hi
  have e : byt s i = ((tl s)[i]).toNat := by rw [byt_tl, List.getD_eq_getElem?_getD, List.getElem?_eq_getElem hl]; rfl
  rw [List.take_succ_eq_append_getElem hl, digs_snoc, h]
  show (if _ then _ else _) = _
  rw [← e, if_pos ⟨h1, h2⟩]
theorem digs_bad : ∀ (l : List UInt8) (acc i : Nat), i < l.length → ((l.getD i 0).toNat < 48 ∨ 57 < (l.getD i 0).toNat) → digs acc l = none
  | [], _, _, hi, _ => by simp at hi
  | c :: l, acc, 0, _, h => by
    have e : (c :: l).getD 0 0 = c := rfl
    rw [e] at h
    show (if _ then _ else _) = _
    rw [if_neg (by omega)]
  | c :: l, acc, i + 1, hi, h => by
    have e : (c :: l).getD (i + 1) 0 = l.getD i 0 := rfl
    rw [e] at h
    show (if _ then digs _ l else none) = _
    split
    · exact digs_bad l _ i (by simpa using hi) h
    · rfl
theorem digs_bd {s : ByteArray} {i n : Nat} (h : digs 0 ((tl s).take i) = some n) (hi : i ≤ 9) : n < 1000000000 := by
  have h1 := digs_lt _ 0 n h
  have h2 : 10 ^ ((tl s).take i).length ≤ 10 ^ 9 := Nat.pow_le_pow_right (by omega) (by rw [List.length_take]; omega)
  have : (10 : Nat) ^ 9 = 1000000000 := by decide
  omega
theorem n9_a {s : ByteArray} (h : s.size < 1 ∨ 9 < s.size) : whole9 (tl s) = none := by
  unfold whole9
  rw [if_neg]
  rintro ⟨h1, h2, _⟩
  rw [tl_len] at h1 h2; omega
theorem n9_b {s : ByteArray} (h : byt s 0 = 48) (h1 : 1 < s.size) : whole9 (tl s) = none := by
  unfold whole9
  rw [if_neg]
  rintro ⟨_, _, h3⟩
  have := h3 ((head_tl (by omega)).2 h)
  rw [tl_len] at this; omega
theorem n9_c {s : ByteArray} {i : Nat} (hi : i < s.size) (h : byt s i < 48 ∨ 57 < byt s i) : whole9 (tl s) = none := by
  unfold whole9
  split
  · exact digs_bad _ 0 i (by rw [tl_len]; exact hi) h
  · rfl
theorem n9_d {s : ByteArray} {n : Nat} (h1 : 1 ≤ s.size) (h9 : s.size ≤ 9) (h0 : byt s 0 = 48 → s.size = 1) (h : digs 0 ((tl s).take s.size) = some n) : whole9 (tl s) = some n := by
  unfold whole9
  rw [if_pos]
  · rw [List.take_of_length_le (by rw [tl_len]; exact Nat.le_refl _)] at h
    exact h
  · rw [tl_len]
    exact ⟨h1, h9, fun hh => h0 ((head_tl (by omega)).1 hh)⟩
theorem wf_a {s : ByteArray} (h : 6 < s.size) : wholeF (tl s) = none := by rw [wholeF_9, if_neg (by rw [tl_len]; omega)]
theorem wf_b {s : ByteArray} (h : s.size ≤ 6) : wholeF (tl s) = whole9 (tl s) := by rw [wholeF_9, if_pos (by rw [tl_len]; exact h)]
theorem whole_some (l : List UInt8) : (wholeF l).isSome = (decO l && decide (0 ≤ decV l) && decide ((l.length : Int) ≤ 6)) := by
  cases h : wholeF l with
  | none => rw [dec_none h]; rfl
  | some k => rw [(dec_some h).2]; rfl
theorem whole_dec {l : List UInt8} (h : (wholeF l).isSome = true) : decV l = (((wholeF l).getD 0 : Nat) : Int) := by
  cases e : wholeF l with
  | none => rw [e] at h; cases h
  | some k => exact (dec_some e).1
theorem whole_lt6 {l : List UInt8} : (wholeF l).getD 0 < 1000000 := by
  cases e : wholeF l with
  | none => show 0 < _; omega
  | some k => exact whole_lt e
theorem whole_bad {l : List UInt8} {i : Nat} (hi : i < l.length) (h : (l.getD i 0).toNat < 48 ∨ 57 < (l.getD i 0).toNat) : wholeF l = none := by
  unfold wholeF
  split
  · exact digs_bad l 0 i hi h
  · rfl
/-- such a number, maybe with a sign in front -/
def sgF (l : List UInt8) : Option Int := if l.head? = some 45 then (wholeF (l.drop 1)).map fun k => 0 - (k : Int) else (wholeF l).map fun k => (k : Int)
def sgN (l : List UInt8) : Int := if l.head? = some 45 then IntKind.i64.wrap (0 - decV (l.drop 1)) else decV l
theorem sg_isSome (l : List UInt8) : (sgF l).isSome = (wholeF (if l.head? = some 45 then l.drop 1 else l)).isSome := by
  unfold sgF
  split
  · cases wholeF (l.drop 1) <;> rfl
  · cases wholeF l <;> rfl
theorem sg_bd (l : List UInt8) : -1000000 < (sgF l).getD 0 ∧ (sgF l).getD 0 < 1000000 := by
  unfold sgF
  split
  · cases e : wholeF (l.drop 1) with
    | none => constructor <;> decide
    | some k =>
      have := whole_lt e
      show _ < 0 - (k : Int) ∧ 0 - (k : Int) < _
      omega
  · cases e : wholeF l with
    | none => constructor <;> decide
    | some k =>
      have := whole_lt e
      show _ < (k : Int) ∧ (k : Int) < _
      omega
theorem sg_dec {l : List UInt8} (h : (sgF l).isSome = true) : sgN l = (sgF l).getD 0 := by
  unfold sgN sgF at *
  split
  · rename_i hh
    rw [if_pos hh] at h
    cases e : wholeF (l.drop 1) with
    | none => rw [e] at h; cases h
    | some k =>
      have hk := whole_lt e
      rw [(dec_some e).1, w_i64 (by omega) (by omega)]
      rfl
  · rename_i hh
    rw [if_neg hh] at h
    cases e : wholeF l with
    | none => rw [e] at h; cases h
    | some k => rw [(dec_some e).1]; rfl
theorem pre_head (l : List UInt8) (c : UInt8) : Lib.hasPrefix l [c] = true ↔ l.head? = some c := by
  unfold Lib.hasPrefix
  cases l with
  | nil => simp
  | cons a r =>
    show (c == a && List.isPrefixOf [] r) = true ↔ some a = some c
    rw [List.isPrefixOf_nil_left, Bool.and_true, beq_iff_eq, Option.some.injEq]
    exact ⟨fun h => h.symm, fun h => h.symm⟩
theorem sg_pos {l : List UInt8} (h : Lib.hasPrefix l [45] = true) : Lib.trimPrefix l [45] = l.drop 1 ∧ sgN l = IntKind.i64.wrap (0 - decV (l.drop 1)) ∧ (sgF l).isSome = (wholeF (l.drop 1)).isSome := by
  have hh := (pre_head l 45).1 h
  refine ⟨?_, if_pos hh, ?_⟩
  · unfold Lib.trimPrefix; rw [if_pos h]; rfl
  · rw [sg_isSome, if_pos hh]
theorem sg_neg {l : List UInt8} (h : Lib.hasPrefix l [45] = false) : Lib.trimPrefix l [45] = l ∧ sgN l = decV l ∧ (sgF l).isSome = (wholeF l).isSome := by
  have hh : ¬ l.head? = some 45 := fun e => by rw [(pre_head l 45).2 e] at h; cases h
  refine ⟨?_, if_neg hh, ?_⟩
  · unfold Lib.trimPrefix; rw [if_neg (by rw [h]; decide)]
  · rw [sg_isSome, if_neg hh]
/-- the words of a text -/
structure StrR where
  s : ByteArray
def StrR.cells (e : StrR) : List Value := [.string e.s]
def StrR.d : StrR := ⟨⟨#[]⟩⟩
def splG (s : ByteArray) (c : Nat) : Nat → List StrR × Nat
  | 0 => ([], 0)
  | i + 1 => if byt s i = c then ((splG s c i).1 ++ [⟨s.extract (splG s c i).2 i⟩], i + 1) else splG s c i
def splW (s : ByteArray) (c : Nat) : List StrR := (splG s c s.size).1 ++ [⟨s.extract (splG s c s.size).2 s.size⟩]
theorem splG_t {s : ByteArray} {c i : Nat} (h : byt s i = c) : splG s c (i + 1) = ((splG s c i).1 ++ [⟨s.extract (splG s c i).2 i⟩], i + 1) := if_pos h
theorem splG_f {s : ByteArray} {c i : Nat} (h : byt s i ≠ c) : splG s c (i + 1) = splG s c i := if_neg h
theorem splG_stay {s : ByteArray} {c k : Nat} (n : Nat) (h : ∀ i, k ≤ i → i < k + n → byt s i ≠ c) : splG s c (k + n) = splG s c k := by
  induction n with
  | zero => rfl
  | succ n ih => rw [← Nat.add_assoc, splG_f (h _ (by omega) (by omega)), ih fun i h1 h2 => h i h1 (by omega)]
theorem splG_len {s : ByteArray} {c k : Nat} : ∀ n, (splG s c k).1.length ≤ (splG s c (k + n)).1.length
  | 0 => Nat.le_refl _
  | n + 1 => by
    have := splG_len (s := s) (c := c) (k := k) n
    rw [← Nat.add_assoc]
    by_cases h : byt s (k + n) = c
    · rw [splG_t h]; simp only [List.length_append]; omega
    · rw [splG_f h]; exact this
theorem splW_len (s : ByteArray) (c : Nat) : (splW s c).length = (splG s c s.size).1.length + 1 := by unfold splW; simp
theorem splW_pos (s : ByteArray) (c : Nat) : 0 < (splW s c).length := by rw [splW_len]; omega
/-- no stroke: one word -/
theorem spl_none {s : ByteArray} {c : Nat} (h : ∀ i, i < s.size → byt s i ≠ c) : splW s c = [⟨s.extract 0 s.size⟩] := by
  have := splG_stay (s := s) (c := c) (k := 0) s.size fun i _ h2 => h i (by omega)
  rw [Nat.zero_add] at this
  unfold splW; rw [this]; rfl
theorem splG_one {s : ByteArray} {c k : Nat} (hk : byt s k = c) (h : ∀ i, i < k → byt s i ≠ c) : splG s c (k + 1) = ([⟨s.extract 0 k⟩], k + 1) := by
  have := splG_stay (s := s) (c := c) (k := 0) k fun i _ h2 => h i (by omega)
  rw [Nat.zero_add] at this
  rw [splG_t hk, this]; rfl
theorem spl_one {s : ByteArray} {c k : Nat} (hs : k < s.size) (hk : byt s k = c) (h : ∀ i, i < k → byt s i ≠ c) (h2 : ∀ i, k < i → i < s.size → byt s i ≠ c) : splW s c = [⟨s.extract 0 k⟩, ⟨s.extract (k + 1) s.size⟩] := by
  have := splG_stay (s := s) (c := c) (k := k + 1) (s.size - (k + 1)) fun i h1 h3 => h2 i (by omega) (by omega)
  rw [show k + 1 + (s.size - (k + 1)) = s.size by omega, splG_one hk h] at this
  unfold splW; rw [this]; rfl
theorem spl_more {s : ByteArray} {c k j : Nat} (hk : byt s k = c) (h : ∀ i, i < k → byt s i ≠ c) (hj : k < j) (hjs : j < s.size) (hc : byt s j = c) : 2 < (splW s c).length := by
  rw [splW_len]
  have h1 : (splG s c (k + 1)).1.length = 1 := by rw [splG_one hk h]; rfl
  have h2 := splG_len (s := s) (c := c) (k := k + 1) (j - (k + 1))
  rw [show k + 1 + (j - (k + 1)) = j by omega] at h2
  have h3 := splG_len (s := s) (c := c) (k := j + 1) (s.size - (j + 1))
  rw [show j + 1 + (s.size - (j + 1)) = s.size by omega, splG_t hc] at h3
  simp only [List.length_append, List.length_cons, List.length_nil] at h3
  omega
/-- the fraction: the program -/
def cA (l : List UInt8) : List UInt8 := (Lib.cut l [47]).1
def cB (l : List UInt8) : List UInt8 := (Lib.cut l [47]).2.1
def cD (l : List UInt8) : Bool := (Lib.cut l [47]).2.2
def dOk (d : Int) : Bool := vIn d (2 : Int) (1024 : Int) && (bits .and .i64 d (d - 1) == (0 : Int))
def frOk (l : List UInt8) : Bool := if cD l = true then (sgF (cA l)).isSome && (wholeF (cB l)).isSome && dOk (decV (cB l)) else (sgF (cA l)).isSome
def frV (l : List UInt8) : Nat := if cD l = true then (if frOk l = true then fop .quo .f32 (FloatKind.f32.nearest (sgN (cA l))) (FloatKind.f32.nearest (decV (cB l))) else 0) else FloatKind.f32.nearest (sgN (cA l))
/-- the fraction: the reference -/
def word0 (s : ByteArray) : List UInt8 := tl ((splW s 47).getD 0 StrR.d).s
def word1 (s : ByteArray) : List UInt8 := tl ((splW s 47).getD 1 StrR.d).s
def frOkS (s : ByteArray) : Bool := (sgF (word0 s)).isSome && decide ((splW s 47).length ≤ 2) && (if (splW s 47).length = 1 then true else (wholeF (word1 s)).isSome && dOk (((wholeF (word1 s)).getD 0 : Nat) : Int))
def frVS (s : ByteArray) : Nat := if frOkS s = true then (if (splW s 47).length = 1 then FloatKind.f32.nearest ((sgF (word0 s)).getD 0) else fop .quo .f32 (FloatKind.f32.nearest ((sgF (word0 s)).getD 0)) (FloatKind.f32.nearest (((wholeF (word1 s)).getD 0 : Nat) : Int))) else 0
theorem byt_ne {s : ByteArray} {k : Nat} {c : UInt8} (hk : k < s.size) (h : (tl s)[k]? ≠ some c) : byt s k ≠ c.toNat := by
  intro e
  have hl : k < (tl s).length := by rw [tl_len]; exact hk
  rw [byt_tl, List.getD_eq_getElem?_getD, List.getElem?_eq_getElem hl] at e
  exact h (by rw [List.getElem?_eq_getElem hl]; exact congrArg some (UInt8.toNat_inj.1 e))
theorem cut_eq (s : ByteArray) : ((cD (tl s) = false ∧ cA (tl s) = tl s ∧ ∀ i, i < s.size → byt s i ≠ 47) ∨ ∃ k, k < s.size ∧ byt s k = 47 ∧ (∀ i, i < k → byt s i ≠ 47) ∧ cD (tl s) = true ∧ cA (tl s) = (tl s).take k ∧ cB (tl s) = (tl s).drop (k + 1)) := by
  unfold cA cB cD Lib.cut
  rw [Lib.index_one]
  by_cases h : 0 ≤ Lib.indexByte (tl s) 47
  · right
    rw [if_pos h]
    obtain ⟨k, hk⟩ := Int.eq_ofNat_of_zero_le h
    have := Lib.indexByte_some hk
    have hl : k < (tl s).length := by
      rcases Nat.lt_or_ge k (tl s).length with h' | h'
      · exact h'
      · rw [List.getElem?_eq_none h'] at this; cases this.1
    have hs : k < s.size := by rw [tl_len] at hl; exact hl
    refine ⟨k, hs, ?_, fun i hi => byt_ne (by omega) (this.2 i hi), rfl, ?_, ?_⟩
    · rw [byt_tl, List.getD_eq_getElem?_getD, this.1]; rfl
    · rw [hk]; rfl
    · rw [hk]; rfl
  · left
    rw [if_neg h]
    have e : Lib.indexByte (tl s) 47 = -1 := by
      have := Lib.indexByte_ge (tl s) 47; omega
    exact ⟨rfl, rfl, fun i hi => byt_ne hi (Lib.indexByte_none e i)⟩
theorem fr_ok (s : ByteArray) : frOkS s = frOk (tl s) ∧ (frOk (tl s) = true → frVS s = frV (tl s)) := by
  rcases cut_eq s with ⟨hD, hA, hn⟩ | ⟨k, hk, hc, hb, hD, hA, hB⟩
  · have e := spl_none hn
    have e0 : word0 s = tl s := by
      unfold word0; rw [e]
      show tl (s.extract 0 s.size) = _
      rw [tl_from s 0 (by omega)]; rfl
    have el : (splW s 47).length = 1 := by rw [e]; rfl
    have h1 : frOkS s = frOk (tl s) := by
      unfold frOkS frOk
      rw [el, e0, hD, hA]; simp
    refine ⟨h1, fun ho => ?_⟩
    unfold frVS frV
    rw [h1, if_pos ho, if_pos el, if_neg (by rw [hD]; simp), e0, hA]
    unfold frOk at ho
    rw [if_neg (by rw [hD]; simp), hA] at ho
    rw [sg_dec ho]
  · by_cases hm : ∃ j, k < j ∧ j < s.size ∧ byt s j = 47
    · obtain ⟨j, h1, h2, h3⟩ := hm
      have el := spl_more hc hb h1 h2 h3
      have hw : wholeF (cB (tl s)) = none := by
        rw [hB]
        refine whole_bad (i := j - (k + 1)) (by rw [List.length_drop, tl_len]; omega) ?_
        rw [List.getD_eq_getElem?_getD, List.getElem?_drop, show k + 1 + (j - (k + 1)) = j by omega, ← List.getD_eq_getElem?_getD, ← byt_tl, h3]
        left; decide
      have e1 : frOkS s = false := by
        unfold frOkS
        rw [show decide ((splW s 47).length ≤ 2) = false from decide_eq_false (by omega)]; simp
      have e2 : frOk (tl s) = false := by
        unfold frOk
        rw [if_pos hD, hw]; simp
      rw [e1, e2]
      exact ⟨rfl, fun h => by cases h⟩
    · have e := spl_one hk hc hb fun i h1 h2 h3 => hm ⟨i, h1, h2, h3⟩
      have e0 : word0 s = cA (tl s) := by
        unfold word0; rw [e, hA]
        show tl (s.extract 0 k) = _
        rw [tl_ext]; rfl
      have e1 : word1 s = cB (tl s) := by
        unfold word1; rw [e, hB]
        show tl (s.extract (k + 1) s.size) = _
        rw [tl_from s (k + 1) (by omega)]
      have el : (splW s 47).length = 2 := by rw [e]; rfl
      have h1 : frOkS s = frOk (tl s) := by
        unfold frOkS frOk
        rw [el, e0, e1, if_pos hD, if_neg (by omega)]
        cases hw : (wholeF (cB (tl s))).isSome
        · simp
        · rw [whole_dec hw]; simp
      refine ⟨h1, fun ho => ?_⟩
      unfold frVS frV
      rw [h1, if_pos ho, if_neg (by omega), if_pos hD, if_pos ho, e0, e1]
      unfold frOk at ho
      rw [if_pos hD, Bool.and_eq_true, Bool.and_eq_true] at ho
      rw [sg_dec ho.1.1, whole_dec ho.1.2]
end Go.Proofs.YteonmpphpeopiaaDoor
