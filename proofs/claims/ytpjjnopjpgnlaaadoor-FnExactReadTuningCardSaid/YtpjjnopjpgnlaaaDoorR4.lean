/- Texts as lists of bytes; words of a text. -/
import Derived.Test.YtpjjnopjpgnlaaaDoorE35
import Derived.Test.YtpjjnopjpgnlaaaDoorE14
import Derived.Test.YtpjjnopjpgnlaaaDoorE32
import Derived.Lib.IndexBytes
import Derived.Lib.IndexLaws
import Derived.Lib.SplitLaws
set_option linter.unusedVariables false
set_option linter.unusedSimpArgs false
namespace Go.Proofs.YtpjjnopjpgnlaaaDoor
open Go

def tl (s : ByteArray) : List UInt8 := s.data.toList
theorem tl_len (s : ByteArray) : (tl s).length = s.size := by unfold tl; rw [Array.length_toList]; rfl
theorem byt_tl (s : ByteArray) (i : Nat) : byt s i = ((tl s).getD i 0).toNat := rfl
theorem tl_ext (s : ByteArray) (i j : Nat) : tl (s.extract i j) = ((tl s).drop i).take (j - i) := by
  unfold tl
  rw [ByteArray.data_extract, Array.toList_extract]
theorem tl_from (s : ByteArray) (i : Nat) (h : i ≤ s.size) : tl (s.extract i s.size) = (tl s).drop i := by
  rw [tl_ext, List.take_of_length_le]
  rw [List.length_drop, tl_len]; omega
theorem tl_mk (l : List UInt8) : tl ⟨l.toArray⟩ = l := rfl
theorem sEq_tl (l : List UInt8) (s : ByteArray) : sEq ⟨l.toArray⟩ s = (l == tl s) := by
  unfold sEq
  rw [ByteArray.toList_eq, ByteArray.toList_eq]
  rfl
theorem dig_sub {a : Nat} (h : 48 ≤ a) (h2 : a < 256) : IntKind.u8.wrap ((a : Int) - 48) = ((a - 48 : Nat) : Int) := by
  rw [w_u8 (by omega) (by omega)]; omega
/-- the words of a text -/
structure StrR where
  s : ByteArray
def StrR.cells (e : StrR) : List Value := [.string e.s]
def StrR.d : StrR := ⟨⟨#[]⟩⟩
def splG (s : ByteArray) (c : Nat) : Nat → List StrR × Nat
  | 0 => ([], 0)
  | i + 1 => if byt s i = c then ((splG s c i).1 ++ [⟨s.extract (splG s c i).2 i⟩], i + 1) else splG s c i
def splW (s : ByteArray) (c : Nat) : List StrR := (splG s c s.size).1 ++ [⟨s.extract (splG s c s.size).2 s.size⟩]
theorem splG_t {s : ByteArray} {c i : Nat} (h : byt s i = c) : splG s c (i + 1) = ((splG s c i).1 ++ [⟨s.extract (splG s c i).2 i⟩], i + 1) := if_pos h
theorem splG_f {s : ByteArray} {c i : Nat} (h : byt s i ≠ c) : splG s c (i + 1) = splG s c i := if_neg h
theorem splW_len (s : ByteArray) (c : Nat) : (splW s c).length = (splG s c s.size).1.length + 1 := by unfold splW; simp
theorem splW_pos (s : ByteArray) (c : Nat) : 0 < (splW s c).length := by rw [splW_len]; omega
/-- a list of bytes, cut at a byte -/
def spL (c : UInt8) : List UInt8 → List (List UInt8)
  | [] => [[]]
  | b :: r => if b = c then [] :: spL c r else (b :: (spL c r).headD []) :: (spL c r).tail
theorem spL_cons (c b : UInt8) (r : List UInt8) : spL c (b :: r) = if b = c then [] :: spL c r else (b :: (spL c r).headD []) :: (spL c r).tail := rfl
theorem spL_ne (c : UInt8) : ∀ l, spL c l ≠ []
  | [] => by simp [spL]
  | b :: r => by unfold spL; split <;> simp
theorem spL_none {c : UInt8} : ∀ {l : List UInt8}, c ∉ l → spL c l = [l]
  | [], _ => rfl
  | b :: r, h => by
    have h1 : b ≠ c := fun e => h (by rw [e]; exact List.mem_cons_self)
    have h2 : c ∉ r := fun e => h (List.mem_cons_of_mem _ e)
    unfold spL
    rw [if_neg h1, spL_none h2]; rfl
theorem spL_hit {c : UInt8} : ∀ {l : List UInt8} {i : Nat}, l[i]? = some c → (∀ k, k < i → l[k]? ≠ some c) → spL c l = l.take i :: spL c (l.drop (i + 1))
  | [], i, h, _ => by simp at h
  | b :: r, 0, h, _ => by
    have e : b = c := by simpa using h
    rw [spL_cons, if_pos e]; rfl
  | b :: r, i + 1, h, hn => by
    have h1 : b ≠ c := fun e => hn 0 (by omega) (by rw [e]; rfl)
    have ih := spL_hit (l := r) (i := i) (by simpa using h) fun k hk => by have := hn (k + 1) (by omega); simpa using this
    rw [spL_cons, if_neg h1, ih]; rfl
theorem split_spL (c : UInt8) : ∀ k l, Lib.count l [c] = k → Lib.splitK [c] 0 k l = spL c l
  | 0, l, h => by
    rw [Lib.count_one] at h
    exact (spL_none (List.count_eq_zero.1 h)).symm
  | k + 1, l, h => by
    by_cases hi : Lib.index l [c] = -1
    · rw [Lib.count_miss hi] at h; cases h
    · have hi2 : Lib.indexByte l c ≠ -1 := by rw [← Lib.index_one]; exact hi
      have h0 : 0 ≤ Lib.indexByte l c := by have := Lib.indexByte_ge l c; omega
      obtain ⟨i, hk⟩ := Int.eq_ofNat_of_zero_le h0
      obtain ⟨h1, h2⟩ := Lib.indexByte_some hk
      have hx : Lib.index l [c] = i := by rw [Lib.index_one]; exact hk
      have hc := Lib.count_hit (sub := [c]) (by simp) hx
      have e1 : ([c] : List UInt8).length = 1 := rfl
      rw [e1] at hc
      unfold Lib.splitK
      rw [if_neg (by rw [beq_iff_eq]; exact hi), hx, spL_hit h1 h2]
      show l.take (i + 0) :: Lib.splitK [c] 0 k (l.drop (i + 1)) = _
      rw [split_spL c k (l.drop (i + 1)) (by omega)]; rfl
/-- what lies before place `i`, cut -/
theorem splG_spL {s : ByteArray} {c : UInt8} : ∀ i, i ≤ s.size → (splG s c.toNat i).2 ≤ i ∧ (∀ j, (splG s c.toNat i).2 ≤ j → j < i → byt s j ≠ c.toNat) ∧ spL c (tl s) = (splG s c.toNat i).1.map (fun e => tl e.s) ++ spL c ((tl s).drop (splG s c.toNat i).2)
  | 0, _ => ⟨Nat.le_refl _, fun j h1 h2 => by omega, rfl⟩
  | i + 1, hi => by
    obtain ⟨h1, h2, h3⟩ := splG_spL (s := s) (c := c) i (by omega)
    by_cases hb : byt s i = c.toNat
    · rw [splG_t hb]
      refine ⟨Nat.le_refl _, fun j q1 q2 => absurd q1 (by omega), ?_⟩
      generalize hf : (splG s c.toNat i).2 = f at h1 h2 h3 ⊢
      have hl : i < (tl s).length := by rw [tl_len]; omega
      have hc : ((tl s).drop f)[i - f]? = some c := by
        rw [List.getElem?_drop, show f + (i - f) = i by omega, List.getElem?_eq_getElem hl]
        rw [byt_tl, List.getD_eq_getElem?_getD, List.getElem?_eq_getElem hl] at hb
        exact congrArg some (UInt8.toNat_inj.1 hb)
      have hn : ∀ k, k < i - f → ((tl s).drop f)[k]? ≠ some c := by
        intro k hk e
        rw [List.getElem?_drop] at e
        have := h2 (f + k) (by omega) (by omega)
        rw [byt_tl, List.getD_eq_getElem?_getD, e] at this
        exact this rfl
      rw [h3, spL_hit hc hn, List.drop_drop, List.map_append, List.append_assoc]
      rw [show f + (i - f + 1) = i + 1 by omega]
      show _ = _ ++ ([tl (s.extract f i)] ++ _)
      rw [tl_ext]; rfl
    · rw [splG_f hb]
      refine ⟨by omega, fun j q1 q2 => ?_, h3⟩
      rcases Nat.lt_or_eq_of_le (Nat.le_of_lt_succ q2) with h | h
      · exact h2 j q1 h
      · rw [h]; exact hb
theorem splW_spL (s : ByteArray) (c : UInt8) : (splW s c.toNat).map (fun e => tl e.s) = spL c (tl s) := by
  obtain ⟨h1, h2, h3⟩ := splG_spL (s := s) (c := c) s.size (Nat.le_refl _)
  rw [h3]
  unfold splW
  rw [List.map_append]
  congr 1
  generalize (splG s c.toNat s.size).2 = f at h1 h2
  rw [spL_none]
  · show [tl (s.extract f s.size)] = _
    rw [tl_from s f h1]
  · intro hm
    obtain ⟨k, hk, e⟩ := List.getElem_of_mem hm
    rw [List.length_drop, tl_len] at hk
    rw [List.getElem_drop] at e
    refine h2 (f + k) (by omega) (by omega) ?_
    rw [byt_tl, List.getD_eq_getElem?_getD, List.getElem?_eq_getElem (by rw [tl_len]; omega)]
    exact congrArg UInt8.toNat e
/-- a text is its words, with the byte between them -/
theorem spL_text (c : UInt8) : ∀ l, (spL c l).headD [] ++ (spL c l).tail.flatMap (fun x => c :: x) = l
  | [] => rfl
  | b :: r => by
    have ih := spL_text c r
    unfold spL
    split
    · rename_i h
      show [] ++ (spL c r).flatMap (fun x => c :: x) = b :: r
      cases hs : spL c r with
      | nil => exact absurd hs (spL_ne c r)
      | cons x xs =>
        rw [hs] at ih
        show c :: x ++ xs.flatMap _ = _
        rw [h]
        exact congrArg (List.cons c) ih
    · show b :: ((spL c r).headD [] ++ (spL c r).tail.flatMap _) = b :: r
      rw [ih]
theorem tl_inj {a b : ByteArray} (h : tl a = tl b) : a = b := ByteArray.ext (Array.toList_inj.1 h)
theorem strs_inj : ∀ {xs ys : List StrR}, xs.map (fun e => tl e.s) = ys.map (fun e => tl e.s) → xs = ys
  | [], [], _ => rfl
  | [], y :: ys, h => by cases h
  | x :: xs, [], h => by cases h
  | x :: xs, y :: ys, h => by
    rw [List.map_cons, List.map_cons] at h
    injection h with h1 h2
    rw [strs_inj h2]
    have := tl_inj h1
    cases x; cases y; cases this; rfl
end Go.Proofs.YtpjjnopjpgnlaaaDoor
