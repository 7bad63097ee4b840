/- Hexadecimal texts and texts of tunings: contracts of the shelf in this claim's words; plain laws. -/
import Derived.Test.YtpjjnopjpgnlaaaDoorR8
import Derived.Test.YtpjjnopjpgnlaaaDoorR4
import Derived.Test.YtpjjnopjpgnlaaaDoorE36
import Derived.Test.YtpjjnopjpgnlaaaDoorE33
import Derived.Lib.Join
import Derived.Lib.Repeat
import Derived.Lib.AtoiErrMem
import Derived.Lib.LaidTab
set_option linter.unusedVariables false
set_option linter.unusedSimpArgs false
namespace Go.Proofs.YtpjjnopjpgnlaaaDoor
open Go Go.Shelf Go.RowKit

theorem cell_extT {w w' : World} {g k : Nat} {v : Value} (h : w.cell? ⟨g, k, none⟩ = some v) (m : Mod [] w w') : w'.cell? ⟨g, k, none⟩ = some v := by
  unfold World.cell? at h ⊢
  have hlt : g < w.heap.size := by
    rcases Nat.lt_or_ge g w.heap.size with h' | h'
    · exact h'
    · rw [Array.getElem?_eq_none h'] at h; cases h
  rw [m.block g hlt (by simp)]
  exact h
theorem mod_belowT {w w' : World} (h : Below w.heap.size w w') : Mod [] w w' := ⟨h.os, h.tape, h.output, h.size, fun k hk _ => h.block k hk⟩
def LB : Nat := 0
/-- the table of the library that counts zeros lies as it was laid -/
def LibT (w : World) (b o : Nat) (vs : List Value) : Prop := TabAt 8 Lib.deBruijn64tab w
theorem LibT.ext {w w' : World} {b o : Nat} {vs : List Value} (h : LibT w b o vs) (m : Mod [] w w') : LibT w' b o vs := fun j hj => cell_extT (h j hj) m
theorem LibT.youngS {w0 w w' : World} {b o : Nat} {vs : List Value} {S : List Nat} (h0 : LibT w0 b o vs) (h : LibT w b o vs) (m : Mod S w w') (hS : ∀ x, x ∈ S → w0.heap.size ≤ x) : LibT w' b o vs := by
  intro j hj
  have a := h0 j hj
  have c := h j hj
  unfold World.cell? at a c ⊢
  have l0 : 8 < w0.heap.size := by
    rcases Nat.lt_or_ge 8 w0.heap.size with h' | h'
    · exact h'
    · rw [Array.getElem?_eq_none h'] at a; cases a
  have l1 : 8 < w.heap.size := by
    rcases Nat.lt_or_ge 8 w.heap.size with h' | h'
    · exact h'
    · rw [Array.getElem?_eq_none h'] at c; cases c
  rw [m.block _ l1 fun hm => absurd (hS _ hm) (by omega)]
  exact c
theorem c_TZ16 (w : World) (T : LibT w LB 0 []) : Cl Tryd.prog 88 #[.int .u64 16] w fun v w' => v = vI 4 ∧ Mod [] w w' := by
  refine Calls.mono (Any7.bits_TrailingZeros Tryd.lays27 16 (by decide) w fun _ => T) ?_
  rintro e w' ⟨rfl, rfl⟩
  exact ⟨_, rfl, rfl, Mod.refl _ _⟩
theorem rep_tl : ∀ c, Lib.repeatL [48] c = List.replicate c 48
  | 0 => rfl
  | c + 1 => by rw [Lib.repeatL, rep_tl c, List.replicate_succ]; rfl
theorem c_Repeat (c : Nat) (hc : c ≤ 8) (w : World) : Cl Tryd.prog 48 #[.string ⟨#[48]⟩, vI ((c : Nat) : Int)] w fun v w' => ∃ (y : ByteArray), v = .string y ∧ (tl y = List.replicate c 48) ∧ (y.size = c) ∧ Mod [] w w' := by
  refine Calls.mono (Any.strings_Repeat Tryd.lays105 Tryd.extra105 ⟨#[48]⟩ c w (by omega) (by show 1 * c ≤ _; omega)) ?_
  rintro e w' ⟨rfl, hb⟩
  have h1 : tl (⟨(Lib.repeatL (⟨#[48]⟩ : ByteArray).data.toList c).toArray⟩ : ByteArray) = List.replicate c 48 := rep_tl c
  refine ⟨_, rfl, _, rfl, h1, ?_, mod_belowT hb⟩
  rw [← tl_len, h1, List.length_replicate]
theorem c_RepeatX (c : Nat) (hc : c ≤ 8) (w : World) : Cl Tryd.prog 48 #[.string ⟨#[48]⟩, vI ((c : Nat) : Int)] w fun v w' => v = .string (mkS (List.replicate c 48)) ∧ Mod [] w w' := by
  refine Cl.mono (c_Repeat c hc w) ?_
  rintro v w' ⟨y, rfl, h1, _, m⟩
  refine ⟨congrArg Value.string ?_, m⟩
  apply ByteArray.ext
  exact Array.toList_inj.1 (h1.trans rfl)
theorem strs_cells : ∀ ys : List StrR, cat StrR.cells ys = ys.map fun e => Value.string e.s
  | [] => rfl
  | y :: ys => by
    show StrR.cells y ++ cat StrR.cells ys = _
    rw [strs_cells ys]; rfl
theorem Own.cap {e : TypeId} {m lo : Nat} {w : World} {A : Option Addr} {n c : Nat} {xs : List Value} (h : Own e m lo w A n c xs) : n ≤ c := by
  rcases h.own with ⟨rfl, rfl, _⟩ | ⟨_, _, _, _, _, h4, _⟩
  · exact Nat.le_refl _
  · exact h4
theorem c_Join (n c : Nat) (A : Option Addr) (b : Nat) (ys : List StrR) (W : List (List UInt8)) (ln : ys.length = n) (hA : 0 < n → A = some ⟨b, 0, none⟩) (h0 : 0 < n) (hc : n ≤ c) (hn : n ≤ 4096) (hW : (ys.map fun e => tl e.s) = W) (hl : (Lib.join W [32]).length ≤ 1048576) (w : World) (r : Rng w b 0 (cat StrR.cells ys)) : Cl Tryd.prog 40 #[.slice A n c, .string ⟨#[32]⟩] w fun v w' => ∃ (y : ByteArray), v = .string y ∧ (tl y = Lib.join W [32]) ∧ Mod [] w w' := by
  subst ln
  rw [hA h0]
  have e1 : ((ys.map StrR.s).map fun x : ByteArray => x.data.toList) = W := by rw [← hW, List.map_map]; rfl
  have hb : b < w.heap.size := r.lt (by rw [strs_cells, List.length_map]; exact h0)
  have hcells : ∀ (j : Nat) x, (ys.map StrR.s)[j]? = some x → w.cell? ⟨b, 0 + j, none⟩ = some (.string x) := by
    intro j x hx
    have := r j (.string x) (by
      rw [strs_cells, List.getElem?_map]
      rw [List.getElem?_map] at hx
      cases hy : ys[j]? with
      | none => rw [hy] at hx; cases hx
      | some e => rw [hy] at hx; cases hx; rfl)
    exact this
  have hJ := Any.strings_Join Tryd.lays156 Tryd.extra156 b 0 c (ys.map StrR.s) ⟨#[32]⟩ w hcells hb (by rw [List.length_map]; omega) (by rw [List.length_map]; exact hc) (by rw [e1]; exact Nat.le_trans hl (by decide))
  rw [List.length_map] at hJ
  refine Calls.mono hJ ?_
  rintro e w' ⟨rfl, hbl⟩
  refine ⟨_, rfl, _, rfl, ?_, mod_belowT hbl⟩
  rw [tl_mk, e1]
theorem c_JoinX (n c : Nat) (A : Option Addr) (b : Nat) (ys : List StrR) (ln : ys.length = n) (hA : 0 < n → A = some ⟨b, 0, none⟩) (h0 : 0 < n) (hc : n ≤ c) (hn : n ≤ 4096) (hl : (Lib.join (ys.map fun e => tl e.s) [32]).length ≤ 1048576) (w : World) (r : Rng w b 0 (cat StrR.cells ys)) : Cl Tryd.prog 40 #[.slice A n c, .string ⟨#[32]⟩] w fun v w' => v = .string (mkS (Lib.join (ys.map fun e => tl e.s) [32])) ∧ Mod [] w w' := by
  refine Cl.mono (c_Join n c A b ys _ ln hA h0 hc hn rfl hl w r) ?_
  rintro v w' ⟨y, rfl, h1, m⟩
  refine ⟨congrArg Value.string ?_, m⟩
  apply ByteArray.ext
  exact Array.toList_inj.1 (h1.trans rfl)
/-- hexadecimal digits -/
def D36 : ByteArray := ⟨#[48, 49, 50, 51, 52, 53, 54, 55, 56, 57, 97, 98, 99, 100, 101, 102, 103, 104, 105, 106, 107, 108, 109, 110, 111, 112, 113, 114, 115, 116, 117, 118, 119, 120, 121, 122]⟩
def D16 : ByteArray := ⟨#[48, 49, 50, 51, 52, 53, 54, 55, 56, 57, 97, 98, 99, 100, 101, 102]⟩
def hxb (n : Nat) : UInt8 := UInt8.ofNat (byt D36 n)
/-- the digits of a number, at least one -/
def hexM (u : Nat) : List UInt8 := if h : u < 16 then [hxb u] else hexM (u / 16) ++ [hxb (u % 16)]
termination_by u
decreasing_by omega
theorem hexM_lt {u : Nat} (h : u < 16) : hexM u = [hxb u] := by rw [hexM, dif_pos h]
theorem hexM_ge {u : Nat} (h : 16 ≤ u) : hexM u = hexM (u / 2 ^ 4) ++ [hxb (u % 16)] := by rw [hexM, dif_neg (by omega)]
/-- just `k` digits -/
def hexN : Nat → Nat → List UInt8
  | 0, _ => []
  | k + 1, b => hexN k (b / 16) ++ [hxb (b % 16)]
theorem hexN_len : ∀ k b, (hexN k b).length = k
  | 0, _ => rfl
  | k + 1, b => by rw [hexN, List.length_append, hexN_len k]; rfl
theorem hexN_zero : ∀ k, hexN k 0 = List.replicate k 48
  | 0 => rfl
  | k + 1 => by
    rw [hexN, show 0 / 16 = 0 from rfl, hexN_zero k, List.replicate_succ']
    rfl
theorem hex_pad : ∀ k b, b < 16 ^ (k + 1) → (hexM b).length ≤ k + 1 ∧ List.replicate (k + 1 - (hexM b).length) 48 ++ hexM b = hexN (k + 1) b
  | 0, b, h => by
    have hb : b < 16 := by simpa using h
    rw [hexM_lt hb]
    refine ⟨Nat.le_refl _, ?_⟩
    show [hxb b] = [hxb (b % 16)]
    rw [Nat.mod_eq_of_lt hb]
  | k + 1, b, h => by
    by_cases hb : b < 16
    · rw [hexM_lt hb]
      refine ⟨Nat.succ_le_succ (Nat.zero_le _), ?_⟩
      show List.replicate (k + 1) 48 ++ [hxb b] = hexN (k + 1) (b / 16) ++ [hxb (b % 16)]
      rw [Nat.div_eq_of_lt hb, hexN_zero, Nat.mod_eq_of_lt hb]
    · have hk : b / 2 ^ 4 < 16 ^ (k + 1) := by
        rw [Nat.div_lt_iff_lt_mul (by decide)]
        rw [Nat.pow_succ] at h; exact h
      obtain ⟨h1, h2⟩ := hex_pad k (b / 2 ^ 4) hk
      rw [hexM_ge (by omega), List.length_append]
      refine ⟨Nat.succ_le_succ h1, ?_⟩
      rw [show k + 1 + 1 - ((hexM (b / 2 ^ 4)).length + [hxb (b % 16)].length) = k + 1 - (hexM (b / 2 ^ 4)).length from Nat.succ_sub_succ _ _, ← List.append_assoc, h2]
      rfl
theorem hex_pad8 {b : Nat} (h : b < 4294967296) : (hexM b).length ≤ 8 ∧ List.replicate (8 - (hexM b).length) 48 ++ hexM b = hexN 8 b := hex_pad 7 b (by
  have : (16 : Nat) ^ (7 + 1) = 4294967296 := by decide
  omega)
/-- the texts of samples -/
def wordsL (xs : List Nat) : List (List UInt8) := xs.map fun x => hexN 8 (cn .f32 x)
def smpL (xs : List Nat) : List UInt8 := xs.flatMap fun x => 32 :: hexN 8 (cn .f32 x)
theorem smpL_len : ∀ xs, (smpL xs).length = 9 * xs.length
  | [] => rfl
  | x :: xs => by
    show (32 :: hexN 8 (cn .f32 x) ++ smpL xs).length = _
    rw [List.length_append, smpL_len xs, List.length_cons, hexN_len, List.length_cons]; omega
theorem tail_words : ∀ xs, Lib.joinTail [32] (wordsL xs) = smpL xs
  | [] => rfl
  | x :: xs => by
    have := tail_words xs
    unfold Lib.joinTail at this ⊢
    show ([32] ++ hexN 8 (cn .f32 x)) ++ ((wordsL xs).map _).flatten = (32 :: hexN 8 (cn .f32 x)) ++ smpL xs
    rw [this]; rfl
theorem join_words {xs : List Nat} (h : xs ≠ []) : 32 :: Lib.join (wordsL xs) [32] = smpL xs := by
  cases xs with
  | nil => exact absurd rfl h
  | cons x xs =>
    show 32 :: Lib.join (hexN 8 (cn .f32 x) :: wordsL xs) [32] = (32 :: hexN 8 (cn .f32 x)) ++ smpL xs
    rw [Lib.join_cons, tail_words]; rfl
theorem join_len {xs : List Nat} (h : xs ≠ []) : (Lib.join (wordsL xs) [32]).length + 1 = 9 * xs.length := by
  have := congrArg List.length (join_words h)
  rw [smpL_len, List.length_cons] at this
  exact this
/-- the text of a tuning -/
def tunT (ba oc : Nat) (ds : List Nat) : List UInt8 := [116, 117, 110, 105, 110, 103] ++ smpL (ba :: oc :: ds)
end Go.Proofs.YtpjjnopjpgnlaaaDoor
