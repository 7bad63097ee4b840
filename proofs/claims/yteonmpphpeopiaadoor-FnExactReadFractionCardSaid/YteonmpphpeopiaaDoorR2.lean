/- What the library's functions on numbers in texts answer: contracts of the shelf in this claim's words. -/
import Derived.Test.YteonmpphpeopiaaDoorR0
import Derived.Test.YteonmpphpeopiaaDoorR1
import Derived.Test.YteonmpphpeopiaaDoorR3
import Derived.Test.YteonmpphpeopiaaDoorR4
import Derived.Test.YteonmpphpeopiaaDoorB2
import Derived.Lib.AtoiErrMem
set_option linter.unusedVariables false
set_option linter.unusedSimpArgs false
namespace Go.Proofs.YteonmpphpeopiaaDoor
open Go Go.Shelf Go.RowKit Go.Sort

/-- what the library's functions need of the world -/
structure LibW (w : World) : Prop where
  es : ∃ tp p, w.var? Tryd.prog "strconv.ErrSyntax" = some #[.iface tp p]
  er : ∃ tp p, w.var? Tryd.prog "strconv.ErrRange" = some #[.iface tp p]
  tab : Lib.TabIs Tryd.prog w "internal/strconv.uint64pow10" .u64 Lib.pow10Tab
  mx : ∃ m, w.cell? ⟨1, 0, none⟩ = some (.int .i64 m)
theorem var_ext {w w' : World} {nm : String} {cs : Array Value} (h : w.var? Tryd.prog nm = some cs) (m : Mod [] w w') : w'.var? Tryd.prog nm = some cs := by
  unfold World.var? at h ⊢
  cases hg : Tryd.prog.globalNamed nm with
  | none => rw [hg] at h; cases h
  | some g =>
    rw [hg] at h
    simp only [Option.bind_some] at h ⊢
    have hlt : g < w.heap.size := by
      rcases Nat.lt_or_ge g w.heap.size with h' | h'
      · exact h'
      · rw [Array.getElem?_eq_none h'] at h; cases h
    rw [m.block g hlt (by simp)]
    exact h
theorem cell_ext {w w' : World} {g k : Nat} {v : Value} (h : w.cell? ⟨g, k, none⟩ = some v) (m : Mod [] w w') : w'.cell? ⟨g, k, none⟩ = some v := by
  unfold World.cell? at h ⊢
  have hlt : g < w.heap.size := by
    rcases Nat.lt_or_ge g w.heap.size with h' | h'
    · exact h'
    · rw [Array.getElem?_eq_none h'] at h; cases h
  rw [m.block g hlt (by simp)]
  exact h
theorem LibW.ext {w w' : World} (h : LibW w) (m : Mod [] w w') : LibW w' := by
  obtain ⟨a, b, e⟩ := h.es
  obtain ⟨c, d, f⟩ := h.er
  obtain ⟨x, hx⟩ := h.mx
  exact ⟨⟨a, b, var_ext e m⟩, ⟨c, d, var_ext f m⟩, var_ext h.tab m, ⟨x, cell_ext hx m⟩⟩
def LB : Nat := 0
def LibR (w : World) (b o : Nat) (vs : List Value) : Prop := LibW w
theorem LibR.ext {w w' : World} {b o : Nat} {vs : List Value} (h : LibR w b o vs) (m : Mod [] w w') : LibR w' b o vs := LibW.ext h m
theorem mod_of_below {w w' : World} (h : Below w.heap.size w w') : Mod [] w w' := ⟨h.os, h.tape, h.output, h.size, fun k hk _ => h.block k hk⟩
theorem mod_of_grow {w : World} {k : Nat} {os : Array Obj} : Mod [] w (grow (w.drewN k) os) := by
  refine ⟨rfl, rfl, rfl, ?_, fun j hj _ => ?_⟩
  · show w.heap.size ≤ (w.heap ++ os).size
    rw [Array.size_append]; omega
  · show (w.heap ++ os)[j]? = _
    rw [Array.getElem?_append_left hj]
def okB (l : List UInt8) : Bool := match Lib.parseIntB 64 l with | .ok _ => true | _ => false
theorem okB_t {l : List UInt8} (h : okB l = true) : Lib.parseIntB 64 l = .ok (decV l) := by
  unfold okB at h; unfold decV
  cases hp : Lib.parseIntB 64 l with
  | ok v => rfl
  | «syntax» => rw [hp] at h; cases h
  | range => rw [hp] at h; cases h
theorem okB_f {l : List UInt8} (h : okB l = false) : decO l = false := by
  unfold okB at h; unfold decO
  cases hp : Lib.parseIntB 64 l with
  | ok v => rw [hp] at h; cases h
  | «syntax» => rfl
  | range => rfl
theorem okB_o {l : List UInt8} (h : okB l = true) : decO l = (Lib.itoa (decV l) == l) := by
  have := okB_t h
  unfold decO; rw [this]
theorem dec_range {l : List UInt8} (h : okB l = true) : -9223372036854775808 ≤ decV l ∧ decV l ≤ 9223372036854775807 := by
  have hp := okB_t h
  cases l with
  | nil => cases hp
  | cons c r =>
    unfold Lib.parseIntB at hp
    simp only [] at hp
    split at hp
    · cases hp
    · cases hp
    · rename_i u hu
      split at hp
      · cases hp
      · split at hp
        · cases hp
        · rename_i h1 h2
          injection hp with hp
          rw [← hp]
          split <;> omega
theorem c_ParseIntOk (s : ByteArray) (hs : s.size ≤ 1048576) (h : okB s.data.toList = true) (w : World) : Cl Tryd.prog 59 #[.string s, .int .i64 10, .int .i64 64] w fun v w' => v = .tuple #[vI (decV s.data.toList), .nilIface] ∧ Mod [] w w' := by
  refine Calls.mono (Any.strconv_ParseInt_10_at64_ok Tryd.lays174 s (by omega) _ (okB_t h) w) ?_
  rintro e w' ⟨rfl, hw⟩
  refine ⟨_, rfl, rfl, ?_⟩
  rcases hw with rfl | ⟨t, rfl⟩
  · exact Mod.refl _ _
  · exact mod_of_below (Lib.bytesWorld_below _ _ _)
theorem c_ParseIntErr (s : ByteArray) (hs : s.size ≤ 1048576) (h : okB s.data.toList = false) (w : World) (T : LibR w LB 0 []) : Cl Tryd.prog 59 #[.string s, .int .i64 10, .int .i64 64] w fun v w' => ∃ tp p, v = .tuple #[vI (decV s.data.toList), .iface tp p] ∧ Mod [] w w' := by
  cases hp : Lib.parseIntB 64 s.data.toList with
  | ok v => unfold okB at h; rw [hp] at h; cases h
  | «syntax» =>
    obtain ⟨tp, p, hvar⟩ := T.es
    refine Calls.mono (Any.strconv_ParseInt_10_at64_syntax Tryd.lays174 s (by omega) hp (.iface tp p) w (by have h0 := World.var?_cell Tryd.lays174.m15 hvar 0; simpa using h0) (Or.inr ⟨tp, p, rfl⟩)) ?_
    rintro e w' ⟨N, rfl, _, _, hb⟩
    refine ⟨_, rfl, Tryd.lays174_ren.t 168, .pointer (some ⟨N, 0, none⟩), ?_, mod_of_below hb⟩
    unfold decV; rw [hp]
  | range =>
    obtain ⟨tp, p, hvar⟩ := T.er
    refine Calls.mono (Any.strconv_ParseInt_10_at64_range Tryd.lays174 s (by omega) hp (.iface tp p) w (by have h0 := World.var?_cell Tryd.lays174.m16 hvar 0; simpa using h0) (Or.inr ⟨tp, p, rfl⟩)) ?_
    rintro e w' ⟨N, rfl, _, _, hb⟩
    refine ⟨_, rfl, Tryd.lays174_ren.t 168, .pointer (some ⟨N, 0, none⟩), ?_, mod_of_below hb⟩
    unfold decV; rw [hp]
theorem c_FormatInt (n : Int) (h0 : -9223372036854775808 ≤ n) (h1 : n ≤ 9223372036854775807) (w : World) (T : LibR w LB 0 []) : Cl Tryd.prog 76 #[vI n, .int .i64 10] w fun v w' => v = .string ⟨(Lib.itoa n).toArray⟩ ∧ Mod [] w w' := by
  refine Calls.mono (Any.strconv_FormatInt_10 Tryd.lays173 n h0 h1 w T.tab) ?_
  rintro e w' ⟨rfl, k, os, rfl⟩
  exact ⟨_, rfl, rfl, mod_of_grow⟩
theorem mod_drewN (w : World) (n : Nat) : Mod [] w (w.drewN n) := ⟨rfl, rfl, rfl, Nat.le_refl _, fun k _ _ => rfl⟩
theorem c_CutPrefix (s : ByteArray) (w : World) : Cl Tryd.prog 48 #[.string s, .string ⟨#[45]⟩] w fun v w' => v = .tuple #[.string ⟨(Lib.trimPrefix (tl s) [45]).toArray⟩, .bool (Lib.hasPrefix (tl s) [45])] ∧ Mod [] w w' := by
  refine Calls.mono (Any.strings_CutPrefix Tryd.lays103 s ⟨#[45]⟩ w) ?_
  rintro e w' ⟨rfl, rfl⟩
  exact ⟨_, rfl, rfl, Mod.refl _ _⟩
theorem c_Cut (s : ByteArray) (hs : s.size ≤ 1048576) (w : World) (T : LibR w LB 0 []) : Cl Tryd.prog 35 #[.string s, .string ⟨#[47]⟩] w fun v w' => v = .tuple #[.string ⟨(cA (tl s)).toArray⟩, .string ⟨(cB (tl s)).toArray⟩, .bool (cD (tl s))] ∧ Mod [] w w' := by
  obtain ⟨m, hm⟩ := T.mx
  refine Calls.mono (Any.strings_Cut Tryd.lays145 s ⟨#[47]⟩ m w (by omega) hm) ?_
  rintro e w' ⟨rfl, n, rfl⟩
  exact ⟨_, rfl, rfl, mod_drewN _ _⟩
theorem trim_size (s : ByteArray) : (⟨(Lib.trimPrefix (tl s) [45]).toArray⟩ : ByteArray).size ≤ s.size := by
  show (Lib.trimPrefix (tl s) [45]).toArray.size ≤ _
  rw [List.size_toArray, ← tl_len s]
  unfold Lib.trimPrefix
  split
  · rw [List.length_drop]; omega
  · exact Nat.le_refl _
theorem cut_size (s : ByteArray) : (⟨(cA (tl s)).toArray⟩ : ByteArray).size ≤ s.size ∧ (⟨(cB (tl s)).toArray⟩ : ByteArray).size ≤ s.size := by
  show (cA (tl s)).toArray.size ≤ _ ∧ (cB (tl s)).toArray.size ≤ _
  rw [List.size_toArray, List.size_toArray, ← tl_len s]
  unfold cA cB Lib.cut
  split
  · constructor
    · rw [List.length_take]; omega
    · rw [List.length_drop]; omega
  · exact ⟨Nat.le_refl _, Nat.zero_le _⟩
theorem itoa_i64 {l : List UInt8} (h : okB l = true) : (-9223372036854775808 : Int) ≤ decV l ∧ decV l ≤ 9223372036854775807 := dec_range h
end Go.Proofs.YteonmpphpeopiaaDoor
