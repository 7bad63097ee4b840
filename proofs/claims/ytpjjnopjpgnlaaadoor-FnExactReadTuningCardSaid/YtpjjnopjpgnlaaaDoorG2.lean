/- What the library needs of the world; contracts of the shelf in this claim's words. -/
import Derived.Test.YtpjjnopjpgnlaaaDoorG1
import Derived.Test.YtpjjnopjpgnlaaaDoorR11
import Derived.Lib.AtoiErrMem
set_option linter.unusedVariables false
namespace Go.Proofs.YtpjjnopjpgnlaaaDoor
open Go Go.Shelf Go.RowKit

structure LibW (w : World) : Prop where
  es : ∃ tp p, w.var? Tryd.prog "strconv.ErrSyntax" = some #[.iface tp p]
  er : ∃ tp p, w.var? Tryd.prog "strconv.ErrRange" = some #[.iface tp p]
  mx : ∃ m, w.cell? ⟨1, 0, none⟩ = some (.int .i64 m)
theorem var_ext {w w' : World} {nm : String} {cs : Array Value} (h : w.var? Tryd.prog nm = some cs) (m : Mod [] w w') : w'.var? Tryd.prog nm = some cs := by
  unfold World.var? at h ⊢
  cases hg : Tryd.prog.globalNamed nm with
  | none => rw [hg] at h; cases h
  | some g =>
    rw [hg] at h
    simp only [Option.bind_some] at h ⊢
    have hlt : g < w.heap.size := by
      rcases Nat.lt_or_ge g w.heap.size with h' | h'
      · exact h'
      · rw [Array.getElem?_eq_none h'] at h; cases h
    rw [m.block g hlt (by simp)]
    exact h
theorem LibW.ext {w w' : World} (h : LibW w) (m : Mod [] w w') : LibW w' := by
  obtain ⟨a, b, e⟩ := h.es
  obtain ⟨c, d, f⟩ := h.er
  obtain ⟨x, hx⟩ := h.mx
  exact ⟨⟨a, b, var_ext e m⟩, ⟨c, d, var_ext f m⟩, ⟨x, cell_extT hx m⟩⟩
def LC : Nat := 0
def LibR (w : World) (b o : Nat) (vs : List Value) : Prop := LibW w
theorem LibR.ext {w w' : World} {b o : Nat} {vs : List Value} (h : LibR w b o vs) (m : Mod [] w w') : LibR w' b o vs := LibW.ext h m
theorem var_young {w0 w w' : World} {S : List Nat} {nm : String} {cs cs0 : Array Value} (h0 : w0.var? Tryd.prog nm = some cs0) (h : w.var? Tryd.prog nm = some cs) (m : Mod S w w') (hS : ∀ x, x ∈ S → w0.heap.size ≤ x) : w'.var? Tryd.prog nm = some cs := by
  unfold World.var? at h h0 ⊢
  cases hg : Tryd.prog.globalNamed nm with
  | none => rw [hg] at h; cases h
  | some g =>
    rw [hg] at h h0
    simp only [Option.bind_some] at h h0 ⊢
    have l0 : g < w0.heap.size := by
      rcases Nat.lt_or_ge g w0.heap.size with h' | h'
      · exact h'
      · rw [Array.getElem?_eq_none h'] at h0; cases h0
    have l1 : g < w.heap.size := by
      rcases Nat.lt_or_ge g w.heap.size with h' | h'
      · exact h'
      · rw [Array.getElem?_eq_none h'] at h; cases h
    rw [m.block g l1 fun hm => absurd (hS _ hm) (by omega)]
    exact h
theorem cell_young {w0 w w' : World} {S : List Nat} {g k : Nat} {v v0 : Value} (h0 : w0.cell? ⟨g, k, none⟩ = some v0) (h : w.cell? ⟨g, k, none⟩ = some v) (m : Mod S w w') (hS : ∀ x, x ∈ S → w0.heap.size ≤ x) : w'.cell? ⟨g, k, none⟩ = some v := by
  unfold World.cell? at h h0 ⊢
  have l0 : g < w0.heap.size := by
    rcases Nat.lt_or_ge g w0.heap.size with h' | h'
    · exact h'
    · rw [Array.getElem?_eq_none h'] at h0; cases h0
  have l1 : g < w.heap.size := by
    rcases Nat.lt_or_ge g w.heap.size with h' | h'
    · exact h'
    · rw [Array.getElem?_eq_none h'] at h; cases h
  rw [m.block g l1 fun hm => absurd (hS _ hm) (by omega)]
  exact h
theorem LibR.youngS {w0 w w' : World} {b o : Nat} {vs : List Value} {S : List Nat} (h0 : LibR w0 b o vs) (h : LibR w b o vs) (m : Mod S w w') (hS : ∀ x, x ∈ S → w0.heap.size ≤ x) : LibR w' b o vs := by
  obtain ⟨a, p, e⟩ := LibW.es h
  obtain ⟨c, d, f⟩ := LibW.er h
  obtain ⟨x, hx⟩ := LibW.mx h
  obtain ⟨a0, p0, e0⟩ := LibW.es h0
  obtain ⟨c0, d0, f0⟩ := LibW.er h0
  obtain ⟨x0, hx0⟩ := LibW.mx h0
  exact ⟨⟨a, p, var_young e0 e m hS⟩, ⟨c, d, var_young f0 f m hS⟩, ⟨x, cell_young hx0 hx m hS⟩⟩
theorem c_toErrS9 (fn s : ByteArray) (x y : Int) (hs : s.size ≤ 1048576) (w : World) (T2 : LibR w LC 0 []) : Cl Tryd.prog 46 #[.string fn, .string s, vI x, vI y, .iface 82 (vI 2)] w fun v w' => ∃ (tp : TypeId) (pv : Value), v = .iface tp pv ∧ Mod [] w w' := by
  obtain ⟨tp, p, hvar⟩ := T2.es
  refine Calls.mono (AnyPu.strconv_toError_syntax Tryd.laysPu17 fn s x y (.iface tp p) w (by omega) (by have h0 := World.var?_cell (g := 4) (by kernel_rfl) hvar 0; exact h0.trans rfl) (Or.inr ⟨tp, p, rfl⟩)) ?_
  rintro e w' ⟨N, rfl, _, _, hb⟩
  exact ⟨_, rfl, _, _, rfl, mod_belowT hb⟩
theorem c_toErrR9 (fn s : ByteArray) (x y : Int) (hs : s.size ≤ 1048576) (w : World) (T2 : LibR w LC 0 []) : Cl Tryd.prog 46 #[.string fn, .string s, vI x, vI y, .iface 82 (vI 1)] w fun v w' => ∃ (tp : TypeId) (pv : Value), v = .iface tp pv ∧ Mod [] w w' := by
  obtain ⟨tp, p, hvar⟩ := T2.er
  refine Calls.mono (AnyPu.strconv_toError_range Tryd.laysPu17 fn s x y (.iface tp p) w (by omega) (by have h0 := World.var?_cell (g := 5) (by kernel_rfl) hvar 0; exact h0.trans rfl) (Or.inr ⟨tp, p, rfl⟩)) ?_
  rintro e w' ⟨N, rfl, _, _, hb⟩
  exact ⟨_, rfl, _, _, rfl, mod_belowT hb⟩
/-- strings.Split at a blank -/
theorem c_Split9 (s : ByteArray) (hs : s.size ≤ 1048576) (w : World) (T2 : LibR w LC 0 []) : Cl Tryd.prog 12 #[.string s, .string ⟨#[32]⟩] w fun v w' => ∃ (b n : Nat), v = .slice (some ⟨b, 0, none⟩) n n ∧ (splW s 32).length = n ∧ 0 < n ∧ Row w' b 0 (cat StrR.cells (splW s 32)) ∧ w.heap.size ≤ b ∧ Mod [] w w' := by
  obtain ⟨m, hm⟩ := T2.mx
  have hl := Lib.splitB_all ⟨#[32]⟩ (by decide) 0 _ s rfl
  have hsp : splW s 32 = (Lib.splitB ⟨#[32]⟩ 0 (Lib.countB s ⟨#[32]⟩) s).map StrR.mk := by
    apply strs_inj
    rw [List.map_map, show (32 : Nat) = (32 : UInt8).toNat from rfl, splW_spL]
    have e := Lib.splitB_data ⟨#[32]⟩ 0 (Lib.countB s ⟨#[32]⟩) s
    have e2 := split_spL 32 (Lib.count (tl s) [32]) (tl s) rfl
    exact (e.trans e2).symm
  refine Calls.mono (Any.strings_Split Tryd.lays146 (by kernel_rfl) s ⟨#[32]⟩ m w (by omega) hm (by decide)) ?_
  rintro e w' ⟨rfl, rfl⟩
  refine ⟨_, rfl, w.heap.size, _, rfl, ?_, by omega, ?_, Nat.le_refl _, Mod.alloc _ _⟩
  · rw [hsp, List.length_map, hl]
  · have := Row.new w ((Lib.splitB ⟨#[32]⟩ 0 (Lib.countB s ⟨#[32]⟩) s).map Value.string).toArray 9
    rw [hsp, strs_cells, List.map_map]
    exact this
end Go.Proofs.YtpjjnopjpgnlaaaDoor
