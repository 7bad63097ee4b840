/- When an instrument is valid. -/
import Derived.Test.YtdopidalhkcefaaDoorI0
import Derived.Test.YtdopidalhkcefaaDoorK1
import Derived.Test.YtdopidalhkcefaaDoorE27
import Derived.Test.YtdopidalhkcefaaDoorB2
set_option linter.unusedVariables false
set_option linter.unusedSimpArgs false
namespace Go.Proofs.YtdopidalhkcefaaDoor

open Go.Shelf Go.Lib in
/-- bytes up to place `k` that are small letters -/
def lowF (s : ByteArray) (k : Nat) : Bool := (List.range k).all fun j => decide (97 ≤ byt s j) && decide (byt s j ≤ 122)
theorem lowF_step {s : ByteArray} {k : Nat} (h : lowF s k = true) (h1 : 97 ≤ byt s k) (h2 : byt s k ≤ 122) : lowF s (k + 1) = true := by
  unfold lowF at *
  rw [List.range_succ, List.all_append, h]; simp [h1, h2]
theorem lowF_out {s : ByteArray} {i k : Nat} (hi : i < k) (h : byt s i < 97 ∨ 122 < byt s i) : lowF s k = false := by
  unfold lowF
  rw [List.all_eq_false]
  refine ⟨i, by simpa using hi, ?_⟩
  simp; omega
def nameF (s : ByteArray) : Bool := lowF s s.size && vIn ((s.size : Nat) : Int) (1 : Int) (12 : Int)
theorem low_byte : ∀ n : Fin 256, ([97, 98, 99, 100, 101, 102, 103, 104, 105, 106, 107, 108, 109, 110, 111, 112, 113, 114, 115, 116, 117, 118, 119, 120, 121, 122] : List UInt8).contains (UInt8.ofNat n.1) = (decide (97 ≤ n.1) && decide (n.1 ≤ 122)) := by decide +kernel
theorem low_mem (b : UInt8) : ([97, 98, 99, 100, 101, 102, 103, 104, 105, 106, 107, 108, 109, 110, 111, 112, 113, 114, 115, 116, 117, 118, 119, 120, 121, 122] : List UInt8).contains b = (decide (97 ≤ b.toNat) && decide (b.toNat ≤ 122)) := by
  have := low_byte ⟨b.toNat, b.toNat_lt⟩
  simpa using this
theorem dw_nil {α : Type} (p : α → Bool) (l : List α) : l.dropWhile p = [] ↔ ∀ x, x ∈ l → p x = true := by
  induction l with
  | nil => simp
  | cons a l ih =>
    rw [List.dropWhile_cons]
    cases h : p a
    · simp [h]
    · simp only [if_true, ih, List.mem_cons]
      exact ⟨fun k x hx => by rcases hx with rfl | hx; exact h; exact k x hx, fun k x hx => k x (.inr hx)⟩
theorem tw_mem {α : Type} (p : α → Bool) (l : List α) {x : α} (h : x ∈ l.takeWhile p) : p x = true := by
  induction l with
  | nil => simp at h
  | cons a l ih =>
    rw [List.takeWhile_cons] at h
    cases ha : p a
    · simp [ha] at h
    · simp only [ha, if_true, List.mem_cons] at h
      rcases h with rfl | h
      · exact ha
      · exact ih h
theorem trimS_nil (l cs : List UInt8) : Go.Lib.trimS l cs = [] ↔ ∀ b, b ∈ l → cs.contains b = true := by
  unfold Go.Lib.trimS Go.Lib.trimLeftS Go.Lib.trimRightS
  rw [dw_nil]
  constructor
  · intro h b hb
    have e := List.takeWhile_append_dropWhile (p := (cs.contains ·)) (l := l.reverse)
    have hb2 : b ∈ l.reverse := List.mem_reverse.2 hb
    rw [← e, List.mem_append] at hb2
    rcases hb2 with h1 | h1
    · exact tw_mem _ _ h1
    · exact h b (List.mem_reverse.2 h1)
  · intro h b hb
    have h1 := List.mem_reverse.1 hb
    exact h b (List.mem_reverse.1 ((List.dropWhile_sublist _).subset h1))
theorem lowF_iff (s : ByteArray) : lowF s s.size = true ↔ ∀ b, b ∈ s.data.toList → ([97, 98, 99, 100, 101, 102, 103, 104, 105, 106, 107, 108, 109, 110, 111, 112, 113, 114, 115, 116, 117, 118, 119, 120, 121, 122] : List UInt8).contains b = true := by
  unfold lowF
  rw [List.all_eq_true]
  constructor
  · intro h b hb
    obtain ⟨i, hi, e⟩ := List.getElem_of_mem hb
    have hi2 : i < s.size := by simpa using hi
    have := h i (by simpa using hi2)
    rw [low_mem]
    have e2 : byt s i = b.toNat := by unfold byt; rw [List.getD_eq_getElem?_getD, List.getElem?_eq_getElem hi, Option.getD_some, e]
    rw [e2] at this; exact this
  · intro h i hi
    have hi2 : i < s.data.toList.length := by simpa using hi
    have := h (s.data.toList[i]) (List.getElem_mem hi2)
    rw [low_mem] at this
    have e2 : byt s i = (s.data.toList[i]).toNat := by unfold byt; rw [List.getD_eq_getElem?_getD, List.getElem?_eq_getElem hi2, Option.getD_some]
    rw [e2]; exact this
theorem trim_eq (s : ByteArray) : sEq ⟨(Go.Lib.trimS s.data.toList [97, 98, 99, 100, 101, 102, 103, 104, 105, 106, 107, 108, 109, 110, 111, 112, 113, 114, 115, 116, 117, 118, 119, 120, 121, 122]).toArray⟩ ⟨#[]⟩ = lowF s s.size := by
  unfold sEq
  rw [ByteArray.toList_eq, ByteArray.toList_eq]
  show (Go.Lib.trimS s.data.toList [97, 98, 99, 100, 101, 102, 103, 104, 105, 106, 107, 108, 109, 110, 111, 112, 113, 114, 115, 116, 117, 118, 119, 120, 121, 122] == []) = lowF s s.size
  cases h : lowF s s.size
  · cases h2 : (Go.Lib.trimS s.data.toList [97, 98, 99, 100, 101, 102, 103, 104, 105, 106, 107, 108, 109, 110, 111, 112, 113, 114, 115, 116, 117, 118, 119, 120, 121, 122] == [])
    · rfl
    · rw [beq_iff_eq, trimS_nil, ← lowF_iff, h] at h2; cases h2
  · have := (trimS_nil s.data.toList [97, 98, 99, 100, 101, 102, 103, 104, 105, 106, 107, 108, 109, 110, 111, 112, 113, 114, 115, 116, 117, 118, 119, 120, 121, 122]).2 ((lowF_iff s).1 h)
    rw [this]; rfl
/-- an instrument is valid -/
def instF (nm : ByteArray) (kd : Int) (a b c : Nat) : Bool := nameF nm && (fGe .f32 b 0 && fLe .f32 b 1065353216) && (if kd = 1 then (fGe .f32 a 0 && fLe .f32 a 1056964608) && (fGe .f32 c 0 && fLt .f32 c 1065353216) else if kd = 2 then (fGe .f32 a 0 && fLt .f32 a 1065353216) && (fEq .f32 c 0 || fEq .f32 c 1065353216) else if kd = 3 then (fGe .f32 a 0 && fLt .f32 a 1065353216) && finF c else false)

open Go.Shelf Go.Lib in
theorem c_Trim (nm : ByteArray) (hs : nm.size ≤ 9223372036854775807) (w : World) : Cl Tryd.prog 62 #[.string nm, .string (⟨#[97, 98, 99, 100, 101, 102, 103, 104, 105, 106, 107, 108, 109, 110, 111, 112, 113, 114, 115, 116, 117, 118, 119, 120, 121, 122]⟩)] w fun v w' => v = .string (⟨(Go.Lib.trimS nm.data.toList [97, 98, 99, 100, 101, 102, 103, 104, 105, 106, 107, 108, 109, 110, 111, 112, 113, 114, 115, 116, 117, 118, 119, 120, 121, 122]).toArray⟩) ∧ Mod [] w w' := by
  have hcon := Any.strings_Trim_laid Tryd.lays160 (by kernel_rfl) nm ⟨#[97, 98, 99, 100, 101, 102, 103, 104, 105, 106, 107, 108, 109, 110, 111, 112, 113, 114, 115, 116, 117, 118, 119, 120, 121, 122]⟩ w hs (by decide) (ascii_of_all (by decide))
  refine Calls.mono hcon ?_
  rintro e w' ⟨rfl, hB⟩
  exact ⟨_, rfl, rfl, ⟨hB.os, hB.tape, hB.output, hB.size, fun k hk _ => hB.block k hk⟩⟩

set_option maxRecDepth 100000 in
set_option maxHeartbeats 2000000 in
theorem c_isName (nm : ByteArray) (hs : nm.size ≤ 9223372036854775807) (w : World) : Cl Tryd.prog 31 #[.string nm] w fun v w' => v = .bool (nameF nm) ∧ Mod [] w w' := by
  refine Cl.of Tryd.func31 Tryd.ntmps31 rfl rfl (ρ := [(0, .string nm)]) rfl ?_
  refine CE.seq ?_
  refine CE.region ?_
  refine WL.det (op_assign rfl) rfl rfl rfl ?_
  refine WL.end ?_
  refine NE.code ?_
  refine CE.seq ?_
  refine CE.region ?_
  refine WL.det (op_move rfl) rfl rfl rfl ?_
  refine WL.det (op_lens rfl Tryd.runUnderlying9) rfl rfl rfl ?_
  refine WL.call (oc_call (vs := [vI ((nm.size : Nat) : Int), vI 1, vI 12]) (cap := []) rfl rfl rfl Tryd.call51 (c_within ((nm.size : Nat) : Int) (1 : Int) (12 : Int) w)) rfl rfl (ltb rfl) ?_
  rintro _ _ ⟨rfl, rfl⟩
  refine WL.det (op_move rfl) rfl rfl rfl ?_
  rcases Bool.eq_false_or_eq_true (vIn ((nm.size : Nat) : Int) (1 : Int) (12 : Int)) with hb1 | hb1
  · have hp1 := hb1; try simp only [Bool.and_eq_true, Bool.or_eq_true, Bool.not_eq_true', Bool.not_eq_false', Bool.and_eq_false_iff, Bool.or_eq_false_iff, decide_eq_true_eq, decide_eq_false_iff_not, beq_iff_eq, bne_iff_ne, beq_eq_false_iff_ne, bne_eq_false_iff_eq, ne_eq, Bool.false_eq_true, not_false_eq_true, not_true_eq_false, vIn_t, vIn_f] at hp1
    refine WL.yes rfl rfl rfl (ltb rfl) rfl hb1 ?_
    refine WL.det (op_move rfl) rfl rfl rfl ?_
    refine WL.yes rfl rfl rfl (ltb rfl) rfl hb1 ?_
    refine WL.call (oc_call (vs := [.string nm, .string (⟨#[97, 98, 99, 100, 101, 102, 103, 104, 105, 106, 107, 108, 109, 110, 111, 112, 113, 114, 115, 116, 117, 118, 119, 120, 121, 122]⟩)]) (cap := []) rfl rfl rfl Tryd.call62 (c_Trim nm (by assumption) w)) rfl rfl (ltb rfl) ?_
    rintro _ w1 ⟨rfl, m1⟩
    refine WL.yes rfl rfl rfl (ltb rfl) rfl hb1 ?_
    refine WL.det (op_eqs rfl rfl) rfl rfl rfl ?_
    refine WL.det (op_pick_t rfl hb1 rfl) rfl rfl rfl ?_
    refine WL.det (op_assign rfl) rfl rfl rfl ?_
    refine WL.end ?_
    refine NE.code ?_
    refine CE.ret' ?_
    refine XE.leave1 Tryd.results31 rfl ?_
    refine ⟨?_, ((Mod.refl [] w).nt m1)⟩
    all_goals simp_all [nameF, trim_eq]
  · have hp1 := hb1; try simp only [Bool.and_eq_true, Bool.or_eq_true, Bool.not_eq_true', Bool.not_eq_false', Bool.and_eq_false_iff, Bool.or_eq_false_iff, decide_eq_true_eq, decide_eq_false_iff_not, beq_iff_eq, bne_iff_ne, beq_eq_false_iff_ne, bne_eq_false_iff_eq, ne_eq, Bool.false_eq_true, not_false_eq_true, not_true_eq_false, vIn_t, vIn_f] at hp1
    refine WL.no rfl rfl rfl (ltb rfl) rfl hb1 rfl (ltb rfl) ?_
    refine WL.no rfl rfl rfl (ltb rfl) rfl hb1 rfl (ltb rfl) ?_
    refine WL.no rfl rfl rfl (ltb rfl) rfl hb1 rfl (ltb rfl) ?_
    refine WL.det (op_pick_f rfl hb1 rfl) rfl rfl rfl ?_
    refine WL.det (op_assign rfl) rfl rfl rfl ?_
    refine WL.end ?_
    refine NE.code ?_
    refine CE.ret' ?_
    refine XE.leave1 Tryd.results31 rfl ?_
    refine ⟨?_, (Mod.refl [] w)⟩
    all_goals simp_all [nameF, trim_eq]

set_option maxRecDepth 100000 in
set_option maxHeartbeats 2000000 in
theorem c_l08Name (nm : ByteArray) (hs : nm.size ≤ 9223372036854775807) (w : World) : Cl Tryd.prog 59 #[.string nm] w fun v w' => v = .bool (nameF nm) ∧ Mod [] w w' := by
  refine Cl.of Tryd.func59 Tryd.ntmps59 rfl rfl (ρ := [(0, .string nm)]) rfl ?_
  refine CE.seq ?_
  refine CE.region ?_
  refine WL.det (op_assign rfl) rfl rfl rfl ?_
  refine WL.end ?_
  refine NE.code ?_
  refine CE.seq ?_
  refine CE.seq ?_
  refine CE.region ?_
  refine WL.det (op_assign rfl) rfl rfl rfl ?_
  refine WL.end ?_
  refine NE.code ?_
  refine CE.block ?_
  refine CE.loop (fun (i : Nat) => [(3, vI ((i : Nat) : Int)), (0, .string nm), (2, .bool false)]) (fun (i : Nat) => fun W => (i ≤ nm.size) ∧ (lowF nm i = true) ∧ Mod [] w W) (fun (i : Nat) => nm.size - i) 0 (⟨rfl, rfl, rfl, trivial⟩) ⟨(by omega), (by rfl), Mod.refl _ _⟩ ?_
  rintro i w1 ⟨hi, hu, m1⟩
  show CE _ _ _ _ [(3, vI ((i : Nat) : Int)), (0, .string nm), (2, .bool false)] _
  refine CE.seq ?_
  refine CE.seq ?_
  refine CE.region ?_
  refine WL.det (op_move rfl) rfl rfl rfl ?_
  refine WL.det (op_move rfl) rfl rfl rfl ?_
  refine WL.det (op_lens rfl Tryd.runUnderlying9) rfl rfl rfl ?_
  refine WL.det (op_lti rfl rfl) rfl rfl rfl ?_
  refine WL.end ?_
  refine NE.code ?_
  rcases Bool.eq_false_or_eq_true (decide (((i : Nat) : Int) < ((nm.size : Nat) : Int))) with hb1 | hb1
  · have hp1 := of_decide_eq_true hb1
    refine CE.cond_t rfl hb1 ?_
    refine CE.skip' ?_
    refine NE.code ?_
    refine CE.seq ?_
    refine CE.block ?_
    refine CE.seq ?_
    refine CE.region ?_
    refine WL.det (op_move rfl) rfl rfl rfl ?_
    refine WL.det (op_move rfl) rfl rfl rfl ?_
    refine WL.det (op_byte (i := i) rfl rfl rfl Tryd.runUnderlying9 (by omega)) rfl rfl rfl ?_
    refine WL.det (op_lti rfl rfl) rfl rfl rfl ?_
    refine WL.det (op_move rfl) rfl rfl rfl ?_
    rcases Bool.eq_false_or_eq_true (decide (((byt nm i : Nat) : Int) < (97 : Int))) with hb2 | hb2
    · have hp2 := of_decide_eq_true hb2
      refine WL.no rfl rfl rfl (ltb rfl) rfl hb2 rfl (ltb rfl) ?_
      refine WL.no rfl rfl rfl (ltb rfl) rfl hb2 rfl (ltb rfl) ?_
      refine WL.no rfl rfl rfl (ltb rfl) rfl hb2 rfl (ltb rfl) ?_
      refine WL.no rfl rfl rfl (ltb rfl) rfl hb2 rfl (ltb rfl) ?_
      refine WL.det (op_pick_t rfl hb2 rfl) rfl rfl rfl ?_
      refine WL.end ?_
      refine NE.code ?_
      refine CE.cond_t rfl rfl ?_
      refine CE.seq ?_
      refine CE.region ?_
      refine WL.det (op_assign rfl) rfl rfl rfl ?_
      refine WL.end ?_
      refine NE.code ?_
      refine CE.ret' ?_
      refine XE.ret_blk ?_
      refine XE.ret_then ?_
      refine XE.ret_then ?_
      refine XE.ret_blk ?_
      refine XE.ret_then ?_
      refine XE.leave1 Tryd.results59 rfl ?_
      refine ⟨?_, ((Mod.refl [] w).nt m1)⟩
      all_goals first | (simp only [nameF, lowF_out (s := nm) (show i < nm.size by omega) (by omega), Bool.false_and]; done) | (have e9 : i = nm.size := (by omega); subst e9; simp_all [nameF])
    · have hp2 := of_decide_eq_false hb2
      refine WL.yes rfl rfl rfl (ltb rfl) rfl hb2 ?_
      refine WL.det (op_move rfl) rfl rfl rfl ?_
      refine WL.yes rfl rfl rfl (ltb rfl) rfl hb2 ?_
      refine WL.det (op_move rfl) rfl rfl rfl ?_
      refine WL.yes rfl rfl rfl (ltb rfl) rfl hb2 ?_
      refine WL.det (op_byte (i := i) rfl rfl rfl Tryd.runUnderlying9 (by omega)) rfl rfl rfl ?_
      refine WL.yes rfl rfl rfl (ltb rfl) rfl hb2 ?_
      refine WL.det (op_gti rfl rfl) rfl rfl rfl ?_
      refine WL.det (op_pick_f rfl hb2 rfl) rfl rfl rfl ?_
      refine WL.end ?_
      refine NE.code ?_
      rcases Bool.eq_false_or_eq_true (decide ((122 : Int) < ((byt nm i : Nat) : Int))) with hb3 | hb3
      · have hp3 := of_decide_eq_true hb3
        refine CE.cond_t rfl hb3 ?_
        refine CE.seq ?_
        refine CE.region ?_
        refine WL.det (op_assign rfl) rfl rfl rfl ?_
        refine WL.end ?_
        refine NE.code ?_
        refine CE.ret' ?_
        refine XE.ret_blk ?_
        refine XE.ret_then ?_
        refine XE.ret_then ?_
        refine XE.ret_blk ?_
        refine XE.ret_then ?_
        refine XE.leave1 Tryd.results59 rfl ?_
        refine ⟨?_, ((Mod.refl [] w).nt m1)⟩
        all_goals first | (simp only [nameF, lowF_out (s := nm) (show i < nm.size by omega) (by omega), Bool.false_and]; done) | (have e9 : i = nm.size := (by omega); subst e9; simp_all [nameF])
      · have hp3 := of_decide_eq_false hb3
        refine CE.cond_f rfl hb3 ?_
        refine CE.skip' ?_
        refine NE.blk ?_
        refine NE.code ?_
        refine CE.region ?_
        refine WL.det (op_move rfl) rfl rfl rfl ?_
        refine WL.det (op_add (r := ((i + 1 : Nat) : Int)) rfl rfl (w_i64 (by omega) (by omega))) rfl rfl rfl ?_
        refine WL.det (op_assign rfl) rfl rfl rfl ?_
        refine WL.end ?_
        exact NE.again (i + 1) (⟨rfl, rfl, rfl, trivial⟩) ⟨(by omega), (by exact lowF_step hu (by omega) (by omega)), m1⟩ (by first | (dsimp only; omega) | omega)
  · have hp1 := of_decide_eq_false hb1
    refine CE.cond_f rfl hb1 ?_
    refine CE.exit' ?_
    refine XE.exit_then ?_
    refine XE.exit_then ?_
    refine XE.exit_here ?_
    refine NE.code ?_
    refine CE.seq ?_
    refine CE.region ?_
    refine WL.det (op_move rfl) rfl rfl rfl ?_
    refine WL.det (op_lens rfl Tryd.runUnderlying9) rfl rfl rfl ?_
    refine WL.call (oc_call (vs := [vI ((nm.size : Nat) : Int), vI 1, vI 12]) (cap := []) rfl rfl rfl Tryd.call80 (c_l00In ((nm.size : Nat) : Int) (1 : Int) (12 : Int) w1)) rfl rfl (ltb rfl) ?_
    rintro _ _ ⟨rfl, rfl⟩
    refine WL.det (op_assign rfl) rfl rfl rfl ?_
    refine WL.end ?_
    refine NE.code ?_
    refine CE.ret' ?_
    refine XE.leave1 Tryd.results59 rfl ?_
    refine ⟨?_, ((Mod.refl [] w).nt m1)⟩
    all_goals first | (simp only [nameF, lowF_out (s := nm) (show i < nm.size by omega) (by omega), Bool.false_and]; done) | (have e9 : i = nm.size := (by omega); subst e9; simp_all [nameF])

set_option maxRecDepth 100000 in
set_option maxHeartbeats 2000000 in
theorem c_insideI (a : Nat) (lo : Nat) (hi : Nat) (w : World) : Cl Tryd.prog 32 #[vF a, vF lo, vF hi] w fun v w' => v = .bool (fGe .f32 a lo && fLe .f32 a hi) ∧ w = w' := by
  refine Cl.of Tryd.func32 Tryd.ntmps32 rfl rfl (ρ := [(0, vF a), (1, vF lo), (2, vF hi)]) rfl ?_
  refine CE.seq ?_
  refine CE.region ?_
  refine WL.det (op_assign rfl) rfl rfl rfl ?_
  refine WL.end ?_
  refine NE.code ?_
  refine CE.seq ?_
  refine CE.region ?_
  refine WL.det (op_move rfl) rfl rfl rfl ?_
  refine WL.det (op_move rfl) rfl rfl rfl ?_
  refine WL.det (op_fge (c := fGe .f32 a lo) rfl rfl rfl rfl rfl) rfl rfl rfl ?_
  refine WL.det (op_move rfl) rfl rfl rfl ?_
  rcases Bool.eq_false_or_eq_true (fGe .f32 a lo) with hb1 | hb1
  · refine WL.yes rfl rfl rfl (ltb rfl) rfl hb1 ?_
    refine WL.det (op_move rfl) rfl rfl rfl ?_
    refine WL.yes rfl rfl rfl (ltb rfl) rfl hb1 ?_
    refine WL.det (op_move rfl) rfl rfl rfl ?_
    refine WL.yes rfl rfl rfl (ltb rfl) rfl hb1 ?_
    refine WL.det (op_fle (c := fLe .f32 a hi) rfl rfl rfl rfl rfl) rfl rfl rfl ?_
    refine WL.det (op_pick_t rfl hb1 rfl) rfl rfl rfl ?_
    refine WL.det (op_assign rfl) rfl rfl rfl ?_
    refine WL.end ?_
    refine NE.code ?_
    refine CE.ret' ?_
    refine XE.leave1 Tryd.results32 rfl ?_
    refine ⟨?_, rfl⟩
    all_goals simp_all
  · refine WL.no rfl rfl rfl (ltb rfl) rfl hb1 rfl (ltb rfl) ?_
    refine WL.no rfl rfl rfl (ltb rfl) rfl hb1 rfl (ltb rfl) ?_
    refine WL.no rfl rfl rfl (ltb rfl) rfl hb1 rfl (ltb rfl) ?_
    refine WL.det (op_pick_f rfl hb1 rfl) rfl rfl rfl ?_
    refine WL.det (op_assign rfl) rfl rfl rfl ?_
    refine WL.end ?_
    refine NE.code ?_
    refine CE.ret' ?_
    refine XE.leave1 Tryd.results32 rfl ?_
    refine ⟨?_, rfl⟩
    all_goals simp_all

set_option maxRecDepth 100000 in
set_option maxHeartbeats 2000000 in
theorem c_isKeepI (a : Nat) (w : World) : Cl Tryd.prog 34 #[vF a] w fun v w' => v = .bool (fGe .f32 a 0 && fLt .f32 a 1065353216) ∧ Mod [] w w' := by
  refine Cl.of Tryd.func34 Tryd.ntmps34 rfl rfl (ρ := [(0, vF a)]) rfl ?_
  refine CE.seq ?_
  refine CE.region ?_
  refine WL.det (op_assign rfl) rfl rfl rfl ?_
  refine WL.end ?_
  refine NE.code ?_
  refine CE.seq ?_
  refine CE.region ?_
  refine WL.det (op_move rfl) rfl rfl rfl ?_
  refine WL.det (op_fge (c := fGe .f32 a 0) rfl rfl rfl rfl rfl) rfl rfl rfl ?_
  refine WL.det (op_move rfl) rfl rfl rfl ?_
  rcases Bool.eq_false_or_eq_true (fGe .f32 a 0) with hb1 | hb1
  · refine WL.yes rfl rfl rfl (ltb rfl) rfl hb1 ?_
    refine WL.det (op_move rfl) rfl rfl rfl ?_
    refine WL.yes rfl rfl rfl (ltb rfl) rfl hb1 ?_
    refine WL.det (op_flt (c := fLt .f32 a 1065353216) rfl rfl rfl rfl rfl) rfl rfl rfl ?_
    refine WL.det (op_pick_t rfl hb1 rfl) rfl rfl rfl ?_
    refine WL.det (op_assign rfl) rfl rfl rfl ?_
    refine WL.end ?_
    refine NE.code ?_
    refine CE.ret' ?_
    refine XE.leave1 Tryd.results34 rfl ?_
    refine ⟨?_, (Mod.refl [] w)⟩
    all_goals simp_all
  · refine WL.no rfl rfl rfl (ltb rfl) rfl hb1 rfl (ltb rfl) ?_
    refine WL.no rfl rfl rfl (ltb rfl) rfl hb1 rfl (ltb rfl) ?_
    refine WL.det (op_pick_f rfl hb1 rfl) rfl rfl rfl ?_
    refine WL.det (op_assign rfl) rfl rfl rfl ?_
    refine WL.end ?_
    refine NE.code ?_
    refine CE.ret' ?_
    refine XE.leave1 Tryd.results34 rfl ?_
    refine ⟨?_, (Mod.refl [] w)⟩
    all_goals simp_all

set_option maxRecDepth 100000 in
set_option maxHeartbeats 2000000 in
theorem c_isPlaceI (a : Nat) (w : World) : Cl Tryd.prog 33 #[vF a] w fun v w' => v = .bool (fGe .f32 a 0 && fLt .f32 a 1065353216) ∧ Mod [] w w' := by
  refine Cl.of Tryd.func33 Tryd.ntmps33 rfl rfl (ρ := [(0, vF a)]) rfl ?_
  refine CE.seq ?_
  refine CE.region ?_
  refine WL.det (op_assign rfl) rfl rfl rfl ?_
  refine WL.end ?_
  refine NE.code ?_
  refine CE.seq ?_
  refine CE.region ?_
  refine WL.det (op_move rfl) rfl rfl rfl ?_
  refine WL.det (op_fge (c := fGe .f32 a 0) rfl rfl rfl rfl rfl) rfl rfl rfl ?_
  refine WL.det (op_move rfl) rfl rfl rfl ?_
  rcases Bool.eq_false_or_eq_true (fGe .f32 a 0) with hb1 | hb1
  · refine WL.yes rfl rfl rfl (ltb rfl) rfl hb1 ?_
    refine WL.det (op_move rfl) rfl rfl rfl ?_
    refine WL.yes rfl rfl rfl (ltb rfl) rfl hb1 ?_
    refine WL.det (op_flt (c := fLt .f32 a 1065353216) rfl rfl rfl rfl rfl) rfl rfl rfl ?_
    refine WL.det (op_pick_t rfl hb1 rfl) rfl rfl rfl ?_
    refine WL.det (op_assign rfl) rfl rfl rfl ?_
    refine WL.end ?_
    refine NE.code ?_
    refine CE.ret' ?_
    refine XE.leave1 Tryd.results33 rfl ?_
    refine ⟨?_, (Mod.refl [] w)⟩
    all_goals simp_all
  · refine WL.no rfl rfl rfl (ltb rfl) rfl hb1 rfl (ltb rfl) ?_
    refine WL.no rfl rfl rfl (ltb rfl) rfl hb1 rfl (ltb rfl) ?_
    refine WL.det (op_pick_f rfl hb1 rfl) rfl rfl rfl ?_
    refine WL.det (op_assign rfl) rfl rfl rfl ?_
    refine WL.end ?_
    refine NE.code ?_
    refine CE.ret' ?_
    refine XE.leave1 Tryd.results33 rfl ?_
    refine ⟨?_, (Mod.refl [] w)⟩
    all_goals simp_all

set_option maxRecDepth 100000 in
set_option maxHeartbeats 2000000 in
theorem c_l08BetT (a : Nat) (hi : Nat) (w : World) : Cl Tryd.prog 60 #[vF a, vF hi, .bool true] w fun v w' => v = .bool (fGe .f32 a 0 && fLt .f32 a hi) ∧ Mod [] w w' := by
  refine Cl.of Tryd.func60 Tryd.ntmps60 rfl rfl (ρ := [(0, vF a), (1, vF hi), (2, .bool true)]) rfl ?_
  refine CE.seq ?_
  refine CE.region ?_
  refine WL.det (op_assign rfl) rfl rfl rfl ?_
  refine WL.end ?_
  refine NE.code ?_
  refine CE.seq ?_
  refine CE.seq ?_
  refine CE.region ?_
  refine WL.det (op_move rfl) rfl rfl rfl ?_
  refine WL.end ?_
  refine NE.code ?_
  refine CE.cond_t rfl rfl ?_
  refine CE.seq ?_
  refine CE.region ?_
  refine WL.det (op_move rfl) rfl rfl rfl ?_
  refine WL.det (op_fge (c := fGe .f32 a 0) rfl rfl rfl rfl rfl) rfl rfl rfl ?_
  refine WL.det (op_move rfl) rfl rfl rfl ?_
  rcases Bool.eq_false_or_eq_true (fGe .f32 a 0) with hb1 | hb1
  · refine WL.yes rfl rfl rfl (ltb rfl) rfl hb1 ?_
    refine WL.det (op_move rfl) rfl rfl rfl ?_
    refine WL.yes rfl rfl rfl (ltb rfl) rfl hb1 ?_
    refine WL.det (op_move rfl) rfl rfl rfl ?_
    refine WL.yes rfl rfl rfl (ltb rfl) rfl hb1 ?_
    refine WL.det (op_flt (c := fLt .f32 a hi) rfl rfl rfl rfl rfl) rfl rfl rfl ?_
    refine WL.det (op_pick_t rfl hb1 rfl) rfl rfl rfl ?_
    refine WL.det (op_assign rfl) rfl rfl rfl ?_
    refine WL.end ?_
    refine NE.code ?_
    refine CE.ret' ?_
    refine XE.ret_then ?_
    refine XE.leave1 Tryd.results60 rfl ?_
    refine ⟨?_, (Mod.refl [] w)⟩
    all_goals simp_all
  · refine WL.no rfl rfl rfl (ltb rfl) rfl hb1 rfl (ltb rfl) ?_
    refine WL.no rfl rfl rfl (ltb rfl) rfl hb1 rfl (ltb rfl) ?_
    refine WL.no rfl rfl rfl (ltb rfl) rfl hb1 rfl (ltb rfl) ?_
    refine WL.det (op_pick_f rfl hb1 rfl) rfl rfl rfl ?_
    refine WL.det (op_assign rfl) rfl rfl rfl ?_
    refine WL.end ?_
    refine NE.code ?_
    refine CE.ret' ?_
    refine XE.ret_then ?_
    refine XE.leave1 Tryd.results60 rfl ?_
    refine ⟨?_, (Mod.refl [] w)⟩
    all_goals simp_all

set_option maxRecDepth 100000 in
set_option maxHeartbeats 2000000 in
theorem c_l08BetF (a : Nat) (hi : Nat) (w : World) : Cl Tryd.prog 60 #[vF a, vF hi, .bool false] w fun v w' => v = .bool (fGe .f32 a 0 && fLe .f32 a hi) ∧ Mod [] w w' := by
  refine Cl.of Tryd.func60 Tryd.ntmps60 rfl rfl (ρ := [(0, vF a), (1, vF hi), (2, .bool false)]) rfl ?_
  refine CE.seq ?_
  refine CE.region ?_
  refine WL.det (op_assign rfl) rfl rfl rfl ?_
  refine WL.end ?_
  refine NE.code ?_
  refine CE.seq ?_
  refine CE.seq ?_
  refine CE.region ?_
  refine WL.det (op_move rfl) rfl rfl rfl ?_
  refine WL.end ?_
  refine NE.code ?_
  refine CE.cond_f rfl rfl ?_
  refine CE.skip' ?_
  refine NE.code ?_
  refine CE.seq ?_
  refine CE.region ?_
  refine WL.det (op_move rfl) rfl rfl rfl ?_
  refine WL.det (op_fge (c := fGe .f32 a 0) rfl rfl rfl rfl rfl) rfl rfl rfl ?_
  refine WL.det (op_move rfl) rfl rfl rfl ?_
  rcases Bool.eq_false_or_eq_true (fGe .f32 a 0) with hb1 | hb1
  · refine WL.yes rfl rfl rfl (ltb rfl) rfl hb1 ?_
    refine WL.det (op_move rfl) rfl rfl rfl ?_
    refine WL.yes rfl rfl rfl (ltb rfl) rfl hb1 ?_
    refine WL.det (op_move rfl) rfl rfl rfl ?_
    refine WL.yes rfl rfl rfl (ltb rfl) rfl hb1 ?_
    refine WL.det (op_fle (c := fLe .f32 a hi) rfl rfl rfl rfl rfl) rfl rfl rfl ?_
    refine WL.det (op_pick_t rfl hb1 rfl) rfl rfl rfl ?_
    refine WL.det (op_assign rfl) rfl rfl rfl ?_
    refine WL.end ?_
    refine NE.code ?_
    refine CE.ret' ?_
    refine XE.leave1 Tryd.results60 rfl ?_
    refine ⟨?_, (Mod.refl [] w)⟩
    all_goals simp_all
  · refine WL.no rfl rfl rfl (ltb rfl) rfl hb1 rfl (ltb rfl) ?_
    refine WL.no rfl rfl rfl (ltb rfl) rfl hb1 rfl (ltb rfl) ?_
    refine WL.no rfl rfl rfl (ltb rfl) rfl hb1 rfl (ltb rfl) ?_
    refine WL.det (op_pick_f rfl hb1 rfl) rfl rfl rfl ?_
    refine WL.det (op_assign rfl) rfl rfl rfl ?_
    refine WL.end ?_
    refine NE.code ?_
    refine CE.ret' ?_
    refine XE.leave1 Tryd.results60 rfl ?_
    refine ⟨?_, (Mod.refl [] w)⟩
    all_goals simp_all

set_option maxRecDepth 100000 in
set_option maxHeartbeats 2000000 in
theorem c_l08Instrument (nm : ByteArray) (kd : Int) (fa : Nat) (fb : Nat) (fc : Nat) (p : Nat) (hs : nm.size ≤ 9223372036854775807) (w : World) (q : Rng w p 0 [.string nm, vI kd, vF fa, vF fb, vF fc]) : Cl Tryd.prog 30 #[vP p 0] w fun v w' => v = .bool (instF nm kd fa fb fc) ∧ Mod [] w w' := by
  refine Cl.of Tryd.func30 Tryd.ntmps30 rfl rfl (ρ := [(0, vP p 0)]) rfl ?_
  refine CE.seq ?_
  refine CE.region ?_
  refine WL.det (op_assign rfl) rfl rfl rfl ?_
  refine WL.end ?_
  refine NE.code ?_
  refine CE.seq ?_
  refine CE.seq ?_
  refine CE.region ?_
  refine WL.det (op_move rfl) rfl rfl rfl ?_
  refine WL.det (op_nilCheck rfl) rfl rfl rfl ?_
  refine WL.det (op_fieldAddr (off' := 0) rfl Tryd.runUnderlying27 rfl rfl Tryd.sizeOf9 rfl) rfl rfl rfl ?_
  refine WL.det (op_load1 (i := 0) rfl Tryd.isAgg9 q rfl rfl) rfl rfl rfl ?_
  refine WL.call (oc_call (vs := [.string nm]) (cap := []) rfl rfl rfl Tryd.call59 (c_l08Name nm (by assumption) w)) rfl rfl (ltb rfl) ?_
  rintro _ w1 ⟨rfl, m1⟩
  refine WL.det (op_not rfl) rfl rfl rfl ?_
  refine WL.det (op_move rfl) rfl rfl rfl ?_
  rcases Bool.eq_false_or_eq_true (nameF nm) with hb1 | hb1
  · refine WL.yes rfl rfl rfl (ltb rfl) rfl (bnot_t hb1) ?_
    refine WL.det (op_move rfl) rfl rfl rfl ?_
    refine WL.yes rfl rfl rfl (ltb rfl) rfl (bnot_t hb1) ?_
    refine WL.det (op_nilCheck rfl) rfl rfl rfl ?_
    refine WL.yes rfl rfl rfl (ltb rfl) rfl (bnot_t hb1) ?_
    refine WL.det (op_fieldAddr (off' := 3) rfl Tryd.runUnderlying27 rfl rfl Tryd.sizeOf22 rfl) rfl rfl rfl ?_
    refine WL.yes rfl rfl rfl (ltb rfl) rfl (bnot_t hb1) ?_
    refine WL.det (op_load1 (i := 3) rfl Tryd.isAgg22 (q.ext m1) rfl rfl) rfl rfl rfl ?_
    refine WL.yes rfl rfl rfl (ltb rfl) rfl (bnot_t hb1) ?_
    refine WL.call (oc_call (vs := [vF fb, vF 1065353216, .bool false]) (cap := []) rfl rfl rfl Tryd.call60 (c_l08BetF fb 1065353216 w1)) rfl rfl (ltb rfl) ?_
    rintro _ w2 ⟨rfl, m2⟩
    refine WL.yes rfl rfl rfl (ltb rfl) rfl (bnot_t hb1) ?_
    refine WL.det (op_not rfl) rfl rfl rfl ?_
    refine WL.det (op_pick_f rfl (bnot_t hb1) rfl) rfl rfl rfl ?_
    refine WL.end ?_
    refine NE.code ?_
    rcases Bool.eq_false_or_eq_true (fGe .f32 fb 0 && fLe .f32 fb 1065353216) with hb2 | hb2
    · refine CE.cond_f rfl (bnot_t hb2) ?_
      refine CE.skip' ?_
      refine NE.code ?_
      refine CE.seq ?_
      refine CE.seq ?_
      refine CE.region ?_
      refine WL.det (op_move rfl) rfl rfl rfl ?_
      refine WL.det (op_nilCheck rfl) rfl rfl rfl ?_
      refine WL.det (op_fieldAddr (off' := 1) rfl Tryd.runUnderlying27 rfl rfl Tryd.sizeOf2 rfl) rfl rfl rfl ?_
      refine WL.det (op_load1 (i := 1) rfl Tryd.isAgg2 ((q.ext m1).ext m2) rfl rfl) rfl rfl rfl ?_
      refine WL.end ?_
      refine NE.code ?_
      refine CE.block ?_
      refine CE.seq ?_
      refine CE.region ?_
      refine WL.det (op_eqi rfl rfl) rfl rfl rfl ?_
      refine WL.det (op_assign rfl) rfl rfl rfl ?_
      refine WL.end ?_
      refine NE.code ?_
      rcases Bool.eq_false_or_eq_true ((kd == (1 : Int))) with hb3 | hb3
      · have hp3 := eq_of_beq hb3
        refine CE.cond_t rfl hb3 ?_
        refine CE.seq ?_
        refine CE.region ?_
        refine WL.det (op_move rfl) rfl rfl rfl ?_
        refine WL.det (op_nilCheck rfl) rfl rfl rfl ?_
        refine WL.det (op_fieldAddr (off' := 2) rfl Tryd.runUnderlying27 rfl rfl Tryd.sizeOf22 rfl) rfl rfl rfl ?_
        refine WL.det (op_load1 (i := 2) rfl Tryd.isAgg22 ((q.ext m1).ext m2) rfl rfl) rfl rfl rfl ?_
        refine WL.call (oc_call (vs := [vF fa, vF 1056964608, .bool false]) (cap := []) rfl rfl rfl Tryd.call60 (c_l08BetF fa 1056964608 w2)) rfl rfl (ltb rfl) ?_
        rintro _ w3 ⟨rfl, m3⟩
        refine WL.det (op_move rfl) rfl rfl rfl ?_
        rcases Bool.eq_false_or_eq_true ((fGe .f32 fa 0 && fLe .f32 fa 1056964608)) with hb4 | hb4
        · refine WL.yes rfl rfl rfl (ltb rfl) rfl hb4 ?_
          refine WL.det (op_move rfl) rfl rfl rfl ?_
          refine WL.yes rfl rfl rfl (ltb rfl) rfl hb4 ?_
          refine WL.det (op_nilCheck rfl) rfl rfl rfl ?_
          refine WL.yes rfl rfl rfl (ltb rfl) rfl hb4 ?_
          refine WL.det (op_fieldAddr (off' := 4) rfl Tryd.runUnderlying27 rfl rfl Tryd.sizeOf22 rfl) rfl rfl rfl ?_
          refine WL.yes rfl rfl rfl (ltb rfl) rfl hb4 ?_
          refine WL.det (op_load1 (i := 4) rfl Tryd.isAgg22 (((q.ext m1).ext m2).ext m3) rfl rfl) rfl rfl rfl ?_
          refine WL.yes rfl rfl rfl (ltb rfl) rfl hb4 ?_
          refine WL.call (oc_call (vs := [vF fc, vF 1065353216, .bool true]) (cap := []) rfl rfl rfl Tryd.call60 (c_l08BetT fc 1065353216 w3)) rfl rfl (ltb rfl) ?_
          rintro _ w4 ⟨rfl, m4⟩
          refine WL.det (op_pick_t rfl hb4 rfl) rfl rfl rfl ?_
          refine WL.det (op_assign rfl) rfl rfl rfl ?_
          refine WL.end ?_
          refine NE.code ?_
          refine CE.ret' ?_
          refine XE.ret_blk ?_
          refine XE.ret_then ?_
          refine XE.leave1 Tryd.results30 rfl ?_
          refine ⟨?_, (((((Mod.refl [] w).nt m1).nt m2).nt m3).nt m4)⟩
          all_goals simp_all [instF]
        · refine WL.no rfl rfl rfl (ltb rfl) rfl hb4 rfl (ltb rfl) ?_
          refine WL.no rfl rfl rfl (ltb rfl) rfl hb4 rfl (ltb rfl) ?_
          refine WL.no rfl rfl rfl (ltb rfl) rfl hb4 rfl (ltb rfl) ?_
          refine WL.no rfl rfl rfl (ltb rfl) rfl hb4 rfl (ltb rfl) ?_
          refine WL.no rfl rfl rfl (ltb rfl) rfl hb4 rfl (ltb rfl) ?_
          refine WL.det (op_pick_f rfl hb4 rfl) rfl rfl rfl ?_
          refine WL.det (op_assign rfl) rfl rfl rfl ?_
          refine WL.end ?_
          refine NE.code ?_
          refine CE.ret' ?_
          refine XE.ret_blk ?_
          refine XE.ret_then ?_
          refine XE.leave1 Tryd.results30 rfl ?_
          refine ⟨?_, ((((Mod.refl [] w).nt m1).nt m2).nt m3)⟩
          all_goals simp_all [instF]
      · have hp3 := ne_of_beq_false hb3
        refine CE.cond_f rfl hb3 ?_
        refine CE.seq ?_
        refine CE.region ?_
        refine WL.det (op_eqi rfl rfl) rfl rfl rfl ?_
        refine WL.det (op_assign rfl) rfl rfl rfl ?_
        refine WL.end ?_
        refine NE.code ?_
        rcases Bool.eq_false_or_eq_true ((kd == (2 : Int))) with hb5 | hb5
        · have hp5 := eq_of_beq hb5
          refine CE.cond_t rfl hb5 ?_
          refine CE.seq ?_
          refine CE.region ?_
          refine WL.det (op_move rfl) rfl rfl rfl ?_
          refine WL.det (op_nilCheck rfl) rfl rfl rfl ?_
          refine WL.det (op_fieldAddr (off' := 2) rfl Tryd.runUnderlying27 rfl rfl Tryd.sizeOf22 rfl) rfl rfl rfl ?_
          refine WL.det (op_load1 (i := 2) rfl Tryd.isAgg22 ((q.ext m1).ext m2) rfl rfl) rfl rfl rfl ?_
          refine WL.call (oc_call (vs := [vF fa, vF 1065353216, .bool true]) (cap := []) rfl rfl rfl Tryd.call60 (c_l08BetT fa 1065353216 w2)) rfl rfl (ltb rfl) ?_
          rintro _ w5 ⟨rfl, m5⟩
          refine WL.det (op_move rfl) rfl rfl rfl ?_
          rcases Bool.eq_false_or_eq_true ((fGe .f32 fa 0 && fLt .f32 fa 1065353216)) with hb6 | hb6
          · refine WL.yes rfl rfl rfl (ltb rfl) rfl hb6 ?_
            refine WL.det (op_move rfl) rfl rfl rfl ?_
            refine WL.yes rfl rfl rfl (ltb rfl) rfl hb6 ?_
            refine WL.det (op_nilCheck rfl) rfl rfl rfl ?_
            refine WL.yes rfl rfl rfl (ltb rfl) rfl hb6 ?_
            refine WL.det (op_fieldAddr (off' := 4) rfl Tryd.runUnderlying27 rfl rfl Tryd.sizeOf22 rfl) rfl rfl rfl ?_
            refine WL.yes rfl rfl rfl (ltb rfl) rfl hb6 ?_
            refine WL.det (op_load1 (i := 4) rfl Tryd.isAgg22 (((q.ext m1).ext m2).ext m5) rfl rfl) rfl rfl rfl ?_
            refine WL.yes rfl rfl rfl (ltb rfl) rfl hb6 ?_
            refine WL.det (op_feq (c := fEq .f32 fc 0) rfl rfl rfl rfl rfl) rfl rfl rfl ?_
            refine WL.yes rfl rfl rfl (ltb rfl) rfl hb6 ?_
            refine WL.det (op_move rfl) rfl rfl rfl ?_
            rcases Bool.eq_false_or_eq_true (fEq .f32 fc 0) with hb7 | hb7
            · refine WL.no rfl rfl rfl (ltb rfl) rfl hb7 rfl (ltb rfl) ?_
              refine WL.no rfl rfl rfl (ltb rfl) rfl hb7 rfl (ltb rfl) ?_
              refine WL.no rfl rfl rfl (ltb rfl) rfl hb7 rfl (ltb rfl) ?_
              refine WL.no rfl rfl rfl (ltb rfl) rfl hb7 rfl (ltb rfl) ?_
              refine WL.no rfl rfl rfl (ltb rfl) rfl hb7 rfl (ltb rfl) ?_
              refine WL.yes rfl rfl rfl (ltb rfl) rfl hb6 ?_
              refine WL.det (op_pick_t rfl hb7 rfl) rfl rfl rfl ?_
              refine WL.det (op_pick_t rfl hb6 rfl) rfl rfl rfl ?_
              refine WL.det (op_assign rfl) rfl rfl rfl ?_
              refine WL.end ?_
              refine NE.code ?_
              refine CE.ret' ?_
              refine XE.ret_blk ?_
              refine XE.ret_then ?_
              refine XE.leave1 Tryd.results30 rfl ?_
              refine ⟨?_, ((((Mod.refl [] w).nt m1).nt m2).nt m5)⟩
              all_goals simp_all [instF]
            · refine WL.yes rfl rfl rfl (ltb rfl) rfl hb7 ?_
              refine WL.det (op_move rfl) rfl rfl rfl ?_
              refine WL.yes rfl rfl rfl (ltb rfl) rfl hb7 ?_
              refine WL.det (op_nilCheck rfl) rfl rfl rfl ?_
              refine WL.yes rfl rfl rfl (ltb rfl) rfl hb7 ?_
              refine WL.det (op_fieldAddr (off' := 4) rfl Tryd.runUnderlying27 rfl rfl Tryd.sizeOf22 rfl) rfl rfl rfl ?_
              refine WL.yes rfl rfl rfl (ltb rfl) rfl hb7 ?_
              refine WL.det (op_load1 (i := 4) rfl Tryd.isAgg22 (((q.ext m1).ext m2).ext m5) rfl rfl) rfl rfl rfl ?_
              refine WL.yes rfl rfl rfl (ltb rfl) rfl hb7 ?_
              refine WL.det (op_feq (c := fEq .f32 fc 1065353216) rfl rfl rfl rfl rfl) rfl rfl rfl ?_
              refine WL.yes rfl rfl rfl (ltb rfl) rfl hb6 ?_
              refine WL.det (op_pick_f rfl hb7 rfl) rfl rfl rfl ?_
              refine WL.det (op_pick_t rfl hb6 rfl) rfl rfl rfl ?_
              refine WL.det (op_assign rfl) rfl rfl rfl ?_
              refine WL.end ?_
              refine NE.code ?_
              refine CE.ret' ?_
              refine XE.ret_blk ?_
              refine XE.ret_then ?_
              refine XE.leave1 Tryd.results30 rfl ?_
              refine ⟨?_, ((((Mod.refl [] w).nt m1).nt m2).nt m5)⟩
              all_goals simp_all [instF]
          · refine WL.no rfl rfl rfl (ltb rfl) rfl hb6 rfl (ltb rfl) ?_
            refine WL.no rfl rfl rfl (ltb rfl) rfl hb6 rfl (ltb rfl) ?_
            refine WL.no rfl rfl rfl (ltb rfl) rfl hb6 rfl (ltb rfl) ?_
            refine WL.no rfl rfl rfl (ltb rfl) rfl hb6 rfl (ltb rfl) ?_
            refine WL.no rfl rfl rfl (ltb rfl) rfl hb6 rfl (ltb rfl) ?_
            refine WL.no rfl rfl rfl (ltb rfl) rfl hb6 rfl (ltb rfl) ?_
            refine WL.nou rfl rfl rfl (ltb rfl) rfl rfl (ltb rfl) ?_
            refine WL.nou rfl rfl rfl (ltb rfl) rfl rfl (ltb rfl) ?_
            refine WL.nou rfl rfl rfl (ltb rfl) rfl rfl (ltb rfl) ?_
            refine WL.nou rfl rfl rfl (ltb rfl) rfl rfl (ltb rfl) ?_
            refine WL.nou rfl rfl rfl (ltb rfl) rfl rfl (ltb rfl) ?_
            refine WL.no rfl rfl rfl (ltb rfl) rfl hb6 rfl (ltb rfl) ?_
            refine WL.det (op_pick_f rfl hb6 rfl) rfl rfl rfl ?_
            refine WL.det (op_assign rfl) rfl rfl rfl ?_
            refine WL.end ?_
            refine NE.code ?_
            refine CE.ret' ?_
            refine XE.ret_blk ?_
            refine XE.ret_then ?_
            refine XE.leave1 Tryd.results30 rfl ?_
            refine ⟨?_, ((((Mod.refl [] w).nt m1).nt m2).nt m5)⟩
            all_goals simp_all [instF]
        · have hp5 := ne_of_beq_false hb5
          refine CE.cond_f rfl hb5 ?_
          refine CE.seq ?_
          refine CE.region ?_
          refine WL.det (op_eqi rfl rfl) rfl rfl rfl ?_
          refine WL.det (op_assign rfl) rfl rfl rfl ?_
          refine WL.end ?_
          refine NE.code ?_
          rcases Bool.eq_false_or_eq_true ((kd == (3 : Int))) with hb8 | hb8
          · have hp8 := eq_of_beq hb8
            refine CE.cond_t rfl hb8 ?_
            refine CE.seq ?_
            refine CE.region ?_
            refine WL.det (op_move rfl) rfl rfl rfl ?_
            refine WL.det (op_nilCheck rfl) rfl rfl rfl ?_
            refine WL.det (op_fieldAddr (off' := 2) rfl Tryd.runUnderlying27 rfl rfl Tryd.sizeOf22 rfl) rfl rfl rfl ?_
            refine WL.det (op_load1 (i := 2) rfl Tryd.isAgg22 ((q.ext m1).ext m2) rfl rfl) rfl rfl rfl ?_
            refine WL.call (oc_call (vs := [vF fa, vF 1065353216, .bool true]) (cap := []) rfl rfl rfl Tryd.call60 (c_l08BetT fa 1065353216 w2)) rfl rfl (ltb rfl) ?_
            rintro _ w6 ⟨rfl, m6⟩
            refine WL.det (op_move rfl) rfl rfl rfl ?_
            rcases Bool.eq_false_or_eq_true ((fGe .f32 fa 0 && fLt .f32 fa 1065353216)) with hb9 | hb9
            · refine WL.yes rfl rfl rfl (ltb rfl) rfl hb9 ?_
              refine WL.det (op_move rfl) rfl rfl rfl ?_
              refine WL.yes rfl rfl rfl (ltb rfl) rfl hb9 ?_
              refine WL.det (op_nilCheck rfl) rfl rfl rfl ?_
              refine WL.yes rfl rfl rfl (ltb rfl) rfl hb9 ?_
              refine WL.det (op_fieldAddr (off' := 4) rfl Tryd.runUnderlying27 rfl rfl Tryd.sizeOf22 rfl) rfl rfl rfl ?_
              refine WL.yes rfl rfl rfl (ltb rfl) rfl hb9 ?_
              refine WL.det (op_load1 (i := 4) rfl Tryd.isAgg22 (((q.ext m1).ext m2).ext m6) rfl rfl) rfl rfl rfl ?_
              refine WL.yes rfl rfl rfl (ltb rfl) rfl hb9 ?_
              refine WL.call (oc_call (vs := [vF fc]) (cap := []) rfl rfl rfl Tryd.call61 (c_l01Finite fc fc rfl w6)) rfl rfl (ltb rfl) ?_
              rintro _ w7 ⟨rfl, m7⟩
              refine WL.det (op_pick_t rfl hb9 rfl) rfl rfl rfl ?_
              refine WL.det (op_assign rfl) rfl rfl rfl ?_
              refine WL.end ?_
              refine NE.code ?_
              refine CE.ret' ?_
              refine XE.ret_blk ?_
              refine XE.ret_then ?_
              refine XE.leave1 Tryd.results30 rfl ?_
              refine ⟨?_, (((((Mod.refl [] w).nt m1).nt m2).nt m6).nt m7)⟩
              all_goals simp_all [instF]
            · refine WL.no rfl rfl rfl (ltb rfl) rfl hb9 rfl (ltb rfl) ?_
              refine WL.no rfl rfl rfl (ltb rfl) rfl hb9 rfl (ltb rfl) ?_
              refine WL.no rfl rfl rfl (ltb rfl) rfl hb9 rfl (ltb rfl) ?_
              refine WL.no rfl rfl rfl (ltb rfl) rfl hb9 rfl (ltb rfl) ?_
              refine WL.no rfl rfl rfl (ltb rfl) rfl hb9 rfl (ltb rfl) ?_
              refine WL.det (op_pick_f rfl hb9 rfl) rfl rfl rfl ?_
              refine WL.det (op_assign rfl) rfl rfl rfl ?_
              refine WL.end ?_
              refine NE.code ?_
              refine CE.ret' ?_
              refine XE.ret_blk ?_
              refine XE.ret_then ?_
              refine XE.leave1 Tryd.results30 rfl ?_
              refine ⟨?_, ((((Mod.refl [] w).nt m1).nt m2).nt m6)⟩
              all_goals simp_all [instF]
          · have hp8 := ne_of_beq_false hb8
            refine CE.cond_f rfl hb8 ?_
            refine CE.skip' ?_
            refine NE.blk ?_
            refine NE.code ?_
            refine CE.seq ?_
            refine CE.region ?_
            refine WL.det (op_assign rfl) rfl rfl rfl ?_
            refine WL.end ?_
            refine NE.code ?_
            refine CE.ret' ?_
            refine XE.leave1 Tryd.results30 rfl ?_
            refine ⟨?_, (((Mod.refl [] w).nt m1).nt m2)⟩
            all_goals simp_all [instF]
    · refine CE.cond_t rfl (bnot_f hb2) ?_
      refine CE.seq ?_
      refine CE.region ?_
      refine WL.det (op_assign rfl) rfl rfl rfl ?_
      refine WL.end ?_
      refine NE.code ?_
      refine CE.ret' ?_
      refine XE.ret_then ?_
      refine XE.leave1 Tryd.results30 rfl ?_
      refine ⟨?_, (((Mod.refl [] w).nt m1).nt m2)⟩
      all_goals simp_all [instF]
  · refine WL.no rfl rfl rfl (ltb rfl) rfl (bnot_f hb1) rfl (ltb rfl) ?_
    refine WL.no rfl rfl rfl (ltb rfl) rfl (bnot_f hb1) rfl (ltb rfl) ?_
    refine WL.no rfl rfl rfl (ltb rfl) rfl (bnot_f hb1) rfl (ltb rfl) ?_
    refine WL.no rfl rfl rfl (ltb rfl) rfl (bnot_f hb1) rfl (ltb rfl) ?_
    refine WL.no rfl rfl rfl (ltb rfl) rfl (bnot_f hb1) rfl (ltb rfl) ?_
    refine WL.no rfl rfl rfl (ltb rfl) rfl (bnot_f hb1) rfl (ltb rfl) ?_
    refine WL.det (op_pick_t rfl (bnot_f hb1) rfl) rfl rfl rfl ?_
    refine WL.end ?_
    refine NE.code ?_
    refine CE.cond_t rfl rfl ?_
    refine CE.seq ?_
    refine CE.region ?_
    refine WL.det (op_assign rfl) rfl rfl rfl ?_
    refine WL.end ?_
    refine NE.code ?_
    refine CE.ret' ?_
    refine XE.ret_then ?_
    refine XE.leave1 Tryd.results30 rfl ?_
    refine ⟨?_, ((Mod.refl [] w).nt m1)⟩
    all_goals simp_all [instF]

set_option maxRecDepth 100000 in
set_option maxHeartbeats 2000000 in
theorem c_sValidI (nm : ByteArray) (kd : Int) (fa : Nat) (fb : Nat) (fc : Nat) (hs : nm.size ≤ 9223372036854775807) (w : World) : Cl Tryd.prog 10 #[.agg #[.string nm, vI kd, vF fa, vF fb, vF fc]] w fun v w' => v = .bool (instF nm kd fa fb fc) ∧ Mod [] w w' := by
  refine Cl.of Tryd.func10 Tryd.ntmps10 rfl rfl (ρ := [(0, .agg #[.string nm, vI kd, vF fa, vF fb, vF fc])]) rfl ?_
  refine CE.seq ?_
  refine CE.region ?_
  refine WL.op (op_box (cs := [.string nm, vI kd, vF fa, vF fb, vF fc]) rfl rfl) rfl rfl (ltb rfl) ?_
  rintro _ w1 ⟨rfl, r1, m1, z1⟩
  refine WL.det (op_assign rfl) rfl rfl rfl ?_
  refine WL.end ?_
  refine NE.code ?_
  refine CE.seq ?_
  refine CE.region ?_
  refine WL.call (oc_call (vs := [vP w.heap.size 0]) (cap := []) rfl rfl rfl Tryd.call30 (c_l08Instrument nm kd fa fb fc w.heap.size (by assumption) w1 r1.rng)) rfl rfl (ltb rfl) ?_
  rintro _ w2 ⟨rfl, m2⟩
  refine WL.det (op_assign rfl) rfl rfl rfl ?_
  refine WL.end ?_
  refine NE.code ?_
  refine CE.ret' ?_
  refine XE.leave1 Tryd.results10 rfl ?_
  refine ⟨rfl, (((Mod.refl [] w).nt m1).nt m2)⟩

set_option maxRecDepth 100000 in
set_option maxHeartbeats 2000000 in
theorem c_iValidI (nm : ByteArray) (kd : Int) (fa : Nat) (fb : Nat) (fc : Nat) (hs : nm.size ≤ 9223372036854775807) (w : World) : Cl Tryd.prog 12 #[.agg #[.string nm, vI kd, vF fa, vF fb, vF fc]] w fun v w' => v = .bool (instF nm kd fa fb fc) ∧ Mod [] w w' := by
  refine Cl.of Tryd.func12 Tryd.ntmps12 rfl rfl (ρ := [(0, .agg #[.string nm, vI kd, vF fa, vF fb, vF fc])]) rfl ?_
  refine CE.seq ?_
  refine CE.region ?_
  refine WL.op (op_box (cs := [.string nm, vI kd, vF fa, vF fb, vF fc]) rfl rfl) rfl rfl (ltb rfl) ?_
  rintro _ w1 ⟨rfl, r1, m1, z1⟩
  refine WL.det (op_assign rfl) rfl rfl rfl ?_
  refine WL.end ?_
  refine NE.code ?_
  refine CE.seq ?_
  refine CE.seq ?_
  refine CE.region ?_
  refine WL.det (op_fieldAddr (off' := 0) rfl Tryd.runUnderlying27 rfl rfl Tryd.sizeOf9 rfl) rfl rfl rfl ?_
  refine WL.det (op_load1 (i := 0) rfl Tryd.isAgg9 r1.rng rfl rfl) rfl rfl rfl ?_
  refine WL.call (oc_call (vs := [.string nm]) (cap := []) rfl rfl rfl Tryd.call31 (c_isName nm (by assumption) w1)) rfl rfl (ltb rfl) ?_
  rintro _ w2 ⟨rfl, m2⟩
  refine WL.det (op_not rfl) rfl rfl rfl ?_
  refine WL.det (op_move rfl) rfl rfl rfl ?_
  rcases Bool.eq_false_or_eq_true (nameF nm) with hb1 | hb1
  · refine WL.yes rfl rfl rfl (ltb rfl) rfl (bnot_t hb1) ?_
    refine WL.det (op_fieldAddr (off' := 3) rfl Tryd.runUnderlying27 rfl rfl Tryd.sizeOf22 rfl) rfl rfl rfl ?_
    refine WL.yes rfl rfl rfl (ltb rfl) rfl (bnot_t hb1) ?_
    refine WL.det (op_load1 (i := 3) rfl Tryd.isAgg22 (r1.ext m2).rng rfl rfl) rfl rfl rfl ?_
    refine WL.yes rfl rfl rfl (ltb rfl) rfl (bnot_t hb1) ?_
    refine WL.call (oc_call (vs := [vF fb, vF 0, vF 1065353216]) (cap := []) rfl rfl rfl Tryd.call32 (c_insideI fb 0 1065353216 w2)) rfl rfl (ltb rfl) ?_
    rintro _ _ ⟨rfl, rfl⟩
    refine WL.yes rfl rfl rfl (ltb rfl) rfl (bnot_t hb1) ?_
    refine WL.det (op_not rfl) rfl rfl rfl ?_
    refine WL.det (op_pick_f rfl (bnot_t hb1) rfl) rfl rfl rfl ?_
    refine WL.end ?_
    refine NE.code ?_
    rcases Bool.eq_false_or_eq_true (fGe .f32 fb 0 && fLe .f32 fb 1065353216) with hb2 | hb2
    · refine CE.cond_f rfl (bnot_t hb2) ?_
      refine CE.skip' ?_
      refine NE.code ?_
      refine CE.seq ?_
      refine CE.seq ?_
      refine CE.region ?_
      refine WL.det (op_fieldAddr (off' := 1) rfl Tryd.runUnderlying27 rfl rfl Tryd.sizeOf2 rfl) rfl rfl rfl ?_
      refine WL.det (op_load1 (i := 1) rfl Tryd.isAgg2 (r1.ext m2).rng rfl rfl) rfl rfl rfl ?_
      refine WL.end ?_
      refine NE.code ?_
      refine CE.block ?_
      refine CE.seq ?_
      refine CE.region ?_
      refine WL.det (op_eqi rfl rfl) rfl rfl rfl ?_
      refine WL.det (op_assign rfl) rfl rfl rfl ?_
      refine WL.end ?_
      refine NE.code ?_
      rcases Bool.eq_false_or_eq_true ((kd == (1 : Int))) with hb3 | hb3
      · have hp3 := eq_of_beq hb3
        refine CE.cond_t rfl hb3 ?_
        refine CE.seq ?_
        refine CE.region ?_
        refine WL.det (op_fieldAddr (off' := 2) rfl Tryd.runUnderlying27 rfl rfl Tryd.sizeOf22 rfl) rfl rfl rfl ?_
        refine WL.det (op_load1 (i := 2) rfl Tryd.isAgg22 (r1.ext m2).rng rfl rfl) rfl rfl rfl ?_
        refine WL.call (oc_call (vs := [vF fa, vF 0, vF 1056964608]) (cap := []) rfl rfl rfl Tryd.call32 (c_insideI fa 0 1056964608 w2)) rfl rfl (ltb rfl) ?_
        rintro _ _ ⟨rfl, rfl⟩
        refine WL.det (op_move rfl) rfl rfl rfl ?_
        rcases Bool.eq_false_or_eq_true ((fGe .f32 fa 0 && fLe .f32 fa 1056964608)) with hb4 | hb4
        · refine WL.yes rfl rfl rfl (ltb rfl) rfl hb4 ?_
          refine WL.det (op_fieldAddr (off' := 4) rfl Tryd.runUnderlying27 rfl rfl Tryd.sizeOf22 rfl) rfl rfl rfl ?_
          refine WL.yes rfl rfl rfl (ltb rfl) rfl hb4 ?_
          refine WL.det (op_load1 (i := 4) rfl Tryd.isAgg22 (r1.ext m2).rng rfl rfl) rfl rfl rfl ?_
          refine WL.yes rfl rfl rfl (ltb rfl) rfl hb4 ?_
          refine WL.call (oc_call (vs := [vF fc]) (cap := []) rfl rfl rfl Tryd.call33 (c_isPlaceI fc w2)) rfl rfl (ltb rfl) ?_
          rintro _ w3 ⟨rfl, m3⟩
          refine WL.det (op_pick_t rfl hb4 rfl) rfl rfl rfl ?_
          refine WL.det (op_assign rfl) rfl rfl rfl ?_
          refine WL.end ?_
          refine NE.code ?_
          refine CE.ret' ?_
          refine XE.ret_blk ?_
          refine XE.ret_then ?_
          refine XE.leave1 Tryd.results12 rfl ?_
          refine ⟨?_, ((((Mod.refl [] w).nt m1).nt m2).nt m3)⟩
          all_goals simp_all [instF]
        · refine WL.no rfl rfl rfl (ltb rfl) rfl hb4 rfl (ltb rfl) ?_
          refine WL.no rfl rfl rfl (ltb rfl) rfl hb4 rfl (ltb rfl) ?_
          refine WL.no rfl rfl rfl (ltb rfl) rfl hb4 rfl (ltb rfl) ?_
          refine WL.det (op_pick_f rfl hb4 rfl) rfl rfl rfl ?_
          refine WL.det (op_assign rfl) rfl rfl rfl ?_
          refine WL.end ?_
          refine NE.code ?_
          refine CE.ret' ?_
          refine XE.ret_blk ?_
          refine XE.ret_then ?_
          refine XE.leave1 Tryd.results12 rfl ?_
          refine ⟨?_, (((Mod.refl [] w).nt m1).nt m2)⟩
          all_goals simp_all [instF]
      · have hp3 := ne_of_beq_false hb3
        refine CE.cond_f rfl hb3 ?_
        refine CE.seq ?_
        refine CE.region ?_
        refine WL.det (op_eqi rfl rfl) rfl rfl rfl ?_
        refine WL.det (op_assign rfl) rfl rfl rfl ?_
        refine WL.end ?_
        refine NE.code ?_
        rcases Bool.eq_false_or_eq_true ((kd == (2 : Int))) with hb5 | hb5
        · have hp5 := eq_of_beq hb5
          refine CE.cond_t rfl hb5 ?_
          refine CE.seq ?_
          refine CE.region ?_
          refine WL.det (op_fieldAddr (off' := 2) rfl Tryd.runUnderlying27 rfl rfl Tryd.sizeOf22 rfl) rfl rfl rfl ?_
          refine WL.det (op_load1 (i := 2) rfl Tryd.isAgg22 (r1.ext m2).rng rfl rfl) rfl rfl rfl ?_
          refine WL.call (oc_call (vs := [vF fa]) (cap := []) rfl rfl rfl Tryd.call34 (c_isKeepI fa w2)) rfl rfl (ltb rfl) ?_
          rintro _ w4 ⟨rfl, m4⟩
          refine WL.det (op_move rfl) rfl rfl rfl ?_
          rcases Bool.eq_false_or_eq_true ((fGe .f32 fa 0 && fLt .f32 fa 1065353216)) with hb6 | hb6
          · refine WL.yes rfl rfl rfl (ltb rfl) rfl hb6 ?_
            refine WL.det (op_fieldAddr (off' := 4) rfl Tryd.runUnderlying27 rfl rfl Tryd.sizeOf22 rfl) rfl rfl rfl ?_
            refine WL.yes rfl rfl rfl (ltb rfl) rfl hb6 ?_
            refine WL.det (op_load1 (i := 4) rfl Tryd.isAgg22 ((r1.ext m2).ext m4).rng rfl rfl) rfl rfl rfl ?_
            refine WL.yes rfl rfl rfl (ltb rfl) rfl hb6 ?_
            refine WL.det (op_feq (c := fEq .f32 fc 0) rfl rfl rfl rfl rfl) rfl rfl rfl ?_
            refine WL.yes rfl rfl rfl (ltb rfl) rfl hb6 ?_
            refine WL.det (op_move rfl) rfl rfl rfl ?_
            rcases Bool.eq_false_or_eq_true (fEq .f32 fc 0) with hb7 | hb7
            · refine WL.no rfl rfl rfl (ltb rfl) rfl hb7 rfl (ltb rfl) ?_
              refine WL.no rfl rfl rfl (ltb rfl) rfl hb7 rfl (ltb rfl) ?_
              refine WL.no rfl rfl rfl (ltb rfl) rfl hb7 rfl (ltb rfl) ?_
              refine WL.yes rfl rfl rfl (ltb rfl) rfl hb6 ?_
              refine WL.det (op_pick_t rfl hb7 rfl) rfl rfl rfl ?_
              refine WL.det (op_pick_t rfl hb6 rfl) rfl rfl rfl ?_
              refine WL.det (op_assign rfl) rfl rfl rfl ?_
              refine WL.end ?_
              refine NE.code ?_
              refine CE.ret' ?_
              refine XE.ret_blk ?_
              refine XE.ret_then ?_
              refine XE.leave1 Tryd.results12 rfl ?_
              refine ⟨?_, ((((Mod.refl [] w).nt m1).nt m2).nt m4)⟩
              all_goals simp_all [instF]
            · refine WL.yes rfl rfl rfl (ltb rfl) rfl hb7 ?_
              refine WL.det (op_fieldAddr (off' := 4) rfl Tryd.runUnderlying27 rfl rfl Tryd.sizeOf22 rfl) rfl rfl rfl ?_
              refine WL.yes rfl rfl rfl (ltb rfl) rfl hb7 ?_
              refine WL.det (op_load1 (i := 4) rfl Tryd.isAgg22 ((r1.ext m2).ext m4).rng rfl rfl) rfl rfl rfl ?_
              refine WL.yes rfl rfl rfl (ltb rfl) rfl hb7 ?_
              refine WL.det (op_feq (c := fEq .f32 fc 1065353216) rfl rfl rfl rfl rfl) rfl rfl rfl ?_
              refine WL.yes rfl rfl rfl (ltb rfl) rfl hb6 ?_
              refine WL.det (op_pick_f rfl hb7 rfl) rfl rfl rfl ?_
              refine WL.det (op_pick_t rfl hb6 rfl) rfl rfl rfl ?_
              refine WL.det (op_assign rfl) rfl rfl rfl ?_
              refine WL.end ?_
              refine NE.code ?_
              refine CE.ret' ?_
              refine XE.ret_blk ?_
              refine XE.ret_then ?_
              refine XE.leave1 Tryd.results12 rfl ?_
              refine ⟨?_, ((((Mod.refl [] w).nt m1).nt m2).nt m4)⟩
              all_goals simp_all [instF]
          · refine WL.no rfl rfl rfl (ltb rfl) rfl hb6 rfl (ltb rfl) ?_
            refine WL.no rfl rfl rfl (ltb rfl) rfl hb6 rfl (ltb rfl) ?_
            refine WL.no rfl rfl rfl (ltb rfl) rfl hb6 rfl (ltb rfl) ?_
            refine WL.no rfl rfl rfl (ltb rfl) rfl hb6 rfl (ltb rfl) ?_
            refine WL.nou rfl rfl rfl (ltb rfl) rfl rfl (ltb rfl) ?_
            refine WL.nou rfl rfl rfl (ltb rfl) rfl rfl (ltb rfl) ?_
            refine WL.nou rfl rfl rfl (ltb rfl) rfl rfl (ltb rfl) ?_
            refine WL.no rfl rfl rfl (ltb rfl) rfl hb6 rfl (ltb rfl) ?_
            refine WL.det (op_pick_f rfl hb6 rfl) rfl rfl rfl ?_
            refine WL.det (op_assign rfl) rfl rfl rfl ?_
            refine WL.end ?_
            refine NE.code ?_
            refine CE.ret' ?_
            refine XE.ret_blk ?_
            refine XE.ret_then ?_
            refine XE.leave1 Tryd.results12 rfl ?_
            refine ⟨?_, ((((Mod.refl [] w).nt m1).nt m2).nt m4)⟩
            all_goals simp_all [instF]
        · have hp5 := ne_of_beq_false hb5
          refine CE.cond_f rfl hb5 ?_
          refine CE.seq ?_
          refine CE.region ?_
          refine WL.det (op_eqi rfl rfl) rfl rfl rfl ?_
          refine WL.det (op_assign rfl) rfl rfl rfl ?_
          refine WL.end ?_
          refine NE.code ?_
          rcases Bool.eq_false_or_eq_true ((kd == (3 : Int))) with hb8 | hb8
          · have hp8 := eq_of_beq hb8
            refine CE.cond_t rfl hb8 ?_
            refine CE.seq ?_
            refine CE.region ?_
            refine WL.det (op_fieldAddr (off' := 2) rfl Tryd.runUnderlying27 rfl rfl Tryd.sizeOf22 rfl) rfl rfl rfl ?_
            refine WL.det (op_load1 (i := 2) rfl Tryd.isAgg22 (r1.ext m2).rng rfl rfl) rfl rfl rfl ?_
            refine WL.call (oc_call (vs := [vF fa]) (cap := []) rfl rfl rfl Tryd.call34 (c_isKeepI fa w2)) rfl rfl (ltb rfl) ?_
            rintro _ w5 ⟨rfl, m5⟩
            refine WL.det (op_move rfl) rfl rfl rfl ?_
            rcases Bool.eq_false_or_eq_true ((fGe .f32 fa 0 && fLt .f32 fa 1065353216)) with hb9 | hb9
            · refine WL.yes rfl rfl rfl (ltb rfl) rfl hb9 ?_
              refine WL.det (op_fieldAddr (off' := 4) rfl Tryd.runUnderlying27 rfl rfl Tryd.sizeOf22 rfl) rfl rfl rfl ?_
              refine WL.yes rfl rfl rfl (ltb rfl) rfl hb9 ?_
              refine WL.det (op_load1 (i := 4) rfl Tryd.isAgg22 ((r1.ext m2).ext m5).rng rfl rfl) rfl rfl rfl ?_
              refine WL.yes rfl rfl rfl (ltb rfl) rfl hb9 ?_
              refine WL.call (oc_call (vs := [vF fc]) (cap := []) rfl rfl rfl Tryd.call35 (c_isFinite fc fc rfl w5)) rfl rfl (ltb rfl) ?_
              rintro _ w6 ⟨rfl, m6⟩
              refine WL.det (op_pick_t rfl hb9 rfl) rfl rfl rfl ?_
              refine WL.det (op_assign rfl) rfl rfl rfl ?_
              refine WL.end ?_
              refine NE.code ?_
              refine CE.ret' ?_
              refine XE.ret_blk ?_
              refine XE.ret_then ?_
              refine XE.leave1 Tryd.results12 rfl ?_
              refine ⟨?_, (((((Mod.refl [] w).nt m1).nt m2).nt m5).nt m6)⟩
              all_goals simp_all [instF]
            · refine WL.no rfl rfl rfl (ltb rfl) rfl hb9 rfl (ltb rfl) ?_
              refine WL.no rfl rfl rfl (ltb rfl) rfl hb9 rfl (ltb rfl) ?_
              refine WL.no rfl rfl rfl (ltb rfl) rfl hb9 rfl (ltb rfl) ?_
              refine WL.det (op_pick_f rfl hb9 rfl) rfl rfl rfl ?_
              refine WL.det (op_assign rfl) rfl rfl rfl ?_
              refine WL.end ?_
              refine NE.code ?_
              refine CE.ret' ?_
              refine XE.ret_blk ?_
              refine XE.ret_then ?_
              refine XE.leave1 Tryd.results12 rfl ?_
              refine ⟨?_, ((((Mod.refl [] w).nt m1).nt m2).nt m5)⟩
              all_goals simp_all [instF]
          · have hp8 := ne_of_beq_false hb8
            refine CE.cond_f rfl hb8 ?_
            refine CE.skip' ?_
            refine NE.blk ?_
            refine NE.code ?_
            refine CE.seq ?_
            refine CE.region ?_
            refine WL.det (op_assign rfl) rfl rfl rfl ?_
            refine WL.end ?_
            refine NE.code ?_
            refine CE.ret' ?_
            refine XE.leave1 Tryd.results12 rfl ?_
            refine ⟨?_, (((Mod.refl [] w).nt m1).nt m2)⟩
            all_goals simp_all [instF]
    · refine CE.cond_t rfl (bnot_f hb2) ?_
      refine CE.seq ?_
      refine CE.region ?_
      refine WL.det (op_assign rfl) rfl rfl rfl ?_
      refine WL.end ?_
      refine NE.code ?_
      refine CE.ret' ?_
      refine XE.ret_then ?_
      refine XE.leave1 Tryd.results12 rfl ?_
      refine ⟨?_, (((Mod.refl [] w).nt m1).nt m2)⟩
      all_goals simp_all [instF]
  · refine WL.no rfl rfl rfl (ltb rfl) rfl (bnot_f hb1) rfl (ltb rfl) ?_
    refine WL.no rfl rfl rfl (ltb rfl) rfl (bnot_f hb1) rfl (ltb rfl) ?_
    refine WL.no rfl rfl rfl (ltb rfl) rfl (bnot_f hb1) rfl (ltb rfl) ?_
    refine WL.no rfl rfl rfl (ltb rfl) rfl (bnot_f hb1) rfl (ltb rfl) ?_
    refine WL.det (op_pick_t rfl (bnot_f hb1) rfl) rfl rfl rfl ?_
    refine WL.end ?_
    refine NE.code ?_
    refine CE.cond_t rfl rfl ?_
    refine CE.seq ?_
    refine CE.region ?_
    refine WL.det (op_assign rfl) rfl rfl rfl ?_
    refine WL.end ?_
    refine NE.code ?_
    refine CE.ret' ?_
    refine XE.ret_then ?_
    refine XE.leave1 Tryd.results12 rfl ?_
    refine ⟨?_, (((Mod.refl [] w).nt m1).nt m2)⟩
    all_goals simp_all [instF]

end Go.Proofs.YtdopidalhkcefaaDoor
