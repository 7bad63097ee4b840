/- Fractions in texts: the reference. -/
import Derived.Test.YteonmpphpeopiaaDoorR5
import Derived.Test.YteonmpphpeopiaaDoorB2
import Derived.Test.YteonmpphpeopiaaDoorE11
import Derived.Test.YteonmpphpeopiaaDoorE23
set_option linter.unusedVariables false
set_option linter.unusedSimpArgs false
namespace Go.Proofs.YteonmpphpeopiaaDoor

theorem sgS_t {s : ByteArray} (h : 0 < s.size) (h1 : byt s 0 = 45) : sgF (tl s) = (wholeF (tl (s.extract 1 s.size))).map fun k => 0 - (k : Int) := by
  unfold sgF
  rw [if_pos ((head_tl (c := 45) h).2 (h1.trans rfl)), tl_from s 1 (by omega)]
theorem sgS_f {s : ByteArray} (h : ¬ (0 < s.size ∧ byt s 0 = 45)) : sgF (tl s) = (wholeF (tl s)).map fun k => (k : Int) := by
  unfold sgF
  rw [if_neg]
  intro hh
  have h0 : 0 < s.size := by
    rcases Nat.eq_zero_or_pos s.size with h' | h'
    · have hl := tl_len s
      rw [h'] at hl
      rw [List.eq_nil_of_length_eq_zero hl] at hh; cases hh
    · exact h'
  exact h ⟨h0, ((head_tl (c := 45) h0).1 hh).trans rfl⟩
theorem splI_t {s : ByteArray} {c i fr : Nat} {ys : List StrR} (h : splG s c i = (ys, fr)) (hb : byt s i = c) : splG s c (i + 1) = (ys ++ [⟨s.extract fr i⟩], i + 1) := by rw [splG_t hb, h]
theorem splI_f {s : ByteArray} {c i fr : Nat} {ys : List StrR} (h : splG s c i = (ys, fr)) (hb : byt s i ≠ c) : splG s c (i + 1) = (ys, fr) := by rw [splG_f hb, h]
theorem str_snocE (ys : List StrR) (x : ByteArray) : cat StrR.cells ys ++ [.string x] = cat StrR.cells (ys ++ [⟨x⟩]) := by
  rw [cat_app]
  show _ = _ ++ (StrR.cells ⟨x⟩ ++ [])
  rw [List.append_nil]; rfl
theorem splW_of {s : ByteArray} {c fr : Nat} {ys : List StrR} (h : splG s c s.size = (ys, fr)) : splW s c = ys ++ [⟨s.extract fr s.size⟩] := by unfold splW; rw [h]
theorem splG_size (s : ByteArray) (c : Nat) : ∀ i e, e ∈ (splG s c i).1 → e.s.size ≤ s.size
  | 0, e, h => by cases h
  | i + 1, e, h => by
    by_cases hb : byt s i = c
    · rw [splG_t hb] at h
      rcases List.mem_append.1 h with h | h
      · exact splG_size s c i e h
      · rw [List.mem_singleton.1 h]
        show (s.extract _ i).size ≤ _
        rw [ByteArray.size_extract]; omega
    · rw [splG_f hb] at h
      exact splG_size s c i e h
theorem splW_size (s : ByteArray) (c : Nat) : ∀ i, ((splW s c).getD i StrR.d).s.size ≤ s.size := fun i => by
  rw [List.getD_eq_getElem?_getD]
  cases h : (splW s c)[i]? with
  | none => exact Nat.zero_le _
  | some e =>
    have hm := List.mem_of_getElem? h
    unfold splW at hm
    show e.s.size ≤ _
    rcases List.mem_append.1 hm with hm | hm
    · exact splG_size s c _ e hm
    · rw [List.mem_singleton.1 hm]
      show (s.extract _ _).size ≤ _
      rw [ByteArray.size_extract]; omega
theorem frS_no {s : ByteArray} (h : frOkS s = false) : frOkS s = false ∧ frVS s = 0 := ⟨h, by unfold frVS; rw [h]; rfl⟩
theorem frS_a {s : ByteArray} (h : (sgF (tl ((splW s 47).getD 0 StrR.d).s)).isSome = false) : frOkS s = false ∧ frVS s = 0 := frS_no (by unfold frOkS word0; rw [h]; rfl)
theorem frS_b {s : ByteArray} (h : 2 < (splW s 47).length) : frOkS s = false ∧ frVS s = 0 := frS_no (by unfold frOkS; rw [decide_eq_false (show ¬ (splW s 47).length ≤ 2 by omega), Bool.and_false]; rfl)
theorem frS_n {s : ByteArray} (h1 : (splW s 47).length ≠ 1) (h : ((wholeF (word1 s)).isSome && dOk (((wholeF (word1 s)).getD 0 : Nat) : Int)) = false) : frOkS s = false ∧ frVS s = 0 := frS_no (by unfold frOkS; rw [if_neg h1, h, Bool.and_false])
theorem frS_c1 {s : ByteArray} (h1 : (splW s 47).length ≠ 1) (h : (wholeF (tl ((splW s 47).getD 1 StrR.d).s)).isSome = false) : frOkS s = false ∧ frVS s = 0 := frS_n h1 (by unfold word1; rw [h]; rfl)
theorem frS_c2 {s : ByteArray} (h1 : (splW s 47).length ≠ 1) (h : (((wholeF (tl ((splW s 47).getD 1 StrR.d).s)).getD 0 : Nat) : Int) < 2 ∨ (1024 : Int) < (((wholeF (tl ((splW s 47).getD 1 StrR.d).s)).getD 0 : Nat) : Int)) : frOkS s = false ∧ frVS s = 0 := frS_n h1 (by
  have hv : vIn (((wholeF (word1 s)).getD 0 : Nat) : Int) 2 1024 = false := by
    unfold vIn word1
    rcases h with h | h
    · rw [decide_eq_false (by omega)]; rfl
    · rw [decide_eq_false (p := _ ≤ (1024 : Int)) (by omega), Bool.and_false]
  unfold dOk; rw [hv, Bool.false_and, Bool.and_false])
theorem frS_c3 {s : ByteArray} (h1 : (splW s 47).length ≠ 1) (h : (bits .and .i64 (((wholeF (tl ((splW s 47).getD 1 StrR.d).s)).getD 0 : Nat) : Int) ((((wholeF (tl ((splW s 47).getD 1 StrR.d).s)).getD 0 : Nat) : Int) - (1 : Int)) != (0 : Int)) = true) : frOkS s = false ∧ frVS s = 0 := frS_n h1 (by
  have hv : (bits .and .i64 (((wholeF (word1 s)).getD 0 : Nat) : Int) ((((wholeF (word1 s)).getD 0 : Nat) : Int) - 1) == (0 : Int)) = false := by
    unfold word1; exact bne_iff_ne.1 h |> beq_eq_false_iff_ne.2
  unfold dOk; rw [hv, Bool.and_false, Bool.and_false])
theorem frS_1 {s : ByteArray} (h : (sgF (tl ((splW s 47).getD 0 StrR.d).s)).isSome = true) (h1 : (splW s 47).length = 1) : frOkS s = true ∧ frVS s = FloatKind.f32.nearest ((sgF (tl ((splW s 47).getD 0 StrR.d).s)).getD 0) := by
  have e : frOkS s = true := by
    unfold frOkS word0
    rw [h, if_pos h1, h1]; rfl
  exact ⟨e, by unfold frVS; rw [if_pos e, if_pos h1]; rfl⟩
theorem frS_2 {s : ByteArray} (h : (sgF (tl ((splW s 47).getD 0 StrR.d).s)).isSome = true) (h1 : (splW s 47).length ≠ 1) (h2 : (splW s 47).length ≤ 2) (h3 : (wholeF (tl ((splW s 47).getD 1 StrR.d).s)).isSome = true) (h4 : (2 : Int) ≤ (((wholeF (tl ((splW s 47).getD 1 StrR.d).s)).getD 0 : Nat) : Int)) (h5 : (((wholeF (tl ((splW s 47).getD 1 StrR.d).s)).getD 0 : Nat) : Int) ≤ 1024) (h6 : (bits .and .i64 (((wholeF (tl ((splW s 47).getD 1 StrR.d).s)).getD 0 : Nat) : Int) ((((wholeF (tl ((splW s 47).getD 1 StrR.d).s)).getD 0 : Nat) : Int) - (1 : Int)) != (0 : Int)) = false) : frOkS s = true ∧ frVS s = fop .quo .f32 (FloatKind.f32.nearest ((sgF (tl ((splW s 47).getD 0 StrR.d).s)).getD 0)) (FloatKind.f32.nearest (((wholeF (tl ((splW s 47).getD 1 StrR.d).s)).getD 0 : Nat) : Int)) := by
  have hv : dOk (((wholeF (word1 s)).getD 0 : Nat) : Int) = true := by
    unfold dOk vIn word1
    rw [decide_eq_true h4, decide_eq_true h5, bne_eq_false_iff_eq.1 h6]; rfl
  have e : frOkS s = true := by
    unfold frOkS
    rw [show (sgF (word0 s)).isSome = true from h, if_neg h1, show (wholeF (word1 s)).isSome = true from h3, hv, decide_eq_true h2]; rfl
  exact ⟨e, by unfold frVS; rw [if_pos e, if_neg h1]; rfl⟩
theorem splW_le {s : ByteArray} {c : Nat} {W : List StrR} (h : s.size ≤ 1048576) (e : W = splW s c) : ∀ i, (W.getD i StrR.d).s.size ≤ 1048576 := fun i => by
  rw [e]; exact Nat.le_trans (splW_size s c i) h

set_option maxRecDepth 100000 in
set_option maxHeartbeats 2000000 in
theorem c_l01Number (s : ByteArray) (hs : s.size ≤ 1048576) (w : World) : Cl Tryd.prog 46 #[.string s] w fun v w' => v = .tuple #[vI ((((whole9 (tl s)).getD 0) : Nat) : Int), .bool ((whole9 (tl s)).isSome)] ∧ Mod [] w w' := by
  have hb0 := byt_lt s 0
  refine Cl.of Tryd.func46 Tryd.ntmps46 rfl rfl (ρ := [(0, .string s)]) rfl ?_
  refine CE.seq ?_
  refine CE.region ?_
  refine WL.det (op_assign rfl) rfl rfl rfl ?_
  refine WL.det (op_assign rfl) rfl rfl rfl ?_
  refine WL.end ?_
  refine NE.code ?_
  refine CE.seq ?_
  refine CE.seq ?_
  refine CE.region ?_
  refine WL.det (op_move rfl) rfl rfl rfl ?_
  refine WL.det (op_lens rfl Tryd.runUnderlying9) rfl rfl rfl ?_
  refine WL.det (op_lti rfl rfl) rfl rfl rfl ?_
  refine WL.det (op_move rfl) rfl rfl rfl ?_
  rcases Bool.eq_false_or_eq_true (decide (((s.size : Nat) : Int) < (1 : Int))) with hb1 | hb1
  · have hp1 := of_decide_eq_true hb1
    refine WL.no rfl rfl rfl (ltb rfl) rfl hb1 rfl (ltb rfl) ?_
    refine WL.no rfl rfl rfl (ltb rfl) rfl hb1 rfl (ltb rfl) ?_
    refine WL.no rfl rfl rfl (ltb rfl) rfl hb1 rfl (ltb rfl) ?_
    refine WL.det (op_pick_t rfl hb1 rfl) rfl rfl rfl ?_
    refine WL.det (op_move rfl) rfl rfl rfl ?_
    refine WL.no rfl rfl rfl (ltb rfl) rfl rfl rfl (ltb rfl) ?_
    refine WL.no rfl rfl rfl (ltb rfl) rfl rfl rfl (ltb rfl) ?_
    refine WL.no rfl rfl rfl (ltb rfl) rfl rfl rfl (ltb rfl) ?_
    refine WL.no rfl rfl rfl (ltb rfl) rfl rfl rfl (ltb rfl) ?_
    refine WL.nou rfl rfl rfl (ltb rfl) rfl rfl (ltb rfl) ?_
    refine WL.nou rfl rfl rfl (ltb rfl) rfl rfl (ltb rfl) ?_
    refine WL.nou rfl rfl rfl (ltb rfl) rfl rfl (ltb rfl) ?_
    refine WL.no rfl rfl rfl (ltb rfl) rfl rfl rfl (ltb rfl) ?_
    refine WL.det (op_pick_t rfl rfl rfl) rfl rfl rfl ?_
    refine WL.end ?_
    refine NE.code ?_
    refine CE.cond_t rfl rfl ?_
    refine CE.seq ?_
    refine CE.region ?_
    refine WL.det (op_assign rfl) rfl rfl rfl ?_
    refine WL.det (op_assign rfl) rfl rfl rfl ?_
    refine WL.end ?_
    refine NE.code ?_
    refine CE.ret' ?_
    refine XE.ret_then ?_
    refine XE.leaveT Tryd.results46 (res_tmp rfl (res_tmp rfl res_nil)) ?_
    refine ⟨?_, (Mod.refl [] w)⟩
    all_goals first | (rw [n9_a (by omega)]; rfl) | (rw [n9_b (by omega) (by omega)]; rfl) | (rw [n9_c (s := s) (i := i) (by omega) (by omega)]; rfl) | (have e9 : i = s.size := (by omega); subst e9; rw [n9_d (by omega) (by omega) (by omega) hu]; rfl)
  · have hp1 := of_decide_eq_false hb1
    refine WL.yes rfl rfl rfl (ltb rfl) rfl hb1 ?_
    refine WL.det (op_move rfl) rfl rfl rfl ?_
    refine WL.yes rfl rfl rfl (ltb rfl) rfl hb1 ?_
    refine WL.det (op_lens rfl Tryd.runUnderlying9) rfl rfl rfl ?_
    refine WL.yes rfl rfl rfl (ltb rfl) rfl hb1 ?_
    refine WL.det (op_gti rfl rfl) rfl rfl rfl ?_
    refine WL.det (op_pick_f rfl hb1 rfl) rfl rfl rfl ?_
    refine WL.det (op_move rfl) rfl rfl rfl ?_
    rcases Bool.eq_false_or_eq_true (decide ((9 : Int) < ((s.size : Nat) : Int))) with hb2 | hb2
    · have hp2 := of_decide_eq_true hb2
      refine WL.no rfl rfl rfl (ltb rfl) rfl hb2 rfl (ltb rfl) ?_
      refine WL.no rfl rfl rfl (ltb rfl) rfl hb2 rfl (ltb rfl) ?_
      refine WL.no rfl rfl rfl (ltb rfl) rfl hb2 rfl (ltb rfl) ?_
      refine WL.no rfl rfl rfl (ltb rfl) rfl hb2 rfl (ltb rfl) ?_
      refine WL.nou rfl rfl rfl (ltb rfl) rfl rfl (ltb rfl) ?_
      refine WL.nou rfl rfl rfl (ltb rfl) rfl rfl (ltb rfl) ?_
      refine WL.nou rfl rfl rfl (ltb rfl) rfl rfl (ltb rfl) ?_
      refine WL.no rfl rfl rfl (ltb rfl) rfl hb2 rfl (ltb rfl) ?_
      refine WL.det (op_pick_t rfl hb2 rfl) rfl rfl rfl ?_
      refine WL.end ?_
      refine NE.code ?_
      refine CE.cond_t rfl rfl ?_
      refine CE.seq ?_
      refine CE.region ?_
      refine WL.det (op_assign rfl) rfl rfl rfl ?_
      refine WL.det (op_assign rfl) rfl rfl rfl ?_
      refine WL.end ?_
      refine NE.code ?_
      refine CE.ret' ?_
      refine XE.ret_then ?_
      refine XE.leaveT Tryd.results46 (res_tmp rfl (res_tmp rfl res_nil)) ?_
      refine ⟨?_, (Mod.refl [] w)⟩
      all_goals first | (rw [n9_a (by omega)]; rfl) | (rw [n9_b (by omega) (by omega)]; rfl) | (rw [n9_c (s := s) (i := i) (by omega) (by omega)]; rfl) | (have e9 : i = s.size := (by omega); subst e9; rw [n9_d (by omega) (by omega) (by omega) hu]; rfl)
    · have hp2 := of_decide_eq_false hb2
      refine WL.yes rfl rfl rfl (ltb rfl) rfl hb2 ?_
      refine WL.det (op_move rfl) rfl rfl rfl ?_
      refine WL.yes rfl rfl rfl (ltb rfl) rfl hb2 ?_
      refine WL.det (op_byte (i := 0) rfl rfl rfl Tryd.runUnderlying9 (by omega)) rfl rfl rfl ?_
      refine WL.yes rfl rfl rfl (ltb rfl) rfl hb2 ?_
      refine WL.det (op_eqi rfl rfl) rfl rfl rfl ?_
      refine WL.yes rfl rfl rfl (ltb rfl) rfl hb2 ?_
      refine WL.det (op_move rfl) rfl rfl rfl ?_
      rcases Bool.eq_false_or_eq_true ((((byt s 0 : Nat) : Int) == (48 : Int))) with hb3 | hb3
      · have hp3 := eq_of_beq hb3
        refine WL.yes rfl rfl rfl (ltb rfl) rfl hb3 ?_
        refine WL.det (op_move rfl) rfl rfl rfl ?_
        refine WL.yes rfl rfl rfl (ltb rfl) rfl hb3 ?_
        refine WL.det (op_lens rfl Tryd.runUnderlying9) rfl rfl rfl ?_
        refine WL.yes rfl rfl rfl (ltb rfl) rfl hb3 ?_
        refine WL.det (op_gti rfl rfl) rfl rfl rfl ?_
        refine WL.yes rfl rfl rfl (ltb rfl) rfl hb2 ?_
        refine WL.det (op_pick_t rfl hb3 rfl) rfl rfl rfl ?_
        refine WL.det (op_pick_f rfl hb2 rfl) rfl rfl rfl ?_
        refine WL.end ?_
        refine NE.code ?_
        rcases Bool.eq_false_or_eq_true (decide ((1 : Int) < ((s.size : Nat) : Int))) with hb4 | hb4
        · have hp4 := of_decide_eq_true hb4
          refine CE.cond_t rfl hb4 ?_
          refine CE.seq ?_
          refine CE.region ?_
          refine WL.det (op_assign rfl) rfl rfl rfl ?_
          refine WL.det (op_assign rfl) rfl rfl rfl ?_
          refine WL.end ?_
          refine NE.code ?_
          refine CE.ret' ?_
          refine XE.ret_then ?_
          refine XE.leaveT Tryd.results46 (res_tmp rfl (res_tmp rfl res_nil)) ?_
          refine ⟨?_, (Mod.refl [] w)⟩
          all_goals first | (rw [n9_a (by omega)]; rfl) | (rw [n9_b (by omega) (by omega)]; rfl) | (rw [n9_c (s := s) (i := i) (by omega) (by omega)]; rfl) | (have e9 : i = s.size := (by omega); subst e9; rw [n9_d (by omega) (by omega) (by omega) hu]; rfl)
        · have hp4 := of_decide_eq_false hb4
          refine CE.cond_f rfl hb4 ?_
          refine CE.skip' ?_
          refine NE.code ?_
          refine CE.seq ?_
          refine CE.region ?_
          refine WL.det (op_assign rfl) rfl rfl rfl ?_
          refine WL.end ?_
          refine NE.code ?_
          refine CE.seq ?_
          refine CE.seq ?_
          refine CE.region ?_
          refine WL.det (op_assign rfl) rfl rfl rfl ?_
          refine WL.end ?_
          refine NE.code ?_
          refine CE.block ?_
          refine CE.loop (fun (z : Nat × Nat) => [(5, vI ((z.1 : Nat) : Int)), (4, vI ((z.2 : Nat) : Int)), (0, .string s), (2, vI 0), (3, .bool false)]) (fun (z : Nat × Nat) => fun W => (z.1 ≤ s.size) ∧ (digs 0 ((tl s).take z.1) = some z.2) ∧ (z.2 < 1000000000) ∧ Mod [] w W) (fun (z : Nat × Nat) => s.size - z.1) (0, 0) (⟨rfl, rfl, rfl, rfl, rfl, trivial⟩) ⟨(by omega), (by rfl), (by decide), Mod.refl _ _⟩ ?_
          rintro ⟨i, n⟩ w1 ⟨hi, hu, hn, m1⟩
          replace hi : i ≤ s.size := hi
          replace hu : digs 0 ((tl s).take i) = some n := hu
          replace hn : n < 1000000000 := hn
          show CE _ _ _ _ [(5, vI ((i : Nat) : Int)), (4, vI ((n : Nat) : Int)), (0, .string s), (2, vI 0), (3, .bool false)] _
          refine CE.seq ?_
          refine CE.seq ?_
          refine CE.region ?_
          refine WL.det (op_move rfl) rfl rfl rfl ?_
          refine WL.det (op_move rfl) rfl rfl rfl ?_
          refine WL.det (op_lens rfl Tryd.runUnderlying9) rfl rfl rfl ?_
          refine WL.det (op_lti rfl rfl) rfl rfl rfl ?_
          refine WL.end ?_
          refine NE.code ?_
          rcases Bool.eq_false_or_eq_true (decide (((i : Nat) : Int) < ((s.size : Nat) : Int))) with hb5 | hb5
          · have hp5 := of_decide_eq_true hb5
            refine CE.cond_t rfl hb5 ?_
            refine CE.skip' ?_
            refine NE.code ?_
            refine CE.seq ?_
            refine CE.block ?_
            refine CE.seq ?_
            refine CE.seq ?_
            refine CE.region ?_
            refine WL.det (op_move rfl) rfl rfl rfl ?_
            refine WL.det (op_move rfl) rfl rfl rfl ?_
            refine WL.det (op_byte (i := i) rfl rfl rfl Tryd.runUnderlying9 (by omega)) rfl rfl rfl ?_
            refine WL.det (op_lti rfl rfl) rfl rfl rfl ?_
            refine WL.det (op_move rfl) rfl rfl rfl ?_
            rcases Bool.eq_false_or_eq_true (decide (((byt s i : Nat) : Int) < (48 : Int))) with hb6 | hb6
            · have hp6 := of_decide_eq_true hb6
              refine WL.no rfl rfl rfl (ltb rfl) rfl hb6 rfl (ltb rfl) ?_
              refine WL.no rfl rfl rfl (ltb rfl) rfl hb6 rfl (ltb rfl) ?_
              refine WL.no rfl rfl rfl (ltb rfl) rfl hb6 rfl (ltb rfl) ?_
              refine WL.no rfl rfl rfl (ltb rfl) rfl hb6 rfl (ltb rfl) ?_
              refine WL.det (op_pick_t rfl hb6 rfl) rfl rfl rfl ?_
              refine WL.end ?_
              refine NE.code ?_
              refine CE.cond_t rfl rfl ?_
              refine CE.seq ?_
              refine CE.region ?_
              refine WL.det (op_assign rfl) rfl rfl rfl ?_
              refine WL.det (op_assign rfl) rfl rfl rfl ?_
              refine WL.end ?_
              refine NE.code ?_
              refine CE.ret' ?_
              refine XE.ret_then ?_
              refine XE.ret_blk ?_
              refine XE.ret_then ?_
              refine XE.ret_then ?_
              refine XE.ret_blk ?_
              refine XE.ret_then ?_
              refine XE.leaveT Tryd.results46 (res_tmp rfl (res_tmp rfl res_nil)) ?_
              refine ⟨?_, ((Mod.refl [] w).nt m1)⟩
              all_goals first | (rw [n9_a (by omega)]; rfl) | (rw [n9_b (by omega) (by omega)]; rfl) | (rw [n9_c (s := s) (i := i) (by omega) (by omega)]; rfl) | (have e9 : i = s.size := (by omega); subst e9; rw [n9_d (by omega) (by omega) (by omega) hu]; rfl)
            · have hp6 := of_decide_eq_false hb6
              refine WL.yes rfl rfl rfl (ltb rfl) rfl hb6 ?_
              refine WL.det (op_move rfl) rfl rfl rfl ?_
              refine WL.yes rfl rfl rfl (ltb rfl) rfl hb6 ?_
              refine WL.det (op_move rfl) rfl rfl rfl ?_
              refine WL.yes rfl rfl rfl (ltb rfl) rfl hb6 ?_
              refine WL.det (op_byte (i := i) rfl rfl rfl Tryd.runUnderlying9 (by omega)) rfl rfl rfl ?_
              refine WL.yes rfl rfl rfl (ltb rfl) rfl hb6 ?_
              refine WL.det (op_gti rfl rfl) rfl rfl rfl ?_
              refine WL.det (op_pick_f rfl hb6 rfl) rfl rfl rfl ?_
              refine WL.end ?_
              refine NE.code ?_
              rcases Bool.eq_false_or_eq_true (decide ((57 : Int) < ((byt s i : Nat) : Int))) with hb7 | hb7
              · have hp7 := of_decide_eq_true hb7
                refine CE.cond_t rfl hb7 ?_
                refine CE.seq ?_
                refine CE.region ?_
                refine WL.det (op_assign rfl) rfl rfl rfl ?_
                refine WL.det (op_assign rfl) rfl rfl rfl ?_
                refine WL.end ?_
                refine NE.code ?_
                refine CE.ret' ?_
                refine XE.ret_then ?_
                refine XE.ret_blk ?_
                refine XE.ret_then ?_
                refine XE.ret_then ?_
                refine XE.ret_blk ?_
                refine XE.ret_then ?_
                refine XE.leaveT Tryd.results46 (res_tmp rfl (res_tmp rfl res_nil)) ?_
                refine ⟨?_, ((Mod.refl [] w).nt m1)⟩
                all_goals first | (rw [n9_a (by omega)]; rfl) | (rw [n9_b (by omega) (by omega)]; rfl) | (rw [n9_c (s := s) (i := i) (by omega) (by omega)]; rfl) | (have e9 : i = s.size := (by omega); subst e9; rw [n9_d (by omega) (by omega) (by omega) hu]; rfl)
              · have hp7 := of_decide_eq_false hb7
                refine CE.cond_f rfl hb7 ?_
                refine CE.skip' ?_
                refine NE.code ?_
                refine CE.region ?_
                refine WL.det (op_move rfl) rfl rfl rfl ?_
                refine WL.det (op_mul (r := ((n * 10 : Nat) : Int)) rfl rfl (w_i64 (by omega) (by omega))) rfl rfl rfl ?_
                refine WL.det (op_move rfl) rfl rfl rfl ?_
                refine WL.det (op_move rfl) rfl rfl rfl ?_
                refine WL.det (op_byte (i := i) rfl rfl rfl Tryd.runUnderlying9 (by omega)) rfl rfl rfl ?_
                refine WL.det (op_sub (r := ((byt s i - 48 : Nat) : Int)) rfl rfl (dig_sub (by omega) (byt_lt _ _))) rfl rfl rfl ?_
                refine WL.det (op_cvt_ii (r := ((byt s i - 48 : Nat) : Int)) rfl Tryd.runUnderlying5 Tryd.runUnderlying2 (w_i64 (by omega) (by omega))) rfl rfl rfl ?_
                refine WL.det (op_add (r := ((n * 10 + (byt s i - 48) : Nat) : Int)) rfl rfl (w_i64 (by omega) (by omega))) rfl rfl rfl ?_
                refine WL.det (op_assign rfl) rfl rfl rfl ?_
                refine WL.end ?_
                refine NE.blk ?_
                refine NE.code ?_
                refine CE.region ?_
                refine WL.det (op_move rfl) rfl rfl rfl ?_
                refine WL.det (op_add (r := ((i + 1 : Nat) : Int)) rfl rfl (w_i64 (by omega) (by omega))) rfl rfl rfl ?_
                refine WL.det (op_assign rfl) rfl rfl rfl ?_
                refine WL.end ?_
                exact NE.again ((i + 1), (n * 10 + (byt s i - 48))) (⟨rfl, rfl, rfl, rfl, rfl, trivial⟩) ⟨(by omega), (by exact digs_next hu (by omega) (by omega) (by omega)), (by exact digs_bd (digs_next hu (by omega) (by omega) (by omega)) (by omega)), m1⟩ (by first | (dsimp only; omega) | omega)
          · have hp5 := of_decide_eq_false hb5
            refine CE.cond_f rfl hb5 ?_
            refine CE.exit' ?_
            refine XE.exit_then ?_
            refine XE.exit_then ?_
            refine XE.exit_here ?_
            refine NE.code ?_
            refine CE.seq ?_
            refine CE.region ?_
            refine WL.det (op_move rfl) rfl rfl rfl ?_
            refine WL.det (op_assign rfl) rfl rfl rfl ?_
            refine WL.det (op_assign rfl) rfl rfl rfl ?_
            refine WL.end ?_
            refine NE.code ?_
            refine CE.ret' ?_
            refine XE.leaveT Tryd.results46 (res_tmp rfl (res_tmp rfl res_nil)) ?_
            refine ⟨?_, ((Mod.refl [] w).nt m1)⟩
            all_goals first | (rw [n9_a (by omega)]; rfl) | (rw [n9_b (by omega) (by omega)]; rfl) | (rw [n9_c (s := s) (i := i) (by omega) (by omega)]; rfl) | (have e9 : i = s.size := (by omega); subst e9; rw [n9_d (by omega) (by omega) (by omega) hu]; rfl)
      · have hp3 := ne_of_beq_false hb3
        refine WL.no rfl rfl rfl (ltb rfl) rfl hb3 rfl (ltb rfl) ?_
        refine WL.no rfl rfl rfl (ltb rfl) rfl hb3 rfl (ltb rfl) ?_
        refine WL.no rfl rfl rfl (ltb rfl) rfl hb3 rfl (ltb rfl) ?_
        refine WL.yes rfl rfl rfl (ltb rfl) rfl hb2 ?_
        refine WL.det (op_pick_f rfl hb3 rfl) rfl rfl rfl ?_
        refine WL.det (op_pick_f rfl hb2 rfl) rfl rfl rfl ?_
        refine WL.end ?_
        refine NE.code ?_
        refine CE.cond_f rfl rfl ?_
        refine CE.skip' ?_
        refine NE.code ?_
        refine CE.seq ?_
        refine CE.region ?_
        refine WL.det (op_assign rfl) rfl rfl rfl ?_
        refine WL.end ?_
        refine NE.code ?_
        refine CE.seq ?_
        refine CE.seq ?_
        refine CE.region ?_
        refine WL.det (op_assign rfl) rfl rfl rfl ?_
        refine WL.end ?_
        refine NE.code ?_
        refine CE.block ?_
        refine CE.loop (fun (z : Nat × Nat) => [(5, vI ((z.1 : Nat) : Int)), (4, vI ((z.2 : Nat) : Int)), (0, .string s), (2, vI 0), (3, .bool false)]) (fun (z : Nat × Nat) => fun W => (z.1 ≤ s.size) ∧ (digs 0 ((tl s).take z.1) = some z.2) ∧ (z.2 < 1000000000) ∧ Mod [] w W) (fun (z : Nat × Nat) => s.size - z.1) (0, 0) (⟨rfl, rfl, rfl, rfl, rfl, trivial⟩) ⟨(by omega), (by rfl), (by decide), Mod.refl _ _⟩ ?_
        rintro ⟨i, n⟩ w2 ⟨hi, hu, hn, m2⟩
        replace hi : i ≤ s.size := hi
        replace hu : digs 0 ((tl s).take i) = some n := hu
        replace hn : n < 1000000000 := hn
        show CE _ _ _ _ [(5, vI ((i : Nat) : Int)), (4, vI ((n : Nat) : Int)), (0, .string s), (2, vI 0), (3, .bool false)] _
        refine CE.seq ?_
        refine CE.seq ?_
        refine CE.region ?_
        refine WL.det (op_move rfl) rfl rfl rfl ?_
        refine WL.det (op_move rfl) rfl rfl rfl ?_
        refine WL.det (op_lens rfl Tryd.runUnderlying9) rfl rfl rfl ?_
        refine WL.det (op_lti rfl rfl) rfl rfl rfl ?_
        refine WL.end ?_
        refine NE.code ?_
        rcases Bool.eq_false_or_eq_true (decide (((i : Nat) : Int) < ((s.size : Nat) : Int))) with hb8 | hb8
        · have hp8 := of_decide_eq_true hb8
          refine CE.cond_t rfl hb8 ?_
          refine CE.skip' ?_
          refine NE.code ?_
          refine CE.seq ?_
          refine CE.block ?_
          refine CE.seq ?_
          refine CE.seq ?_
          refine CE.region ?_
          refine WL.det (op_move rfl) rfl rfl rfl ?_
          refine WL.det (op_move rfl) rfl rfl rfl ?_
          refine WL.det (op_byte (i := i) rfl rfl rfl Tryd.runUnderlying9 (by omega)) rfl rfl rfl ?_
          refine WL.det (op_lti rfl rfl) rfl rfl rfl ?_
          refine WL.det (op_move rfl) rfl rfl rfl ?_
          rcases Bool.eq_false_or_eq_true (decide (((byt s i : Nat) : Int) < (48 : Int))) with hb9 | hb9
          · have hp9 := of_decide_eq_true hb9
            refine WL.no rfl rfl rfl (ltb rfl) rfl hb9 rfl (ltb rfl) ?_
            refine WL.no rfl rfl rfl (ltb rfl) rfl hb9 rfl (ltb rfl) ?_
            refine WL.no rfl rfl rfl (ltb rfl) rfl hb9 rfl (ltb rfl) ?_
            refine WL.no rfl rfl rfl (ltb rfl) rfl hb9 rfl (ltb rfl) ?_
            refine WL.det (op_pick_t rfl hb9 rfl) rfl rfl rfl ?_
            refine WL.end ?_
            refine NE.code ?_
            refine CE.cond_t rfl rfl ?_
            refine CE.seq ?_
            refine CE.region ?_
            refine WL.det (op_assign rfl) rfl rfl rfl ?_
            refine WL.det (op_assign rfl) rfl rfl rfl ?_
            refine WL.end ?_
            refine NE.code ?_
            refine CE.ret' ?_
            refine XE.ret_then ?_
            refine XE.ret_blk ?_
            refine XE.ret_then ?_
            refine XE.ret_then ?_
            refine XE.ret_blk ?_
            refine XE.ret_then ?_
            refine XE.leaveT Tryd.results46 (res_tmp rfl (res_tmp rfl res_nil)) ?_
            refine ⟨?_, ((Mod.refl [] w).nt m2)⟩
            all_goals first | (rw [n9_a (by omega)]; rfl) | (rw [n9_b (by omega) (by omega)]; rfl) | (rw [n9_c (s := s) (i := i) (by omega) (by omega)]; rfl) | (have e9 : i = s.size := (by omega); subst e9; rw [n9_d (by omega) (by omega) (by omega) hu]; rfl)
          · have hp9 := of_decide_eq_false hb9
            refine WL.yes rfl rfl rfl (ltb rfl) rfl hb9 ?_
            refine WL.det (op_move rfl) rfl rfl rfl ?_
            refine WL.yes rfl rfl rfl (ltb rfl) rfl hb9 ?_
            refine WL.det (op_move rfl) rfl rfl rfl ?_
            refine WL.yes rfl rfl rfl (ltb rfl) rfl hb9 ?_
            refine WL.det (op_byte (i := i) rfl rfl rfl Tryd.runUnderlying9 (by omega)) rfl rfl rfl ?_
            refine WL.yes rfl rfl rfl (ltb rfl) rfl hb9 ?_
            refine WL.det (op_gti rfl rfl) rfl rfl rfl ?_
            refine WL.det (op_pick_f rfl hb9 rfl) rfl rfl rfl ?_
            refine WL.end ?_
            refine NE.code ?_
            rcases Bool.eq_false_or_eq_true (decide ((57 : Int) < ((byt s i : Nat) : Int))) with hb10 | hb10
            · have hp10 := of_decide_eq_true hb10
              refine CE.cond_t rfl hb10 ?_
              refine CE.seq ?_
              refine CE.region ?_
              refine WL.det (op_assign rfl) rfl rfl rfl ?_
              refine WL.det (op_assign rfl) rfl rfl rfl ?_
              refine WL.end ?_
              refine NE.code ?_
              refine CE.ret' ?_
              refine XE.ret_then ?_
              refine XE.ret_blk ?_
              refine XE.ret_then ?_
              refine XE.ret_then ?_
              refine XE.ret_blk ?_
              refine XE.ret_then ?_
              refine XE.leaveT Tryd.results46 (res_tmp rfl (res_tmp rfl res_nil)) ?_
              refine ⟨?_, ((Mod.refl [] w).nt m2)⟩
              all_goals first | (rw [n9_a (by omega)]; rfl) | (rw [n9_b (by omega) (by omega)]; rfl) | (rw [n9_c (s := s) (i := i) (by omega) (by omega)]; rfl) | (have e9 : i = s.size := (by omega); subst e9; rw [n9_d (by omega) (by omega) (by omega) hu]; rfl)
            · have hp10 := of_decide_eq_false hb10
              refine CE.cond_f rfl hb10 ?_
              refine CE.skip' ?_
              refine NE.code ?_
              refine CE.region ?_
              refine WL.det (op_move rfl) rfl rfl rfl ?_
              refine WL.det (op_mul (r := ((n * 10 : Nat) : Int)) rfl rfl (w_i64 (by omega) (by omega))) rfl rfl rfl ?_
              refine WL.det (op_move rfl) rfl rfl rfl ?_
              refine WL.det (op_move rfl) rfl rfl rfl ?_
              refine WL.det (op_byte (i := i) rfl rfl rfl Tryd.runUnderlying9 (by omega)) rfl rfl rfl ?_
              refine WL.det (op_sub (r := ((byt s i - 48 : Nat) : Int)) rfl rfl (dig_sub (by omega) (byt_lt _ _))) rfl rfl rfl ?_
              refine WL.det (op_cvt_ii (r := ((byt s i - 48 : Nat) : Int)) rfl Tryd.runUnderlying5 Tryd.runUnderlying2 (w_i64 (by omega) (by omega))) rfl rfl rfl ?_
              refine WL.det (op_add (r := ((n * 10 + (byt s i - 48) : Nat) : Int)) rfl rfl (w_i64 (by omega) (by omega))) rfl rfl rfl ?_
              refine WL.det (op_assign rfl) rfl rfl rfl ?_
              refine WL.end ?_
              refine NE.blk ?_
              refine NE.code ?_
              refine CE.region ?_
              refine WL.det (op_move rfl) rfl rfl rfl ?_
              refine WL.det (op_add (r := ((i + 1 : Nat) : Int)) rfl rfl (w_i64 (by omega) (by omega))) rfl rfl rfl ?_
              refine WL.det (op_assign rfl) rfl rfl rfl ?_
              refine WL.end ?_
              exact NE.again ((i + 1), (n * 10 + (byt s i - 48))) (⟨rfl, rfl, rfl, rfl, rfl, trivial⟩) ⟨(by omega), (by exact digs_next hu (by omega) (by omega) (by omega)), (by exact digs_bd (digs_next hu (by omega) (by omega) (by omega)) (by omega)), m2⟩ (by first | (dsimp only; omega) | omega)
        · have hp8 := of_decide_eq_false hb8
          refine CE.cond_f rfl hb8 ?_
          refine CE.exit' ?_
          refine XE.exit_then ?_
          refine XE.exit_then ?_
          refine XE.exit_here ?_
          refine NE.code ?_
          refine CE.seq ?_
          refine CE.region ?_
          refine WL.det (op_move rfl) rfl rfl rfl ?_
          refine WL.det (op_assign rfl) rfl rfl rfl ?_
          refine WL.det (op_assign rfl) rfl rfl rfl ?_
          refine WL.end ?_
          refine NE.code ?_
          refine CE.ret' ?_
          refine XE.leaveT Tryd.results46 (res_tmp rfl (res_tmp rfl res_nil)) ?_
          refine ⟨?_, ((Mod.refl [] w).nt m2)⟩
          all_goals first | (rw [n9_a (by omega)]; rfl) | (rw [n9_b (by omega) (by omega)]; rfl) | (rw [n9_c (s := s) (i := i) (by omega) (by omega)]; rfl) | (have e9 : i = s.size := (by omega); subst e9; rw [n9_d (by omega) (by omega) (by omega) hu]; rfl)

set_option maxRecDepth 100000 in
set_option maxHeartbeats 2000000 in
theorem c_l08Whole (s : ByteArray) (hs : s.size ≤ 1048576) (w : World) : Cl Tryd.prog 34 #[.string s] w fun v w' => v = .tuple #[vI ((((wholeF (tl s)).getD 0) : Nat) : Int), .bool ((wholeF (tl s)).isSome)] ∧ Mod [] w w' := by
  refine Cl.of Tryd.func34 Tryd.ntmps34 rfl rfl (ρ := [(0, .string s)]) rfl ?_
  refine CE.seq ?_
  refine CE.region ?_
  refine WL.det (op_assign rfl) rfl rfl rfl ?_
  refine WL.det (op_assign rfl) rfl rfl rfl ?_
  refine WL.end ?_
  refine NE.code ?_
  refine CE.seq ?_
  refine CE.seq ?_
  refine CE.region ?_
  refine WL.det (op_move rfl) rfl rfl rfl ?_
  refine WL.det (op_lens rfl Tryd.runUnderlying9) rfl rfl rfl ?_
  refine WL.det (op_gti rfl rfl) rfl rfl rfl ?_
  refine WL.end ?_
  refine NE.code ?_
  rcases Bool.eq_false_or_eq_true (decide ((6 : Int) < ((s.size : Nat) : Int))) with hb1 | hb1
  · have hp1 := of_decide_eq_true hb1
    refine CE.cond_t rfl hb1 ?_
    refine CE.seq ?_
    refine CE.region ?_
    refine WL.det (op_assign rfl) rfl rfl rfl ?_
    refine WL.det (op_assign rfl) rfl rfl rfl ?_
    refine WL.end ?_
    refine NE.code ?_
    refine CE.ret' ?_
    refine XE.ret_then ?_
    refine XE.leaveT Tryd.results34 (res_tmp rfl (res_tmp rfl res_nil)) ?_
    refine ⟨?_, (Mod.refl [] w)⟩
    all_goals first | (rw [wf_a (by omega)]; rfl) | (rw [wf_b (by omega)]; done) | (rw [wf_b (by omega)]; rfl)
  · have hp1 := of_decide_eq_false hb1
    refine CE.cond_f rfl hb1 ?_
    refine CE.skip' ?_
    refine NE.code ?_
    refine CE.seq ?_
    refine CE.region ?_
    refine WL.det (op_move rfl) rfl rfl rfl ?_
    refine WL.call (oc_call (vs := [.string s]) (cap := []) rfl rfl rfl Tryd.call46 (c_l01Number s (by first | assumption | omega | exact h3 _) w)) rfl rfl (ltb rfl) ?_
    rintro _ w1 ⟨rfl, m1⟩
    refine WL.det (op_extract rfl rfl) rfl rfl rfl ?_
    refine WL.det (op_extract rfl rfl) rfl rfl rfl ?_
    refine WL.det (op_assign rfl) rfl rfl rfl ?_
    refine WL.det (op_assign rfl) rfl rfl rfl ?_
    refine WL.end ?_
    refine NE.code ?_
    refine CE.ret' ?_
    refine XE.leaveT Tryd.results34 (res_tmp rfl (res_tmp rfl res_nil)) ?_
    refine ⟨?_, ((Mod.refl [] w).nt m1)⟩
    all_goals first | (rw [wf_a (by omega)]; rfl) | (rw [wf_b (by omega)]; done) | (rw [wf_b (by omega)]; rfl)

set_option maxRecDepth 100000 in
set_option maxHeartbeats 2000000 in
theorem c_l08Signed (s : ByteArray) (hs : s.size ≤ 1048576) (w : World) : Cl Tryd.prog 33 #[.string s] w fun v w' => v = .tuple #[vI ((sgF (tl s)).getD 0), .bool ((sgF (tl s)).isSome)] ∧ Mod [] w w' := by
  have hl9 := whole_lt6 (l := tl (s.extract 1 s.size)); have hsz := size_ext s 1 s.size (Nat.le_refl _)
  refine Cl.of Tryd.func33 Tryd.ntmps33 rfl rfl (ρ := [(0, .string s)]) rfl ?_
  refine CE.seq ?_
  refine CE.region ?_
  refine WL.det (op_assign rfl) rfl rfl rfl ?_
  refine WL.det (op_assign rfl) rfl rfl rfl ?_
  refine WL.end ?_
  refine NE.code ?_
  refine CE.seq ?_
  refine CE.seq ?_
  refine CE.region ?_
  refine WL.det (op_move rfl) rfl rfl rfl ?_
  refine WL.det (op_lens rfl Tryd.runUnderlying9) rfl rfl rfl ?_
  refine WL.det (op_gti rfl rfl) rfl rfl rfl ?_
  refine WL.det (op_move rfl) rfl rfl rfl ?_
  rcases Bool.eq_false_or_eq_true (decide ((0 : Int) < ((s.size : Nat) : Int))) with hb1 | hb1
  · have hp1 := of_decide_eq_true hb1
    refine WL.yes rfl rfl rfl (ltb rfl) rfl hb1 ?_
    refine WL.det (op_move rfl) rfl rfl rfl ?_
    refine WL.yes rfl rfl rfl (ltb rfl) rfl hb1 ?_
    refine WL.det (op_byte (i := 0) rfl rfl rfl Tryd.runUnderlying9 (by omega)) rfl rfl rfl ?_
    refine WL.yes rfl rfl rfl (ltb rfl) rfl hb1 ?_
    refine WL.det (op_eqi rfl rfl) rfl rfl rfl ?_
    refine WL.det (op_pick_t rfl hb1 rfl) rfl rfl rfl ?_
    refine WL.end ?_
    refine NE.code ?_
    rcases Bool.eq_false_or_eq_true ((((byt s 0 : Nat) : Int) == (45 : Int))) with hb2 | hb2
    · have hp2 := eq_of_beq hb2
      refine CE.cond_t rfl hb2 ?_
      refine CE.seq ?_
      refine CE.region ?_
      refine WL.det (op_move rfl) rfl rfl rfl ?_
      refine WL.det (op_strLo (i := 1) rfl rfl rfl Tryd.runUnderlying9 (by omega)) rfl rfl rfl ?_
      refine WL.call (oc_call (vs := [.string (s.extract 1 s.size)]) (cap := []) rfl rfl rfl Tryd.call34 (c_l08Whole (s.extract 1 s.size) (by first | assumption | omega | exact h3 _) w)) rfl rfl (ltb rfl) ?_
      rintro _ w1 ⟨rfl, m1⟩
      refine WL.det (op_move rfl) rfl rfl rfl ?_
      refine WL.det (op_extract rfl rfl) rfl rfl rfl ?_
      refine WL.det (op_extract rfl rfl) rfl rfl rfl ?_
      refine WL.det (op_assign rfl) rfl rfl rfl ?_
      refine WL.det (op_assign rfl) rfl rfl rfl ?_
      refine WL.end ?_
      refine NE.code ?_
      refine CE.seq ?_
      refine CE.region ?_
      refine WL.det (op_move rfl) rfl rfl rfl ?_
      refine WL.det (op_negi rfl (w_i64 (by omega) (by omega))) rfl rfl rfl ?_
      refine WL.det (op_move rfl) rfl rfl rfl ?_
      refine WL.det (op_assign rfl) rfl rfl rfl ?_
      refine WL.det (op_assign rfl) rfl rfl rfl ?_
      refine WL.end ?_
      refine NE.code ?_
      refine CE.ret' ?_
      refine XE.ret_then ?_
      refine XE.leaveT Tryd.results33 (res_tmp rfl (res_tmp rfl res_nil)) ?_
      refine ⟨?_, ((Mod.refl [] w).nt m1)⟩
      all_goals first | (rw [sgS_t (by omega) (by omega)]; cases wholeF (tl (s.extract 1 s.size)) <;> rfl) | (rw [sgS_f (by omega)]; cases wholeF (tl s) <;> rfl)
    · have hp2 := ne_of_beq_false hb2
      refine CE.cond_f rfl hb2 ?_
      refine CE.skip' ?_
      refine NE.code ?_
      refine CE.seq ?_
      refine CE.region ?_
      refine WL.det (op_move rfl) rfl rfl rfl ?_
      refine WL.call (oc_call (vs := [.string s]) (cap := []) rfl rfl rfl Tryd.call34 (c_l08Whole s (by first | assumption | omega | exact h3 _) w)) rfl rfl (ltb rfl) ?_
      rintro _ w2 ⟨rfl, m2⟩
      refine WL.det (op_extract rfl rfl) rfl rfl rfl ?_
      refine WL.det (op_extract rfl rfl) rfl rfl rfl ?_
      refine WL.det (op_assign rfl) rfl rfl rfl ?_
      refine WL.det (op_assign rfl) rfl rfl rfl ?_
      refine WL.end ?_
      refine NE.code ?_
      refine CE.ret' ?_
      refine XE.leaveT Tryd.results33 (res_tmp rfl (res_tmp rfl res_nil)) ?_
      refine ⟨?_, ((Mod.refl [] w).nt m2)⟩
      all_goals first | (rw [sgS_t (by omega) (by omega)]; cases wholeF (tl (s.extract 1 s.size)) <;> rfl) | (rw [sgS_f (by omega)]; cases wholeF (tl s) <;> rfl)
  · have hp1 := of_decide_eq_false hb1
    refine WL.no rfl rfl rfl (ltb rfl) rfl hb1 rfl (ltb rfl) ?_
    refine WL.no rfl rfl rfl (ltb rfl) rfl hb1 rfl (ltb rfl) ?_
    refine WL.no rfl rfl rfl (ltb rfl) rfl hb1 rfl (ltb rfl) ?_
    refine WL.det (op_pick_f rfl hb1 rfl) rfl rfl rfl ?_
    refine WL.end ?_
    refine NE.code ?_
    refine CE.cond_f rfl rfl ?_
    refine CE.skip' ?_
    refine NE.code ?_
    refine CE.seq ?_
    refine CE.region ?_
    refine WL.det (op_move rfl) rfl rfl rfl ?_
    refine WL.call (oc_call (vs := [.string s]) (cap := []) rfl rfl rfl Tryd.call34 (c_l08Whole s (by first | assumption | omega | exact h3 _) w)) rfl rfl (ltb rfl) ?_
    rintro _ w3 ⟨rfl, m3⟩
    refine WL.det (op_extract rfl rfl) rfl rfl rfl ?_
    refine WL.det (op_extract rfl rfl) rfl rfl rfl ?_
    refine WL.det (op_assign rfl) rfl rfl rfl ?_
    refine WL.det (op_assign rfl) rfl rfl rfl ?_
    refine WL.end ?_
    refine NE.code ?_
    refine CE.ret' ?_
    refine XE.leaveT Tryd.results33 (res_tmp rfl (res_tmp rfl res_nil)) ?_
    refine ⟨?_, ((Mod.refl [] w).nt m3)⟩
    all_goals first | (rw [sgS_t (by omega) (by omega)]; cases wholeF (tl (s.extract 1 s.size)) <;> rfl) | (rw [sgS_f (by omega)]; cases wholeF (tl s) <;> rfl)

set_option maxRecDepth 100000 in
set_option maxHeartbeats 2000000 in
theorem c_l01Split (s : ByteArray) (c : Nat) (hs : s.size ≤ 1048576) (w : World) : Cl Tryd.prog 32 #[.string s, .int .u8 ((c : Nat) : Int)] w fun v w' => ∃ (b' : Nat) (c' : Nat) (A' : Option Addr) (n' : Nat), v = .slice A' n' c' ∧ (0 < n' → A' = some ⟨b', 0, none⟩) ∧ ((splW s c).length = n') ∧ (∀ i, ((splW s c).getD i StrR.d).s.size ≤ 1048576) ∧ (0 < n') ∧ Row w' b' 0 (cat StrR.cells (splW s c)) ∧ w.heap.size ≤ b' ∧ Mod [] w w' := by
  refine Cl.of Tryd.func32 Tryd.ntmps32 rfl rfl (ρ := [(0, .string s), (1, .int .u8 ((c : Nat) : Int))]) rfl ?_
  refine CE.seq ?_
  refine CE.region ?_
  refine WL.det (op_assign rfl) rfl rfl rfl ?_
  refine WL.end ?_
  refine NE.code ?_
  refine CE.seq ?_
  refine CE.region ?_
  refine WL.op (op_emptySl rfl Tryd.runUnderlying54 Tryd.sizeOf9) rfl rfl (ltb rfl) ?_
  rintro _ w1 ⟨rfl, r1, m1, z1⟩
  refine WL.det (op_assign rfl) rfl rfl rfl ?_
  refine WL.end ?_
  refine NE.code ?_
  refine CE.seq ?_
  refine CE.region ?_
  refine WL.det (op_assign rfl) rfl rfl rfl ?_
  refine WL.end ?_
  refine NE.code ?_
  refine CE.seq ?_
  refine CE.seq ?_
  refine CE.region ?_
  refine WL.det (op_assign rfl) rfl rfl rfl ?_
  refine WL.end ?_
  refine NE.code ?_
  refine CE.block ?_
  refine CE.loop (fun (z : Nat × Nat × Nat × Option Addr × Nat × List StrR) => [(7, vI ((z.1 : Nat) : Int)), (6, vI ((z.2.1 : Nat) : Int)), (5, .slice z.2.2.2.1 z.2.2.1 z.2.2.2.2.1), (0, .string s), (1, .int .u8 ((c : Nat) : Int)), (4, .slice none 0 0)]) (fun (z : Nat × Nat × Nat × Option Addr × Nat × List StrR) => fun W => (z.1 ≤ s.size) ∧ (z.2.1 ≤ z.1) ∧ (splG s c z.1 = (z.2.2.2.2.2, z.2.1)) ∧ (z.2.2.2.2.2.length = z.2.2.1) ∧ (z.2.2.1 ≤ z.1) ∧ Own 9 1 w1.heap.size W z.2.2.2.1 z.2.2.1 z.2.2.2.2.1 (cat StrR.cells z.2.2.2.2.2) ∧ Mod [] w1 W) (fun (z : Nat × Nat × Nat × Option Addr × Nat × List StrR) => s.size - z.1) (0, 0, 0, (some ⟨w.heap.size, 0, none⟩), 0, []) (⟨rfl, rfl, rfl, rfl, rfl, rfl, trivial⟩) ⟨(by omega), (by exact Nat.le_refl _), (by rfl), (by rfl), (by exact Nat.le_refl _), (Own.congr Own.emp (rfl)), Mod.refl _ _⟩ ?_
  rintro ⟨i, fr, nn, A2, cc, ys⟩ w2 ⟨hi, hf, hy, hly, hnn, ow1, m2⟩
  replace hi : i ≤ s.size := hi
  replace hf : fr ≤ i := hf
  replace hy : splG s c i = (ys, fr) := hy
  replace hly : ys.length = nn := hly
  replace hnn : nn ≤ i := hnn
  replace ow1 : Own 9 1 w1.heap.size w2 A2 nn cc (cat StrR.cells ys) := ow1
  show CE _ _ _ _ [(7, vI ((i : Nat) : Int)), (6, vI ((fr : Nat) : Int)), (5, .slice A2 nn cc), (0, .string s), (1, .int .u8 ((c : Nat) : Int)), (4, .slice none 0 0)] _
  refine CE.seq ?_
  refine CE.seq ?_
  refine CE.region ?_
  refine WL.det (op_move rfl) rfl rfl rfl ?_
  refine WL.det (op_move rfl) rfl rfl rfl ?_
  refine WL.det (op_lens rfl Tryd.runUnderlying9) rfl rfl rfl ?_
  refine WL.det (op_lti rfl rfl) rfl rfl rfl ?_
  refine WL.end ?_
  refine NE.code ?_
  rcases Bool.eq_false_or_eq_true (decide (((i : Nat) : Int) < ((s.size : Nat) : Int))) with hb1 | hb1
  · have hp1 := of_decide_eq_true hb1
    refine CE.cond_t rfl hb1 ?_
    refine CE.skip' ?_
    refine NE.code ?_
    refine CE.seq ?_
    refine CE.block ?_
    refine CE.seq ?_
    refine CE.region ?_
    refine WL.det (op_move rfl) rfl rfl rfl ?_
    refine WL.det (op_move rfl) rfl rfl rfl ?_
    refine WL.det (op_byte (i := i) rfl rfl rfl Tryd.runUnderlying9 (by omega)) rfl rfl rfl ?_
    refine WL.det (op_move rfl) rfl rfl rfl ?_
    refine WL.det (op_eqi rfl rfl) rfl rfl rfl ?_
    refine WL.end ?_
    refine NE.code ?_
    rcases Bool.eq_false_or_eq_true ((((byt s i : Nat) : Int) == ((c : Nat) : Int))) with hb2 | hb2
    · have hp2 := eq_of_beq hb2
      refine CE.cond_t rfl hb2 ?_
      refine CE.seq ?_
      refine CE.region ?_
      refine WL.det (op_move rfl) rfl rfl rfl ?_
      refine WL.det (op_move rfl) rfl rfl rfl ?_
      refine WL.det (op_move rfl) rfl rfl rfl ?_
      refine WL.det (op_move rfl) rfl rfl rfl ?_
      refine WL.det (op_strLH (i := fr) (j := i) rfl rfl rfl rfl rfl Tryd.runUnderlying9 (by omega) (by omega)) rfl rfl rfl ?_
      refine WL.op (op_buildSl (qs := [(0, .string (s.extract fr i))]) (cells := #[.string (s.extract fr i)]) rfl Tryd.runUnderlying54 Tryd.sizeOf9 Tryd.zeroValue9 (by decide) (by decide) (by kernel_rfl)) rfl rfl (ltb rfl) ?_
      rintro _ w3 ⟨rfl, r2, m3, z2⟩
      refine WL.op (op_app (i := Tryd.t9) (m := 1) (bt := 16) (news := [.string (s.extract fr i)]) rfl rfl Tryd.underlying54 rfl rfl rfl rfl rfl (by decide) r2.rng rfl rfl (ow1.ext m3) (lT m2.size m3.size) (by omega) (by decide)) rfl rfl (ltb rfl) ?_
      rintro _ w4 ⟨A1, c1, b1, rfl, ow2, ge1, m4⟩
      refine WL.det (op_assign rfl) rfl rfl rfl ?_
      refine WL.end ?_
      refine NE.code ?_
      refine CE.region ?_
      refine WL.det (op_move rfl) rfl rfl rfl ?_
      refine WL.det (op_add (r := ((i + 1 : Nat) : Int)) rfl rfl (w_i64 (by omega) (by omega))) rfl rfl rfl ?_
      refine WL.det (op_assign rfl) rfl rfl rfl ?_
      refine WL.end ?_
      refine NE.blk ?_
      refine NE.code ?_
      refine CE.region ?_
      refine WL.det (op_move rfl) rfl rfl rfl ?_
      refine WL.det (op_add (r := ((i + 1 : Nat) : Int)) rfl rfl (w_i64 (by omega) (by omega))) rfl rfl rfl ?_
      refine WL.det (op_assign rfl) rfl rfl rfl ?_
      refine WL.end ?_
      exact NE.again ((i + 1), (i + 1), (nn + 1), A1, c1, (ys ++ [⟨s.extract fr i⟩])) (⟨rfl, rfl, rfl, rfl, rfl, rfl, trivial⟩) ⟨(by omega), (by first | (dsimp only; omega) | omega), (by first | exact splI_t hy (by omega) | exact splI_f hy (by omega)), (by first | exact hly | (rw [List.length_append, hly]; rfl)), (by dsimp only; omega), (Own.congr ow2 (by first | rfl | exact str_snocE _ _)), ((m2.nt m3).then m4 ((aC (.inr ge1) aN)))⟩ (by first | (dsimp only; omega) | omega)
    · have hp2 := ne_of_beq_false hb2
      refine CE.cond_f rfl hb2 ?_
      refine CE.skip' ?_
      refine NE.blk ?_
      refine NE.code ?_
      refine CE.region ?_
      refine WL.det (op_move rfl) rfl rfl rfl ?_
      refine WL.det (op_add (r := ((i + 1 : Nat) : Int)) rfl rfl (w_i64 (by omega) (by omega))) rfl rfl rfl ?_
      refine WL.det (op_assign rfl) rfl rfl rfl ?_
      refine WL.end ?_
      exact NE.again ((i + 1), fr, nn, A2, cc, ys) (⟨rfl, rfl, rfl, rfl, rfl, rfl, trivial⟩) ⟨(by omega), (by first | (dsimp only; omega) | omega), (by first | exact splI_t hy (by omega) | exact splI_f hy (by omega)), (by first | exact hly | (rw [List.length_append, hly]; rfl)), (by dsimp only; omega), (Own.congr ow1 (by first | rfl | exact str_snocE _ _)), m2⟩ (by first | (dsimp only; omega) | omega)
  · have hp1 := of_decide_eq_false hb1
    refine CE.cond_f rfl hb1 ?_
    refine CE.exit' ?_
    refine XE.exit_then ?_
    refine XE.exit_then ?_
    refine XE.exit_here ?_
    refine NE.code ?_
    refine CE.seq ?_
    refine CE.region ?_
    refine WL.det (op_move rfl) rfl rfl rfl ?_
    refine WL.det (op_move rfl) rfl rfl rfl ?_
    refine WL.det (op_move rfl) rfl rfl rfl ?_
    refine WL.det (op_strLo (i := fr) rfl rfl rfl Tryd.runUnderlying9 (by omega)) rfl rfl rfl ?_
    refine WL.op (op_buildSl (qs := [(0, .string (s.extract fr s.size))]) (cells := #[.string (s.extract fr s.size)]) rfl Tryd.runUnderlying54 Tryd.sizeOf9 Tryd.zeroValue9 (by decide) (by decide) (by kernel_rfl)) rfl rfl (ltb rfl) ?_
    rintro _ w5 ⟨rfl, r3, m5, z3⟩
    refine WL.op (op_app (i := Tryd.t9) (m := 1) (bt := 16) (news := [.string (s.extract fr s.size)]) rfl rfl Tryd.underlying54 rfl rfl rfl rfl rfl (by decide) r3.rng rfl rfl (ow1.ext m5) (lT m2.size m5.size) (by omega) (by decide)) rfl rfl (ltb rfl) ?_
    rintro _ w6 ⟨A2, c2, b2, rfl, ow3, ge2, m6⟩
    refine WL.det (op_assign rfl) rfl rfl rfl ?_
    refine WL.end ?_
    refine NE.code ?_
    refine CE.ret' ?_
    have ei : s.size = i := by omega
    subst ei
    obtain ⟨b3, hA1, r4, hq1⟩ := Own.out ow3 (((r1.ext m2).ext m5).mod m6 (nC (lE (lL r1.lt ge2)) nN))
    refine XE.leave1 Tryd.results32 rfl ?_
    refine ⟨b3, c2, A2, (nn + 1), rfl, hA1, ?_, ?_, ?_, (Row.congr r4 ?_), (own_ge hq1 lR m1.size), (((((Mod.refl [] w).nt m1).nt m2).nt m5).then m6 ((aC (.inr (lT m1.size ge2)) aN)))⟩
    all_goals first | assumption | omega | exact fun i => Nat.le_trans (splW_size s c i) hs | (rw [splW_of (by assumption), List.length_append, hly]; rfl) | (rw [splW_of (by assumption)]; exact str_snocE _ _)

set_option maxRecDepth 100000 in
set_option maxHeartbeats 2000000 in
theorem c_l08Frac (s : ByteArray) (hs : s.size ≤ 1048576) (w : World) : Cl Tryd.prog 20 #[.string s] w fun v w' => ∃ (z : Nat), v = .tuple #[vF z, .bool (frOkS s)] ∧ (cn .f32 z = cn .f32 (frVS s)) ∧ Mod [] w w' := by
  have hW0 := splW_pos s 47; have hz := splW_size s 47; have hq6 := whole_lt6 (l := word1 s)
  refine Cl.of Tryd.func20 Tryd.ntmps20 rfl rfl (ρ := [(0, .string s)]) rfl ?_
  refine CE.seq ?_
  refine CE.region ?_
  refine WL.det (op_assign rfl) rfl rfl rfl ?_
  refine WL.det (op_assign rfl) rfl rfl rfl ?_
  refine WL.end ?_
  refine NE.code ?_
  refine CE.seq ?_
  refine CE.region ?_
  refine WL.det (op_move rfl) rfl rfl rfl ?_
  refine WL.call (oc_call (vs := [.string s, .int .u8 47]) (cap := []) rfl rfl rfl Tryd.call32 (c_l01Split s 47 (by first | assumption | omega | exact h3 _) w)) rfl rfl (ltb rfl) ?_
  rintro _ w1 ⟨b'1, c'1, A'1, n'1, rfl, h1, h2, h3, h4, r1, ge1, m1⟩
  refine WL.det (op_assign rfl) rfl rfl rfl ?_
  refine WL.end ?_
  refine NE.code ?_
  refine CE.seq ?_
  refine CE.region ?_
  refine WL.det (op_move rfl) rfl rfl rfl ?_
  refine WL.det (op_indexSl (off' := 0) rfl (h1 (by omega)) rfl Tryd.runUnderlying54 Tryd.sizeOf9 (by omega) (by omega) rfl) rfl rfl rfl ?_
  refine WL.det (op_load1 (i := 0 * 1) rfl Tryd.isAgg9 r1.rng rfl (cat_get0 (f := StrR.cells) (m := 1) (i := 0) (d := StrR.d) (fun _ => rfl) (by have eL : List.length (splW s 47) = n'1 := h2; omega) rfl)) rfl rfl rfl ?_
  refine WL.call (oc_call (vs := [.string (((splW s 47).getD 0 StrR.d).s)]) (cap := []) rfl rfl rfl Tryd.call33 (c_l08Signed (((splW s 47).getD 0 StrR.d).s) (by first | assumption | omega | exact h3 _) w1)) rfl rfl (ltb rfl) ?_
  rintro _ w2 ⟨rfl, m2⟩
  refine WL.det (op_move rfl) rfl rfl rfl ?_
  refine WL.det (op_extract rfl rfl) rfl rfl rfl ?_
  refine WL.det (op_extract rfl rfl) rfl rfl rfl ?_
  refine WL.det (op_assign rfl) rfl rfl rfl ?_
  refine WL.det (op_assign rfl) rfl rfl rfl ?_
  refine WL.end ?_
  refine NE.code ?_
  refine CE.seq ?_
  refine CE.seq ?_
  refine CE.region ?_
  refine WL.det (op_move rfl) rfl rfl rfl ?_
  refine WL.det (op_not rfl) rfl rfl rfl ?_
  refine WL.det (op_move rfl) rfl rfl rfl ?_
  rcases Bool.eq_false_or_eq_true ((sgF (tl (((splW s 47).getD 0 StrR.d).s))).isSome) with hb1 | hb1
  · refine WL.yes rfl rfl rfl (ltb rfl) rfl (bnot_t hb1) ?_
    refine WL.det (op_move rfl) rfl rfl rfl ?_
    refine WL.yes rfl rfl rfl (ltb rfl) rfl (bnot_t hb1) ?_
    refine WL.det (op_len rfl Tryd.runUnderlying54) rfl rfl rfl ?_
    refine WL.yes rfl rfl rfl (ltb rfl) rfl (bnot_t hb1) ?_
    refine WL.det (op_gti rfl rfl) rfl rfl rfl ?_
    refine WL.det (op_pick_f rfl (bnot_t hb1) rfl) rfl rfl rfl ?_
    refine WL.end ?_
    refine NE.code ?_
    rcases Bool.eq_false_or_eq_true (decide ((2 : Int) < ((n'1 : Nat) : Int))) with hb2 | hb2
    · have hp2 := of_decide_eq_true hb2
      refine CE.cond_t rfl hb2 ?_
      refine CE.seq ?_
      refine CE.region ?_
      refine WL.det (op_assign rfl) rfl rfl rfl ?_
      refine WL.det (op_assign rfl) rfl rfl rfl ?_
      refine WL.end ?_
      refine NE.code ?_
      refine CE.ret' ?_
      refine XE.ret_then ?_
      refine XE.leaveT Tryd.results20 (res_tmp rfl (res_tmp rfl res_nil)) ?_
      refine ⟨0, ?_, ?_, (((Mod.refl [] w).nt m1).nt m2)⟩
      all_goals (subst h2; first | (rw [(frS_a (s := s) (by assumption)).1]; done) | (rw [(frS_a (s := s) (by assumption)).1]; rfl) | (rw [(frS_a (s := s) (by assumption)).2]; first | done | assumption | rfl) | (rw [(frS_b (s := s) (by omega)).1]; done) | (rw [(frS_b (s := s) (by omega)).1]; rfl) | (rw [(frS_b (s := s) (by omega)).2]; first | done | assumption | rfl) | (rw [(frS_1 (s := s) (by assumption) (by omega)).1]; done) | (rw [(frS_1 (s := s) (by assumption) (by omega)).1]; rfl) | (rw [(frS_1 (s := s) (by assumption) (by omega)).2]; first | done | assumption | rfl) | (rw [(frS_c1 (s := s) (by omega) (by assumption)).1]; done) | (rw [(frS_c1 (s := s) (by omega) (by assumption)).1]; rfl) | (rw [(frS_c1 (s := s) (by omega) (by assumption)).2]; first | done | assumption | rfl) | (rw [(frS_c2 (s := s) (by omega) (by omega)).1]; done) | (rw [(frS_c2 (s := s) (by omega) (by omega)).1]; rfl) | (rw [(frS_c2 (s := s) (by omega) (by omega)).2]; first | done | assumption | rfl) | (rw [(frS_c3 (s := s) (by omega) (by assumption)).1]; done) | (rw [(frS_c3 (s := s) (by omega) (by assumption)).1]; rfl) | (rw [(frS_c3 (s := s) (by omega) (by assumption)).2]; first | done | assumption | rfl) | (rw [(frS_2 (s := s) (by assumption) (by omega) (by omega) (by assumption) (by omega) (by omega) (by assumption)).1]; done) | (rw [(frS_2 (s := s) (by assumption) (by omega) (by omega) (by assumption) (by omega) (by omega) (by assumption)).1]; rfl) | (rw [(frS_2 (s := s) (by assumption) (by omega) (by omega) (by assumption) (by omega) (by omega) (by assumption)).2]; first | done | assumption | rfl))
    · have hp2 := of_decide_eq_false hb2
      refine CE.cond_f rfl hb2 ?_
      refine CE.skip' ?_
      refine NE.code ?_
      refine CE.seq ?_
      refine CE.seq ?_
      refine CE.region ?_
      refine WL.det (op_move rfl) rfl rfl rfl ?_
      refine WL.det (op_len rfl Tryd.runUnderlying54) rfl rfl rfl ?_
      refine WL.det (op_eqi rfl rfl) rfl rfl rfl ?_
      refine WL.end ?_
      refine NE.code ?_
      rcases Bool.eq_false_or_eq_true ((((n'1 : Nat) : Int) == (1 : Int))) with hb3 | hb3
      · have hp3 := eq_of_beq hb3
        refine CE.cond_t rfl hb3 ?_
        refine CE.seq ?_
        refine CE.region ?_
        refine WL.det (op_move rfl) rfl rfl rfl ?_
        refine WL.det (op_cvt_if rfl Tryd.runUnderlying2 Tryd.runUnderlying22) rfl rfl rfl ?_
        refine WL.det (op_assign rfl) rfl rfl rfl ?_
        refine WL.det (op_assign rfl) rfl rfl rfl ?_
        refine WL.end ?_
        refine NE.code ?_
        refine CE.ret' ?_
        refine XE.ret_then ?_
        refine XE.leaveT Tryd.results20 (res_tmp rfl (res_tmp rfl res_nil)) ?_
        refine ⟨(FloatKind.f32.nearest ((sgF (tl (((splW s 47).getD 0 StrR.d).s))).getD 0)), ?_, ?_, (((Mod.refl [] w).nt m1).nt m2)⟩
        all_goals (subst h2; first | (rw [(frS_a (s := s) (by assumption)).1]; done) | (rw [(frS_a (s := s) (by assumption)).1]; rfl) | (rw [(frS_a (s := s) (by assumption)).2]; first | done | assumption | rfl) | (rw [(frS_b (s := s) (by omega)).1]; done) | (rw [(frS_b (s := s) (by omega)).1]; rfl) | (rw [(frS_b (s := s) (by omega)).2]; first | done | assumption | rfl) | (rw [(frS_1 (s := s) (by assumption) (by omega)).1]; done) | (rw [(frS_1 (s := s) (by assumption) (by omega)).1]; rfl) | (rw [(frS_1 (s := s) (by assumption) (by omega)).2]; first | done | assumption | rfl) | (rw [(frS_c1 (s := s) (by omega) (by assumption)).1]; done) | (rw [(frS_c1 (s := s) (by omega) (by assumption)).1]; rfl) | (rw [(frS_c1 (s := s) (by omega) (by assumption)).2]; first | done | assumption | rfl) | (rw [(frS_c2 (s := s) (by omega) (by omega)).1]; done) | (rw [(frS_c2 (s := s) (by omega) (by omega)).1]; rfl) | (rw [(frS_c2 (s := s) (by omega) (by omega)).2]; first | done | assumption | rfl) | (rw [(frS_c3 (s := s) (by omega) (by assumption)).1]; done) | (rw [(frS_c3 (s := s) (by omega) (by assumption)).1]; rfl) | (rw [(frS_c3 (s := s) (by omega) (by assumption)).2]; first | done | assumption | rfl) | (rw [(frS_2 (s := s) (by assumption) (by omega) (by omega) (by assumption) (by omega) (by omega) (by assumption)).1]; done) | (rw [(frS_2 (s := s) (by assumption) (by omega) (by omega) (by assumption) (by omega) (by omega) (by assumption)).1]; rfl) | (rw [(frS_2 (s := s) (by assumption) (by omega) (by omega) (by assumption) (by omega) (by omega) (by assumption)).2]; first | done | assumption | rfl))
      · have hp3 := ne_of_beq_false hb3
        refine CE.cond_f rfl hb3 ?_
        refine CE.skip' ?_
        refine NE.code ?_
        refine CE.seq ?_
        refine CE.region ?_
        refine WL.det (op_move rfl) rfl rfl rfl ?_
        refine WL.det (op_indexSl (off' := 1) rfl (h1 (by omega)) rfl Tryd.runUnderlying54 Tryd.sizeOf9 (by omega) (by omega) rfl) rfl rfl rfl ?_
        refine WL.det (op_load1 (i := 1 * 1) rfl Tryd.isAgg9 (r1.ext m2).rng rfl (cat_get0 (f := StrR.cells) (m := 1) (i := 1) (d := StrR.d) (fun _ => rfl) (by have eL : List.length (splW s 47) = n'1 := h2; omega) rfl)) rfl rfl rfl ?_
        refine WL.call (oc_call (vs := [.string (((splW s 47).getD 1 StrR.d).s)]) (cap := []) rfl rfl rfl Tryd.call34 (c_l08Whole (((splW s 47).getD 1 StrR.d).s) (by first | assumption | omega | exact h3 _) w2)) rfl rfl (ltb rfl) ?_
        rintro _ w3 ⟨rfl, m3⟩
        refine WL.det (op_move rfl) rfl rfl rfl ?_
        refine WL.det (op_extract rfl rfl) rfl rfl rfl ?_
        refine WL.det (op_extract rfl rfl) rfl rfl rfl ?_
        refine WL.det (op_assign rfl) rfl rfl rfl ?_
        refine WL.det (op_assign rfl) rfl rfl rfl ?_
        refine WL.end ?_
        refine NE.code ?_
        refine CE.seq ?_
        refine CE.seq ?_
        refine CE.region ?_
        refine WL.det (op_move rfl) rfl rfl rfl ?_
        refine WL.det (op_not rfl) rfl rfl rfl ?_
        refine WL.det (op_move rfl) rfl rfl rfl ?_
        rcases Bool.eq_false_or_eq_true ((wholeF (tl (((splW s 47).getD 1 StrR.d).s))).isSome) with hb4 | hb4
        · refine WL.yes rfl rfl rfl (ltb rfl) rfl (bnot_t hb4) ?_
          refine WL.det (op_move rfl) rfl rfl rfl ?_
          refine WL.yes rfl rfl rfl (ltb rfl) rfl (bnot_t hb4) ?_
          refine WL.det (op_lti rfl rfl) rfl rfl rfl ?_
          refine WL.det (op_pick_f rfl (bnot_t hb4) rfl) rfl rfl rfl ?_
          refine WL.det (op_move rfl) rfl rfl rfl ?_
          rcases Bool.eq_false_or_eq_true (decide (((((wholeF (tl (((splW s 47).getD 1 StrR.d).s))).getD 0) : Nat) : Int) < (2 : Int))) with hb5 | hb5
          · have hp5 := of_decide_eq_true hb5
            refine WL.no rfl rfl rfl (ltb rfl) rfl hb5 rfl (ltb rfl) ?_
            refine WL.no rfl rfl rfl (ltb rfl) rfl hb5 rfl (ltb rfl) ?_
            refine WL.det (op_pick_t rfl hb5 rfl) rfl rfl rfl ?_
            refine WL.det (op_move rfl) rfl rfl rfl ?_
            refine WL.no rfl rfl rfl (ltb rfl) rfl rfl rfl (ltb rfl) ?_
            refine WL.no rfl rfl rfl (ltb rfl) rfl rfl rfl (ltb rfl) ?_
            refine WL.no rfl rfl rfl (ltb rfl) rfl rfl rfl (ltb rfl) ?_
            refine WL.no rfl rfl rfl (ltb rfl) rfl rfl rfl (ltb rfl) ?_
            refine WL.no rfl rfl rfl (ltb rfl) rfl rfl rfl (ltb rfl) ?_
            refine WL.det (op_pick_t rfl rfl rfl) rfl rfl rfl ?_
            refine WL.end ?_
            refine NE.code ?_
            refine CE.cond_t rfl rfl ?_
            refine CE.seq ?_
            refine CE.region ?_
            refine WL.det (op_assign rfl) rfl rfl rfl ?_
            refine WL.det (op_assign rfl) rfl rfl rfl ?_
            refine WL.end ?_
            refine NE.code ?_
            refine CE.ret' ?_
            refine XE.ret_then ?_
            refine XE.leaveT Tryd.results20 (res_tmp rfl (res_tmp rfl res_nil)) ?_
            refine ⟨0, ?_, ?_, ((((Mod.refl [] w).nt m1).nt m2).nt m3)⟩
            all_goals (subst h2; first | (rw [(frS_a (s := s) (by assumption)).1]; done) | (rw [(frS_a (s := s) (by assumption)).1]; rfl) | (rw [(frS_a (s := s) (by assumption)).2]; first | done | assumption | rfl) | (rw [(frS_b (s := s) (by omega)).1]; done) | (rw [(frS_b (s := s) (by omega)).1]; rfl) | (rw [(frS_b (s := s) (by omega)).2]; first | done | assumption | rfl) | (rw [(frS_1 (s := s) (by assumption) (by omega)).1]; done) | (rw [(frS_1 (s := s) (by assumption) (by omega)).1]; rfl) | (rw [(frS_1 (s := s) (by assumption) (by omega)).2]; first | done | assumption | rfl) | (rw [(frS_c1 (s := s) (by omega) (by assumption)).1]; done) | (rw [(frS_c1 (s := s) (by omega) (by assumption)).1]; rfl) | (rw [(frS_c1 (s := s) (by omega) (by assumption)).2]; first | done | assumption | rfl) | (rw [(frS_c2 (s := s) (by omega) (by omega)).1]; done) | (rw [(frS_c2 (s := s) (by omega) (by omega)).1]; rfl) | (rw [(frS_c2 (s := s) (by omega) (by omega)).2]; first | done | assumption | rfl) | (rw [(frS_c3 (s := s) (by omega) (by assumption)).1]; done) | (rw [(frS_c3 (s := s) (by omega) (by assumption)).1]; rfl) | (rw [(frS_c3 (s := s) (by omega) (by assumption)).2]; first | done | assumption | rfl) | (rw [(frS_2 (s := s) (by assumption) (by omega) (by omega) (by assumption) (by omega) (by omega) (by assumption)).1]; done) | (rw [(frS_2 (s := s) (by assumption) (by omega) (by omega) (by assumption) (by omega) (by omega) (by assumption)).1]; rfl) | (rw [(frS_2 (s := s) (by assumption) (by omega) (by omega) (by assumption) (by omega) (by omega) (by assumption)).2]; first | done | assumption | rfl))
          · have hp5 := of_decide_eq_false hb5
            refine WL.yes rfl rfl rfl (ltb rfl) rfl hb5 ?_
            refine WL.det (op_move rfl) rfl rfl rfl ?_
            refine WL.yes rfl rfl rfl (ltb rfl) rfl hb5 ?_
            refine WL.det (op_gti rfl rfl) rfl rfl rfl ?_
            refine WL.det (op_pick_f rfl hb5 rfl) rfl rfl rfl ?_
            refine WL.det (op_move rfl) rfl rfl rfl ?_
            rcases Bool.eq_false_or_eq_true (decide ((1024 : Int) < ((((wholeF (tl (((splW s 47).getD 1 StrR.d).s))).getD 0) : Nat) : Int))) with hb6 | hb6
            · have hp6 := of_decide_eq_true hb6
              refine WL.no rfl rfl rfl (ltb rfl) rfl hb6 rfl (ltb rfl) ?_
              refine WL.no rfl rfl rfl (ltb rfl) rfl hb6 rfl (ltb rfl) ?_
              refine WL.no rfl rfl rfl (ltb rfl) rfl hb6 rfl (ltb rfl) ?_
              refine WL.no rfl rfl rfl (ltb rfl) rfl hb6 rfl (ltb rfl) ?_
              refine WL.no rfl rfl rfl (ltb rfl) rfl hb6 rfl (ltb rfl) ?_
              refine WL.det (op_pick_t rfl hb6 rfl) rfl rfl rfl ?_
              refine WL.end ?_
              refine NE.code ?_
              refine CE.cond_t rfl rfl ?_
              refine CE.seq ?_
              refine CE.region ?_
              refine WL.det (op_assign rfl) rfl rfl rfl ?_
              refine WL.det (op_assign rfl) rfl rfl rfl ?_
              refine WL.end ?_
              refine NE.code ?_
              refine CE.ret' ?_
              refine XE.ret_then ?_
              refine XE.leaveT Tryd.results20 (res_tmp rfl (res_tmp rfl res_nil)) ?_
              refine ⟨0, ?_, ?_, ((((Mod.refl [] w).nt m1).nt m2).nt m3)⟩
              all_goals (subst h2; first | (rw [(frS_a (s := s) (by assumption)).1]; done) | (rw [(frS_a (s := s) (by assumption)).1]; rfl) | (rw [(frS_a (s := s) (by assumption)).2]; first | done | assumption | rfl) | (rw [(frS_b (s := s) (by omega)).1]; done) | (rw [(frS_b (s := s) (by omega)).1]; rfl) | (rw [(frS_b (s := s) (by omega)).2]; first | done | assumption | rfl) | (rw [(frS_1 (s := s) (by assumption) (by omega)).1]; done) | (rw [(frS_1 (s := s) (by assumption) (by omega)).1]; rfl) | (rw [(frS_1 (s := s) (by assumption) (by omega)).2]; first | done | assumption | rfl) | (rw [(frS_c1 (s := s) (by omega) (by assumption)).1]; done) | (rw [(frS_c1 (s := s) (by omega) (by assumption)).1]; rfl) | (rw [(frS_c1 (s := s) (by omega) (by assumption)).2]; first | done | assumption | rfl) | (rw [(frS_c2 (s := s) (by omega) (by omega)).1]; done) | (rw [(frS_c2 (s := s) (by omega) (by omega)).1]; rfl) | (rw [(frS_c2 (s := s) (by omega) (by omega)).2]; first | done | assumption | rfl) | (rw [(frS_c3 (s := s) (by omega) (by assumption)).1]; done) | (rw [(frS_c3 (s := s) (by omega) (by assumption)).1]; rfl) | (rw [(frS_c3 (s := s) (by omega) (by assumption)).2]; first | done | assumption | rfl) | (rw [(frS_2 (s := s) (by assumption) (by omega) (by omega) (by assumption) (by omega) (by omega) (by assumption)).1]; done) | (rw [(frS_2 (s := s) (by assumption) (by omega) (by omega) (by assumption) (by omega) (by omega) (by assumption)).1]; rfl) | (rw [(frS_2 (s := s) (by assumption) (by omega) (by omega) (by assumption) (by omega) (by omega) (by assumption)).2]; first | done | assumption | rfl))
            · have hp6 := of_decide_eq_false hb6
              refine WL.yes rfl rfl rfl (ltb rfl) rfl hb6 ?_
              refine WL.det (op_move rfl) rfl rfl rfl ?_
              refine WL.yes rfl rfl rfl (ltb rfl) rfl hb6 ?_
              refine WL.det (op_move rfl) rfl rfl rfl ?_
              refine WL.yes rfl rfl rfl (ltb rfl) rfl hb6 ?_
              refine WL.det (op_sub (r := (((((wholeF (tl (((splW s 47).getD 1 StrR.d).s))).getD 0) : Nat) : Int) - (1 : Int))) rfl rfl (w_i64 (by omega) (by omega))) rfl rfl rfl ?_
              refine WL.yes rfl rfl rfl (ltb rfl) rfl hb6 ?_
              refine WL.det (op_and rfl rfl) rfl rfl rfl ?_
              refine WL.yes rfl rfl rfl (ltb rfl) rfl hb6 ?_
              refine WL.det (op_nei rfl rfl) rfl rfl rfl ?_
              refine WL.det (op_pick_f rfl hb6 rfl) rfl rfl rfl ?_
              refine WL.end ?_
              refine NE.code ?_
              rcases Bool.eq_false_or_eq_true (((bits .and .i64 ((((wholeF (tl (((splW s 47).getD 1 StrR.d).s))).getD 0) : Nat) : Int) (((((wholeF (tl (((splW s 47).getD 1 StrR.d).s))).getD 0) : Nat) : Int) - (1 : Int))) != (0 : Int))) with hb7 | hb7
              · have hp7 := bne_iff_ne.1 hb7
                refine CE.cond_t rfl hb7 ?_
                refine CE.seq ?_
                refine CE.region ?_
                refine WL.det (op_assign rfl) rfl rfl rfl ?_
                refine WL.det (op_assign rfl) rfl rfl rfl ?_
                refine WL.end ?_
                refine NE.code ?_
                refine CE.ret' ?_
                refine XE.ret_then ?_
                refine XE.leaveT Tryd.results20 (res_tmp rfl (res_tmp rfl res_nil)) ?_
                refine ⟨0, ?_, ?_, ((((Mod.refl [] w).nt m1).nt m2).nt m3)⟩
                all_goals (subst h2; first | (rw [(frS_a (s := s) (by assumption)).1]; done) | (rw [(frS_a (s := s) (by assumption)).1]; rfl) | (rw [(frS_a (s := s) (by assumption)).2]; first | done | assumption | rfl) | (rw [(frS_b (s := s) (by omega)).1]; done) | (rw [(frS_b (s := s) (by omega)).1]; rfl) | (rw [(frS_b (s := s) (by omega)).2]; first | done | assumption | rfl) | (rw [(frS_1 (s := s) (by assumption) (by omega)).1]; done) | (rw [(frS_1 (s := s) (by assumption) (by omega)).1]; rfl) | (rw [(frS_1 (s := s) (by assumption) (by omega)).2]; first | done | assumption | rfl) | (rw [(frS_c1 (s := s) (by omega) (by assumption)).1]; done) | (rw [(frS_c1 (s := s) (by omega) (by assumption)).1]; rfl) | (rw [(frS_c1 (s := s) (by omega) (by assumption)).2]; first | done | assumption | rfl) | (rw [(frS_c2 (s := s) (by omega) (by omega)).1]; done) | (rw [(frS_c2 (s := s) (by omega) (by omega)).1]; rfl) | (rw [(frS_c2 (s := s) (by omega) (by omega)).2]; first | done | assumption | rfl) | (rw [(frS_c3 (s := s) (by omega) (by assumption)).1]; done) | (rw [(frS_c3 (s := s) (by omega) (by assumption)).1]; rfl) | (rw [(frS_c3 (s := s) (by omega) (by assumption)).2]; first | done | assumption | rfl) | (rw [(frS_2 (s := s) (by assumption) (by omega) (by omega) (by assumption) (by omega) (by omega) (by assumption)).1]; done) | (rw [(frS_2 (s := s) (by assumption) (by omega) (by omega) (by assumption) (by omega) (by omega) (by assumption)).1]; rfl) | (rw [(frS_2 (s := s) (by assumption) (by omega) (by omega) (by assumption) (by omega) (by omega) (by assumption)).2]; first | done | assumption | rfl))
              · have hp7 := bne_eq_false_iff_eq.1 hb7
                refine CE.cond_f rfl hb7 ?_
                refine CE.skip' ?_
                refine NE.code ?_
                refine CE.seq ?_
                refine CE.region ?_
                refine WL.det (op_move rfl) rfl rfl rfl ?_
                refine WL.det (op_cvt_if rfl Tryd.runUnderlying2 Tryd.runUnderlying22) rfl rfl rfl ?_
                refine WL.det (op_move rfl) rfl rfl rfl ?_
                refine WL.det (op_cvt_if rfl Tryd.runUnderlying2 Tryd.runUnderlying22) rfl rfl rfl ?_
                refine WL.op (op_farith (e := (fop .quo .f32 (FloatKind.f32.nearest ((sgF (tl (((splW s 47).getD 0 StrR.d).s))).getD 0)) (FloatKind.f32.nearest ((((wholeF (tl (((splW s 47).getD 1 StrR.d).s))).getD 0) : Nat) : Int)))) (.inr (.inr (.inr rfl))) rfl rfl rfl rfl rfl) rfl rfl (ltb rfl) ?_
                rintro _ w4 ⟨⟨f1, rfl, hf1, lf1⟩, m4⟩
                refine WL.det (op_assign rfl) rfl rfl rfl ?_
                refine WL.det (op_assign rfl) rfl rfl rfl ?_
                refine WL.end ?_
                refine NE.code ?_
                refine CE.ret' ?_
                refine XE.leaveT Tryd.results20 (res_tmp rfl (res_tmp rfl res_nil)) ?_
                refine ⟨f1, ?_, ?_, (((((Mod.refl [] w).nt m1).nt m2).nt m3).nt m4)⟩
                all_goals (subst h2; first | (rw [(frS_a (s := s) (by assumption)).1]; done) | (rw [(frS_a (s := s) (by assumption)).1]; rfl) | (rw [(frS_a (s := s) (by assumption)).2]; first | done | assumption | rfl) | (rw [(frS_b (s := s) (by omega)).1]; done) | (rw [(frS_b (s := s) (by omega)).1]; rfl) | (rw [(frS_b (s := s) (by omega)).2]; first | done | assumption | rfl) | (rw [(frS_1 (s := s) (by assumption) (by omega)).1]; done) | (rw [(frS_1 (s := s) (by assumption) (by omega)).1]; rfl) | (rw [(frS_1 (s := s) (by assumption) (by omega)).2]; first | done | assumption | rfl) | (rw [(frS_c1 (s := s) (by omega) (by assumption)).1]; done) | (rw [(frS_c1 (s := s) (by omega) (by assumption)).1]; rfl) | (rw [(frS_c1 (s := s) (by omega) (by assumption)).2]; first | done | assumption | rfl) | (rw [(frS_c2 (s := s) (by omega) (by omega)).1]; done) | (rw [(frS_c2 (s := s) (by omega) (by omega)).1]; rfl) | (rw [(frS_c2 (s := s) (by omega) (by omega)).2]; first | done | assumption | rfl) | (rw [(frS_c3 (s := s) (by omega) (by assumption)).1]; done) | (rw [(frS_c3 (s := s) (by omega) (by assumption)).1]; rfl) | (rw [(frS_c3 (s := s) (by omega) (by assumption)).2]; first | done | assumption | rfl) | (rw [(frS_2 (s := s) (by assumption) (by omega) (by omega) (by assumption) (by omega) (by omega) (by assumption)).1]; done) | (rw [(frS_2 (s := s) (by assumption) (by omega) (by omega) (by assumption) (by omega) (by omega) (by assumption)).1]; rfl) | (rw [(frS_2 (s := s) (by assumption) (by omega) (by omega) (by assumption) (by omega) (by omega) (by assumption)).2]; first | done | assumption | rfl))
        · refine WL.no rfl rfl rfl (ltb rfl) rfl (bnot_f hb4) rfl (ltb rfl) ?_
          refine WL.no rfl rfl rfl (ltb rfl) rfl (bnot_f hb4) rfl (ltb rfl) ?_
          refine WL.det (op_pick_t rfl (bnot_f hb4) rfl) rfl rfl rfl ?_
          refine WL.det (op_move rfl) rfl rfl rfl ?_
          refine WL.no rfl rfl rfl (ltb rfl) rfl rfl rfl (ltb rfl) ?_
          refine WL.no rfl rfl rfl (ltb rfl) rfl rfl rfl (ltb rfl) ?_
          refine WL.det (op_pick_t rfl rfl rfl) rfl rfl rfl ?_
          refine WL.det (op_move rfl) rfl rfl rfl ?_
          refine WL.no rfl rfl rfl (ltb rfl) rfl rfl rfl (ltb rfl) ?_
          refine WL.no rfl rfl rfl (ltb rfl) rfl rfl rfl (ltb rfl) ?_
          refine WL.no rfl rfl rfl (ltb rfl) rfl rfl rfl (ltb rfl) ?_
          refine WL.no rfl rfl rfl (ltb rfl) rfl rfl rfl (ltb rfl) ?_
          refine WL.no rfl rfl rfl (ltb rfl) rfl rfl rfl (ltb rfl) ?_
          refine WL.det (op_pick_t rfl rfl rfl) rfl rfl rfl ?_
          refine WL.end ?_
          refine NE.code ?_
          refine CE.cond_t rfl rfl ?_
          refine CE.seq ?_
          refine CE.region ?_
          refine WL.det (op_assign rfl) rfl rfl rfl ?_
          refine WL.det (op_assign rfl) rfl rfl rfl ?_
          refine WL.end ?_
          refine NE.code ?_
          refine CE.ret' ?_
          refine XE.ret_then ?_
          refine XE.leaveT Tryd.results20 (res_tmp rfl (res_tmp rfl res_nil)) ?_
          refine ⟨0, ?_, ?_, ((((Mod.refl [] w).nt m1).nt m2).nt m3)⟩
          all_goals (subst h2; first | (rw [(frS_a (s := s) (by assumption)).1]; done) | (rw [(frS_a (s := s) (by assumption)).1]; rfl) | (rw [(frS_a (s := s) (by assumption)).2]; first | done | assumption | rfl) | (rw [(frS_b (s := s) (by omega)).1]; done) | (rw [(frS_b (s := s) (by omega)).1]; rfl) | (rw [(frS_b (s := s) (by omega)).2]; first | done | assumption | rfl) | (rw [(frS_1 (s := s) (by assumption) (by omega)).1]; done) | (rw [(frS_1 (s := s) (by assumption) (by omega)).1]; rfl) | (rw [(frS_1 (s := s) (by assumption) (by omega)).2]; first | done | assumption | rfl) | (rw [(frS_c1 (s := s) (by omega) (by assumption)).1]; done) | (rw [(frS_c1 (s := s) (by omega) (by assumption)).1]; rfl) | (rw [(frS_c1 (s := s) (by omega) (by assumption)).2]; first | done | assumption | rfl) | (rw [(frS_c2 (s := s) (by omega) (by omega)).1]; done) | (rw [(frS_c2 (s := s) (by omega) (by omega)).1]; rfl) | (rw [(frS_c2 (s := s) (by omega) (by omega)).2]; first | done | assumption | rfl) | (rw [(frS_c3 (s := s) (by omega) (by assumption)).1]; done) | (rw [(frS_c3 (s := s) (by omega) (by assumption)).1]; rfl) | (rw [(frS_c3 (s := s) (by omega) (by assumption)).2]; first | done | assumption | rfl) | (rw [(frS_2 (s := s) (by assumption) (by omega) (by omega) (by assumption) (by omega) (by omega) (by assumption)).1]; done) | (rw [(frS_2 (s := s) (by assumption) (by omega) (by omega) (by assumption) (by omega) (by omega) (by assumption)).1]; rfl) | (rw [(frS_2 (s := s) (by assumption) (by omega) (by omega) (by assumption) (by omega) (by omega) (by assumption)).2]; first | done | assumption | rfl))
  · refine WL.no rfl rfl rfl (ltb rfl) rfl (bnot_f hb1) rfl (ltb rfl) ?_
    refine WL.no rfl rfl rfl (ltb rfl) rfl (bnot_f hb1) rfl (ltb rfl) ?_
    refine WL.no rfl rfl rfl (ltb rfl) rfl (bnot_f hb1) rfl (ltb rfl) ?_
    refine WL.det (op_pick_t rfl (bnot_f hb1) rfl) rfl rfl rfl ?_
    refine WL.end ?_
    refine NE.code ?_
    refine CE.cond_t rfl rfl ?_
    refine CE.seq ?_
    refine CE.region ?_
    refine WL.det (op_assign rfl) rfl rfl rfl ?_
    refine WL.det (op_assign rfl) rfl rfl rfl ?_
    refine WL.end ?_
    refine NE.code ?_
    refine CE.ret' ?_
    refine XE.ret_then ?_
    refine XE.leaveT Tryd.results20 (res_tmp rfl (res_tmp rfl res_nil)) ?_
    refine ⟨0, ?_, ?_, (((Mod.refl [] w).nt m1).nt m2)⟩
    all_goals (subst h2; first | (rw [(frS_a (s := s) (by assumption)).1]; done) | (rw [(frS_a (s := s) (by assumption)).1]; rfl) | (rw [(frS_a (s := s) (by assumption)).2]; first | done | assumption | rfl) | (rw [(frS_b (s := s) (by omega)).1]; done) | (rw [(frS_b (s := s) (by omega)).1]; rfl) | (rw [(frS_b (s := s) (by omega)).2]; first | done | assumption | rfl) | (rw [(frS_1 (s := s) (by assumption) (by omega)).1]; done) | (rw [(frS_1 (s := s) (by assumption) (by omega)).1]; rfl) | (rw [(frS_1 (s := s) (by assumption) (by omega)).2]; first | done | assumption | rfl) | (rw [(frS_c1 (s := s) (by omega) (by assumption)).1]; done) | (rw [(frS_c1 (s := s) (by omega) (by assumption)).1]; rfl) | (rw [(frS_c1 (s := s) (by omega) (by assumption)).2]; first | done | assumption | rfl) | (rw [(frS_c2 (s := s) (by omega) (by omega)).1]; done) | (rw [(frS_c2 (s := s) (by omega) (by omega)).1]; rfl) | (rw [(frS_c2 (s := s) (by omega) (by omega)).2]; first | done | assumption | rfl) | (rw [(frS_c3 (s := s) (by omega) (by assumption)).1]; done) | (rw [(frS_c3 (s := s) (by omega) (by assumption)).1]; rfl) | (rw [(frS_c3 (s := s) (by omega) (by assumption)).2]; first | done | assumption | rfl) | (rw [(frS_2 (s := s) (by assumption) (by omega) (by omega) (by assumption) (by omega) (by omega) (by assumption)).1]; done) | (rw [(frS_2 (s := s) (by assumption) (by omega) (by omega) (by assumption) (by omega) (by omega) (by assumption)).1]; rfl) | (rw [(frS_2 (s := s) (by assumption) (by omega) (by omega) (by assumption) (by omega) (by omega) (by assumption)).2]; first | done | assumption | rfl))

set_option maxRecDepth 100000 in
set_option maxHeartbeats 2000000 in
theorem c_sFrac (s : ByteArray) (hs : s.size ≤ 1048576) (w : World) : Cl Tryd.prog 10 #[.string s] w fun v w' => ∃ (z : Nat), v = .tuple #[vF z, vI (if frOkS s = true then (0 : Int) else 5)] ∧ (cn .f32 z = cn .f32 (if frOkS s = true then frVS s else 0)) ∧ Mod [] w w' := by
  refine Cl.of Tryd.func10 Tryd.ntmps10 rfl rfl (ρ := [(0, .string s)]) rfl ?_
  refine CE.seq ?_
  refine CE.region ?_
  refine WL.det (op_assign rfl) rfl rfl rfl ?_
  refine WL.det (op_assign rfl) rfl rfl rfl ?_
  refine WL.end ?_
  refine NE.code ?_
  refine CE.seq ?_
  refine CE.region ?_
  refine WL.det (op_move rfl) rfl rfl rfl ?_
  refine WL.call (oc_call (vs := [.string s]) (cap := []) rfl rfl rfl Tryd.call20 (c_l08Frac s (by first | assumption | omega | exact h3 _) w)) rfl rfl (ltb rfl) ?_
  rintro _ w1 ⟨z1, rfl, h1, m1⟩
  refine WL.det (op_move rfl) rfl rfl rfl ?_
  refine WL.det (op_extract rfl rfl) rfl rfl rfl ?_
  refine WL.det (op_extract rfl rfl) rfl rfl rfl ?_
  refine WL.det (op_assign rfl) rfl rfl rfl ?_
  refine WL.det (op_assign rfl) rfl rfl rfl ?_
  refine WL.end ?_
  refine NE.code ?_
  refine CE.seq ?_
  refine CE.seq ?_
  refine CE.region ?_
  refine WL.det (op_move rfl) rfl rfl rfl ?_
  refine WL.det (op_not rfl) rfl rfl rfl ?_
  refine WL.end ?_
  refine NE.code ?_
  rcases Bool.eq_false_or_eq_true (frOkS s) with hb1 | hb1
  · refine CE.cond_f rfl (bnot_t hb1) ?_
    refine CE.skip' ?_
    refine NE.code ?_
    refine CE.seq ?_
    refine CE.region ?_
    refine WL.det (op_move rfl) rfl rfl rfl ?_
    refine WL.det (op_assign rfl) rfl rfl rfl ?_
    refine WL.det (op_assign rfl) rfl rfl rfl ?_
    refine WL.end ?_
    refine NE.code ?_
    refine CE.ret' ?_
    refine XE.leaveT Tryd.results10 (res_tmp rfl (res_tmp rfl res_nil)) ?_
    refine ⟨z1, ?_, ?_, ((Mod.refl [] w).nt m1)⟩
    all_goals simp_all
  · refine CE.cond_t rfl (bnot_f hb1) ?_
    refine CE.seq ?_
    refine CE.region ?_
    refine WL.det (op_assign rfl) rfl rfl rfl ?_
    refine WL.det (op_assign rfl) rfl rfl rfl ?_
    refine WL.end ?_
    refine NE.code ?_
    refine CE.ret' ?_
    refine XE.ret_then ?_
    refine XE.leaveT Tryd.results10 (res_tmp rfl (res_tmp rfl res_nil)) ?_
    refine ⟨0, ?_, ?_, ((Mod.refl [] w).nt m1)⟩
    all_goals simp_all

end Go.Proofs.YteonmpphpeopiaaDoor
