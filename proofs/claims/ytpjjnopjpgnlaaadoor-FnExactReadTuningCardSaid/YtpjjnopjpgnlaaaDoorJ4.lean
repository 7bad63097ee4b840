/- Tunings that are read from texts. -/
import Derived.Test.YtpjjnopjpgnlaaaDoorJ5
set_option linter.unusedVariables false
set_option linter.unusedSimpArgs false
namespace Go.Proofs.YtpjjnopjpgnlaaaDoor

def nW (s : ByteArray) (c : Nat) : Nat := (splW s c).length
theorem nW_pos (s : ByteArray) (c : Nat) : 0 < nW s c := splW_pos s c
theorem sz_drop {es : List StrR} {k : Nat} (h : ∀ i, (es.getD i StrR.d).s.size ≤ 1048576) (i : Nat) : ((es.drop k).getD i StrR.d).s.size ≤ 1048576 := by
  rw [List.getD_eq_getElem?_getD, List.getElem?_drop, ← List.getD_eq_getElem?_getD]; exact h _
/-- a text is that of a tuning -/
def okS (s : ByteArray) : Bool := decide (s.size ≤ 1000) && sEq ((splW s 32).getD 0 StrR.d).s ⟨#[116, 117, 110, 105, 110, 103]⟩ && allO ((splW s 32).drop 1) && decide (3 ≤ ((nW s 32) - 1)) && tunF ((rdL ((splW s 32).drop 1)).getD 0 0) ((rdL ((splW s 32).drop 1)).getD 1 0) ((rdL ((splW s 32).drop 1)).drop 2) (((nW s 32) - 1) - 2)
theorem okS_t {s : ByteArray} (h : okS s = true) : s.size ≤ 1000 ∧ sEq ((splW s 32).getD 0 StrR.d).s ⟨#[116, 117, 110, 105, 110, 103]⟩ = true ∧ allO ((splW s 32).drop 1) = true ∧ 3 ≤ ((nW s 32) - 1) ∧ tunF ((rdL ((splW s 32).drop 1)).getD 0 0) ((rdL ((splW s 32).drop 1)).getD 1 0) ((rdL ((splW s 32).drop 1)).drop 2) (((nW s 32) - 1) - 2) = true := by
  unfold okS at h
  rw [Bool.and_eq_true, Bool.and_eq_true, Bool.and_eq_true, Bool.and_eq_true] at h
  obtain ⟨⟨⟨⟨h1, h2⟩, h3⟩, h4⟩, h5⟩ := h
  exact ⟨of_decide_eq_true h1, h2, h3, of_decide_eq_true h4, h5⟩
theorem okS_f {s : ByteArray} (h : okS s = false) (h1 : s.size ≤ 1000) (h2 : sEq ((splW s 32).getD 0 StrR.d).s ⟨#[116, 117, 110, 105, 110, 103]⟩ = true) (h3 : allO ((splW s 32).drop 1) = true) (h4 : 3 ≤ ((nW s 32) - 1)) (h5 : tunF ((rdL ((splW s 32).drop 1)).getD 0 0) ((rdL ((splW s 32).drop 1)).getD 1 0) ((rdL ((splW s 32).drop 1)).drop 2) (((nW s 32) - 1) - 2) = true) : False := by
  unfold okS at h
  rw [decide_eq_true h1, h2, h3, decide_eq_true h4, h5] at h
  cases h
theorem words_smp : ∀ {es : List StrR}, allO es = true → (es.map fun e => tl e.s).flatMap (fun x => 32 :: x) = smpL (rdL es)
  | [], _ => rfl
  | e :: es, h => by
    have h' : ((rd (tl e.s)).isSome && allO es) = true := h
    rw [Bool.and_eq_true] at h'
    have ih := words_smp h'.2
    cases hr : rd (tl e.s) with
    | none => rw [hr] at h'; cases h'.1
    | some b =>
      obtain ⟨h1, _, h3⟩ := rd_some hr
      show (32 :: tl e.s) ++ (es.map fun e => tl e.s).flatMap _ = (32 :: hexN 8 (cn .f32 ((rd (tl e.s)).getD 0))) ++ smpL (rdL es)
      rw [ih, hr]
      show (32 :: tl e.s) ++ _ = (32 :: hexN 8 (cn .f32 b)) ++ _
      rw [h3, ← h1]
theorem text_words {s : ByteArray} (h : allO ((splW s 32).drop 1) = true) : tl s = tl ((splW s 32).getD 0 StrR.d).s ++ smpL (rdL ((splW s 32).drop 1)) := by
  have h1 := splW_spL s 32
  have h2 := spL_text 32 (tl s)
  rw [← h1] at h2
  have hp := splW_pos s 32
  rw [← words_smp h, ← h2]
  have e32 : ((32 : UInt8)).toNat = 32 := rfl
  rw [e32]
  cases hs : splW s 32 with
  | nil => rw [hs] at hp; cases hp
  | cons a l => rfl
theorem xs_cons {xs : List Nat} {n : Nat} (ln : xs.length = n) (h : 3 ≤ n) : xs = xs.getD 0 0 :: xs.getD 1 0 :: xs.drop 2 := by
  match xs, ln with
  | [], e => simp at e; omega
  | [a], e => simp at e; omega
  | a :: b :: l, e => rfl
theorem xs_len (s : ByteArray) : (rdL ((splW s 32).drop 1)).length = ((nW s 32) - 1) := by rw [rdL_len rfl, List.length_drop]; rfl
theorem tun_eq {s : ByteArray} (h : allO ((splW s 32).drop 1) = true) (h3 : 3 ≤ ((nW s 32) - 1)) : tunT ((rdL ((splW s 32).drop 1)).getD 0 0) ((rdL ((splW s 32).drop 1)).getD 1 0) ((rdL ((splW s 32).drop 1)).drop 2) = [116, 117, 110, 105, 110, 103] ++ smpL (rdL ((splW s 32).drop 1)) := by
  unfold tunT
  rw [← xs_cons (xs_len s) h3]
theorem sEq_tun (s : ByteArray) : sEq s ⟨#[116, 117, 110, 105, 110, 103]⟩ = (tl s == [116, 117, 110, 105, 110, 103]) := by
  unfold sEq
  rw [ByteArray.toList_eq, ByteArray.toList_eq]; rfl
theorem okS_text {s : ByteArray} (h : okS s = true) : sEq (mkS (tunT ((rdL ((splW s 32).drop 1)).getD 0 0) ((rdL ((splW s 32).drop 1)).getD 1 0) ((rdL ((splW s 32).drop 1)).drop 2))) s = true := by
  obtain ⟨_, h2, h3, h4, _⟩ := okS_t h
  rw [sEq_tun, beq_iff_eq] at h2
  have e : sEq (mkS (tunT ((rdL ((splW s 32).drop 1)).getD 0 0) ((rdL ((splW s 32).drop 1)).getD 1 0) ((rdL ((splW s 32).drop 1)).drop 2))) s = (tunT ((rdL ((splW s 32).drop 1)).getD 0 0) ((rdL ((splW s 32).drop 1)).getD 1 0) ((rdL ((splW s 32).drop 1)).drop 2) == tl s) := sEq_tl _ s
  rw [e, beq_iff_eq, tun_eq h3 h4]
  exact ((text_words h3).trans (by rw [h2])).symm
theorem okS_of {s : ByteArray} (h3 : allO ((splW s 32).drop 1) = true) (h4 : 3 ≤ ((nW s 32) - 1)) (h5 : tunF ((rdL ((splW s 32).drop 1)).getD 0 0) ((rdL ((splW s 32).drop 1)).getD 1 0) ((rdL ((splW s 32).drop 1)).drop 2) (((nW s 32) - 1) - 2) = true) (h : sEq (mkS (tunT ((rdL ((splW s 32).drop 1)).getD 0 0) ((rdL ((splW s 32).drop 1)).getD 1 0) ((rdL ((splW s 32).drop 1)).drop 2))) s = true) : okS s = true := by
  have e : sEq (mkS (tunT ((rdL ((splW s 32).drop 1)).getD 0 0) ((rdL ((splW s 32).drop 1)).getD 1 0) ((rdL ((splW s 32).drop 1)).drop 2))) s = (tunT ((rdL ((splW s 32).drop 1)).getD 0 0) ((rdL ((splW s 32).drop 1)).getD 1 0) ((rdL ((splW s 32).drop 1)).drop 2) == tl s) := sEq_tl _ s
  rw [e, beq_iff_eq, tun_eq h3 h4] at h
  have ht := text_words h3
  have hw : tl ((splW s 32).getD 0 StrR.d).s = [116, 117, 110, 105, 110, 103] := List.append_cancel_right (ht.symm.trans h.symm)
  have hn := (tunF_n h5).2
  have hl : s.size = 6 + 9 * ((nW s 32) - 1) := by
    rw [← tl_len, ← h, List.length_append, smpL_len, xs_len]; rfl
  have h1 : s.size ≤ 1000 := by omega
  unfold okS
  rw [decide_eq_true h1, h3, decide_eq_true h4, h5, sEq_tun, hw]; rfl
theorem okS_ne {s : ByteArray} (h4 : 3 ≤ ((nW s 32) - 1)) : sEq ⟨#[]⟩ s = false := by
  cases hb : sEq ⟨#[]⟩ s
  · rfl
  · exfalso
    have e : sEq ⟨#[]⟩ s = (([] : List UInt8) == tl s) := sEq_tl [] s
    rw [e, beq_iff_eq] at hb
    have h1 := splW_spL s 32
    have e32 : ((32 : UInt8)).toNat = 32 := rfl
    rw [e32, ← hb] at h1
    have := congrArg List.length h1
    rw [List.length_map] at this
    have h2 : nW s 32 = 1 := this
    omega

theorem c_split2 (s : ByteArray) (hs : s.size ≤ 1048576) (w : World) : Cl Tryd.prog 9 #[.string s, .int .u8 32] w fun v w' => ∃ (b' : Nat) (c' : Nat), v = vS b' 0 (nW s 32) c' ∧ (nW s 32 ≤ c') ∧ (∀ i, ((splW s 32).getD i StrR.d).s.size ≤ 1048576) ∧ Row w' b' 0 (cat StrR.cells (splW s 32)) ∧ w.heap.size ≤ b' ∧ Mod [] w w' := by
  refine Cl.mono (c_l01Split s 32 hs w) ?_
  rintro v w' ⟨b', c', A', n', rfl, h1, h2, h3, h4, h5, r, ge, m⟩
  subst h2
  rw [h1 h4]
  exact ⟨b', c', rfl, h5, h3, r, ge, m⟩
theorem c_Split (s : ByteArray) (hs : s.size ≤ 1048576) (w : World) (T2 : LibR w LC 0 []) : Cl Tryd.prog 12 #[.string s, .string (⟨#[32]⟩)] w fun v w' => ∃ (b' : Nat), v = vS b' 0 (nW s 32) (nW s 32) ∧ (∀ i, ((splW s 32).getD i StrR.d).s.size ≤ 1048576) ∧ Row w' b' 0 (cat StrR.cells (splW s 32)) ∧ w.heap.size ≤ b' ∧ Mod [] w w' := by
  refine Cl.mono (c_Split9 s hs w T2) ?_
  rintro v w' ⟨b, n, rfl, h1, h2, r, ge, m⟩
  subst h1
  exact ⟨b, rfl, fun i => Nat.le_trans (splW_size s 32 i) hs, r, ge, m⟩
set_option maxRecDepth 100000 in
set_option maxHeartbeats 2000000 in
theorem c_sRead (s : ByteArray) (hs : s.size ≤ 1048576) (hv : okS s = true) (w : World) : Cl Tryd.prog 4 #[.string s] w fun v w' => ∃ (b' : Nat) (c' : Nat), v = .tuple #[.agg #[vF ((rdL ((splW s 32).drop 1)).getD 0 0), vF ((rdL ((splW s 32).drop 1)).getD 1 0), vS b' 0 (((nW s 32) - 1) - 2) c'], vI 0] ∧ Row w' b' 0 (fl ((rdL ((splW s 32).drop 1)).drop 2)) ∧ w.heap.size ≤ b' ∧ Mod [] w w' := by
  obtain ⟨k1, k2, k3, k4, k5⟩ := okS_t hv; have k6 := nW_pos s 32; have k7 := rdL_w ((splW s 32).drop 1); have k8 := lt_wid (rd_lt (tl (((splW s 32).drop 1).getD 0 StrR.d).s)); have k9 := tunF_n k5; have k10 := W32.get k7 0; have k11 := W32.get k7 1
  refine Cl.of Tryd.func4 Tryd.ntmps4 rfl rfl (ρ := [(0, .string s)]) rfl ?_
  refine CE.seq ?_
  refine CE.region ?_
  refine WL.op (op_alloc (cs := [vF 0, vF 0, .slice none 0 0]) Tryd.zeroValue25 rfl) rfl rfl (ltb rfl) ?_
  rintro _ w1 ⟨rfl, r1, m1, z1⟩
  refine WL.det (op_assign rfl) rfl rfl rfl ?_
  refine WL.end ?_
  refine NE.code ?_
  refine CE.seq ?_
  refine CE.seq ?_
  refine CE.region ?_
  refine WL.det (op_move rfl) rfl rfl rfl ?_
  refine WL.det (op_lens rfl Tryd.runUnderlying9) rfl rfl rfl ?_
  refine WL.det (op_gti rfl rfl) rfl rfl rfl ?_
  refine WL.end ?_
  refine NE.code ?_
  refine CE.cond_f rfl (decide_eq_false (by omega)) ?_
  refine CE.skip' ?_
  refine NE.code ?_
  refine CE.seq ?_
  refine CE.region ?_
  refine WL.det (op_move rfl) rfl rfl rfl ?_
  refine WL.call (oc_call (vs := [.string s, .int .u8 32]) (cap := []) rfl rfl rfl Tryd.call9 (c_split2 s (by first | assumption | omega | exact hS _) w1)) rfl rfl (ltb rfl) ?_
  rintro _ w2 ⟨b'1, c'1, rfl, h1, h2, r2, ge1, m2⟩
  refine WL.det (op_assign rfl) rfl rfl rfl ?_
  refine WL.end ?_
  refine NE.code ?_
  refine CE.seq ?_
  refine CE.region ?_
  refine WL.det (op_move rfl) rfl rfl rfl ?_
  have r3 : Row w2 b'1 (0 + 1) (cat StrR.cells ((splW s 32).drop 1)) := Row.congr (Row.drop r2 1) (strs_drop _ _)
  refine WL.det (op_slLoX (i := 1) rfl rfl rfl Tryd.runUnderlying31 Tryd.sizeOf9 (by omega) (by omega)) rfl rfl rfl ?_
  refine WL.call (oc_call (vs := [.slice (slA b'1 0 c'1 1) ((nW s 32) - 1) (c'1 - 1)]) (cap := []) rfl rfl rfl Tryd.call10 (c_nums_t ((nW s 32) - 1) (c'1 - 1) (slA b'1 0 c'1 1) b'1 (0 + 1) ((splW s 32).drop 1) (drop_len rfl 1) (slA_eq (by omega)) (by first | assumption | omega) (by first | assumption | exact fun i => sz_drop (by assumption) i) (by assumption) (by first | assumption | omega) w2 r3.rng)) rfl rfl (ltb rfl) ?_
  rintro _ w3 ⟨b'2, c'2, rfl, h3, r4, r5, ge2, m3⟩
  refine WL.det (op_move rfl) rfl rfl rfl ?_
  refine WL.det (op_extract rfl rfl) rfl rfl rfl ?_
  refine WL.det (op_extract rfl rfl) rfl rfl rfl ?_
  refine WL.det (op_assign rfl) rfl rfl rfl ?_
  refine WL.det (op_assign rfl) rfl rfl rfl ?_
  refine WL.end ?_
  refine NE.code ?_
  refine CE.seq ?_
  refine CE.seq ?_
  refine CE.region ?_
  refine WL.det (op_move rfl) rfl rfl rfl ?_
  refine WL.det (op_indexSl (off' := 0) rfl rfl rfl Tryd.runUnderlying31 Tryd.sizeOf9 (by omega) (by omega) rfl) rfl rfl rfl ?_
  refine WL.det (op_load1 (i := 0 * 1) rfl Tryd.isAgg9 (r2.ext m3).rng rfl (cat_get0 (f := StrR.cells) (m := 1) (i := 0) (d := StrR.d) (fun _ => rfl) (by have eL : List.length (splW s 32) = nW s 32 := rfl; omega) rfl)) rfl rfl rfl ?_
  refine WL.det (op_nes rfl rfl) rfl rfl rfl ?_
  refine WL.det (op_move rfl) rfl rfl rfl ?_
  refine WL.yes rfl rfl rfl (ltb rfl) rfl (bnot_t k2) ?_
  refine WL.det (op_move rfl) rfl rfl rfl ?_
  refine WL.yes rfl rfl rfl (ltb rfl) rfl (bnot_t k2) ?_
  refine WL.det (op_not rfl) rfl rfl rfl ?_
  refine WL.det (op_pick_f rfl (bnot_t k2) rfl) rfl rfl rfl ?_
  refine WL.det (op_move rfl) rfl rfl rfl ?_
  refine WL.yes rfl rfl rfl (ltb rfl) rfl rfl ?_
  refine WL.det (op_move rfl) rfl rfl rfl ?_
  refine WL.yes rfl rfl rfl (ltb rfl) rfl rfl ?_
  refine WL.det (op_len rfl Tryd.runUnderlying23) rfl rfl rfl ?_
  refine WL.yes rfl rfl rfl (ltb rfl) rfl rfl ?_
  refine WL.det (op_lti rfl rfl) rfl rfl rfl ?_
  refine WL.det (op_pick_f rfl rfl rfl) rfl rfl rfl ?_
  refine WL.end ?_
  refine NE.code ?_
  refine CE.cond_f rfl (decide_eq_false (by omega)) ?_
  refine CE.skip' ?_
  refine NE.code ?_
  refine CE.seq ?_
  refine CE.drawF (fun _ => none) [0, 1, 2, 3, 4, 5, 6, 7, 8, 9, 10, 11] [12] [] (fun ρ W => ∃ (e1_6_0 : Nat) (e1_9_0 : Nat) (e1_9_1 : Nat) (e1_11_0 : Nat), ρ = [(2, vP w.heap.size 0), (3, vI 0), (7, vP e1_11_0 0), (44, .agg #[vF ((rdL ((splW s 32).drop 1)).getD 0 0), vF ((rdL ((splW s 32).drop 1)).getD 1 0), vS e1_9_0 0 (((nW s 32) - 1) - 2) e1_9_1])] ∧ Row W e1_6_0 0 [] ∧ Row W e1_9_0 0 (fl ((rdL ((splW s 32).drop 1)).drop 2)) ∧ Row W e1_11_0 0 [vF 0, vF 0, .slice none 0 0] ∧ w3.heap.size ≤ e1_6_0 ∧ w3.heap.size ≤ e1_9_0 ∧ w3.heap.size ≤ e1_11_0 ∧ e1_6_0 ≠ e1_9_0 ∧ e1_6_0 ≠ e1_11_0 ∧ e1_9_0 ≠ e1_11_0 ∧ Mod [] w3 W) (by kernel_rfl) (by kernel_rfl) ?_ ?_
  have md1 : Mod [] w3 w3.drew := (Mod.refl _ _).drew
  generalize w3.drew = w4 at md1 ⊢
  · refine DR.det (i := 0) rfl rfl (by kernel_rfl) (.free rfl) rfl rfl (fun wD mD => op_move rfl) ?_
    refine DR.det (i := 1) rfl rfl (by kernel_rfl) (.free rfl) rfl rfl (fun wD mD => op_indexSl (off' := 0) rfl rfl rfl Tryd.runUnderlying23 Tryd.sizeOf22 (by omega) (by omega) rfl) ?_
    refine DR.det (i := 2) rfl rfl (by kernel_rfl) (.free rfl) rfl rfl (fun wD mD => op_load1 (i := 0) rfl Tryd.isAgg22 ((r4.ext md1).ext mD).rng rfl (fl_get (by have eL : List.length (rdL ((splW s 32).drop 1)) = (nW s 32) - 1 := (rdL_len (drop_len rfl 1)); omega))) ?_
    refine DR.det (i := 3) rfl rfl (by kernel_rfl) (.free rfl) rfl rfl (fun wD mD => op_move rfl) ?_
    refine DR.det (i := 4) rfl rfl (by kernel_rfl) (.free rfl) rfl rfl (fun wD mD => op_indexSl (off' := 1) rfl rfl rfl Tryd.runUnderlying23 Tryd.sizeOf22 (by omega) (by omega) rfl) ?_
    refine DR.det (i := 5) rfl rfl (by kernel_rfl) (.free rfl) rfl rfl (fun wD mD => op_load1 (i := 1) rfl Tryd.isAgg22 ((r4.ext md1).ext mD).rng rfl (fl_get (by have eL : List.length (rdL ((splW s 32).drop 1)) = (nW s 32) - 1 := (rdL_len (drop_len rfl 1)); omega))) ?_
    refine DR.det (i := 7) rfl rfl (by kernel_rfl) (.free rfl) rfl rfl (fun wD mD => op_move rfl) ?_
    refine DR.det (i := 8) rfl rfl (by kernel_rfl) (.free rfl) rfl rfl (fun wD mD => op_slLo (i := 2) rfl rfl rfl Tryd.runUnderlying23 Tryd.sizeOf22 (by omega) (by omega)) ?_
    refine DR.fork (is := [6, 11]) (by kernel_rfl) (by decide) (all2 ?_ ?_)
    · refine DP.op (i := 6) rfl rfl (.free rfl) rfl (ltb rfl) ?_
      intro w5 m4
      refine Op1.mono (op_emptySl rfl Tryd.runUnderlying23 Tryd.sizeOf22) ?_
      rintro _ w6 ⟨rfl, r6, m5, z2⟩
      refine ⟨(((Mod.refl [] w4).nt m4).nt m5), ?_⟩
      refine DR.rebase ?_
      refine DR.fork (is := [9, 11]) (by kernel_rfl) (by decide) (all2 ?_ ?_)
      · refine DP.op (i := 9) rfl rfl (.free rfl) rfl (ltb rfl) ?_
        intro w7 m6
        refine Op1.mono (op_appendFo (i := Tryd.t22) rfl rfl Tryd.underlying23 rfl rfl rfl rfl ((((r5.ext md1).ext m4).ext m5).ext m6).rng (drop_len (rdL_len (drop_len rfl 1)) 2) (by omega) (by omega)) ?_
        rintro _ w8 ⟨b1, c1, rfl, ge3, r7, m7⟩
        refine ⟨(((Mod.refl [] w6).nt m6).nt m7), ?_⟩
        refine DR.rebase ?_
        refine DR.det (i := 10) rfl rfl (by kernel_rfl) (.free rfl) rfl rfl (fun wD mD => op_build (qs := [(0, vF ((rdL ((splW s 32).drop 1)).getD 0 0)), (1, vF ((rdL ((splW s 32).drop 1)).getD 1 0)), (2, vS b1 0 (((nW s 32) - 1) - 2) c1)]) (cells := #[vF ((rdL ((splW s 32).drop 1)).getD 0 0), vF ((rdL ((splW s 32).drop 1)).getD 1 0), vS b1 0 (((nW s 32) - 1) - 2) c1]) rfl (by kernel_rfl)) ?_
        refine DR.one1 (i := 11) rfl rfl (by kernel_rfl) (.free rfl) rfl (ltb rfl) ?_
        intro w9 m8
        refine Op1.mono (op_alloc (cs := [vF 0, vF 0, .slice none 0 0]) Tryd.zeroValue25 rfl) ?_
        rintro _ w10 ⟨rfl, r8, m9, z3⟩
        refine ⟨(((Mod.refl [] w8).nt m8).nt m9), ?_⟩
        refine DR.sub [(2, vP w.heap.size 0), (3, vI 0), (7, vP w9.heap.size 0), (44, .agg #[vF ((rdL ((splW s 32).drop 1)).getD 0 0), vF ((rdL ((splW s 32).drop 1)).getD 1 0), vS b1 0 (((nW s 32) - 1) - 2) c1])] ⟨rfl, rfl, rfl, rfl, trivial⟩ ?_
        refine DR.meet rfl ?_
        intro w11 m10
        exact ⟨w5.heap.size, b1, c1, w9.heap.size, rfl, (((((r6.ext m6).ext m7).ext m8).ext m9).ext m10), (((r7.ext m8).ext m9).ext m10), (r8.ext m10), (lT (lT md1.size m4.size) lR), (lT (lT (lT (lT md1.size m4.size) m5.size) m6.size) ge3), (lT (lT (lT (lT (lT (lT md1.size m4.size) m5.size) m6.size) m7.size) m8.size) lR), (lE (lL (lL r6.lt m6.size) ge3)), (lE (lL (lL r6.lt (lT (lT m6.size m7.size) m8.size)) lR)), (lE (lL (lL r7.lt m8.size) lR)), (((((((((Mod.refl [] w3).nt md1).nt m4).nt m5).nt m6).nt m7).nt m8).nt m9).nt m10)⟩
      · refine DP.op (i := 11) rfl rfl (.free rfl) rfl (ltb rfl) ?_
        intro w12 m11
        refine Op1.mono (op_alloc (cs := [vF 0, vF 0, .slice none 0 0]) Tryd.zeroValue25 rfl) ?_
        rintro _ w13 ⟨rfl, r9, m12, z4⟩
        refine ⟨(((Mod.refl [] w6).nt m11).nt m12), ?_⟩
        refine DR.rebase ?_
        refine DR.one1 (i := 9) rfl rfl (by kernel_rfl) (.free rfl) rfl (ltb rfl) ?_
        intro w14 m13
        refine Op1.mono (op_appendFo (i := Tryd.t22) rfl rfl Tryd.underlying23 rfl rfl rfl rfl ((((((r5.ext md1).ext m4).ext m5).ext m11).ext m12).ext m13).rng (drop_len (rdL_len (drop_len rfl 1)) 2) (by omega) (by omega)) ?_
        rintro _ w15 ⟨b2, c2, rfl, ge4, r10, m14⟩
        refine ⟨(((Mod.refl [] w13).nt m13).nt m14), ?_⟩
        refine DR.rebase ?_
        refine DR.det (i := 10) rfl rfl (by kernel_rfl) (.free rfl) rfl rfl (fun wD mD => op_build (qs := [(0, vF ((rdL ((splW s 32).drop 1)).getD 0 0)), (1, vF ((rdL ((splW s 32).drop 1)).getD 1 0)), (2, vS b2 0 (((nW s 32) - 1) - 2) c2)]) (cells := #[vF ((rdL ((splW s 32).drop 1)).getD 0 0), vF ((rdL ((splW s 32).drop 1)).getD 1 0), vS b2 0 (((nW s 32) - 1) - 2) c2]) rfl (by kernel_rfl)) ?_
        refine DR.sub [(2, vP w.heap.size 0), (3, vI 0), (7, vP w12.heap.size 0), (44, .agg #[vF ((rdL ((splW s 32).drop 1)).getD 0 0), vF ((rdL ((splW s 32).drop 1)).getD 1 0), vS b2 0 (((nW s 32) - 1) - 2) c2])] ⟨rfl, rfl, rfl, rfl, trivial⟩ ?_
        refine DR.meet rfl ?_
        intro w16 m15
        exact ⟨w5.heap.size, b2, c2, w12.heap.size, rfl, (((((r6.ext m11).ext m12).ext m13).ext m14).ext m15), (r10.ext m15), (((r9.ext m13).ext m14).ext m15), (lT (lT md1.size m4.size) lR), (lT (lT (lT (lT (lT (lT md1.size m4.size) m5.size) m11.size) m12.size) m13.size) ge4), (lT (lT (lT (lT md1.size m4.size) m5.size) m11.size) lR), (lE (lL (lL r6.lt (lT (lT m11.size m12.size) m13.size)) ge4)), (lE (lL (lL r6.lt m11.size) lR)), (lG (lL (lL r9.lt m13.size) ge4)), (((((((((Mod.refl [] w3).nt md1).nt m4).nt m5).nt m11).nt m12).nt m13).nt m14).nt m15)⟩
    · refine DP.op (i := 11) rfl rfl (.free rfl) rfl (ltb rfl) ?_
      intro w17 m16
      refine Op1.mono (op_alloc (cs := [vF 0, vF 0, .slice none 0 0]) Tryd.zeroValue25 rfl) ?_
      rintro _ w18 ⟨rfl, r11, m17, z5⟩
      refine ⟨(((Mod.refl [] w4).nt m16).nt m17), ?_⟩
      refine DR.rebase ?_
      refine DR.one1 (i := 6) rfl rfl (by kernel_rfl) (.free rfl) rfl (ltb rfl) ?_
      intro w19 m18
      refine Op1.mono (op_emptySl rfl Tryd.runUnderlying23 Tryd.sizeOf22) ?_
      rintro _ w20 ⟨rfl, r12, m19, z6⟩
      refine ⟨(((Mod.refl [] w18).nt m18).nt m19), ?_⟩
      refine DR.rebase ?_
      refine DR.one1 (i := 9) rfl rfl (by kernel_rfl) (.free rfl) rfl (ltb rfl) ?_
      intro w21 m20
      refine Op1.mono (op_appendFo (i := Tryd.t22) rfl rfl Tryd.underlying23 rfl rfl rfl rfl ((((((r5.ext md1).ext m16).ext m17).ext m18).ext m19).ext m20).rng (drop_len (rdL_len (drop_len rfl 1)) 2) (by omega) (by omega)) ?_
      rintro _ w22 ⟨b3, c3, rfl, ge5, r13, m21⟩
      refine ⟨(((Mod.refl [] w20).nt m20).nt m21), ?_⟩
      refine DR.rebase ?_
      refine DR.det (i := 10) rfl rfl (by kernel_rfl) (.free rfl) rfl rfl (fun wD mD => op_build (qs := [(0, vF ((rdL ((splW s 32).drop 1)).getD 0 0)), (1, vF ((rdL ((splW s 32).drop 1)).getD 1 0)), (2, vS b3 0 (((nW s 32) - 1) - 2) c3)]) (cells := #[vF ((rdL ((splW s 32).drop 1)).getD 0 0), vF ((rdL ((splW s 32).drop 1)).getD 1 0), vS b3 0 (((nW s 32) - 1) - 2) c3]) rfl (by kernel_rfl)) ?_
      refine DR.sub [(2, vP w.heap.size 0), (3, vI 0), (7, vP w17.heap.size 0), (44, .agg #[vF ((rdL ((splW s 32).drop 1)).getD 0 0), vF ((rdL ((splW s 32).drop 1)).getD 1 0), vS b3 0 (((nW s 32) - 1) - 2) c3])] ⟨rfl, rfl, rfl, rfl, trivial⟩ ?_
      refine DR.meet rfl ?_
      intro w23 m22
      exact ⟨w19.heap.size, b3, c3, w17.heap.size, rfl, (((r12.ext m20).ext m21).ext m22), (r13.ext m22), (((((r11.ext m18).ext m19).ext m20).ext m21).ext m22), (lT (lT (lT (lT md1.size m16.size) m17.size) m18.size) lR), (lT (lT (lT (lT (lT (lT md1.size m16.size) m17.size) m18.size) m19.size) m20.size) ge5), (lT (lT md1.size m16.size) lR), (lE (lL (lL r12.lt m20.size) ge5)), (lG (lL (lL r11.lt m18.size) lR)), (lG (lL (lL r11.lt (lT (lT m18.size m19.size) m20.size)) ge5)), (((((((((Mod.refl [] w3).nt md1).nt m16).nt m17).nt m18).nt m19).nt m20).nt m21).nt m22)⟩
  · rintro _ w24 ⟨e1_6_0, e1_9_0, e1_9_1, e1_11_0, rfl, rr1_0, rr1_1, rr1_2, ge6, ge7, ge8, ne1, ne2, ne3, m23⟩
    refine WO.op0 rfl (.free rfl) rfl (op_store (i := 0) (cs := [vF ((rdL ((splW s 32).drop 1)).getD 0 0), vF ((rdL ((splW s 32).drop 1)).getD 1 0), vS e1_9_0 0 (((nW s 32) - 1) - 2) e1_9_1]) rfl rfl rfl Tryd.sizeOf25 rfl rr1_2 rfl (lB rfl) rfl) ?_
    rintro _ w25 ⟨r14, m24, z7⟩
    have r15 : Row w25 e1_11_0 0 [vF ((rdL ((splW s 32).drop 1)).getD 0 0), vF ((rdL ((splW s 32).drop 1)).getD 1 0), vS e1_9_0 0 (((nW s 32) - 1) - 2) e1_9_1] := Row.congr r14 rfl
    refine WO.end ?_
    refine NE.code ?_
    refine CE.seq ?_
    refine CE.seq ?_
    refine CE.region ?_
    refine WL.call (oc_call (vs := [vP e1_11_0 0]) (cap := []) rfl rfl rfl Tryd.call11 (c_l07Ok ((rdL ((splW s 32).drop 1)).getD 0 0) ((rdL ((splW s 32).drop 1)).getD 1 0) (((nW s 32) - 1) - 2) e1_9_1 e1_9_0 0 ((rdL ((splW s 32).drop 1)).drop 2) e1_11_0 (drop_len (rdL_len (drop_len rfl 1)) 2) (by omega) w25 r15.rng (rr1_1.mod m24 (nC ne3 nN)).rng)) rfl rfl (ltb rfl) ?_
    rintro _ w26 ⟨rfl, m25⟩
    refine WL.det (op_not rfl) rfl rfl rfl ?_
    refine WL.end ?_
    refine NE.code ?_
    refine CE.cond_f rfl (bnot_t k5) ?_
    refine CE.skip' ?_
    refine NE.code ?_
    refine CE.seq ?_
    refine CE.region ?_
    refine WL.det (op_loadA (i := 0) (cs := [vF ((rdL ((splW s 32).drop 1)).getD 0 0), vF ((rdL ((splW s 32).drop 1)).getD 1 0), vS e1_9_0 0 (((nW s 32) - 1) - 2) e1_9_1]) rfl Tryd.isAgg25 Tryd.sizeOf25 (r15.ext m25).rng rfl rfl rfl) rfl rfl rfl ?_
    refine WL.op0 (op_store (i := 0) (cs := [vF ((rdL ((splW s 32).drop 1)).getD 0 0), vF ((rdL ((splW s 32).drop 1)).getD 1 0), vS e1_9_0 0 (((nW s 32) - 1) - 2) e1_9_1]) rfl rfl rfl Tryd.sizeOf25 rfl (((((r1.ext m2).ext m3).ext m23).mod m24 (nC (lE (lL (lL r1.lt (lT m2.size m3.size)) ge8)) nN)).ext m25) rfl (lB rfl) rfl) rfl rfl ?_
    rintro _ w27 ⟨r16, m26, z8⟩
    have r17 : Row w27 w.heap.size 0 [vF ((rdL ((splW s 32).drop 1)).getD 0 0), vF ((rdL ((splW s 32).drop 1)).getD 1 0), vS e1_9_0 0 (((nW s 32) - 1) - 2) e1_9_1] := Row.congr r16 rfl
    refine WL.det (op_assign rfl) rfl rfl rfl ?_
    refine WL.end ?_
    refine NE.code ?_
    refine CE.ret' ?_
    refine XE.leaveT Tryd.results4 (res_agg (cs := [vF ((rdL ((splW s 32).drop 1)).getD 0 0), vF ((rdL ((splW s 32).drop 1)).getD 1 0), vS e1_9_0 0 (((nW s 32) - 1) - 2) e1_9_1]) rfl Tryd.isAgg25 Tryd.sizeOf25 r17.rng rfl (res_tmp rfl res_nil)) ?_
    refine ⟨e1_9_0, e1_9_1, ?_, (((rr1_1.mod m24 (nC ne3 nN)).ext m25).mod m26 (nC (lG (lL (lL r1.lt (lT m2.size m3.size)) ge7)) nN)), (lT (lT (lT m1.size m2.size) m3.size) ge7), ((((((((Mod.refl [] w).nt m1).nt m2).nt m3).nt m23).then m24 ((aC (.inr (lT (lT (lT m1.size m2.size) m3.size) ge8)) aN))).nt m25).then m26 ((aC (.inr lR) aN)))⟩
    all_goals simp_all

set_option maxRecDepth 100000 in
set_option maxHeartbeats 2000000 in
theorem c_iRead (s : ByteArray) (hs : s.size ≤ 1048576) (hv : okS s = true) (w : World) (T2 : LibR w LC 0 []) (T : LibT w LB 0 []) : Cl Tryd.prog 5 #[.string s] w fun v w' => ∃ (b' : Nat) (c' : Nat), v = .tuple #[.agg #[vF ((rdL ((splW s 32).drop 1)).getD 0 0), vF ((rdL ((splW s 32).drop 1)).getD 1 0), vS b' (0 + 2) (((nW s 32) - 1) - 2) c'], vI 0] ∧ Row w' b' (0 + 2) (fl ((rdL ((splW s 32).drop 1)).drop 2)) ∧ w.heap.size ≤ b' ∧ Mod [] w w' := by
  obtain ⟨k1, k2, k3, k4, k5⟩ := okS_t hv; have k6 := nW_pos s 32; have k7 := rdL_w ((splW s 32).drop 1); have k8 := lt_wid (rd_lt (tl (((splW s 32).drop 1).getD 0 StrR.d).s)); have k9 := tunF_n k5; have k10 := W32.get k7 0; have k11 := W32.get k7 1
  refine Cl.of Tryd.func5 Tryd.ntmps5 rfl rfl (ρ := [(0, .string s)]) rfl ?_
  refine CE.seq ?_
  refine CE.region ?_
  refine WL.op (op_alloc (cs := [vF 0, vF 0, .slice none 0 0]) Tryd.zeroValue25 rfl) rfl rfl (ltb rfl) ?_
  rintro _ w1 ⟨rfl, r1, m1, z1⟩
  refine WL.det (op_assign rfl) rfl rfl rfl ?_
  refine WL.end ?_
  refine NE.code ?_
  refine CE.seq ?_
  refine CE.region ?_
  refine WL.det (op_move rfl) rfl rfl rfl ?_
  refine WL.call (oc_call (vs := [.string s, .string (⟨#[32]⟩)]) (cap := []) rfl rfl rfl Tryd.call12 (c_Split s (by first | assumption | omega | exact hS _) w1 (T2.ext m1))) rfl rfl (ltb rfl) ?_
  rintro _ w2 ⟨b'1, rfl, h1, r2, ge1, m2⟩
  refine WL.det (op_assign rfl) rfl rfl rfl ?_
  refine WL.end ?_
  refine NE.code ?_
  refine CE.seq ?_
  refine CE.region ?_
  refine WL.det (op_move rfl) rfl rfl rfl ?_
  have r3 : Row w2 b'1 (0 + 1) (cat StrR.cells ((splW s 32).drop 1)) := Row.congr (Row.drop r2 1) (strs_drop _ _)
  refine WL.det (op_slLoX (i := 1) rfl rfl rfl Tryd.runUnderlying31 Tryd.sizeOf9 (by omega) (by omega)) rfl rfl rfl ?_
  refine WL.call (oc_call (vs := [.slice (slA b'1 0 (nW s 32) 1) ((nW s 32) - 1) (nW s 32 - 1)]) (cap := []) rfl rfl rfl Tryd.call13 (c_smps_t ((nW s 32) - 1) (nW s 32 - 1) (slA b'1 0 (nW s 32) 1) b'1 (0 + 1) ((splW s 32).drop 1) (drop_len rfl 1) (slA_eq (by omega)) (by first | assumption | omega) (by first | assumption | exact fun i => sz_drop (by assumption) i) (by assumption) (by first | assumption | omega) w2 r3.rng ((T2.ext m1).ext m2) ((T.ext m1).ext m2))) rfl rfl (ltb rfl) ?_
  rintro _ w3 ⟨b'2, c'1, rfl, h2, r4, r5, ge2, m3⟩
  refine WL.det (op_move rfl) rfl rfl rfl ?_
  refine WL.det (op_extract rfl rfl) rfl rfl rfl ?_
  refine WL.det (op_extract rfl rfl) rfl rfl rfl ?_
  refine WL.det (op_assign rfl) rfl rfl rfl ?_
  refine WL.det (op_assign rfl) rfl rfl rfl ?_
  refine WL.end ?_
  refine NE.code ?_
  refine CE.seq ?_
  refine CE.seq ?_
  refine CE.region ?_
  refine WL.det (op_move rfl) rfl rfl rfl ?_
  refine WL.det (op_not rfl) rfl rfl rfl ?_
  refine WL.det (op_move rfl) rfl rfl rfl ?_
  refine WL.yes rfl rfl rfl (ltb rfl) rfl rfl ?_
  refine WL.det (op_move rfl) rfl rfl rfl ?_
  refine WL.yes rfl rfl rfl (ltb rfl) rfl rfl ?_
  refine WL.det (op_len rfl Tryd.runUnderlying23) rfl rfl rfl ?_
  refine WL.yes rfl rfl rfl (ltb rfl) rfl rfl ?_
  refine WL.det (op_lti rfl rfl) rfl rfl rfl ?_
  refine WL.det (op_pick_f rfl rfl rfl) rfl rfl rfl ?_
  refine WL.end ?_
  refine NE.code ?_
  refine CE.cond_f rfl (decide_eq_false (by omega)) ?_
  refine CE.skip' ?_
  refine NE.code ?_
  refine CE.seq ?_
  refine CE.draw (fun _ => none) [0, 1, 2, 3, 4, 5, 6, 7, 8, 9] [10] [] (by kernel_rfl) (by kernel_rfl) ?_
  have md1 : Mod [] w3 w3.drew := (Mod.refl _ _).drew
  generalize w3.drew = w4 at md1 ⊢
  refine DR.det (i := 0) rfl rfl (by kernel_rfl) (.free rfl) rfl rfl (fun wD mD => op_move rfl) ?_
  refine DR.det (i := 1) rfl rfl (by kernel_rfl) (.free rfl) rfl rfl (fun wD mD => op_indexSl (off' := 0) rfl rfl rfl Tryd.runUnderlying23 Tryd.sizeOf22 (by omega) (by omega) rfl) ?_
  refine DR.det (i := 2) rfl rfl (by kernel_rfl) (.free rfl) rfl rfl (fun wD mD => op_load1 (i := 0) rfl Tryd.isAgg22 ((r4.ext md1).ext mD).rng rfl (fl_get (by have eL : List.length (rdL ((splW s 32).drop 1)) = (nW s 32) - 1 := (rdL_len (drop_len rfl 1)); omega))) ?_
  refine DR.det (i := 3) rfl rfl (by kernel_rfl) (.free rfl) rfl rfl (fun wD mD => op_move rfl) ?_
  refine DR.det (i := 4) rfl rfl (by kernel_rfl) (.free rfl) rfl rfl (fun wD mD => op_indexSl (off' := 1) rfl rfl rfl Tryd.runUnderlying23 Tryd.sizeOf22 (by omega) (by omega) rfl) ?_
  refine DR.det (i := 5) rfl rfl (by kernel_rfl) (.free rfl) rfl rfl (fun wD mD => op_load1 (i := 1) rfl Tryd.isAgg22 ((r4.ext md1).ext mD).rng rfl (fl_get (by have eL : List.length (rdL ((splW s 32).drop 1)) = (nW s 32) - 1 := (rdL_len (drop_len rfl 1)); omega))) ?_
  refine DR.det (i := 6) rfl rfl (by kernel_rfl) (.free rfl) rfl rfl (fun wD mD => op_move rfl) ?_
  refine DR.det (i := 7) rfl rfl (by kernel_rfl) (.free rfl) rfl rfl (fun wD mD => op_slLo (i := 2) rfl rfl rfl Tryd.runUnderlying23 Tryd.sizeOf22 (by omega) (by omega)) ?_
  refine DR.det (i := 8) rfl rfl (by kernel_rfl) (.free rfl) rfl rfl (fun wD mD => op_build (qs := [(0, vF ((rdL ((splW s 32).drop 1)).getD 0 0)), (1, vF ((rdL ((splW s 32).drop 1)).getD 1 0)), (2, vS b'2 (0 + 2) (((nW s 32) - 1) - 2) (c'1 - 2))]) (cells := #[vF ((rdL ((splW s 32).drop 1)).getD 0 0), vF ((rdL ((splW s 32).drop 1)).getD 1 0), vS b'2 (0 + 2) (((nW s 32) - 1) - 2) (c'1 - 2)]) rfl (by kernel_rfl)) ?_
  refine DR.one1 (i := 9) rfl rfl (by kernel_rfl) (.free rfl) rfl (ltb rfl) ?_
  intro w5 m4
  refine Op1.mono (op_alloc (cs := [vF 0, vF 0, .slice none 0 0]) Tryd.zeroValue25 rfl) ?_
  rintro _ w6 ⟨rfl, r6, m5, z2⟩
  refine ⟨(((Mod.refl [] w4).nt m4).nt m5), ?_⟩
  refine DR.done rfl ?_
  intro w7 m6
  refine WO.op0 rfl (.free rfl) rfl (op_store (i := 0) (cs := [vF ((rdL ((splW s 32).drop 1)).getD 0 0), vF ((rdL ((splW s 32).drop 1)).getD 1 0), vS b'2 (0 + 2) (((nW s 32) - 1) - 2) (c'1 - 2)]) rfl rfl rfl Tryd.sizeOf25 rfl (r6.ext m6) rfl (lB rfl) rfl) ?_
  rintro _ w8 ⟨r7, m7, z3⟩
  have r8 : Row w8 w5.heap.size 0 [vF ((rdL ((splW s 32).drop 1)).getD 0 0), vF ((rdL ((splW s 32).drop 1)).getD 1 0), vS b'2 (0 + 2) (((nW s 32) - 1) - 2) (c'1 - 2)] := Row.congr r7 rfl
  refine WO.end ?_
  refine NE.code ?_
  refine CE.seq ?_
  refine CE.seq ?_
  refine CE.region ?_
  refine WL.det (op_loadA (i := 0) (cs := [vF ((rdL ((splW s 32).drop 1)).getD 0 0), vF ((rdL ((splW s 32).drop 1)).getD 1 0), vS b'2 (0 + 2) (((nW s 32) - 1) - 2) (c'1 - 2)]) rfl Tryd.isAgg25 Tryd.sizeOf25 r8.rng rfl rfl rfl) rfl rfl rfl ?_
  refine WL.call (oc_call (vs := [.agg #[vF ((rdL ((splW s 32).drop 1)).getD 0 0), vF ((rdL ((splW s 32).drop 1)).getD 1 0), vS b'2 (0 + 2) (((nW s 32) - 1) - 2) (c'1 - 2)]]) (cap := []) rfl rfl rfl Tryd.call14 (c_iTunText ((rdL ((splW s 32).drop 1)).getD 0 0) ((rdL ((splW s 32).drop 1)).getD 1 0) (((nW s 32) - 1) - 2) (c'1 - 2) b'2 (0 + 2) ((rdL ((splW s 32).drop 1)).drop 2) (drop_len (rdL_len (drop_len rfl 1)) 2) (by omega) (by assumption) (by assumption) (w32_drop (rdL_w ((splW s 32).drop 1)) 2) (by assumption) w8 (((((r5.ext md1).ext m4).ext m5).ext m6).mod m7 (nC (lE (lL (lL r4.lt (lT md1.size m4.size)) lR)) nN)).rng (LibT.youngS T (((((((T.ext m1).ext m2).ext m3).ext md1).ext m4).ext m5).ext m6) m7 (allge_cons (lT (lT (lT (lT (lT m1.size m2.size) m3.size) md1.size) m4.size) lR) allge_nil)))) rfl rfl (ltb rfl) ?_
  rintro _ w9 ⟨rfl, m8⟩
  refine WL.det (op_move rfl) rfl rfl rfl ?_
  refine WL.det (op_nes rfl rfl) rfl rfl rfl ?_
  refine WL.end ?_
  refine NE.code ?_
  refine CE.cond_f rfl (bnot_t (okS_text hv)) ?_
  refine CE.skip' ?_
  refine NE.code ?_
  refine CE.seq ?_
  refine CE.region ?_
  refine WL.det (op_loadA (i := 0) (cs := [vF ((rdL ((splW s 32).drop 1)).getD 0 0), vF ((rdL ((splW s 32).drop 1)).getD 1 0), vS b'2 (0 + 2) (((nW s 32) - 1) - 2) (c'1 - 2)]) rfl Tryd.isAgg25 Tryd.sizeOf25 (r8.ext m8).rng rfl rfl rfl) rfl rfl rfl ?_
  refine WL.op0 (op_store (i := 0) (cs := [vF ((rdL ((splW s 32).drop 1)).getD 0 0), vF ((rdL ((splW s 32).drop 1)).getD 1 0), vS b'2 (0 + 2) (((nW s 32) - 1) - 2) (c'1 - 2)]) rfl rfl rfl Tryd.sizeOf25 rfl ((((((((r1.ext m2).ext m3).ext md1).ext m4).ext m5).ext m6).mod m7 (nC (lE (lL (lL r1.lt (lT (lT (lT m2.size m3.size) md1.size) m4.size)) lR)) nN)).ext m8) rfl (lB rfl) rfl) rfl rfl ?_
  rintro _ w10 ⟨r9, m9, z4⟩
  have r10 : Row w10 w.heap.size 0 [vF ((rdL ((splW s 32).drop 1)).getD 0 0), vF ((rdL ((splW s 32).drop 1)).getD 1 0), vS b'2 (0 + 2) (((nW s 32) - 1) - 2) (c'1 - 2)] := Row.congr r9 rfl
  refine WL.det (op_assign rfl) rfl rfl rfl ?_
  refine WL.end ?_
  refine NE.code ?_
  refine CE.ret' ?_
  refine XE.leaveT Tryd.results5 (res_agg (cs := [vF ((rdL ((splW s 32).drop 1)).getD 0 0), vF ((rdL ((splW s 32).drop 1)).getD 1 0), vS b'2 (0 + 2) (((nW s 32) - 1) - 2) (c'1 - 2)]) rfl Tryd.isAgg25 Tryd.sizeOf25 r10.rng rfl (res_tmp rfl res_nil)) ?_
  refine ⟨b'2, (c'1 - 2), ?_, (((((((r5.ext md1).ext m4).ext m5).ext m6).mod m7 (nC (lE (lL (lL r4.lt (lT md1.size m4.size)) lR)) nN)).ext m8).mod m9 (nC (lG (lL (lL r1.lt m2.size) ge2)) nN)), (lT (lT m1.size m2.size) ge2), (((((((((((Mod.refl [] w).nt m1).nt m2).nt m3).nt md1).nt m4).nt m5).nt m6).then m7 ((aC (.inr (lT (lT (lT (lT (lT m1.size m2.size) m3.size) md1.size) m4.size) lR)) aN))).nt m8).then m9 ((aC (.inr lR) aN)))⟩
  all_goals simp_all

end Go.Proofs.YtpjjnopjpgnlaaaDoor
