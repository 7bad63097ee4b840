/- Words of a text. -/
import Derived.Test.YtpjjnopjpgnlaaaDoorJ3
import Derived.Test.YtpjjnopjpgnlaaaDoorT2
set_option linter.unusedVariables false
set_option linter.unusedSimpArgs false
namespace Go.Proofs.YtpjjnopjpgnlaaaDoor

theorem splI_t {s : ByteArray} {c i fr : Nat} {ys : List StrR} (h : splG s c i = (ys, fr)) (hb : byt s i = c) : splG s c (i + 1) = (ys ++ [⟨s.extract fr i⟩], i + 1) := by rw [splG_t hb, h]
theorem splI_f {s : ByteArray} {c i fr : Nat} {ys : List StrR} (h : splG s c i = (ys, fr)) (hb : byt s i ≠ c) : splG s c (i + 1) = (ys, fr) := by rw [splG_f hb, h]
theorem str_snocE (ys : List StrR) (x : ByteArray) : cat StrR.cells ys ++ [.string x] = cat StrR.cells (ys ++ [⟨x⟩]) := by
  rw [cat_app]
  show _ = _ ++ (StrR.cells ⟨x⟩ ++ [])
  rw [List.append_nil]; rfl
theorem splW_of {s : ByteArray} {c fr : Nat} {ys : List StrR} (h : splG s c s.size = (ys, fr)) : splW s c = ys ++ [⟨s.extract fr s.size⟩] := by unfold splW; rw [h]
theorem splG_size (s : ByteArray) (c : Nat) : ∀ i e, e ∈ (splG s c i).1 → e.s.size ≤ s.size
  | 0, e, h => by cases h
  | i + 1, e, h => by
    by_cases hb : byt s i = c
    · rw [splG_t hb] at h
      rcases List.mem_append.1 h with h | h
      · exact splG_size s c i e h
      · rw [List.mem_singleton.1 h]
        show (s.extract _ i).size ≤ _
        rw [ByteArray.size_extract]; omega
    · rw [splG_f hb] at h
      exact splG_size s c i e h
theorem splW_size (s : ByteArray) (c : Nat) : ∀ i, ((splW s c).getD i StrR.d).s.size ≤ s.size := fun i => by
  rw [List.getD_eq_getElem?_getD]
  cases h : (splW s c)[i]? with
  | none => exact Nat.zero_le _
  | some e =>
    have hm := List.mem_of_getElem? h
    unfold splW at hm
    show e.s.size ≤ _
    rcases List.mem_append.1 hm with hm | hm
    · exact splG_size s c _ e hm
    · rw [List.mem_singleton.1 hm]
      show (s.extract _ _).size ≤ _
      rw [ByteArray.size_extract]; omega
set_option maxRecDepth 100000 in
set_option maxHeartbeats 2000000 in
theorem c_l01Split (s : ByteArray) (c : Nat) (hs : s.size ≤ 1048576) (w : World) : Cl Tryd.prog 9 #[.string s, .int .u8 ((c : Nat) : Int)] w fun v w' => ∃ (b' : Nat) (c' : Nat) (A' : Option Addr) (n' : Nat), v = .slice A' n' c' ∧ (0 < n' → A' = some ⟨b', 0, none⟩) ∧ ((splW s c).length = n') ∧ (∀ i, ((splW s c).getD i StrR.d).s.size ≤ 1048576) ∧ (0 < n') ∧ (n' ≤ c') ∧ Row w' b' 0 (cat StrR.cells (splW s c)) ∧ w.heap.size ≤ b' ∧ Mod [] w w' := by
  refine Cl.of Tryd.func9 Tryd.ntmps9 rfl rfl (ρ := [(0, .string s), (1, .int .u8 ((c : Nat) : Int))]) rfl ?_
  refine CE.seq ?_
  refine CE.region ?_
  refine WL.det (op_assign rfl) rfl rfl rfl ?_
  refine WL.end ?_
  refine NE.code ?_
  refine CE.seq ?_
  refine CE.region ?_
  refine WL.op (op_emptySl rfl Tryd.runUnderlying31 Tryd.sizeOf9) rfl rfl (ltb rfl) ?_
  rintro _ w1 ⟨rfl, r1, m1, z1⟩
  refine WL.det (op_assign rfl) rfl rfl rfl ?_
  refine WL.end ?_
  refine NE.code ?_
  refine CE.seq ?_
  refine CE.region ?_
  refine WL.det (op_assign rfl) rfl rfl rfl ?_
  refine WL.end ?_
  refine NE.code ?_
  refine CE.seq ?_
  refine CE.seq ?_
  refine CE.region ?_
  refine WL.det (op_assign rfl) rfl rfl rfl ?_
  refine WL.end ?_
  refine NE.code ?_
  refine CE.block ?_
  refine CE.loop (fun (z : Nat × Nat × Nat × Option Addr × Nat × List StrR) => [(7, vI ((z.1 : Nat) : Int)), (6, vI ((z.2.1 : Nat) : Int)), (5, .slice z.2.2.2.1 z.2.2.1 z.2.2.2.2.1), (0, .string s), (1, .int .u8 ((c : Nat) : Int)), (4, .slice none 0 0)]) (fun (z : Nat × Nat × Nat × Option Addr × Nat × List StrR) => fun W => (z.1 ≤ s.size) ∧ (z.2.1 ≤ z.1) ∧ (splG s c z.1 = (z.2.2.2.2.2, z.2.1)) ∧ (z.2.2.2.2.2.length = z.2.2.1) ∧ (z.2.2.1 ≤ z.1) ∧ Own 9 1 w1.heap.size W z.2.2.2.1 z.2.2.1 z.2.2.2.2.1 (cat StrR.cells z.2.2.2.2.2) ∧ Mod [] w1 W) (fun (z : Nat × Nat × Nat × Option Addr × Nat × List StrR) => s.size - z.1) (0, 0, 0, (some ⟨w.heap.size, 0, none⟩), 0, []) (⟨rfl, rfl, rfl, rfl, rfl, rfl, trivial⟩) ⟨(by omega), (by exact Nat.le_refl _), (by rfl), (by rfl), (by exact Nat.le_refl _), (Own.congr Own.emp (rfl)), Mod.refl _ _⟩ ?_
  rintro ⟨i, fr, nn, A2, cc, ys⟩ w2 ⟨hi, hf, hy, hly, hnn, ow1, m2⟩
  replace hi : i ≤ s.size := hi
  replace hf : fr ≤ i := hf
  replace hy : splG s c i = (ys, fr) := hy
  replace hly : ys.length = nn := hly
  replace hnn : nn ≤ i := hnn
  replace ow1 : Own 9 1 w1.heap.size w2 A2 nn cc (cat StrR.cells ys) := ow1
  show CE _ _ _ _ [(7, vI ((i : Nat) : Int)), (6, vI ((fr : Nat) : Int)), (5, .slice A2 nn cc), (0, .string s), (1, .int .u8 ((c : Nat) : Int)), (4, .slice none 0 0)] _
  refine CE.seq ?_
  refine CE.seq ?_
  refine CE.region ?_
  refine WL.det (op_move rfl) rfl rfl rfl ?_
  refine WL.det (op_move rfl) rfl rfl rfl ?_
  refine WL.det (op_lens rfl Tryd.runUnderlying9) rfl rfl rfl ?_
  refine WL.det (op_lti rfl rfl) rfl rfl rfl ?_
  refine WL.end ?_
  refine NE.code ?_
  rcases Bool.eq_false_or_eq_true (decide (((i : Nat) : Int) < ((s.size : Nat) : Int))) with hb1 | hb1
  · have hp1 := of_decide_eq_true hb1
    refine CE.cond_t rfl hb1 ?_
    refine CE.skip' ?_
    refine NE.code ?_
    refine CE.seq ?_
    refine CE.block ?_
    refine CE.seq ?_
    refine CE.region ?_
    refine WL.det (op_move rfl) rfl rfl rfl ?_
    refine WL.det (op_move rfl) rfl rfl rfl ?_
    refine WL.det (op_byte (i := i) rfl rfl rfl Tryd.runUnderlying9 (by omega)) rfl rfl rfl ?_
    refine WL.det (op_move rfl) rfl rfl rfl ?_
    refine WL.det (op_eqi rfl rfl) rfl rfl rfl ?_
    refine WL.end ?_
    refine NE.code ?_
    rcases Bool.eq_false_or_eq_true ((((byt s i : Nat) : Int) == ((c : Nat) : Int))) with hb2 | hb2
    · have hp2 := eq_of_beq hb2
      refine CE.cond_t rfl hb2 ?_
      refine CE.seq ?_
      refine CE.region ?_
      refine WL.det (op_move rfl) rfl rfl rfl ?_
      refine WL.det (op_move rfl) rfl rfl rfl ?_
      refine WL.det (op_move rfl) rfl rfl rfl ?_
      refine WL.det (op_move rfl) rfl rfl rfl ?_
      refine WL.det (op_strLH (i := fr) (j := i) rfl rfl rfl rfl rfl Tryd.runUnderlying9 (by omega) (by omega)) rfl rfl rfl ?_
      refine WL.op (op_buildSl (qs := [(0, .string (s.extract fr i))]) (cells := #[.string (s.extract fr i)]) rfl Tryd.runUnderlying31 Tryd.sizeOf9 Tryd.zeroValue9 (by decide) (by decide) (by kernel_rfl)) rfl rfl (ltb rfl) ?_
      rintro _ w3 ⟨rfl, r2, m3, z2⟩
      refine WL.op (op_app (i := Tryd.t9) (m := 1) (bt := 16) (news := [.string (s.extract fr i)]) rfl rfl Tryd.underlying31 rfl rfl rfl rfl rfl (by decide) r2.rng rfl rfl (ow1.ext m3) (lT m2.size m3.size) (by omega) (by decide)) rfl rfl (ltb rfl) ?_
      rintro _ w4 ⟨A1, c1, b1, rfl, ow2, ge1, m4⟩
      refine WL.det (op_assign rfl) rfl rfl rfl ?_
      refine WL.end ?_
      refine NE.code ?_
      refine CE.region ?_
      refine WL.det (op_move rfl) rfl rfl rfl ?_
      refine WL.det (op_add (r := ((i + 1 : Nat) : Int)) rfl rfl (w_i64 (by omega) (by omega))) rfl rfl rfl ?_
      refine WL.det (op_assign rfl) rfl rfl rfl ?_
      refine WL.end ?_
      refine NE.blk ?_
      refine NE.code ?_
      refine CE.region ?_
      refine WL.det (op_move rfl) rfl rfl rfl ?_
      refine WL.det (op_add (r := ((i + 1 : Nat) : Int)) rfl rfl (w_i64 (by omega) (by omega))) rfl rfl rfl ?_
      refine WL.det (op_assign rfl) rfl rfl rfl ?_
      refine WL.end ?_
      exact NE.again ((i + 1), (i + 1), (nn + 1), A1, c1, (ys ++ [⟨s.extract fr i⟩])) (⟨rfl, rfl, rfl, rfl, rfl, rfl, trivial⟩) ⟨(by omega), (by first | (dsimp only; omega) | omega), (by first | exact splI_t hy (by omega) | exact splI_f hy (by omega)), (by first | exact hly | (rw [List.length_append, hly]; rfl)), (by dsimp only; omega), (Own.congr ow2 (by first | rfl | exact str_snocE _ _)), ((m2.nt m3).then m4 ((aC (.inr ge1) aN)))⟩ (by first | (dsimp only; omega) | omega)
    · have hp2 := ne_of_beq_false hb2
      refine CE.cond_f rfl hb2 ?_
      refine CE.skip' ?_
      refine NE.blk ?_
      refine NE.code ?_
      refine CE.region ?_
      refine WL.det (op_move rfl) rfl rfl rfl ?_
      refine WL.det (op_add (r := ((i + 1 : Nat) : Int)) rfl rfl (w_i64 (by omega) (by omega))) rfl rfl rfl ?_
      refine WL.det (op_assign rfl) rfl rfl rfl ?_
      refine WL.end ?_
      exact NE.again ((i + 1), fr, nn, A2, cc, ys) (⟨rfl, rfl, rfl, rfl, rfl, rfl, trivial⟩) ⟨(by omega), (by first | (dsimp only; omega) | omega), (by first | exact splI_t hy (by omega) | exact splI_f hy (by omega)), (by first | exact hly | (rw [List.length_append, hly]; rfl)), (by dsimp only; omega), (Own.congr ow1 (by first | rfl | exact str_snocE _ _)), m2⟩ (by first | (dsimp only; omega) | omega)
  · have hp1 := of_decide_eq_false hb1
    refine CE.cond_f rfl hb1 ?_
    refine CE.exit' ?_
    refine XE.exit_then ?_
    refine XE.exit_then ?_
    refine XE.exit_here ?_
    refine NE.code ?_
    refine CE.seq ?_
    refine CE.region ?_
    refine WL.det (op_move rfl) rfl rfl rfl ?_
    refine WL.det (op_move rfl) rfl rfl rfl ?_
    refine WL.det (op_move rfl) rfl rfl rfl ?_
    refine WL.det (op_strLo (i := fr) rfl rfl rfl Tryd.runUnderlying9 (by omega)) rfl rfl rfl ?_
    refine WL.op (op_buildSl (qs := [(0, .string (s.extract fr s.size))]) (cells := #[.string (s.extract fr s.size)]) rfl Tryd.runUnderlying31 Tryd.sizeOf9 Tryd.zeroValue9 (by decide) (by decide) (by kernel_rfl)) rfl rfl (ltb rfl) ?_
    rintro _ w5 ⟨rfl, r3, m5, z3⟩
    refine WL.op (op_app (i := Tryd.t9) (m := 1) (bt := 16) (news := [.string (s.extract fr s.size)]) rfl rfl Tryd.underlying31 rfl rfl rfl rfl rfl (by decide) r3.rng rfl rfl (ow1.ext m5) (lT m2.size m5.size) (by omega) (by decide)) rfl rfl (ltb rfl) ?_
    rintro _ w6 ⟨A2, c2, b2, rfl, ow3, ge2, m6⟩
    refine WL.det (op_assign rfl) rfl rfl rfl ?_
    refine WL.end ?_
    refine NE.code ?_
    refine CE.ret' ?_
    have ei : s.size = i := by omega
    subst ei
    have hc1 := Own.cap ow3
    obtain ⟨b3, hA1, r4, hq1⟩ := Own.out ow3 (((r1.ext m2).ext m5).mod m6 (nC (lE (lL r1.lt ge2)) nN))
    refine XE.leave1 Tryd.results9 rfl ?_
    refine ⟨b3, c2, A2, (nn + 1), rfl, hA1, ?_, ?_, ?_, ?_, (Row.congr r4 ?_), (own_ge hq1 lR m1.size), (((((Mod.refl [] w).nt m1).nt m2).nt m5).then m6 ((aC (.inr (lT m1.size ge2)) aN)))⟩
    all_goals first | assumption | omega | exact fun i => Nat.le_trans (splW_size s c i) hs | (rw [splW_of (by assumption), List.length_append, hly]; rfl) | (rw [splW_of (by assumption)]; exact str_snocE _ _)

end Go.Proofs.YtpjjnopjpgnlaaaDoor
