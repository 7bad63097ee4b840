/- Samples that are read from texts. -/
import Derived.Test.YtpjjnopjpgnlaaaDoorJ1
import Derived.Test.YtpjjnopjpgnlaaaDoorT1
set_option linter.unusedVariables false
set_option linter.unusedSimpArgs false
namespace Go.Proofs.YtpjjnopjpgnlaaaDoor

theorem hexD_bd : ∀ (l : List UInt8) (acc b : Nat), hexD acc l = some b → b < (acc + 1) * 16 ^ l.length
  | [], acc, b, h => by
    have : acc = b := by simpa [hexD] using h
    simp; omega
  | c :: l, acc, b, h => by
    have h' : (if 48 ≤ c.toNat ∧ c.toNat ≤ 57 then hexD (acc * 16 + (c.toNat - 48)) l else if 97 ≤ c.toNat ∧ c.toNat ≤ 102 then hexD (acc * 16 + (c.toNat - 87)) l else none) = some b := h
    have key : ∀ d, d < 16 → b < (acc * 16 + d + 1) * 16 ^ l.length → b < (acc + 1) * 16 ^ (c :: l).length := fun d hd h1 => by
      have h3 := Nat.mul_le_mul_right (16 ^ l.length) (show acc * 16 + d + 1 ≤ (acc + 1) * 16 by omega)
      rw [List.length_cons, Nat.pow_succ, Nat.mul_comm (16 ^ l.length) 16, ← Nat.mul_assoc]
      omega
    split at h'
    · exact key _ (by omega) (hexD_bd l _ b h')
    · split at h'
      · exact key _ (by omega) (hexD_bd l _ b h')
      · cases h'
theorem hexD_bd7 {s : ByteArray} {i n : Nat} (h : hexD 0 ((tl s).take i) = some n) (hi : i ≤ 7) : n < 268435456 := by
  have h1 := hexD_bd _ 0 n h
  have h2 : 16 ^ ((tl s).take i).length ≤ 16 ^ 7 := Nat.pow_le_pow_right (by omega) (by rw [List.length_take]; omega)
  have : (16 : Nat) ^ 7 = 268435456 := by decide
  omega
theorem take_tl {s : ByteArray} {i : Nat} (h : i < s.size) : ∃ c : UInt8, (tl s).take (i + 1) = (tl s).take i ++ [c] ∧ c.toNat = byt s i := by
  have hl : i < (tl s).length := by rw [tl_len]; exact h
  refine ⟨(tl s)[i], List.take_succ_eq_append_getElem hl, ?_⟩
  rw [byt_tl, List.getD_eq_getElem?_getD, List.getElem?_eq_getElem hl]; rfl
theorem rdn1 {s : ByteArray} {i n : Nat} (hu : hexD 0 ((tl s).take i) = some n) (hi : i < s.size) (h1 : 48 ≤ byt s i) (h2 : byt s i ≤ 57) : hexD 0 ((tl s).take (i + 1)) = some (n * 16 + (byt s i - 48)) := by
  obtain ⟨c, e1, e2⟩ := take_tl hi
  rw [e1, hexD_snoc, hu, Option.bind_some, e2, if_pos ⟨h1, h2⟩]
theorem rdn2 {s : ByteArray} {i n : Nat} (hu : hexD 0 ((tl s).take i) = some n) (hi : i < s.size) (h1 : 97 ≤ byt s i) (h2 : byt s i ≤ 102) : hexD 0 ((tl s).take (i + 1)) = some (n * 16 + (byt s i - 97) + 10) := by
  obtain ⟨c, e1, e2⟩ := take_tl hi
  rw [e1, hexD_snoc, hu, Option.bind_some, e2, if_neg (by omega), if_pos ⟨h1, h2⟩]
  congr 1; omega
theorem hexD_none : ∀ (l : List UInt8) (acc i : Nat), i < l.length → ¬ (48 ≤ (l.getD i 0).toNat ∧ (l.getD i 0).toNat ≤ 57) → ¬ (97 ≤ (l.getD i 0).toNat ∧ (l.getD i 0).toNat ≤ 102) → hexD acc l = none
  | [], _, _, hi, _, _ => by simp at hi
  | c :: l, acc, 0, _, h, h2 => by
    have e : (c :: l).getD 0 0 = c := rfl
    rw [e] at h h2
    show (if _ then _ else if _ then _ else _) = _
    rw [if_neg h, if_neg h2]
  | c :: l, acc, i + 1, hi, h, h2 => by
    have e : (c :: l).getD (i + 1) 0 = l.getD i 0 := rfl
    rw [e] at h h2
    show (if _ then hexD _ l else if _ then hexD _ l else none) = _
    split
    · exact hexD_none l _ i (by simpa using hi) h h2
    · split
      · exact hexD_none l _ i (by simpa using hi) h h2
      · rfl
theorem rdS_a {s : ByteArray} (h : s.size ≠ 8) : rd (tl s) = none := by unfold rd; rw [if_neg (by rw [tl_len]; exact h)]
theorem rdS_b {s : ByteArray} {i : Nat} (hi : i < s.size) (h : ¬ (48 ≤ byt s i ∧ byt s i ≤ 57)) (h2 : ¬ (97 ≤ byt s i ∧ byt s i ≤ 102)) : rd (tl s) = none := by
  unfold rd
  split
  · rw [hexD_none (tl s) 0 i (by rw [tl_len]; exact hi) h h2]
  · rfl
theorem rdS_c {s : ByteArray} {n : Nat} (h : s.size = 8) (hu : hexD 0 ((tl s).take 8) = some n) : (rd (tl s)).isSome = (((cn .f32 n : Nat) : Int) == ((n : Nat) : Int)) ∧ ((rd (tl s)).isSome = true → n = (rd (tl s)).getD 0) := by
  have hl : (tl s).length = 8 := by rw [tl_len]; exact h
  rw [List.take_of_length_le (by omega)] at hu
  have e : rd (tl s) = if cn .f32 n = n then some n else none := by unfold rd; rw [if_pos hl, hu]
  rw [e]
  by_cases hc : cn .f32 n = n
  · rw [if_pos hc, hc]
    refine ⟨?_, fun _ => rfl⟩
    show true = _
    symm; rw [beq_iff_eq]
  · rw [if_neg hc]
    refine ⟨?_, fun h => by cases h⟩
    show false = _
    symm; rw [beq_eq_false_iff_ne]
    intro h9; exact hc (Int.ofNat.inj h9)
theorem rdI_0 {s : ByteArray} (h0 : ((puF (tl s)).1 == 0) = true) : sEq (mkS (hexN 8 (cn .f32 (puF (tl s)).2))) s = (rd (tl s)).isSome ∧ ((rd (tl s)).isSome = true → (puF (tl s)).2 = (rd (tl s)).getD 0) := by
  obtain ⟨h1, h2⟩ := rd_of (eq_of_beq h0)
  refine ⟨?_, h2⟩
  rw [h1]
  exact sEq_tl _ _
theorem rdI_1 {s : ByteArray} (h0 : ((puF (tl s)).1 == 0) = false) : rd (tl s) = none := rd_bad (ne_of_beq_false h0)
theorem cn_pu (l : List UInt8) : cn .f32 (puF l).2 < 4294967296 := by
  have := puF_le l
  unfold cn
  split
  · decide
  · omega
/-- samples with texts -/
def allO (es : List StrR) : Bool := es.all fun e => (rd (tl e.s)).isSome
def rdL (es : List StrR) : List Nat := es.map fun e => (rd (tl e.s)).getD 0
theorem rdL_len {es : List StrR} {n : Nat} (ln : es.length = n) : (rdL es).length = n := by unfold rdL; rw [List.length_map, ln]
theorem rd_lt (l : List UInt8) : (rd l).getD 0 < 4294967296 := by
  cases h : rd l with
  | none => decide
  | some b => exact (rd_some h).2.1
theorem rdL_w (es : List StrR) : W32 (rdL es) := fun x hx => by
  obtain ⟨e, _, rfl⟩ := List.mem_map.1 hx
  exact lt_wid (rd_lt _)
theorem allO_get {es : List StrR} {n i : Nat} (hv : allO es = true) (ln : es.length = n) (h : i < n) : (rd (tl (es.getD i StrR.d).s)).isSome = true := by
  have hl : i < es.length := by omega
  have := List.all_eq_true.1 hv es[i] (List.getElem_mem hl)
  rw [List.getD_eq_getElem?_getD, List.getElem?_eq_getElem hl]; exact this
theorem take_es {es : List StrR} {n i : Nat} (ln : es.length = n) (h : i < n) : es.take (i + 1) = es.take i ++ [es.getD i StrR.d] := by
  have hl : i < es.length := by omega
  rw [List.take_succ_eq_append_getElem hl, List.getD_eq_getElem?_getD, List.getElem?_eq_getElem hl]; rfl
theorem allO_take {es : List StrR} {n i : Nat} (hu : allO (es.take i) = true) (ln : es.length = n) (h : i < n) (hb : (rd (tl (es.getD i StrR.d).s)).isSome = true) : allO (es.take (i + 1)) = true := by
  rw [take_es ln h]
  unfold allO at hu ⊢
  rw [List.all_append, hu, Bool.true_and, List.all_cons, hb]; rfl
theorem fl_snoc (ys : List Nat) (f : Nat) : fl ys ++ [Value.float .f32 f] = fl (ys ++ [f]) := by simp [fl]
theorem rdL_step {es : List StrR} {n i : Nat} (ln : es.length = n) (h : i < n) : fl (rdL (es.take i)) ++ [vF ((rd (tl (es.getD i StrR.d).s)).getD 0)] = fl (rdL (es.take (i + 1))) := by
  rw [take_es ln h]
  unfold rdL
  rw [List.map_append]
  exact fl_snoc _ _

set_option maxRecDepth 100000 in
set_option maxHeartbeats 2000000 in
theorem c_l01ReadB (s : ByteArray) (hs : s.size ≤ 1048576) (w : World) : Cl Tryd.prog 19 #[.string s] w fun v w' => ∃ (z : Nat), v = .tuple #[vF z, .bool ((rd (tl s)).isSome)] ∧ ((rd (tl s)).isSome = true → z = (rd (tl s)).getD 0) ∧ Mod [] w w' := by
  refine Cl.of Tryd.func19 Tryd.ntmps19 rfl rfl (ρ := [(0, .string s)]) rfl ?_
  refine CE.seq ?_
  refine CE.region ?_
  refine WL.det (op_assign rfl) rfl rfl rfl ?_
  refine WL.det (op_assign rfl) rfl rfl rfl ?_
  refine WL.end ?_
  refine NE.code ?_
  refine CE.seq ?_
  refine CE.seq ?_
  refine CE.region ?_
  refine WL.det (op_move rfl) rfl rfl rfl ?_
  refine WL.det (op_lens rfl Tryd.runUnderlying9) rfl rfl rfl ?_
  refine WL.det (op_nei rfl rfl) rfl rfl rfl ?_
  refine WL.end ?_
  refine NE.code ?_
  rcases Bool.eq_false_or_eq_true ((((s.size : Nat) : Int) != (8 : Int))) with hb1 | hb1
  · have hp1 := bne_iff_ne.1 hb1
    refine CE.cond_t rfl hb1 ?_
    refine CE.seq ?_
    refine CE.region ?_
    refine WL.det (op_assign rfl) rfl rfl rfl ?_
    refine WL.det (op_assign rfl) rfl rfl rfl ?_
    refine WL.end ?_
    refine NE.code ?_
    refine CE.ret' ?_
    refine XE.ret_then ?_
    refine XE.leaveT Tryd.results19 (res_tmp rfl (res_tmp rfl res_nil)) ?_
    refine ⟨0, ?_, ?_, (Mod.refl [] w)⟩
    all_goals first | (rw [rdS_a (by omega)]; first | done | rfl | exact fun h => by cases h) | (rw [rdS_b (s := s) (i := i) (by omega) (by omega) (by omega)]; first | done | rfl | exact fun h => by cases h) | (have e9 : i = 8 := (by omega); subst e9; first | exact (rdS_c (by omega) hu).2 | (rw [(rdS_c (s := s) (by omega) hu).1]; done) | (rw [(rdS_c (s := s) (by omega) hu).1]; rfl))
  · have hp1 := bne_eq_false_iff_eq.1 hb1
    refine CE.cond_f rfl hb1 ?_
    refine CE.skip' ?_
    refine NE.code ?_
    refine CE.seq ?_
    refine CE.region ?_
    refine WL.det (op_assign rfl) rfl rfl rfl ?_
    refine WL.end ?_
    refine NE.code ?_
    refine CE.seq ?_
    refine CE.seq ?_
    refine CE.region ?_
    refine WL.det (op_assign rfl) rfl rfl rfl ?_
    refine WL.end ?_
    refine NE.code ?_
    refine CE.block ?_
    refine CE.loop (fun (z : Nat × Nat) => [(5, vI ((z.1 : Nat) : Int)), (4, .int .u32 ((z.2 : Nat) : Int)), (0, .string s), (2, vF 0), (3, .bool false)]) (fun (z : Nat × Nat) => fun W => (z.1 ≤ 8) ∧ (hexD 0 ((tl s).take z.1) = some z.2) ∧ (z.2 < 4294967296) ∧ Mod [] w W) (fun (z : Nat × Nat) => 8 - z.1) (0, 0) (⟨rfl, rfl, rfl, rfl, rfl, trivial⟩) ⟨(by omega), (by rfl), (by decide), Mod.refl _ _⟩ ?_
    rintro ⟨i, n⟩ w1 ⟨hi, hu, hn, m1⟩
    replace hi : i ≤ 8 := hi
    replace hu : hexD 0 ((tl s).take i) = some n := hu
    replace hn : n < 4294967296 := hn
    have hc9 := byt_lt s i
    have hq9 := fun h => hexD_bd7 hu h
    show CE _ _ _ _ [(5, vI ((i : Nat) : Int)), (4, .int .u32 ((n : Nat) : Int)), (0, .string s), (2, vF 0), (3, .bool false)] _
    refine CE.seq ?_
    refine CE.seq ?_
    refine CE.region ?_
    refine WL.det (op_move rfl) rfl rfl rfl ?_
    refine WL.det (op_lti rfl rfl) rfl rfl rfl ?_
    refine WL.end ?_
    refine NE.code ?_
    rcases Bool.eq_false_or_eq_true (decide (((i : Nat) : Int) < (8 : Int))) with hb2 | hb2
    · have hp2 := of_decide_eq_true hb2
      refine CE.cond_t rfl hb2 ?_
      refine CE.skip' ?_
      refine NE.code ?_
      refine CE.seq ?_
      refine CE.block ?_
      refine CE.seq ?_
      refine CE.region ?_
      refine WL.det (op_move rfl) rfl rfl rfl ?_
      refine WL.det (op_move rfl) rfl rfl rfl ?_
      refine WL.det (op_byte (i := i) rfl rfl rfl Tryd.runUnderlying9 (by omega)) rfl rfl rfl ?_
      refine WL.det (op_assign rfl) rfl rfl rfl ?_
      refine WL.end ?_
      refine NE.code ?_
      refine CE.block ?_
      refine CE.seq ?_
      refine CE.region ?_
      refine WL.det (op_move rfl) rfl rfl rfl ?_
      refine WL.det (op_gei rfl rfl) rfl rfl rfl ?_
      refine WL.det (op_move rfl) rfl rfl rfl ?_
      rcases Bool.eq_false_or_eq_true (decide ((48 : Int) ≤ ((byt s i : Nat) : Int))) with hb3 | hb3
      · have hp3 := of_decide_eq_true hb3
        refine WL.yes rfl rfl rfl (ltb rfl) rfl hb3 ?_
        refine WL.det (op_move rfl) rfl rfl rfl ?_
        refine WL.yes rfl rfl rfl (ltb rfl) rfl hb3 ?_
        refine WL.det (op_lei rfl rfl) rfl rfl rfl ?_
        refine WL.det (op_pick_t rfl hb3 rfl) rfl rfl rfl ?_
        refine WL.det (op_assign rfl) rfl rfl rfl ?_
        refine WL.end ?_
        refine NE.code ?_
        rcases Bool.eq_false_or_eq_true (decide (((byt s i : Nat) : Int) ≤ (57 : Int))) with hb4 | hb4
        · have hp4 := of_decide_eq_true hb4
          refine CE.cond_t rfl hb4 ?_
          refine CE.region ?_
          refine WL.det (op_move rfl) rfl rfl rfl ?_
          refine WL.det (op_mul (r := ((n * 16 : Nat) : Int)) rfl rfl (w_u32 (by omega) (by have := hq9 (by omega); omega))) rfl rfl rfl ?_
          refine WL.det (op_move rfl) rfl rfl rfl ?_
          refine WL.det (op_sub (r := ((byt s i - 48 : Nat) : Int)) rfl rfl (dig_sub (by omega) (byt_lt _ _))) rfl rfl rfl ?_
          refine WL.det (op_cvt_ii (r := ((byt s i - 48 : Nat) : Int)) rfl Tryd.runUnderlying5 Tryd.runUnderlying50 (w_u32 (by omega) (by omega))) rfl rfl rfl ?_
          refine WL.det (op_add (r := ((n * 16 + (byt s i - 48) : Nat) : Int)) rfl rfl (w_u32 (by omega) (by have := hq9 (by omega); omega))) rfl rfl rfl ?_
          refine WL.det (op_assign rfl) rfl rfl rfl ?_
          refine WL.end ?_
          refine NE.blk ?_
          refine NE.blk ?_
          refine NE.code ?_
          refine CE.region ?_
          refine WL.det (op_move rfl) rfl rfl rfl ?_
          refine WL.det (op_add (r := ((i + 1 : Nat) : Int)) rfl rfl (w_i64 (by omega) (by omega))) rfl rfl rfl ?_
          refine WL.det (op_assign rfl) rfl rfl rfl ?_
          refine WL.end ?_
          exact NE.again ((i + 1), (n * 16 + (byt s i - 48))) (⟨rfl, rfl, rfl, rfl, rfl, trivial⟩) ⟨(by omega), (by first | exact rdn1 hu (by omega) (by omega) (by omega) | exact rdn2 hu (by omega) (by omega) (by omega)), (by first | omega | (dsimp only; omega)), m1⟩ (by first | (dsimp only; omega) | omega)
        · have hp4 := of_decide_eq_false hb4
          refine CE.cond_f rfl hb4 ?_
          refine CE.seq ?_
          refine CE.region ?_
          refine WL.det (op_move rfl) rfl rfl rfl ?_
          refine WL.det (op_gei rfl rfl) rfl rfl rfl ?_
          refine WL.det (op_move rfl) rfl rfl rfl ?_
          rcases Bool.eq_false_or_eq_true (decide ((97 : Int) ≤ ((byt s i : Nat) : Int))) with hb5 | hb5
          · have hp5 := of_decide_eq_true hb5
            refine WL.yes rfl rfl rfl (ltb rfl) rfl hb5 ?_
            refine WL.det (op_move rfl) rfl rfl rfl ?_
            refine WL.yes rfl rfl rfl (ltb rfl) rfl hb5 ?_
            refine WL.det (op_lei rfl rfl) rfl rfl rfl ?_
            refine WL.det (op_pick_t rfl hb5 rfl) rfl rfl rfl ?_
            refine WL.det (op_assign rfl) rfl rfl rfl ?_
            refine WL.end ?_
            refine NE.code ?_
            rcases Bool.eq_false_or_eq_true (decide (((byt s i : Nat) : Int) ≤ (102 : Int))) with hb6 | hb6
            · have hp6 := of_decide_eq_true hb6
              refine CE.cond_t rfl hb6 ?_
              refine CE.region ?_
              refine WL.det (op_move rfl) rfl rfl rfl ?_
              refine WL.det (op_mul (r := ((n * 16 : Nat) : Int)) rfl rfl (w_u32 (by omega) (by have := hq9 (by omega); omega))) rfl rfl rfl ?_
              refine WL.det (op_move rfl) rfl rfl rfl ?_
              refine WL.det (op_sub (r := ((byt s i - 97 : Nat) : Int)) rfl rfl (let_sub (by omega) (byt_lt _ _))) rfl rfl rfl ?_
              refine WL.det (op_cvt_ii (r := ((byt s i - 97 : Nat) : Int)) rfl Tryd.runUnderlying5 Tryd.runUnderlying50 (w_u32 (by omega) (by omega))) rfl rfl rfl ?_
              refine WL.det (op_add (r := ((n * 16 + (byt s i - 97) : Nat) : Int)) rfl rfl (w_u32 (by omega) (by have := hq9 (by omega); omega))) rfl rfl rfl ?_
              refine WL.det (op_add (r := ((n * 16 + (byt s i - 97) + 10 : Nat) : Int)) rfl rfl (w_u32 (by omega) (by have := hq9 (by omega); omega))) rfl rfl rfl ?_
              refine WL.det (op_assign rfl) rfl rfl rfl ?_
              refine WL.end ?_
              refine NE.blk ?_
              refine NE.blk ?_
              refine NE.code ?_
              refine CE.region ?_
              refine WL.det (op_move rfl) rfl rfl rfl ?_
              refine WL.det (op_add (r := ((i + 1 : Nat) : Int)) rfl rfl (w_i64 (by omega) (by omega))) rfl rfl rfl ?_
              refine WL.det (op_assign rfl) rfl rfl rfl ?_
              refine WL.end ?_
              exact NE.again ((i + 1), (n * 16 + (byt s i - 97) + 10)) (⟨rfl, rfl, rfl, rfl, rfl, trivial⟩) ⟨(by omega), (by first | exact rdn1 hu (by omega) (by omega) (by omega) | exact rdn2 hu (by omega) (by omega) (by omega)), (by first | omega | (dsimp only; omega)), m1⟩ (by first | (dsimp only; omega) | omega)
            · have hp6 := of_decide_eq_false hb6
              refine CE.cond_f rfl hb6 ?_
              refine CE.seq ?_
              refine CE.region ?_
              refine WL.det (op_assign rfl) rfl rfl rfl ?_
              refine WL.det (op_assign rfl) rfl rfl rfl ?_
              refine WL.end ?_
              refine NE.code ?_
              refine CE.ret' ?_
              refine XE.ret_blk ?_
              refine XE.ret_blk ?_
              refine XE.ret_then ?_
              refine XE.ret_then ?_
              refine XE.ret_blk ?_
              refine XE.ret_then ?_
              refine XE.leaveT Tryd.results19 (res_tmp rfl (res_tmp rfl res_nil)) ?_
              refine ⟨0, ?_, ?_, ((Mod.refl [] w).nt m1)⟩
              all_goals first | (rw [rdS_a (by omega)]; first | done | rfl | exact fun h => by cases h) | (rw [rdS_b (s := s) (i := i) (by omega) (by omega) (by omega)]; first | done | rfl | exact fun h => by cases h) | (have e9 : i = 8 := (by omega); subst e9; first | exact (rdS_c (by omega) hu).2 | (rw [(rdS_c (s := s) (by omega) hu).1]; done) | (rw [(rdS_c (s := s) (by omega) hu).1]; rfl))
          · have hp5 := of_decide_eq_false hb5
            refine WL.no rfl rfl rfl (ltb rfl) rfl hb5 rfl (ltb rfl) ?_
            refine WL.no rfl rfl rfl (ltb rfl) rfl hb5 rfl (ltb rfl) ?_
            refine WL.det (op_pick_f rfl hb5 rfl) rfl rfl rfl ?_
            refine WL.det (op_assign rfl) rfl rfl rfl ?_
            refine WL.end ?_
            refine NE.code ?_
            refine CE.cond_f rfl rfl ?_
            refine CE.seq ?_
            refine CE.region ?_
            refine WL.det (op_assign rfl) rfl rfl rfl ?_
            refine WL.det (op_assign rfl) rfl rfl rfl ?_
            refine WL.end ?_
            refine NE.code ?_
            refine CE.ret' ?_
            refine XE.ret_blk ?_
            refine XE.ret_blk ?_
            refine XE.ret_then ?_
            refine XE.ret_then ?_
            refine XE.ret_blk ?_
            refine XE.ret_then ?_
            refine XE.leaveT Tryd.results19 (res_tmp rfl (res_tmp rfl res_nil)) ?_
            refine ⟨0, ?_, ?_, ((Mod.refl [] w).nt m1)⟩
            all_goals first | (rw [rdS_a (by omega)]; first | done | rfl | exact fun h => by cases h) | (rw [rdS_b (s := s) (i := i) (by omega) (by omega) (by omega)]; first | done | rfl | exact fun h => by cases h) | (have e9 : i = 8 := (by omega); subst e9; first | exact (rdS_c (by omega) hu).2 | (rw [(rdS_c (s := s) (by omega) hu).1]; done) | (rw [(rdS_c (s := s) (by omega) hu).1]; rfl))
      · have hp3 := of_decide_eq_false hb3
        refine WL.no rfl rfl rfl (ltb rfl) rfl hb3 rfl (ltb rfl) ?_
        refine WL.no rfl rfl rfl (ltb rfl) rfl hb3 rfl (ltb rfl) ?_
        refine WL.det (op_pick_f rfl hb3 rfl) rfl rfl rfl ?_
        refine WL.det (op_assign rfl) rfl rfl rfl ?_
        refine WL.end ?_
        refine NE.code ?_
        refine CE.cond_f rfl rfl ?_
        refine CE.seq ?_
        refine CE.region ?_
        refine WL.det (op_move rfl) rfl rfl rfl ?_
        refine WL.det (op_gei rfl rfl) rfl rfl rfl ?_
        refine WL.det (op_move rfl) rfl rfl rfl ?_
        rcases Bool.eq_false_or_eq_true (decide ((97 : Int) ≤ ((byt s i : Nat) : Int))) with hb7 | hb7
        · have hp7 := of_decide_eq_true hb7
          refine WL.yes rfl rfl rfl (ltb rfl) rfl hb7 ?_
          refine WL.det (op_move rfl) rfl rfl rfl ?_
          refine WL.yes rfl rfl rfl (ltb rfl) rfl hb7 ?_
          refine WL.det (op_lei rfl rfl) rfl rfl rfl ?_
          refine WL.det (op_pick_t rfl hb7 rfl) rfl rfl rfl ?_
          refine WL.det (op_assign rfl) rfl rfl rfl ?_
          refine WL.end ?_
          refine NE.code ?_
          rcases Bool.eq_false_or_eq_true (decide (((byt s i : Nat) : Int) ≤ (102 : Int))) with hb8 | hb8
          · have hp8 := of_decide_eq_true hb8
            refine CE.cond_t rfl hb8 ?_
            refine CE.region ?_
            refine WL.det (op_move rfl) rfl rfl rfl ?_
            refine WL.det (op_mul (r := ((n * 16 : Nat) : Int)) rfl rfl (w_u32 (by omega) (by have := hq9 (by omega); omega))) rfl rfl rfl ?_
            refine WL.det (op_move rfl) rfl rfl rfl ?_
            refine WL.det (op_sub (r := ((byt s i - 97 : Nat) : Int)) rfl rfl (let_sub (by omega) (byt_lt _ _))) rfl rfl rfl ?_
            refine WL.det (op_cvt_ii (r := ((byt s i - 97 : Nat) : Int)) rfl Tryd.runUnderlying5 Tryd.runUnderlying50 (w_u32 (by omega) (by omega))) rfl rfl rfl ?_
            refine WL.det (op_add (r := ((n * 16 + (byt s i - 97) : Nat) : Int)) rfl rfl (w_u32 (by omega) (by have := hq9 (by omega); omega))) rfl rfl rfl ?_
            refine WL.det (op_add (r := ((n * 16 + (byt s i - 97) + 10 : Nat) : Int)) rfl rfl (w_u32 (by omega) (by have := hq9 (by omega); omega))) rfl rfl rfl ?_
            refine WL.det (op_assign rfl) rfl rfl rfl ?_
            refine WL.end ?_
            refine NE.blk ?_
            refine NE.blk ?_
            refine NE.code ?_
            refine CE.region ?_
            refine WL.det (op_move rfl) rfl rfl rfl ?_
            refine WL.det (op_add (r := ((i + 1 : Nat) : Int)) rfl rfl (w_i64 (by omega) (by omega))) rfl rfl rfl ?_
            refine WL.det (op_assign rfl) rfl rfl rfl ?_
            refine WL.end ?_
            exact NE.again ((i + 1), (n * 16 + (byt s i - 97) + 10)) (⟨rfl, rfl, rfl, rfl, rfl, trivial⟩) ⟨(by omega), (by first | exact rdn1 hu (by omega) (by omega) (by omega) | exact rdn2 hu (by omega) (by omega) (by omega)), (by first | omega | (dsimp only; omega)), m1⟩ (by first | (dsimp only; omega) | omega)
          · have hp8 := of_decide_eq_false hb8
            refine CE.cond_f rfl hb8 ?_
            refine CE.seq ?_
            refine CE.region ?_
            refine WL.det (op_assign rfl) rfl rfl rfl ?_
            refine WL.det (op_assign rfl) rfl rfl rfl ?_
            refine WL.end ?_
            refine NE.code ?_
            refine CE.ret' ?_
            refine XE.ret_blk ?_
            refine XE.ret_blk ?_
            refine XE.ret_then ?_
            refine XE.ret_then ?_
            refine XE.ret_blk ?_
            refine XE.ret_then ?_
            refine XE.leaveT Tryd.results19 (res_tmp rfl (res_tmp rfl res_nil)) ?_
            refine ⟨0, ?_, ?_, ((Mod.refl [] w).nt m1)⟩
            all_goals first | (rw [rdS_a (by omega)]; first | done | rfl | exact fun h => by cases h) | (rw [rdS_b (s := s) (i := i) (by omega) (by omega) (by omega)]; first | done | rfl | exact fun h => by cases h) | (have e9 : i = 8 := (by omega); subst e9; first | exact (rdS_c (by omega) hu).2 | (rw [(rdS_c (s := s) (by omega) hu).1]; done) | (rw [(rdS_c (s := s) (by omega) hu).1]; rfl))
        · have hp7 := of_decide_eq_false hb7
          refine WL.no rfl rfl rfl (ltb rfl) rfl hb7 rfl (ltb rfl) ?_
          refine WL.no rfl rfl rfl (ltb rfl) rfl hb7 rfl (ltb rfl) ?_
          refine WL.det (op_pick_f rfl hb7 rfl) rfl rfl rfl ?_
          refine WL.det (op_assign rfl) rfl rfl rfl ?_
          refine WL.end ?_
          refine NE.code ?_
          refine CE.cond_f rfl rfl ?_
          refine CE.seq ?_
          refine CE.region ?_
          refine WL.det (op_assign rfl) rfl rfl rfl ?_
          refine WL.det (op_assign rfl) rfl rfl rfl ?_
          refine WL.end ?_
          refine NE.code ?_
          refine CE.ret' ?_
          refine XE.ret_blk ?_
          refine XE.ret_blk ?_
          refine XE.ret_then ?_
          refine XE.ret_then ?_
          refine XE.ret_blk ?_
          refine XE.ret_then ?_
          refine XE.leaveT Tryd.results19 (res_tmp rfl (res_tmp rfl res_nil)) ?_
          refine ⟨0, ?_, ?_, ((Mod.refl [] w).nt m1)⟩
          all_goals first | (rw [rdS_a (by omega)]; first | done | rfl | exact fun h => by cases h) | (rw [rdS_b (s := s) (i := i) (by omega) (by omega) (by omega)]; first | done | rfl | exact fun h => by cases h) | (have e9 : i = 8 := (by omega); subst e9; first | exact (rdS_c (by omega) hu).2 | (rw [(rdS_c (s := s) (by omega) hu).1]; done) | (rw [(rdS_c (s := s) (by omega) hu).1]; rfl))
    · have hp2 := of_decide_eq_false hb2
      refine CE.cond_f rfl hb2 ?_
      refine CE.exit' ?_
      refine XE.exit_then ?_
      refine XE.exit_then ?_
      refine XE.exit_here ?_
      refine NE.code ?_
      refine CE.seq ?_
      refine CE.region ?_
      refine WL.det (op_move rfl) rfl rfl rfl ?_
      refine WL.det (op_extern (vs := [.int .u32 ((n : Nat) : Int)]) Tryd.func26 rfl rfl x26n x26e rfl (fun _ => rfl)) rfl rfl rfl ?_
      refine WL.det (op_assign rfl) rfl rfl rfl ?_
      refine WL.end ?_
      refine NE.code ?_
      refine CE.seq ?_
      refine CE.region ?_
      refine WL.det (op_move rfl) rfl rfl rfl ?_
      refine WL.det (op_move rfl) rfl rfl rfl ?_
      refine WL.call (oc_call (vs := [vF n]) (cap := []) rfl rfl rfl Tryd.call27 (c_l01Bits n n rfl w1)) rfl rfl (ltb rfl) ?_
      rintro _ w2 ⟨rfl, m2⟩
      refine WL.det (op_move rfl) rfl rfl rfl ?_
      refine WL.det (op_eqi rfl rfl) rfl rfl rfl ?_
      refine WL.det (op_assign rfl) rfl rfl rfl ?_
      refine WL.det (op_assign rfl) rfl rfl rfl ?_
      refine WL.end ?_
      refine NE.code ?_
      refine CE.ret' ?_
      refine XE.leaveT Tryd.results19 (res_tmp rfl (res_tmp rfl res_nil)) ?_
      refine ⟨n, ?_, ?_, (((Mod.refl [] w).nt m1).nt m2)⟩
      all_goals first | (rw [rdS_a (by omega)]; first | done | rfl | exact fun h => by cases h) | (rw [rdS_b (s := s) (i := i) (by omega) (by omega) (by omega)]; first | done | rfl | exact fun h => by cases h) | (have e9 : i = 8 := (by omega); subst e9; first | exact (rdS_c (by omega) hu).2 | (rw [(rdS_c (s := s) (by omega) hu).1]; done) | (rw [(rdS_c (s := s) (by omega) hu).1]; rfl))

set_option maxRecDepth 100000 in
set_option maxHeartbeats 2000000 in
theorem c_readBitsB (s : ByteArray) (hs : s.size ≤ 1048576) (w : World) (T2 : LibR w LC 0 []) (T : LibT w LB 0 []) : Cl Tryd.prog 23 #[.string s] w fun v w' => ∃ (z : Nat), v = .tuple #[vF z, .bool ((rd (tl s)).isSome)] ∧ ((rd (tl s)).isSome = true → z = (rd (tl s)).getD 0) ∧ Mod [] w w' := by
  have hP := puF_le (tl s); have hC := cn_pu (tl s)
  refine Cl.of Tryd.func23 Tryd.ntmps23 rfl rfl (ρ := [(0, .string s)]) rfl ?_
  refine CE.seq ?_
  refine CE.region ?_
  refine WL.det (op_assign rfl) rfl rfl rfl ?_
  refine WL.det (op_assign rfl) rfl rfl rfl ?_
  refine WL.end ?_
  refine NE.code ?_
  refine CE.seq ?_
  refine CE.region ?_
  refine WL.det (op_move rfl) rfl rfl rfl ?_
  rcases Bool.eq_false_or_eq_true (((puF (tl s)).1 == 0)) with hb1 | hb1
  · have hp1 := eq_of_beq hb1
    refine WL.call (oc_call (vs := [.string s, vI 16, vI 32]) (cap := []) rfl rfl rfl Tryd.call33 (c_PU0 s (by first | assumption | omega) (by assumption) w T2)) rfl rfl (ltb rfl) ?_
    rintro _ w1 ⟨rfl, m1⟩
    refine WL.det (op_move rfl) rfl rfl rfl ?_
    refine WL.det (op_extract rfl rfl) rfl rfl rfl ?_
    refine WL.det (op_extract rfl rfl) rfl rfl rfl ?_
    refine WL.det (op_assign rfl) rfl rfl rfl ?_
    refine WL.det (op_assign rfl) rfl rfl rfl ?_
    refine WL.end ?_
    refine NE.code ?_
    refine CE.seq ?_
    refine CE.seq ?_
    refine CE.region ?_
    refine WL.det (op_move rfl) rfl rfl rfl ?_
    refine WL.det (op_ne_nilif rfl Tryd.underlying57) rfl rfl rfl ?_
    refine WL.end ?_
    refine NE.code ?_
    refine CE.cond_f rfl rfl ?_
    refine CE.skip' ?_
    refine NE.code ?_
    refine CE.seq ?_
    refine CE.region ?_
    refine WL.det (op_move rfl) rfl rfl rfl ?_
    refine WL.det (op_cvt_ii (r := (((puF (tl s)).2 : Nat) : Int)) rfl Tryd.runUnderlying55 Tryd.runUnderlying50 (w_u32 (by omega) (by omega))) rfl rfl rfl ?_
    refine WL.det (op_extern (vs := [.int .u32 (((puF (tl s)).2 : Nat) : Int)]) Tryd.func26 rfl rfl x26n x26e rfl (fun _ => rfl)) rfl rfl rfl ?_
    refine WL.det (op_assign rfl) rfl rfl rfl ?_
    refine WL.end ?_
    refine NE.code ?_
    refine CE.seq ?_
    refine CE.region ?_
    refine WL.det (op_move rfl) rfl rfl rfl ?_
    refine WL.det (op_move rfl) rfl rfl rfl ?_
    refine WL.call (oc_call (vs := [vF ((puF (tl s)).2)]) (cap := []) rfl rfl rfl Tryd.call34 (c_bitsText ((puF (tl s)).2) ((puF (tl s)).2) rfl (by first | assumption | exact cn_lt32 (W32.get hw _) | exact cn_lt32 (by assumption)) w1 (T.ext m1))) rfl rfl (ltb rfl) ?_
    rintro _ w2 ⟨rfl, m2⟩
    refine WL.det (op_move rfl) rfl rfl rfl ?_
    refine WL.det (op_eqs rfl rfl) rfl rfl rfl ?_
    refine WL.det (op_assign rfl) rfl rfl rfl ?_
    refine WL.det (op_assign rfl) rfl rfl rfl ?_
    refine WL.end ?_
    refine NE.code ?_
    refine CE.ret' ?_
    refine XE.leaveT Tryd.results23 (res_tmp rfl (res_tmp rfl res_nil)) ?_
    refine ⟨((puF (tl s)).2), ?_, ?_, (((Mod.refl [] w).nt m1).nt m2)⟩
    all_goals first | (rw [rdI_1 (by assumption)]; first | done | rfl | exact fun h => by cases h) | exact (rdI_0 (by assumption)).2 | (rw [(rdI_0 (s := s) (by assumption)).1]; done) | (rw [(rdI_0 (s := s) (by assumption)).1]; rfl)
  · have hp1 := ne_of_beq_false hb1
    refine WL.call (oc_call (vs := [.string s, vI 16, vI 32]) (cap := []) rfl rfl rfl Tryd.call33 (c_PU1 s (by first | assumption | omega) (by assumption) w T2)) rfl rfl (ltb rfl) ?_
    rintro _ w3 ⟨tp1, pv1, rfl, m3⟩
    refine WL.det (op_move rfl) rfl rfl rfl ?_
    refine WL.det (op_extract rfl rfl) rfl rfl rfl ?_
    refine WL.det (op_extract rfl rfl) rfl rfl rfl ?_
    refine WL.det (op_assign rfl) rfl rfl rfl ?_
    refine WL.det (op_assign rfl) rfl rfl rfl ?_
    refine WL.end ?_
    refine NE.code ?_
    refine CE.seq ?_
    refine CE.seq ?_
    refine CE.region ?_
    refine WL.det (op_move rfl) rfl rfl rfl ?_
    refine WL.det (op_ne_if rfl Tryd.underlying57) rfl rfl rfl ?_
    refine WL.end ?_
    refine NE.code ?_
    refine CE.cond_t rfl rfl ?_
    refine CE.seq ?_
    refine CE.region ?_
    refine WL.det (op_assign rfl) rfl rfl rfl ?_
    refine WL.det (op_assign rfl) rfl rfl rfl ?_
    refine WL.end ?_
    refine NE.code ?_
    refine CE.ret' ?_
    refine XE.ret_then ?_
    refine XE.leaveT Tryd.results23 (res_tmp rfl (res_tmp rfl res_nil)) ?_
    refine ⟨0, ?_, ?_, ((Mod.refl [] w).nt m3)⟩
    all_goals first | (rw [rdI_1 (by assumption)]; first | done | rfl | exact fun h => by cases h) | exact (rdI_0 (by assumption)).2 | (rw [(rdI_0 (s := s) (by assumption)).1]; done) | (rw [(rdI_0 (s := s) (by assumption)).1]; rfl)

theorem c_l01Read (s : ByteArray) (hs : s.size ≤ 1048576) (hk : (rd (tl s)).isSome = true) (w : World) : Cl Tryd.prog 19 #[.string s] w fun v w' => v = .tuple #[vF ((rd (tl s)).getD 0), .bool true] ∧ Mod [] w w' := by
  refine Cl.mono (c_l01ReadB s hs w) ?_
  rintro v w' ⟨z, rfl, h, m⟩
  rw [h hk, hk]
  exact ⟨rfl, m⟩
theorem c_l01Read_no (s : ByteArray) (hs : s.size ≤ 1048576) (hk : (rd (tl s)).isSome = false) (w : World) : Cl Tryd.prog 19 #[.string s] w fun v w' => ∃ (z : Nat), v = .tuple #[vF z, .bool false] ∧ Mod [] w w' := by
  refine Cl.mono (c_l01ReadB s hs w) ?_
  rintro v w' ⟨z, rfl, h, m⟩
  rw [hk]
  exact ⟨z, rfl, m⟩
theorem c_readBits (s : ByteArray) (hs : s.size ≤ 1048576) (hk : (rd (tl s)).isSome = true) (w : World) (T2 : LibR w LC 0 []) (T : LibT w LB 0 []) : Cl Tryd.prog 23 #[.string s] w fun v w' => v = .tuple #[vF ((rd (tl s)).getD 0), .bool true] ∧ Mod [] w w' := by
  refine Cl.mono (c_readBitsB s hs w T2 T) ?_
  rintro v w' ⟨z, rfl, h, m⟩
  rw [h hk, hk]
  exact ⟨rfl, m⟩
theorem c_readBits_no (s : ByteArray) (hs : s.size ≤ 1048576) (hk : (rd (tl s)).isSome = false) (w : World) (T2 : LibR w LC 0 []) (T : LibT w LB 0 []) : Cl Tryd.prog 23 #[.string s] w fun v w' => ∃ (z : Nat), v = .tuple #[vF z, .bool false] ∧ Mod [] w w' := by
  refine Cl.mono (c_readBitsB s hs w T2 T) ?_
  rintro v w' ⟨z, rfl, h, m⟩
  rw [hk]
  exact ⟨z, rfl, m⟩
end Go.Proofs.YtpjjnopjpgnlaaaDoor
