/- Hexadecimal numbers that are read from texts. -/
import Derived.Test.YtpjjnopjpgnlaaaDoorG2
import Derived.Test.YtpjjnopjpgnlaaaDoorE37
set_option linter.unusedVariables false
set_option linter.unusedSimpArgs false
namespace Go.Proofs.YtpjjnopjpgnlaaaDoor

theorem drop_byL {s : ByteArray} {i : Nat} (h : i < s.size) : ∃ c : UInt8, (tl s).drop i = c :: (tl s).drop (i + 1) ∧ c.toNat = (byL s).getD i 0 := by
  have hl : i < (tl s).length := by rw [tl_len]; exact h
  refine ⟨(tl s)[i], List.drop_eq_getElem_cons hl, ?_⟩
  unfold byL
  rw [List.getD_eq_getElem?_getD, List.getElem?_map]
  show _ = (((tl s)[i]?).map UInt8.toNat).getD 0
  rw [List.getElem?_eq_getElem hl]; rfl
theorem dgt_dig {c : Nat} (h1 : 48 ≤ c) (h2 : c ≤ 57) : dgt c = c - 48 := if_pos ⟨h1, h2⟩
theorem dgt_let {c : Nat} (h : ¬ (48 ≤ c ∧ c ≤ 57)) (h1 : 97 ≤ lowC c) (h2 : lowC c ≤ 122) : dgt c = lowC c - 97 + 10 := by
  unfold dgt
  rw [if_neg h, if_pos ⟨h1, h2⟩]; omega
theorem dgt_no {c : Nat} (h : ¬ (48 ≤ c ∧ c ≤ 57)) (h1 : ¬ (97 ≤ lowC c ∧ lowC c ≤ 122)) : dgt c = 99 := by
  unfold dgt
  rw [if_neg h, if_neg h1]
theorem pu_step {s : ByteArray} {i n d : Nat} (hi : i < s.size) (hd : dgt ((byL s).getD i 0) = d) : pu n ((tl s).drop i) = if 16 ≤ d then (2, 0) else if 4294967295 < n * 16 + d then (1, 4294967295) else pu (n * 16 + d) ((tl s).drop (i + 1)) := by
  obtain ⟨c, h1, h2⟩ := drop_byL hi
  rw [h1]
  show (if 16 ≤ dgt c.toNat then _ else _) = _
  rw [h2, hd]
section
variable {s : ByteArray} {i n : Nat} (hu : pu 0 (tl s) = pu n ((tl s).drop i))
include hu
theorem pu_n1 (hi : i < s.size) (h1 : 48 ≤ (byL s).getD i 0) (h2 : (byL s).getD i 0 ≤ 57) (hr : n * 16 + ((byL s).getD i 0 - 48) ≤ 4294967295) : pu 0 (tl s) = pu (n * 16 + ((byL s).getD i 0 - 48)) ((tl s).drop (i + 1)) := by
  rw [hu, pu_step hi (dgt_dig h1 h2), if_neg (by omega), if_neg (by omega)]
theorem pu_n2 (hi : i < s.size) (h : ¬ (48 ≤ (byL s).getD i 0 ∧ (byL s).getD i 0 ≤ 57)) (h1 : 97 ≤ lowC ((byL s).getD i 0)) (h2 : lowC ((byL s).getD i 0) ≤ 122) (h3 : lowC ((byL s).getD i 0) - 97 + 10 < 16) (hr : n * 16 + (lowC ((byL s).getD i 0) - 97 + 10) ≤ 4294967295) : pu 0 (tl s) = pu (n * 16 + (lowC ((byL s).getD i 0) - 97 + 10)) ((tl s).drop (i + 1)) := by
  rw [hu, pu_step hi (dgt_let h h1 h2), if_neg (by omega), if_neg (by omega)]
theorem pu_b1 (hi : i < s.size) (h : ¬ (48 ≤ (byL s).getD i 0 ∧ (byL s).getD i 0 ≤ 57)) (h1 : ¬ (97 ≤ lowC ((byL s).getD i 0) ∧ lowC ((byL s).getD i 0) ≤ 122)) : pu 0 (tl s) = (2, 0) := by
  rw [hu, pu_step hi (dgt_no h h1), if_pos (by omega)]
theorem pu_b2 (hi : i < s.size) (h : ¬ (48 ≤ (byL s).getD i 0 ∧ (byL s).getD i 0 ≤ 57)) (h1 : 97 ≤ lowC ((byL s).getD i 0)) (h2 : lowC ((byL s).getD i 0) ≤ 122) (h3 : 16 ≤ lowC ((byL s).getD i 0) - 97 + 10) : pu 0 (tl s) = (2, 0) := by
  rw [hu, pu_step hi (dgt_let h h1 h2), if_pos (by omega)]
theorem pu_r1 (hi : i < s.size) (h1 : 48 ≤ (byL s).getD i 0) (h2 : (byL s).getD i 0 ≤ 57) (hr : 4294967295 < n * 16 + ((byL s).getD i 0 - 48)) : pu 0 (tl s) = (1, 4294967295) := by
  rw [hu, pu_step hi (dgt_dig h1 h2), if_neg (by omega), if_pos (by omega)]
theorem pu_r2 (hi : i < s.size) (h : ¬ (48 ≤ (byL s).getD i 0 ∧ (byL s).getD i 0 ≤ 57)) (h1 : 97 ≤ lowC ((byL s).getD i 0)) (h2 : lowC ((byL s).getD i 0) ≤ 122) (h3 : lowC ((byL s).getD i 0) - 97 + 10 < 16) (hr : 4294967295 < n * 16 + (lowC ((byL s).getD i 0) - 97 + 10)) : pu 0 (tl s) = (1, 4294967295) := by
  rw [hu, pu_step hi (dgt_let h h1 h2), if_neg (by omega), if_pos (by omega)]
theorem pu_e (hi : s.size ≤ i) : pu 0 (tl s) = (0, n) := by
  rw [hu, List.drop_eq_nil_of_le (by rw [tl_len]; exact hi)]; rfl
end
theorem sEq_nil (s : ByteArray) : sEq s ⟨#[]⟩ = (tl s == []) := by
  unfold sEq
  rw [ByteArray.toList_eq, ByteArray.toList_eq]; rfl
theorem puS_e {s : ByteArray} (hb : sEq s ⟨#[]⟩ = true) : puF (tl s) = (2, 0) := by
  rw [sEq_nil, beq_iff_eq] at hb
  unfold puF; rw [if_pos hb]
theorem puS {s : ByteArray} {r : Nat × Nat} (hb : sEq s ⟨#[]⟩ = false) (h : pu 0 (tl s) = r) : puF (tl s) = r := by
  rw [sEq_nil, beq_eq_false_iff_ne] at hb
  unfold puF; rw [if_neg hb, h]
theorem low32 : ∀ n : Fin 256, bits .or .u8 ((n.1 : Nat) : Int) 32 = ((lowC n.1 : Nat) : Int) := by decide +kernel
theorem low_or {n : Nat} (h : n < 256) : bits .or .u8 ((n : Nat) : Int) 32 = ((lowC n : Nat) : Int) := low32 ⟨n, h⟩
theorem low_lt_all : ∀ n : Fin 256, lowC n.1 < 256 := by decide +kernel
theorem low_lt {n : Nat} (h : n < 256) : lowC n < 256 := low_lt_all ⟨n, h⟩
theorem let_sub {a : Nat} (h : 97 ≤ a) (h2 : a < 256) : IntKind.u8.wrap ((a : Int) - 97) = ((a - 97 : Nat) : Int) := by
  rw [w_u8 (by omega) (by omega)]; omega

set_option maxRecDepth 100000 in
set_option maxHeartbeats 2000000 in
theorem c_lower (n : Nat) (hn : n < 256) (w : World) : Cl Tryd.prog 57 #[.int .u8 ((n : Nat) : Int)] w fun v w' => v = .int .u8 ((lowC n : Nat) : Int) ∧ Mod [] w w' := by
  refine Cl.of Tryd.func57 Tryd.ntmps57 rfl rfl (ρ := [(0, .int .u8 ((n : Nat) : Int))]) rfl ?_
  refine CE.seq ?_
  refine CE.region ?_
  refine WL.det (op_assign rfl) rfl rfl rfl ?_
  refine WL.end ?_
  refine NE.code ?_
  refine CE.seq ?_
  refine CE.region ?_
  refine WL.det (op_move rfl) rfl rfl rfl ?_
  refine WL.det (op_or (r := ((lowC n : Nat) : Int)) rfl rfl (low_or hn)) rfl rfl rfl ?_
  refine WL.det (op_assign rfl) rfl rfl rfl ?_
  refine WL.end ?_
  refine NE.code ?_
  refine CE.ret' ?_
  refine XE.leave1 Tryd.results57 rfl ?_
  refine ⟨rfl, (Mod.refl [] w)⟩

set_option maxRecDepth 100000 in
set_option maxHeartbeats 2000000 in
theorem c_iPU (s : ByteArray) (hs : s.size ≤ 1048576) (w : World) : Cl Tryd.prog 45 #[.string s, vI 16, vI 32] w fun v w' => ∃ (ev : Value), v = .tuple #[.int .u64 (((puF (tl s)).2 : Nat) : Int), ev] ∧ (((puF (tl s)).1 = 0 ∧ ev = .nilIface) ∨ ((puF (tl s)).1 = 1 ∧ ev = .iface 82 (vI 1)) ∨ ((puF (tl s)).1 = 2 ∧ ev = .iface 82 (vI 2))) ∧ Mod [] w w' := by
  refine Cl.of Tryd.func45 Tryd.ntmps45 rfl rfl (ρ := [(0, .string s), (1, vI 16), (2, vI 32)]) rfl ?_
  refine CE.seq ?_
  refine CE.region ?_
  refine WL.det (op_assign rfl) rfl rfl rfl ?_
  refine WL.det (op_assign rfl) rfl rfl rfl ?_
  refine WL.end ?_
  refine NE.code ?_
  refine CE.seq ?_
  refine CE.seq ?_
  refine CE.region ?_
  refine WL.det (op_move rfl) rfl rfl rfl ?_
  refine WL.det (op_eqs rfl rfl) rfl rfl rfl ?_
  refine WL.end ?_
  refine NE.code ?_
  rcases Bool.eq_false_or_eq_true (sEq s (⟨#[]⟩)) with hb1 | hb1
  · refine CE.cond_t rfl hb1 ?_
    refine CE.seq ?_
    refine CE.region ?_
    refine WL.det (op_mkIf rfl Tryd.runUnderlying82) rfl rfl rfl ?_
    refine WL.det (op_assign rfl) rfl rfl rfl ?_
    refine WL.det (op_assign rfl) rfl rfl rfl ?_
    refine WL.end ?_
    refine NE.code ?_
    refine CE.ret' ?_
    refine XE.ret_then ?_
    refine XE.leaveT Tryd.results45 (res_tmp rfl (res_tmp rfl res_nil)) ?_
    refine ⟨(.iface 82 (vI 2)), ?_, ?_, (Mod.refl [] w)⟩
    all_goals first | (exfalso; omega) | (rw [puS_e (by assumption)]; first | done | rfl | exact .inl ⟨rfl, rfl⟩ | exact .inr (.inl ⟨rfl, rfl⟩) | exact .inr (.inr ⟨rfl, rfl⟩)) | (rw [puS (by assumption) (pu_e hu (by omega))]; first | done | rfl | exact .inl ⟨rfl, rfl⟩ | exact .inr (.inl ⟨rfl, rfl⟩) | exact .inr (.inr ⟨rfl, rfl⟩)) | (rw [puS (by assumption) (pu_b1 hu (by omega) (by omega) (by omega))]; first | done | rfl | exact .inl ⟨rfl, rfl⟩ | exact .inr (.inl ⟨rfl, rfl⟩) | exact .inr (.inr ⟨rfl, rfl⟩)) | (rw [puS (by assumption) (pu_b2 hu (by omega) (by omega) (by omega) (by omega) (by omega))]; first | done | rfl | exact .inl ⟨rfl, rfl⟩ | exact .inr (.inl ⟨rfl, rfl⟩) | exact .inr (.inr ⟨rfl, rfl⟩)) | (rw [puS (by assumption) (pu_r1 hu (by omega) (by omega) (by omega) (by omega))]; first | done | rfl | exact .inl ⟨rfl, rfl⟩ | exact .inr (.inl ⟨rfl, rfl⟩) | exact .inr (.inr ⟨rfl, rfl⟩)) | (rw [puS (by assumption) (pu_r2 hu (by omega) (by omega) (by omega) (by omega) (by omega) (by omega))]; first | done | rfl | exact .inl ⟨rfl, rfl⟩ | exact .inr (.inl ⟨rfl, rfl⟩) | exact .inr (.inr ⟨rfl, rfl⟩))
  · refine CE.cond_f rfl hb1 ?_
    refine CE.skip' ?_
    refine NE.code ?_
    refine CE.seq ?_
    refine CE.region ?_
    refine WL.det (op_move rfl) rfl rfl rfl ?_
    refine WL.det (op_eqi rfl rfl) rfl rfl rfl ?_
    refine WL.det (op_assign rfl) rfl rfl rfl ?_
    refine WL.end ?_
    refine NE.code ?_
    refine CE.seq ?_
    refine CE.region ?_
    refine WL.det (op_move rfl) rfl rfl rfl ?_
    refine WL.det (op_assign rfl) rfl rfl rfl ?_
    refine WL.end ?_
    refine NE.code ?_
    refine CE.seq ?_
    refine CE.block ?_
    refine CE.seq ?_
    refine CE.region ?_
    refine WL.det (op_move rfl) rfl rfl rfl ?_
    refine WL.det (op_lei rfl rfl) rfl rfl rfl ?_
    refine WL.det (op_move rfl) rfl rfl rfl ?_
    refine WL.yes rfl rfl rfl (ltb rfl) rfl rfl ?_
    refine WL.det (op_move rfl) rfl rfl rfl ?_
    refine WL.yes rfl rfl rfl (ltb rfl) rfl rfl ?_
    refine WL.det (op_lei rfl rfl) rfl rfl rfl ?_
    refine WL.det (op_pick_t rfl rfl rfl) rfl rfl rfl ?_
    refine WL.det (op_assign rfl) rfl rfl rfl ?_
    refine WL.end ?_
    refine NE.code ?_
    refine CE.cond_t rfl rfl ?_
    refine CE.skip' ?_
    refine NE.blk ?_
    refine NE.code ?_
    refine CE.seq ?_
    refine CE.seq ?_
    refine CE.region ?_
    refine WL.det (op_move rfl) rfl rfl rfl ?_
    refine WL.det (op_eqi rfl rfl) rfl rfl rfl ?_
    refine WL.end ?_
    refine NE.code ?_
    refine CE.cond_f rfl rfl ?_
    refine CE.seq ?_
    refine CE.region ?_
    refine WL.det (op_move rfl) rfl rfl rfl ?_
    refine WL.det (op_lti rfl rfl) rfl rfl rfl ?_
    refine WL.det (op_move rfl) rfl rfl rfl ?_
    refine WL.yes rfl rfl rfl (ltb rfl) rfl rfl ?_
    refine WL.det (op_move rfl) rfl rfl rfl ?_
    refine WL.yes rfl rfl rfl (ltb rfl) rfl rfl ?_
    refine WL.det (op_gti rfl rfl) rfl rfl rfl ?_
    refine WL.det (op_pick_f rfl rfl rfl) rfl rfl rfl ?_
    refine WL.end ?_
    refine NE.code ?_
    refine CE.cond_f rfl rfl ?_
    refine CE.skip' ?_
    refine NE.code ?_
    refine CE.seq ?_
    refine CE.region ?_
    refine WL.det (op_assign rfl) rfl rfl rfl ?_
    refine WL.end ?_
    refine NE.code ?_
    refine CE.seq ?_
    refine CE.seq ?_
    refine CE.region ?_
    refine WL.det (op_move rfl) rfl rfl rfl ?_
    refine WL.end ?_
    refine NE.code ?_
    refine CE.block ?_
    refine CE.seq ?_
    refine CE.region ?_
    refine WL.det (op_eqi rfl rfl) rfl rfl rfl ?_
    refine WL.det (op_assign rfl) rfl rfl rfl ?_
    refine WL.end ?_
    refine NE.code ?_
    refine CE.cond_f rfl rfl ?_
    refine CE.seq ?_
    refine CE.region ?_
    refine WL.det (op_eqi rfl rfl) rfl rfl rfl ?_
    refine WL.det (op_assign rfl) rfl rfl rfl ?_
    refine WL.end ?_
    refine NE.code ?_
    refine CE.cond_t rfl rfl ?_
    refine CE.region ?_
    refine WL.det (op_assign rfl) rfl rfl rfl ?_
    refine WL.end ?_
    refine NE.blk ?_
    refine NE.code ?_
    refine CE.seq ?_
    refine CE.region ?_
    refine WL.det (op_move rfl) rfl rfl rfl ?_
    refine WL.det (op_cvt_ii (r := 32) rfl Tryd.runUnderlying3 Tryd.runUnderlying81 (by decide)) rfl rfl rfl ?_
    refine WL.det (op_shlL (r := 4294967296) rfl rfl (by decide) (by decide) (by decide)) rfl rfl rfl ?_
    refine WL.det (op_sub (r := 4294967295) rfl rfl (by decide)) rfl rfl rfl ?_
    refine WL.det (op_assign rfl) rfl rfl rfl ?_
    refine WL.end ?_
    refine NE.code ?_
    refine CE.seq ?_
    refine CE.region ?_
    refine WL.det (op_assign rfl) rfl rfl rfl ?_
    refine WL.end ?_
    refine NE.code ?_
    refine CE.seq ?_
    refine CE.region ?_
    refine WL.det (op_assign rfl) rfl rfl rfl ?_
    refine WL.end ?_
    refine NE.code ?_
    refine CE.seq ?_
    refine CE.seq ?_
    refine CE.region ?_
    refine WL.det (op_move rfl) rfl rfl rfl ?_
    refine WL.op (op_strBytes rfl Tryd.underlying9 Tryd.underlying73 Tryd.underlying5) rfl rfl (ltb rfl) ?_
    rintro _ w1 ⟨c1, rfl, r1, m1, z1⟩
    refine WL.det (op_len rfl Tryd.runUnderlying73) rfl rfl rfl ?_
    refine WL.det (op_move rfl) rfl rfl rfl ?_
    refine WL.end ?_
    refine NE.code ?_
    refine CE.block ?_
    refine CE.loop (fun (z : Nat × Nat) => [(101, vI ((z.1 : Nat) : Int)), (13, .int .u64 ((z.2 : Nat) : Int)), (1, vI 16), (6, .int .u64 0), (7, .nilIface), (8, .bool false), (9, .string s), (10, .int .u64 1152921504606846976), (11, .int .u64 4294967295), (12, .bool false), (99, vS w.heap.size 0 s.size c1), (100, vI ((s.size : Nat) : Int))]) (fun (z : Nat × Nat) => fun W => (z.1 ≤ s.size) ∧ (z.2 ≤ 4294967295) ∧ (pu 0 (tl s) = pu z.2 ((tl s).drop z.1)) ∧ Mod [] w1 W) (fun (z : Nat × Nat) => s.size - z.1) (0, 0) (⟨rfl, rfl, rfl, rfl, rfl, rfl, rfl, rfl, rfl, rfl, rfl, rfl, trivial⟩) ⟨(by omega), (by exact Nat.zero_le _), (by rfl), Mod.refl _ _⟩ ?_
    rintro ⟨i, n⟩ w2 ⟨hi, hn, hu, m2⟩
    replace hi : i ≤ s.size := hi
    replace hn : n ≤ 4294967295 := hn
    replace hu : pu 0 (tl s) = pu n ((tl s).drop i) := hu
    have hc9 := byL_lt s i
    have hl9 := low_lt (byL_lt s i)
    show CE _ _ _ _ [(101, vI ((i : Nat) : Int)), (13, .int .u64 ((n : Nat) : Int)), (1, vI 16), (6, .int .u64 0), (7, .nilIface), (8, .bool false), (9, .string s), (10, .int .u64 1152921504606846976), (11, .int .u64 4294967295), (12, .bool false), (99, vS w.heap.size 0 s.size c1), (100, vI ((s.size : Nat) : Int))] _
    refine CE.seq ?_
    refine CE.region ?_
    refine WL.det (op_lti rfl rfl) rfl rfl rfl ?_
    refine WL.end ?_
    refine NE.code ?_
    refine CE.seq ?_
    rcases Bool.eq_false_or_eq_true (decide (((i : Nat) : Int) < ((s.size : Nat) : Int))) with hb2 | hb2
    · have hp2 := of_decide_eq_true hb2
      refine CE.cond_t rfl hb2 ?_
      refine CE.skip' ?_
      refine NE.code ?_
      refine CE.seq ?_
      refine CE.block ?_
      refine CE.seq ?_
      refine CE.region ?_
      refine WL.det (op_indexSl (off' := 0 + i) rfl rfl rfl Tryd.runUnderlying73 Tryd.sizeOf5 (by omega) (by omega) (by omega)) rfl rfl rfl ?_
      have hy1 := (byL_lt s) i
      refine WL.det (op_load1 (i := i) rfl Tryd.isAgg5 (r1.ext m2) rfl (bys_get (by have eL : List.length (byL s) = s.size := (byL_len _); omega))) rfl rfl rfl ?_
      refine WL.det (op_assign rfl) rfl rfl rfl ?_
      refine WL.end ?_
      refine NE.code ?_
      refine CE.seq ?_
      refine CE.region ?_
      refine WL.det (op_assign rfl) rfl rfl rfl ?_
      refine WL.end ?_
      refine NE.code ?_
      refine CE.seq ?_
      refine CE.block ?_
      refine CE.seq ?_
      refine CE.region ?_
      refine WL.det (op_move rfl) rfl rfl rfl ?_
      refine WL.det (op_eqi rfl rfl) rfl rfl rfl ?_
      refine WL.det (op_move rfl) rfl rfl rfl ?_
      rcases Bool.eq_false_or_eq_true (((((byL s).getD i 0 : Nat) : Int) == (95 : Int))) with hb3 | hb3
      · have hp3 := eq_of_beq hb3
        refine WL.yes rfl rfl rfl (ltb rfl) rfl hb3 ?_
        refine WL.det (op_move rfl) rfl rfl rfl ?_
        refine WL.det (op_pick_t rfl hb3 rfl) rfl rfl rfl ?_
        refine WL.det (op_assign rfl) rfl rfl rfl ?_
        refine WL.end ?_
        refine NE.code ?_
        refine CE.cond_f rfl rfl ?_
        refine CE.seq ?_
        refine CE.region ?_
        refine WL.det (op_move rfl) rfl rfl rfl ?_
        refine WL.det (op_lei rfl rfl) rfl rfl rfl ?_
        refine WL.det (op_move rfl) rfl rfl rfl ?_
        rcases Bool.eq_false_or_eq_true (decide ((48 : Int) ≤ (((byL s).getD i 0 : Nat) : Int))) with hb4 | hb4
        · have hp4 := of_decide_eq_true hb4
          refine WL.yes rfl rfl rfl (ltb rfl) rfl hb4 ?_
          refine WL.det (op_move rfl) rfl rfl rfl ?_
          refine WL.yes rfl rfl rfl (ltb rfl) rfl hb4 ?_
          refine WL.det (op_lei rfl rfl) rfl rfl rfl ?_
          refine WL.det (op_pick_t rfl hb4 rfl) rfl rfl rfl ?_
          refine WL.det (op_assign rfl) rfl rfl rfl ?_
          refine WL.end ?_
          refine NE.code ?_
          rcases Bool.eq_false_or_eq_true (decide ((((byL s).getD i 0 : Nat) : Int) ≤ (57 : Int))) with hb5 | hb5
          · have hp5 := of_decide_eq_true hb5
            refine CE.cond_t rfl hb5 ?_
            refine CE.region ?_
            refine WL.det (op_move rfl) rfl rfl rfl ?_
            refine WL.det (op_sub (r := (((byL s).getD i 0 - 48 : Nat) : Int)) rfl rfl (dig_sub (by omega) (byL_lt _ _))) rfl rfl rfl ?_
            refine WL.det (op_assign rfl) rfl rfl rfl ?_
            refine WL.end ?_
            refine NE.blk ?_
            refine NE.code ?_
            refine CE.seq ?_
            refine CE.seq ?_
            refine CE.region ?_
            refine WL.det (op_move rfl) rfl rfl rfl ?_
            refine WL.det (op_move rfl) rfl rfl rfl ?_
            refine WL.det (op_cvt_ii (r := 16) rfl Tryd.runUnderlying3 Tryd.runUnderlying5 (by decide)) rfl rfl rfl ?_
            refine WL.det (op_gei rfl rfl) rfl rfl rfl ?_
            refine WL.end ?_
            refine NE.code ?_
            rcases Bool.eq_false_or_eq_true (decide ((16 : Int) ≤ (((byL s).getD i 0 - 48 : Nat) : Int))) with hb6 | hb6
            · have hp6 := of_decide_eq_true hb6
              refine CE.cond_t rfl hb6 ?_
              refine CE.seq ?_
              refine CE.region ?_
              refine WL.det (op_mkIf rfl Tryd.runUnderlying82) rfl rfl rfl ?_
              refine WL.det (op_assign rfl) rfl rfl rfl ?_
              refine WL.det (op_assign rfl) rfl rfl rfl ?_
              refine WL.end ?_
              refine NE.code ?_
              refine CE.ret' ?_
              refine XE.ret_then ?_
              refine XE.ret_blk ?_
              refine XE.ret_then ?_
              refine XE.ret_then ?_
              refine XE.ret_blk ?_
              refine XE.ret_then ?_
              refine XE.leaveT Tryd.results45 (res_tmp rfl (res_tmp rfl res_nil)) ?_
              refine ⟨(.iface 82 (vI 2)), ?_, ?_, (((Mod.refl [] w).nt m1).nt m2)⟩
              all_goals first | (exfalso; omega) | (rw [puS_e (by assumption)]; first | done | rfl | exact .inl ⟨rfl, rfl⟩ | exact .inr (.inl ⟨rfl, rfl⟩) | exact .inr (.inr ⟨rfl, rfl⟩)) | (rw [puS (by assumption) (pu_e hu (by omega))]; first | done | rfl | exact .inl ⟨rfl, rfl⟩ | exact .inr (.inl ⟨rfl, rfl⟩) | exact .inr (.inr ⟨rfl, rfl⟩)) | (rw [puS (by assumption) (pu_b1 hu (by omega) (by omega) (by omega))]; first | done | rfl | exact .inl ⟨rfl, rfl⟩ | exact .inr (.inl ⟨rfl, rfl⟩) | exact .inr (.inr ⟨rfl, rfl⟩)) | (rw [puS (by assumption) (pu_b2 hu (by omega) (by omega) (by omega) (by omega) (by omega))]; first | done | rfl | exact .inl ⟨rfl, rfl⟩ | exact .inr (.inl ⟨rfl, rfl⟩) | exact .inr (.inr ⟨rfl, rfl⟩)) | (rw [puS (by assumption) (pu_r1 hu (by omega) (by omega) (by omega) (by omega))]; first | done | rfl | exact .inl ⟨rfl, rfl⟩ | exact .inr (.inl ⟨rfl, rfl⟩) | exact .inr (.inr ⟨rfl, rfl⟩)) | (rw [puS (by assumption) (pu_r2 hu (by omega) (by omega) (by omega) (by omega) (by omega) (by omega))]; first | done | rfl | exact .inl ⟨rfl, rfl⟩ | exact .inr (.inl ⟨rfl, rfl⟩) | exact .inr (.inr ⟨rfl, rfl⟩))
            · have hp6 := of_decide_eq_false hb6
              refine CE.cond_f rfl hb6 ?_
              refine CE.skip' ?_
              refine NE.code ?_
              refine CE.seq ?_
              refine CE.seq ?_
              refine CE.region ?_
              refine WL.det (op_move rfl) rfl rfl rfl ?_
              refine WL.det (op_move rfl) rfl rfl rfl ?_
              refine WL.det (op_gei rfl rfl) rfl rfl rfl ?_
              refine WL.end ?_
              refine NE.code ?_
              refine CE.cond_f rfl (decide_eq_false (by omega)) ?_
              refine CE.skip' ?_
              refine NE.code ?_
              refine CE.seq ?_
              refine CE.region ?_
              refine WL.det (op_move rfl) rfl rfl rfl ?_
              refine WL.det (op_move rfl) rfl rfl rfl ?_
              refine WL.det (op_cvt_ii (r := 16) rfl Tryd.runUnderlying3 Tryd.runUnderlying55 (by decide)) rfl rfl rfl ?_
              refine WL.det (op_mul (r := ((n * 16 : Nat) : Int)) rfl rfl (w_u64 (by omega) (by omega))) rfl rfl rfl ?_
              refine WL.det (op_assign rfl) rfl rfl rfl ?_
              refine WL.end ?_
              refine NE.code ?_
              refine CE.seq ?_
              refine CE.region ?_
              refine WL.det (op_move rfl) rfl rfl rfl ?_
              refine WL.det (op_move rfl) rfl rfl rfl ?_
              refine WL.det (op_cvt_ii (r := (((byL s).getD i 0 - 48 : Nat) : Int)) rfl Tryd.runUnderlying5 Tryd.runUnderlying55 (w_u64 (by omega) (by omega))) rfl rfl rfl ?_
              refine WL.det (op_add (r := ((n * 16 + ((byL s).getD i 0 - 48) : Nat) : Int)) rfl rfl (w_u64 (by omega) (by omega))) rfl rfl rfl ?_
              refine WL.det (op_assign rfl) rfl rfl rfl ?_
              refine WL.end ?_
              refine NE.code ?_
              refine CE.seq ?_
              refine CE.seq ?_
              refine CE.region ?_
              refine WL.det (op_move rfl) rfl rfl rfl ?_
              refine WL.det (op_move rfl) rfl rfl rfl ?_
              refine WL.det (op_lti rfl rfl) rfl rfl rfl ?_
              refine WL.det (op_move rfl) rfl rfl rfl ?_
              refine WL.yes rfl rfl rfl (ltb rfl) rfl (decide_eq_false (by omega)) ?_
              refine WL.det (op_move rfl) rfl rfl rfl ?_
              refine WL.yes rfl rfl rfl (ltb rfl) rfl (decide_eq_false (by omega)) ?_
              refine WL.det (op_move rfl) rfl rfl rfl ?_
              refine WL.yes rfl rfl rfl (ltb rfl) rfl (decide_eq_false (by omega)) ?_
              refine WL.det (op_gti rfl rfl) rfl rfl rfl ?_
              refine WL.det (op_pick_f rfl (decide_eq_false (by omega)) rfl) rfl rfl rfl ?_
              refine WL.end ?_
              refine NE.code ?_
              rcases Bool.eq_false_or_eq_true (decide ((4294967295 : Int) < ((n * 16 + ((byL s).getD i 0 - 48) : Nat) : Int))) with hb7 | hb7
              · have hp7 := of_decide_eq_true hb7
                refine CE.cond_t rfl hb7 ?_
                refine CE.seq ?_
                refine CE.region ?_
                refine WL.det (op_move rfl) rfl rfl rfl ?_
                refine WL.det (op_mkIf rfl Tryd.runUnderlying82) rfl rfl rfl ?_
                refine WL.det (op_assign rfl) rfl rfl rfl ?_
                refine WL.det (op_assign rfl) rfl rfl rfl ?_
                refine WL.end ?_
                refine NE.code ?_
                refine CE.ret' ?_
                refine XE.ret_then ?_
                refine XE.ret_blk ?_
                refine XE.ret_then ?_
                refine XE.ret_then ?_
                refine XE.ret_blk ?_
                refine XE.ret_then ?_
                refine XE.leaveT Tryd.results45 (res_tmp rfl (res_tmp rfl res_nil)) ?_
                refine ⟨(.iface 82 (vI 1)), ?_, ?_, (((Mod.refl [] w).nt m1).nt m2)⟩
                all_goals first | (exfalso; omega) | (rw [puS_e (by assumption)]; first | done | rfl | exact .inl ⟨rfl, rfl⟩ | exact .inr (.inl ⟨rfl, rfl⟩) | exact .inr (.inr ⟨rfl, rfl⟩)) | (rw [puS (by assumption) (pu_e hu (by omega))]; first | done | rfl | exact .inl ⟨rfl, rfl⟩ | exact .inr (.inl ⟨rfl, rfl⟩) | exact .inr (.inr ⟨rfl, rfl⟩)) | (rw [puS (by assumption) (pu_b1 hu (by omega) (by omega) (by omega))]; first | done | rfl | exact .inl ⟨rfl, rfl⟩ | exact .inr (.inl ⟨rfl, rfl⟩) | exact .inr (.inr ⟨rfl, rfl⟩)) | (rw [puS (by assumption) (pu_b2 hu (by omega) (by omega) (by omega) (by omega) (by omega))]; first | done | rfl | exact .inl ⟨rfl, rfl⟩ | exact .inr (.inl ⟨rfl, rfl⟩) | exact .inr (.inr ⟨rfl, rfl⟩)) | (rw [puS (by assumption) (pu_r1 hu (by omega) (by omega) (by omega) (by omega))]; first | done | rfl | exact .inl ⟨rfl, rfl⟩ | exact .inr (.inl ⟨rfl, rfl⟩) | exact .inr (.inr ⟨rfl, rfl⟩)) | (rw [puS (by assumption) (pu_r2 hu (by omega) (by omega) (by omega) (by omega) (by omega) (by omega))]; first | done | rfl | exact .inl ⟨rfl, rfl⟩ | exact .inr (.inl ⟨rfl, rfl⟩) | exact .inr (.inr ⟨rfl, rfl⟩))
              · have hp7 := of_decide_eq_false hb7
                refine CE.cond_f rfl hb7 ?_
                refine CE.skip' ?_
                refine NE.code ?_
                refine CE.region ?_
                refine WL.det (op_move rfl) rfl rfl rfl ?_
                refine WL.det (op_assign rfl) rfl rfl rfl ?_
                refine WL.end ?_
                refine NE.blk ?_
                refine NE.code ?_
                refine CE.region ?_
                refine WL.det (op_add (r := ((i + 1 : Nat) : Int)) rfl rfl (w_i64 (by omega) (by omega))) rfl rfl rfl ?_
                refine WL.det (op_move rfl) rfl rfl rfl ?_
                refine WL.end ?_
                exact NE.again ((i + 1), (n * 16 + ((byL s).getD i 0 - 48))) (⟨rfl, rfl, rfl, rfl, rfl, rfl, rfl, rfl, rfl, rfl, rfl, rfl, trivial⟩) ⟨(by omega), (by first | omega | (dsimp only; omega)), (by first | exact pu_n1 hu (by omega) (by omega) (by omega) (by omega) | exact pu_n2 hu (by omega) (by omega) (by omega) (by omega) (by omega) (by omega)), m2⟩ (by first | (dsimp only; omega) | omega)
          · have hp5 := of_decide_eq_false hb5
            refine CE.cond_f rfl hb5 ?_
            refine CE.seq ?_
            refine CE.region ?_
            refine WL.det (op_move rfl) rfl rfl rfl ?_
            refine WL.call (oc_call (vs := [.int .u8 (((byL s).getD i 0 : Nat) : Int)]) (cap := []) rfl rfl rfl Tryd.call57 (c_lower ((byL s).getD i 0) (by first | assumption | exact byL_lt _ _) w2)) rfl rfl (ltb rfl) ?_
            rintro _ w3 ⟨rfl, m3⟩
            refine WL.det (op_lei rfl rfl) rfl rfl rfl ?_
            refine WL.det (op_move rfl) rfl rfl rfl ?_
            rcases Bool.eq_false_or_eq_true (decide ((97 : Int) ≤ ((lowC ((byL s).getD i 0) : Nat) : Int))) with hb8 | hb8
            · have hp8 := of_decide_eq_true hb8
              refine WL.yes rfl rfl rfl (ltb rfl) rfl hb8 ?_
              refine WL.det (op_move rfl) rfl rfl rfl ?_
              refine WL.yes rfl rfl rfl (ltb rfl) rfl hb8 ?_
              refine WL.call (oc_call (vs := [.int .u8 (((byL s).getD i 0 : Nat) : Int)]) (cap := []) rfl rfl rfl Tryd.call57 (c_lower ((byL s).getD i 0) (by first | assumption | exact byL_lt _ _) w3)) rfl rfl (ltb rfl) ?_
              rintro _ w4 ⟨rfl, m4⟩
              refine WL.yes rfl rfl rfl (ltb rfl) rfl hb8 ?_
              refine WL.det (op_lei rfl rfl) rfl rfl rfl ?_
              refine WL.det (op_pick_t rfl hb8 rfl) rfl rfl rfl ?_
              refine WL.det (op_assign rfl) rfl rfl rfl ?_
              refine WL.end ?_
              refine NE.code ?_
              rcases Bool.eq_false_or_eq_true (decide (((lowC ((byL s).getD i 0) : Nat) : Int) ≤ (122 : Int))) with hb9 | hb9
              · have hp9 := of_decide_eq_true hb9
                refine CE.cond_t rfl hb9 ?_
                refine CE.region ?_
                refine WL.det (op_move rfl) rfl rfl rfl ?_
                refine WL.call (oc_call (vs := [.int .u8 (((byL s).getD i 0 : Nat) : Int)]) (cap := []) rfl rfl rfl Tryd.call57 (c_lower ((byL s).getD i 0) (by first | assumption | exact byL_lt _ _) w4)) rfl rfl (ltb rfl) ?_
                rintro _ w5 ⟨rfl, m5⟩
                refine WL.det (op_sub (r := ((lowC ((byL s).getD i 0) - 97 : Nat) : Int)) rfl rfl (let_sub (by omega) (by omega))) rfl rfl rfl ?_
                refine WL.det (op_add (r := ((lowC ((byL s).getD i 0) - 97 + 10 : Nat) : Int)) rfl rfl (w_u8 (by omega) (by omega))) rfl rfl rfl ?_
                refine WL.det (op_assign rfl) rfl rfl rfl ?_
                refine WL.end ?_
                refine NE.blk ?_
                refine NE.code ?_
                refine CE.seq ?_
                refine CE.seq ?_
                refine CE.region ?_
                refine WL.det (op_move rfl) rfl rfl rfl ?_
                refine WL.det (op_move rfl) rfl rfl rfl ?_
                refine WL.det (op_cvt_ii (r := 16) rfl Tryd.runUnderlying3 Tryd.runUnderlying5 (by decide)) rfl rfl rfl ?_
                refine WL.det (op_gei rfl rfl) rfl rfl rfl ?_
                refine WL.end ?_
                refine NE.code ?_
                rcases Bool.eq_false_or_eq_true (decide ((16 : Int) ≤ ((lowC ((byL s).getD i 0) - 97 + 10 : Nat) : Int))) with hb10 | hb10
                · have hp10 := of_decide_eq_true hb10
                  refine CE.cond_t rfl hb10 ?_
                  refine CE.seq ?_
                  refine CE.region ?_
                  refine WL.det (op_mkIf rfl Tryd.runUnderlying82) rfl rfl rfl ?_
                  refine WL.det (op_assign rfl) rfl rfl rfl ?_
                  refine WL.det (op_assign rfl) rfl rfl rfl ?_
                  refine WL.end ?_
                  refine NE.code ?_
                  refine CE.ret' ?_
                  refine XE.ret_then ?_
                  refine XE.ret_blk ?_
                  refine XE.ret_then ?_
                  refine XE.ret_then ?_
                  refine XE.ret_blk ?_
                  refine XE.ret_then ?_
                  refine XE.leaveT Tryd.results45 (res_tmp rfl (res_tmp rfl res_nil)) ?_
                  refine ⟨(.iface 82 (vI 2)), ?_, ?_, ((((((Mod.refl [] w).nt m1).nt m2).nt m3).nt m4).nt m5)⟩
                  all_goals first | (exfalso; omega) | (rw [puS_e (by assumption)]; first | done | rfl | exact .inl ⟨rfl, rfl⟩ | exact .inr (.inl ⟨rfl, rfl⟩) | exact .inr (.inr ⟨rfl, rfl⟩)) | (rw [puS (by assumption) (pu_e hu (by omega))]; first | done | rfl | exact .inl ⟨rfl, rfl⟩ | exact .inr (.inl ⟨rfl, rfl⟩) | exact .inr (.inr ⟨rfl, rfl⟩)) | (rw [puS (by assumption) (pu_b1 hu (by omega) (by omega) (by omega))]; first | done | rfl | exact .inl ⟨rfl, rfl⟩ | exact .inr (.inl ⟨rfl, rfl⟩) | exact .inr (.inr ⟨rfl, rfl⟩)) | (rw [puS (by assumption) (pu_b2 hu (by omega) (by omega) (by omega) (by omega) (by omega))]; first | done | rfl | exact .inl ⟨rfl, rfl⟩ | exact .inr (.inl ⟨rfl, rfl⟩) | exact .inr (.inr ⟨rfl, rfl⟩)) | (rw [puS (by assumption) (pu_r1 hu (by omega) (by omega) (by omega) (by omega))]; first | done | rfl | exact .inl ⟨rfl, rfl⟩ | exact .inr (.inl ⟨rfl, rfl⟩) | exact .inr (.inr ⟨rfl, rfl⟩)) | (rw [puS (by assumption) (pu_r2 hu (by omega) (by omega) (by omega) (by omega) (by omega) (by omega))]; first | done | rfl | exact .inl ⟨rfl, rfl⟩ | exact .inr (.inl ⟨rfl, rfl⟩) | exact .inr (.inr ⟨rfl, rfl⟩))
                · have hp10 := of_decide_eq_false hb10
                  refine CE.cond_f rfl hb10 ?_
                  refine CE.skip' ?_
                  refine NE.code ?_
                  refine CE.seq ?_
                  refine CE.seq ?_
                  refine CE.region ?_
                  refine WL.det (op_move rfl) rfl rfl rfl ?_
                  refine WL.det (op_move rfl) rfl rfl rfl ?_
                  refine WL.det (op_gei rfl rfl) rfl rfl rfl ?_
                  refine WL.end ?_
                  refine NE.code ?_
                  refine CE.cond_f rfl (decide_eq_false (by omega)) ?_
                  refine CE.skip' ?_
                  refine NE.code ?_
                  refine CE.seq ?_
                  refine CE.region ?_
                  refine WL.det (op_move rfl) rfl rfl rfl ?_
                  refine WL.det (op_move rfl) rfl rfl rfl ?_
                  refine WL.det (op_cvt_ii (r := 16) rfl Tryd.runUnderlying3 Tryd.runUnderlying55 (by decide)) rfl rfl rfl ?_
                  refine WL.det (op_mul (r := ((n * 16 : Nat) : Int)) rfl rfl (w_u64 (by omega) (by omega))) rfl rfl rfl ?_
                  refine WL.det (op_assign rfl) rfl rfl rfl ?_
                  refine WL.end ?_
                  refine NE.code ?_
                  refine CE.seq ?_
                  refine CE.region ?_
                  refine WL.det (op_move rfl) rfl rfl rfl ?_
                  refine WL.det (op_move rfl) rfl rfl rfl ?_
                  refine WL.det (op_cvt_ii (r := ((lowC ((byL s).getD i 0) - 97 + 10 : Nat) : Int)) rfl Tryd.runUnderlying5 Tryd.runUnderlying55 (w_u64 (by omega) (by omega))) rfl rfl rfl ?_
                  refine WL.det (op_add (r := ((n * 16 + (lowC ((byL s).getD i 0) - 97 + 10) : Nat) : Int)) rfl rfl (w_u64 (by omega) (by omega))) rfl rfl rfl ?_
                  refine WL.det (op_assign rfl) rfl rfl rfl ?_
                  refine WL.end ?_
                  refine NE.code ?_
                  refine CE.seq ?_
                  refine CE.seq ?_
                  refine CE.region ?_
                  refine WL.det (op_move rfl) rfl rfl rfl ?_
                  refine WL.det (op_move rfl) rfl rfl rfl ?_
                  refine WL.det (op_lti rfl rfl) rfl rfl rfl ?_
                  refine WL.det (op_move rfl) rfl rfl rfl ?_
                  refine WL.yes rfl rfl rfl (ltb rfl) rfl (decide_eq_false (by omega)) ?_
                  refine WL.det (op_move rfl) rfl rfl rfl ?_
                  refine WL.yes rfl rfl rfl (ltb rfl) rfl (decide_eq_false (by omega)) ?_
                  refine WL.det (op_move rfl) rfl rfl rfl ?_
                  refine WL.yes rfl rfl rfl (ltb rfl) rfl (decide_eq_false (by omega)) ?_
                  refine WL.det (op_gti rfl rfl) rfl rfl rfl ?_
                  refine WL.det (op_pick_f rfl (decide_eq_false (by omega)) rfl) rfl rfl rfl ?_
                  refine WL.end ?_
                  refine NE.code ?_
                  rcases Bool.eq_false_or_eq_true (decide ((4294967295 : Int) < ((n * 16 + (lowC ((byL s).getD i 0) - 97 + 10) : Nat) : Int))) with hb11 | hb11
                  · have hp11 := of_decide_eq_true hb11
                    refine CE.cond_t rfl hb11 ?_
                    refine CE.seq ?_
                    refine CE.region ?_
                    refine WL.det (op_move rfl) rfl rfl rfl ?_
                    refine WL.det (op_mkIf rfl Tryd.runUnderlying82) rfl rfl rfl ?_
                    refine WL.det (op_assign rfl) rfl rfl rfl ?_
                    refine WL.det (op_assign rfl) rfl rfl rfl ?_
                    refine WL.end ?_
                    refine NE.code ?_
                    refine CE.ret' ?_
                    refine XE.ret_then ?_
                    refine XE.ret_blk ?_
                    refine XE.ret_then ?_
                    refine XE.ret_then ?_
                    refine XE.ret_blk ?_
                    refine XE.ret_then ?_
                    refine XE.leaveT Tryd.results45 (res_tmp rfl (res_tmp rfl res_nil)) ?_
                    refine ⟨(.iface 82 (vI 1)), ?_, ?_, ((((((Mod.refl [] w).nt m1).nt m2).nt m3).nt m4).nt m5)⟩
                    all_goals first | (exfalso; omega) | (rw [puS_e (by assumption)]; first | done | rfl | exact .inl ⟨rfl, rfl⟩ | exact .inr (.inl ⟨rfl, rfl⟩) | exact .inr (.inr ⟨rfl, rfl⟩)) | (rw [puS (by assumption) (pu_e hu (by omega))]; first | done | rfl | exact .inl ⟨rfl, rfl⟩ | exact .inr (.inl ⟨rfl, rfl⟩) | exact .inr (.inr ⟨rfl, rfl⟩)) | (rw [puS (by assumption) (pu_b1 hu (by omega) (by omega) (by omega))]; first | done | rfl | exact .inl ⟨rfl, rfl⟩ | exact .inr (.inl ⟨rfl, rfl⟩) | exact .inr (.inr ⟨rfl, rfl⟩)) | (rw [puS (by assumption) (pu_b2 hu (by omega) (by omega) (by omega) (by omega) (by omega))]; first | done | rfl | exact .inl ⟨rfl, rfl⟩ | exact .inr (.inl ⟨rfl, rfl⟩) | exact .inr (.inr ⟨rfl, rfl⟩)) | (rw [puS (by assumption) (pu_r1 hu (by omega) (by omega) (by omega) (by omega))]; first | done | rfl | exact .inl ⟨rfl, rfl⟩ | exact .inr (.inl ⟨rfl, rfl⟩) | exact .inr (.inr ⟨rfl, rfl⟩)) | (rw [puS (by assumption) (pu_r2 hu (by omega) (by omega) (by omega) (by omega) (by omega) (by omega))]; first | done | rfl | exact .inl ⟨rfl, rfl⟩ | exact .inr (.inl ⟨rfl, rfl⟩) | exact .inr (.inr ⟨rfl, rfl⟩))
                  · have hp11 := of_decide_eq_false hb11
                    refine CE.cond_f rfl hb11 ?_
                    refine CE.skip' ?_
                    refine NE.code ?_
                    refine CE.region ?_
                    refine WL.det (op_move rfl) rfl rfl rfl ?_
                    refine WL.det (op_assign rfl) rfl rfl rfl ?_
                    refine WL.end ?_
                    refine NE.blk ?_
                    refine NE.code ?_
                    refine CE.region ?_
                    refine WL.det (op_add (r := ((i + 1 : Nat) : Int)) rfl rfl (w_i64 (by omega) (by omega))) rfl rfl rfl ?_
                    refine WL.det (op_move rfl) rfl rfl rfl ?_
                    refine WL.end ?_
                    exact NE.again ((i + 1), (n * 16 + (lowC ((byL s).getD i 0) - 97 + 10))) (⟨rfl, rfl, rfl, rfl, rfl, rfl, rfl, rfl, rfl, rfl, rfl, rfl, trivial⟩) ⟨(by omega), (by first | omega | (dsimp only; omega)), (by first | exact pu_n1 hu (by omega) (by omega) (by omega) (by omega) | exact pu_n2 hu (by omega) (by omega) (by omega) (by omega) (by omega) (by omega)), (((m2.nt m3).nt m4).nt m5)⟩ (by first | (dsimp only; omega) | omega)
              · have hp9 := of_decide_eq_false hb9
                refine CE.cond_f rfl hb9 ?_
                refine CE.seq ?_
                refine CE.region ?_
                refine WL.det (op_mkIf rfl Tryd.runUnderlying82) rfl rfl rfl ?_
                refine WL.det (op_assign rfl) rfl rfl rfl ?_
                refine WL.det (op_assign rfl) rfl rfl rfl ?_
                refine WL.end ?_
                refine NE.code ?_
                refine CE.ret' ?_
                refine XE.ret_blk ?_
                refine XE.ret_then ?_
                refine XE.ret_blk ?_
                refine XE.ret_then ?_
                refine XE.ret_then ?_
                refine XE.ret_blk ?_
                refine XE.ret_then ?_
                refine XE.leaveT Tryd.results45 (res_tmp rfl (res_tmp rfl res_nil)) ?_
                refine ⟨(.iface 82 (vI 2)), ?_, ?_, (((((Mod.refl [] w).nt m1).nt m2).nt m3).nt m4)⟩
                all_goals first | (exfalso; omega) | (rw [puS_e (by assumption)]; first | done | rfl | exact .inl ⟨rfl, rfl⟩ | exact .inr (.inl ⟨rfl, rfl⟩) | exact .inr (.inr ⟨rfl, rfl⟩)) | (rw [puS (by assumption) (pu_e hu (by omega))]; first | done | rfl | exact .inl ⟨rfl, rfl⟩ | exact .inr (.inl ⟨rfl, rfl⟩) | exact .inr (.inr ⟨rfl, rfl⟩)) | (rw [puS (by assumption) (pu_b1 hu (by omega) (by omega) (by omega))]; first | done | rfl | exact .inl ⟨rfl, rfl⟩ | exact .inr (.inl ⟨rfl, rfl⟩) | exact .inr (.inr ⟨rfl, rfl⟩)) | (rw [puS (by assumption) (pu_b2 hu (by omega) (by omega) (by omega) (by omega) (by omega))]; first | done | rfl | exact .inl ⟨rfl, rfl⟩ | exact .inr (.inl ⟨rfl, rfl⟩) | exact .inr (.inr ⟨rfl, rfl⟩)) | (rw [puS (by assumption) (pu_r1 hu (by omega) (by omega) (by omega) (by omega))]; first | done | rfl | exact .inl ⟨rfl, rfl⟩ | exact .inr (.inl ⟨rfl, rfl⟩) | exact .inr (.inr ⟨rfl, rfl⟩)) | (rw [puS (by assumption) (pu_r2 hu (by omega) (by omega) (by omega) (by omega) (by omega) (by omega))]; first | done | rfl | exact .inl ⟨rfl, rfl⟩ | exact .inr (.inl ⟨rfl, rfl⟩) | exact .inr (.inr ⟨rfl, rfl⟩))
            · have hp8 := of_decide_eq_false hb8
              refine WL.no rfl rfl rfl (ltb rfl) rfl hb8 rfl (ltb rfl) ?_
              refine WL.no rfl rfl rfl (ltb rfl) rfl hb8 rfl (ltb rfl) ?_
              refine WL.no rfl rfl rfl (ltb rfl) rfl hb8 rfl (ltb rfl) ?_
              refine WL.det (op_pick_f rfl hb8 rfl) rfl rfl rfl ?_
              refine WL.det (op_assign rfl) rfl rfl rfl ?_
              refine WL.end ?_
              refine NE.code ?_
              refine CE.cond_f rfl rfl ?_
              refine CE.seq ?_
              refine CE.region ?_
              refine WL.det (op_mkIf rfl Tryd.runUnderlying82) rfl rfl rfl ?_
              refine WL.det (op_assign rfl) rfl rfl rfl ?_
              refine WL.det (op_assign rfl) rfl rfl rfl ?_
              refine WL.end ?_
              refine NE.code ?_
              refine CE.ret' ?_
              refine XE.ret_blk ?_
              refine XE.ret_then ?_
              refine XE.ret_blk ?_
              refine XE.ret_then ?_
              refine XE.ret_then ?_
              refine XE.ret_blk ?_
              refine XE.ret_then ?_
              refine XE.leaveT Tryd.results45 (res_tmp rfl (res_tmp rfl res_nil)) ?_
              refine ⟨(.iface 82 (vI 2)), ?_, ?_, ((((Mod.refl [] w).nt m1).nt m2).nt m3)⟩
              all_goals first | (exfalso; omega) | (rw [puS_e (by assumption)]; first | done | rfl | exact .inl ⟨rfl, rfl⟩ | exact .inr (.inl ⟨rfl, rfl⟩) | exact .inr (.inr ⟨rfl, rfl⟩)) | (rw [puS (by assumption) (pu_e hu (by omega))]; first | done | rfl | exact .inl ⟨rfl, rfl⟩ | exact .inr (.inl ⟨rfl, rfl⟩) | exact .inr (.inr ⟨rfl, rfl⟩)) | (rw [puS (by assumption) (pu_b1 hu (by omega) (by omega) (by omega))]; first | done | rfl | exact .inl ⟨rfl, rfl⟩ | exact .inr (.inl ⟨rfl, rfl⟩) | exact .inr (.inr ⟨rfl, rfl⟩)) | (rw [puS (by assumption) (pu_b2 hu (by omega) (by omega) (by omega) (by omega) (by omega))]; first | done | rfl | exact .inl ⟨rfl, rfl⟩ | exact .inr (.inl ⟨rfl, rfl⟩) | exact .inr (.inr ⟨rfl, rfl⟩)) | (rw [puS (by assumption) (pu_r1 hu (by omega) (by omega) (by omega) (by omega))]; first | done | rfl | exact .inl ⟨rfl, rfl⟩ | exact .inr (.inl ⟨rfl, rfl⟩) | exact .inr (.inr ⟨rfl, rfl⟩)) | (rw [puS (by assumption) (pu_r2 hu (by omega) (by omega) (by omega) (by omega) (by omega) (by omega))]; first | done | rfl | exact .inl ⟨rfl, rfl⟩ | exact .inr (.inl ⟨rfl, rfl⟩) | exact .inr (.inr ⟨rfl, rfl⟩))
        · have hp4 := of_decide_eq_false hb4
          refine WL.no rfl rfl rfl (ltb rfl) rfl hb4 rfl (ltb rfl) ?_
          refine WL.no rfl rfl rfl (ltb rfl) rfl hb4 rfl (ltb rfl) ?_
          refine WL.det (op_pick_f rfl hb4 rfl) rfl rfl rfl ?_
          refine WL.det (op_assign rfl) rfl rfl rfl ?_
          refine WL.end ?_
          refine NE.code ?_
          refine CE.cond_f rfl rfl ?_
          refine CE.seq ?_
          refine CE.region ?_
          refine WL.det (op_move rfl) rfl rfl rfl ?_
          refine WL.call (oc_call (vs := [.int .u8 (((byL s).getD i 0 : Nat) : Int)]) (cap := []) rfl rfl rfl Tryd.call57 (c_lower ((byL s).getD i 0) (by first | assumption | exact byL_lt _ _) w2)) rfl rfl (ltb rfl) ?_
          rintro _ w6 ⟨rfl, m6⟩
          refine WL.det (op_lei rfl rfl) rfl rfl rfl ?_
          refine WL.det (op_move rfl) rfl rfl rfl ?_
          rcases Bool.eq_false_or_eq_true (decide ((97 : Int) ≤ ((lowC ((byL s).getD i 0) : Nat) : Int))) with hb12 | hb12
          · have hp12 := of_decide_eq_true hb12
            refine WL.yes rfl rfl rfl (ltb rfl) rfl hb12 ?_
            refine WL.det (op_move rfl) rfl rfl rfl ?_
            refine WL.yes rfl rfl rfl (ltb rfl) rfl hb12 ?_
            refine WL.call (oc_call (vs := [.int .u8 (((byL s).getD i 0 : Nat) : Int)]) (cap := []) rfl rfl rfl Tryd.call57 (c_lower ((byL s).getD i 0) (by first | assumption | exact byL_lt _ _) w6)) rfl rfl (ltb rfl) ?_
            rintro _ w7 ⟨rfl, m7⟩
            refine WL.yes rfl rfl rfl (ltb rfl) rfl hb12 ?_
            refine WL.det (op_lei rfl rfl) rfl rfl rfl ?_
            refine WL.det (op_pick_t rfl hb12 rfl) rfl rfl rfl ?_
            refine WL.det (op_assign rfl) rfl rfl rfl ?_
            refine WL.end ?_
            refine NE.code ?_
            rcases Bool.eq_false_or_eq_true (decide (((lowC ((byL s).getD i 0) : Nat) : Int) ≤ (122 : Int))) with hb13 | hb13
            · have hp13 := of_decide_eq_true hb13
              refine CE.cond_t rfl hb13 ?_
              refine CE.region ?_
              refine WL.det (op_move rfl) rfl rfl rfl ?_
              refine WL.call (oc_call (vs := [.int .u8 (((byL s).getD i 0 : Nat) : Int)]) (cap := []) rfl rfl rfl Tryd.call57 (c_lower ((byL s).getD i 0) (by first | assumption | exact byL_lt _ _) w7)) rfl rfl (ltb rfl) ?_
              rintro _ w8 ⟨rfl, m8⟩
              refine WL.det (op_sub (r := ((lowC ((byL s).getD i 0) - 97 : Nat) : Int)) rfl rfl (let_sub (by omega) (by omega))) rfl rfl rfl ?_
              refine WL.det (op_add (r := ((lowC ((byL s).getD i 0) - 97 + 10 : Nat) : Int)) rfl rfl (w_u8 (by omega) (by omega))) rfl rfl rfl ?_
              refine WL.det (op_assign rfl) rfl rfl rfl ?_
              refine WL.end ?_
              refine NE.blk ?_
              refine NE.code ?_
              refine CE.seq ?_
              refine CE.seq ?_
              refine CE.region ?_
              refine WL.det (op_move rfl) rfl rfl rfl ?_
              refine WL.det (op_move rfl) rfl rfl rfl ?_
              refine WL.det (op_cvt_ii (r := 16) rfl Tryd.runUnderlying3 Tryd.runUnderlying5 (by decide)) rfl rfl rfl ?_
              refine WL.det (op_gei rfl rfl) rfl rfl rfl ?_
              refine WL.end ?_
              refine NE.code ?_
              rcases Bool.eq_false_or_eq_true (decide ((16 : Int) ≤ ((lowC ((byL s).getD i 0) - 97 + 10 : Nat) : Int))) with hb14 | hb14
              · have hp14 := of_decide_eq_true hb14
                refine CE.cond_t rfl hb14 ?_
                refine CE.seq ?_
                refine CE.region ?_
                refine WL.det (op_mkIf rfl Tryd.runUnderlying82) rfl rfl rfl ?_
                refine WL.det (op_assign rfl) rfl rfl rfl ?_
                refine WL.det (op_assign rfl) rfl rfl rfl ?_
                refine WL.end ?_
                refine NE.code ?_
                refine CE.ret' ?_
                refine XE.ret_then ?_
                refine XE.ret_blk ?_
                refine XE.ret_then ?_
                refine XE.ret_then ?_
                refine XE.ret_blk ?_
                refine XE.ret_then ?_
                refine XE.leaveT Tryd.results45 (res_tmp rfl (res_tmp rfl res_nil)) ?_
                refine ⟨(.iface 82 (vI 2)), ?_, ?_, ((((((Mod.refl [] w).nt m1).nt m2).nt m6).nt m7).nt m8)⟩
                all_goals first | (exfalso; omega) | (rw [puS_e (by assumption)]; first | done | rfl | exact .inl ⟨rfl, rfl⟩ | exact .inr (.inl ⟨rfl, rfl⟩) | exact .inr (.inr ⟨rfl, rfl⟩)) | (rw [puS (by assumption) (pu_e hu (by omega))]; first | done | rfl | exact .inl ⟨rfl, rfl⟩ | exact .inr (.inl ⟨rfl, rfl⟩) | exact .inr (.inr ⟨rfl, rfl⟩)) | (rw [puS (by assumption) (pu_b1 hu (by omega) (by omega) (by omega))]; first | done | rfl | exact .inl ⟨rfl, rfl⟩ | exact .inr (.inl ⟨rfl, rfl⟩) | exact .inr (.inr ⟨rfl, rfl⟩)) | (rw [puS (by assumption) (pu_b2 hu (by omega) (by omega) (by omega) (by omega) (by omega))]; first | done | rfl | exact .inl ⟨rfl, rfl⟩ | exact .inr (.inl ⟨rfl, rfl⟩) | exact .inr (.inr ⟨rfl, rfl⟩)) | (rw [puS (by assumption) (pu_r1 hu (by omega) (by omega) (by omega) (by omega))]; first | done | rfl | exact .inl ⟨rfl, rfl⟩ | exact .inr (.inl ⟨rfl, rfl⟩) | exact .inr (.inr ⟨rfl, rfl⟩)) | (rw [puS (by assumption) (pu_r2 hu (by omega) (by omega) (by omega) (by omega) (by omega) (by omega))]; first | done | rfl | exact .inl ⟨rfl, rfl⟩ | exact .inr (.inl ⟨rfl, rfl⟩) | exact .inr (.inr ⟨rfl, rfl⟩))
              · have hp14 := of_decide_eq_false hb14
                refine CE.cond_f rfl hb14 ?_
                refine CE.skip' ?_
                refine NE.code ?_
                refine CE.seq ?_
                refine CE.seq ?_
                refine CE.region ?_
                refine WL.det (op_move rfl) rfl rfl rfl ?_
                refine WL.det (op_move rfl) rfl rfl rfl ?_
                refine WL.det (op_gei rfl rfl) rfl rfl rfl ?_
                refine WL.end ?_
                refine NE.code ?_
                refine CE.cond_f rfl (decide_eq_false (by omega)) ?_
                refine CE.skip' ?_
                refine NE.code ?_
                refine CE.seq ?_
                refine CE.region ?_
                refine WL.det (op_move rfl) rfl rfl rfl ?_
                refine WL.det (op_move rfl) rfl rfl rfl ?_
                refine WL.det (op_cvt_ii (r := 16) rfl Tryd.runUnderlying3 Tryd.runUnderlying55 (by decide)) rfl rfl rfl ?_
                refine WL.det (op_mul (r := ((n * 16 : Nat) : Int)) rfl rfl (w_u64 (by omega) (by omega))) rfl rfl rfl ?_
                refine WL.det (op_assign rfl) rfl rfl rfl ?_
                refine WL.end ?_
                refine NE.code ?_
                refine CE.seq ?_
                refine CE.region ?_
                refine WL.det (op_move rfl) rfl rfl rfl ?_
                refine WL.det (op_move rfl) rfl rfl rfl ?_
                refine WL.det (op_cvt_ii (r := ((lowC ((byL s).getD i 0) - 97 + 10 : Nat) : Int)) rfl Tryd.runUnderlying5 Tryd.runUnderlying55 (w_u64 (by omega) (by omega))) rfl rfl rfl ?_
                refine WL.det (op_add (r := ((n * 16 + (lowC ((byL s).getD i 0) - 97 + 10) : Nat) : Int)) rfl rfl (w_u64 (by omega) (by omega))) rfl rfl rfl ?_
                refine WL.det (op_assign rfl) rfl rfl rfl ?_
                refine WL.end ?_
                refine NE.code ?_
                refine CE.seq ?_
                refine CE.seq ?_
                refine CE.region ?_
                refine WL.det (op_move rfl) rfl rfl rfl ?_
                refine WL.det (op_move rfl) rfl rfl rfl ?_
                refine WL.det (op_lti rfl rfl) rfl rfl rfl ?_
                refine WL.det (op_move rfl) rfl rfl rfl ?_
                refine WL.yes rfl rfl rfl (ltb rfl) rfl (decide_eq_false (by omega)) ?_
                refine WL.det (op_move rfl) rfl rfl rfl ?_
                refine WL.yes rfl rfl rfl (ltb rfl) rfl (decide_eq_false (by omega)) ?_
                refine WL.det (op_move rfl) rfl rfl rfl ?_
                refine WL.yes rfl rfl rfl (ltb rfl) rfl (decide_eq_false (by omega)) ?_
                refine WL.det (op_gti rfl rfl) rfl rfl rfl ?_
                refine WL.det (op_pick_f rfl (decide_eq_false (by omega)) rfl) rfl rfl rfl ?_
                refine WL.end ?_
                refine NE.code ?_
                rcases Bool.eq_false_or_eq_true (decide ((4294967295 : Int) < ((n * 16 + (lowC ((byL s).getD i 0) - 97 + 10) : Nat) : Int))) with hb15 | hb15
                · have hp15 := of_decide_eq_true hb15
                  refine CE.cond_t rfl hb15 ?_
                  refine CE.seq ?_
                  refine CE.region ?_
                  refine WL.det (op_move rfl) rfl rfl rfl ?_
                  refine WL.det (op_mkIf rfl Tryd.runUnderlying82) rfl rfl rfl ?_
                  refine WL.det (op_assign rfl) rfl rfl rfl ?_
                  refine WL.det (op_assign rfl) rfl rfl rfl ?_
                  refine WL.end ?_
                  refine NE.code ?_
                  refine CE.ret' ?_
                  refine XE.ret_then ?_
                  refine XE.ret_blk ?_
                  refine XE.ret_then ?_
                  refine XE.ret_then ?_
                  refine XE.ret_blk ?_
                  refine XE.ret_then ?_
                  refine XE.leaveT Tryd.results45 (res_tmp rfl (res_tmp rfl res_nil)) ?_
                  refine ⟨(.iface 82 (vI 1)), ?_, ?_, ((((((Mod.refl [] w).nt m1).nt m2).nt m6).nt m7).nt m8)⟩
                  all_goals first | (exfalso; omega) | (rw [puS_e (by assumption)]; first | done | rfl | exact .inl ⟨rfl, rfl⟩ | exact .inr (.inl ⟨rfl, rfl⟩) | exact .inr (.inr ⟨rfl, rfl⟩)) | (rw [puS (by assumption) (pu_e hu (by omega))]; first | done | rfl | exact .inl ⟨rfl, rfl⟩ | exact .inr (.inl ⟨rfl, rfl⟩) | exact .inr (.inr ⟨rfl, rfl⟩)) | (rw [puS (by assumption) (pu_b1 hu (by omega) (by omega) (by omega))]; first | done | rfl | exact .inl ⟨rfl, rfl⟩ | exact .inr (.inl ⟨rfl, rfl⟩) | exact .inr (.inr ⟨rfl, rfl⟩)) | (rw [puS (by assumption) (pu_b2 hu (by omega) (by omega) (by omega) (by omega) (by omega))]; first | done | rfl | exact .inl ⟨rfl, rfl⟩ | exact .inr (.inl ⟨rfl, rfl⟩) | exact .inr (.inr ⟨rfl, rfl⟩)) | (rw [puS (by assumption) (pu_r1 hu (by omega) (by omega) (by omega) (by omega))]; first | done | rfl | exact .inl ⟨rfl, rfl⟩ | exact .inr (.inl ⟨rfl, rfl⟩) | exact .inr (.inr ⟨rfl, rfl⟩)) | (rw [puS (by assumption) (pu_r2 hu (by omega) (by omega) (by omega) (by omega) (by omega) (by omega))]; first | done | rfl | exact .inl ⟨rfl, rfl⟩ | exact .inr (.inl ⟨rfl, rfl⟩) | exact .inr (.inr ⟨rfl, rfl⟩))
                · have hp15 := of_decide_eq_false hb15
                  refine CE.cond_f rfl hb15 ?_
                  refine CE.skip' ?_
                  refine NE.code ?_
                  refine CE.region ?_
                  refine WL.det (op_move rfl) rfl rfl rfl ?_
                  refine WL.det (op_assign rfl) rfl rfl rfl ?_
                  refine WL.end ?_
                  refine NE.blk ?_
                  refine NE.code ?_
                  refine CE.region ?_
                  refine WL.det (op_add (r := ((i + 1 : Nat) : Int)) rfl rfl (w_i64 (by omega) (by omega))) rfl rfl rfl ?_
                  refine WL.det (op_move rfl) rfl rfl rfl ?_
                  refine WL.end ?_
                  exact NE.again ((i + 1), (n * 16 + (lowC ((byL s).getD i 0) - 97 + 10))) (⟨rfl, rfl, rfl, rfl, rfl, rfl, rfl, rfl, rfl, rfl, rfl, rfl, trivial⟩) ⟨(by omega), (by first | omega | (dsimp only; omega)), (by first | exact pu_n1 hu (by omega) (by omega) (by omega) (by omega) | exact pu_n2 hu (by omega) (by omega) (by omega) (by omega) (by omega) (by omega)), (((m2.nt m6).nt m7).nt m8)⟩ (by first | (dsimp only; omega) | omega)
            · have hp13 := of_decide_eq_false hb13
              refine CE.cond_f rfl hb13 ?_
              refine CE.seq ?_
              refine CE.region ?_
              refine WL.det (op_mkIf rfl Tryd.runUnderlying82) rfl rfl rfl ?_
              refine WL.det (op_assign rfl) rfl rfl rfl ?_
              refine WL.det (op_assign rfl) rfl rfl rfl ?_
              refine WL.end ?_
              refine NE.code ?_
              refine CE.ret' ?_
              refine XE.ret_blk ?_
              refine XE.ret_then ?_
              refine XE.ret_blk ?_
              refine XE.ret_then ?_
              refine XE.ret_then ?_
              refine XE.ret_blk ?_
              refine XE.ret_then ?_
              refine XE.leaveT Tryd.results45 (res_tmp rfl (res_tmp rfl res_nil)) ?_
              refine ⟨(.iface 82 (vI 2)), ?_, ?_, (((((Mod.refl [] w).nt m1).nt m2).nt m6).nt m7)⟩
              all_goals first | (exfalso; omega) | (rw [puS_e (by assumption)]; first | done | rfl | exact .inl ⟨rfl, rfl⟩ | exact .inr (.inl ⟨rfl, rfl⟩) | exact .inr (.inr ⟨rfl, rfl⟩)) | (rw [puS (by assumption) (pu_e hu (by omega))]; first | done | rfl | exact .inl ⟨rfl, rfl⟩ | exact .inr (.inl ⟨rfl, rfl⟩) | exact .inr (.inr ⟨rfl, rfl⟩)) | (rw [puS (by assumption) (pu_b1 hu (by omega) (by omega) (by omega))]; first | done | rfl | exact .inl ⟨rfl, rfl⟩ | exact .inr (.inl ⟨rfl, rfl⟩) | exact .inr (.inr ⟨rfl, rfl⟩)) | (rw [puS (by assumption) (pu_b2 hu (by omega) (by omega) (by omega) (by omega) (by omega))]; first | done | rfl | exact .inl ⟨rfl, rfl⟩ | exact .inr (.inl ⟨rfl, rfl⟩) | exact .inr (.inr ⟨rfl, rfl⟩)) | (rw [puS (by assumption) (pu_r1 hu (by omega) (by omega) (by omega) (by omega))]; first | done | rfl | exact .inl ⟨rfl, rfl⟩ | exact .inr (.inl ⟨rfl, rfl⟩) | exact .inr (.inr ⟨rfl, rfl⟩)) | (rw [puS (by assumption) (pu_r2 hu (by omega) (by omega) (by omega) (by omega) (by omega) (by omega))]; first | done | rfl | exact .inl ⟨rfl, rfl⟩ | exact .inr (.inl ⟨rfl, rfl⟩) | exact .inr (.inr ⟨rfl, rfl⟩))
          · have hp12 := of_decide_eq_false hb12
            refine WL.no rfl rfl rfl (ltb rfl) rfl hb12 rfl (ltb rfl) ?_
            refine WL.no rfl rfl rfl (ltb rfl) rfl hb12 rfl (ltb rfl) ?_
            refine WL.no rfl rfl rfl (ltb rfl) rfl hb12 rfl (ltb rfl) ?_
            refine WL.det (op_pick_f rfl hb12 rfl) rfl rfl rfl ?_
            refine WL.det (op_assign rfl) rfl rfl rfl ?_
            refine WL.end ?_
            refine NE.code ?_
            refine CE.cond_f rfl rfl ?_
            refine CE.seq ?_
            refine CE.region ?_
            refine WL.det (op_mkIf rfl Tryd.runUnderlying82) rfl rfl rfl ?_
            refine WL.det (op_assign rfl) rfl rfl rfl ?_
            refine WL.det (op_assign rfl) rfl rfl rfl ?_
            refine WL.end ?_
            refine NE.code ?_
            refine CE.ret' ?_
            refine XE.ret_blk ?_
            refine XE.ret_then ?_
            refine XE.ret_blk ?_
            refine XE.ret_then ?_
            refine XE.ret_then ?_
            refine XE.ret_blk ?_
            refine XE.ret_then ?_
            refine XE.leaveT Tryd.results45 (res_tmp rfl (res_tmp rfl res_nil)) ?_
            refine ⟨(.iface 82 (vI 2)), ?_, ?_, ((((Mod.refl [] w).nt m1).nt m2).nt m6)⟩
            all_goals first | (exfalso; omega) | (rw [puS_e (by assumption)]; first | done | rfl | exact .inl ⟨rfl, rfl⟩ | exact .inr (.inl ⟨rfl, rfl⟩) | exact .inr (.inr ⟨rfl, rfl⟩)) | (rw [puS (by assumption) (pu_e hu (by omega))]; first | done | rfl | exact .inl ⟨rfl, rfl⟩ | exact .inr (.inl ⟨rfl, rfl⟩) | exact .inr (.inr ⟨rfl, rfl⟩)) | (rw [puS (by assumption) (pu_b1 hu (by omega) (by omega) (by omega))]; first | done | rfl | exact .inl ⟨rfl, rfl⟩ | exact .inr (.inl ⟨rfl, rfl⟩) | exact .inr (.inr ⟨rfl, rfl⟩)) | (rw [puS (by assumption) (pu_b2 hu (by omega) (by omega) (by omega) (by omega) (by omega))]; first | done | rfl | exact .inl ⟨rfl, rfl⟩ | exact .inr (.inl ⟨rfl, rfl⟩) | exact .inr (.inr ⟨rfl, rfl⟩)) | (rw [puS (by assumption) (pu_r1 hu (by omega) (by omega) (by omega) (by omega))]; first | done | rfl | exact .inl ⟨rfl, rfl⟩ | exact .inr (.inl ⟨rfl, rfl⟩) | exact .inr (.inr ⟨rfl, rfl⟩)) | (rw [puS (by assumption) (pu_r2 hu (by omega) (by omega) (by omega) (by omega) (by omega) (by omega))]; first | done | rfl | exact .inl ⟨rfl, rfl⟩ | exact .inr (.inl ⟨rfl, rfl⟩) | exact .inr (.inr ⟨rfl, rfl⟩))
      · have hp3 := ne_of_beq_false hb3
        refine WL.no rfl rfl rfl (ltb rfl) rfl hb3 rfl (ltb rfl) ?_
        refine WL.det (op_pick_f rfl hb3 rfl) rfl rfl rfl ?_
        refine WL.det (op_assign rfl) rfl rfl rfl ?_
        refine WL.end ?_
        refine NE.code ?_
        refine CE.cond_f rfl rfl ?_
        refine CE.seq ?_
        refine CE.region ?_
        refine WL.det (op_move rfl) rfl rfl rfl ?_
        refine WL.det (op_lei rfl rfl) rfl rfl rfl ?_
        refine WL.det (op_move rfl) rfl rfl rfl ?_
        rcases Bool.eq_false_or_eq_true (decide ((48 : Int) ≤ (((byL s).getD i 0 : Nat) : Int))) with hb16 | hb16
        · have hp16 := of_decide_eq_true hb16
          refine WL.yes rfl rfl rfl (ltb rfl) rfl hb16 ?_
          refine WL.det (op_move rfl) rfl rfl rfl ?_
          refine WL.yes rfl rfl rfl (ltb rfl) rfl hb16 ?_
          refine WL.det (op_lei rfl rfl) rfl rfl rfl ?_
          refine WL.det (op_pick_t rfl hb16 rfl) rfl rfl rfl ?_
          refine WL.det (op_assign rfl) rfl rfl rfl ?_
          refine WL.end ?_
          refine NE.code ?_
          rcases Bool.eq_false_or_eq_true (decide ((((byL s).getD i 0 : Nat) : Int) ≤ (57 : Int))) with hb17 | hb17
          · have hp17 := of_decide_eq_true hb17
            refine CE.cond_t rfl hb17 ?_
            refine CE.region ?_
            refine WL.det (op_move rfl) rfl rfl rfl ?_
            refine WL.det (op_sub (r := (((byL s).getD i 0 - 48 : Nat) : Int)) rfl rfl (dig_sub (by omega) (byL_lt _ _))) rfl rfl rfl ?_
            refine WL.det (op_assign rfl) rfl rfl rfl ?_
            refine WL.end ?_
            refine NE.blk ?_
            refine NE.code ?_
            refine CE.seq ?_
            refine CE.seq ?_
            refine CE.region ?_
            refine WL.det (op_move rfl) rfl rfl rfl ?_
            refine WL.det (op_move rfl) rfl rfl rfl ?_
            refine WL.det (op_cvt_ii (r := 16) rfl Tryd.runUnderlying3 Tryd.runUnderlying5 (by decide)) rfl rfl rfl ?_
            refine WL.det (op_gei rfl rfl) rfl rfl rfl ?_
            refine WL.end ?_
            refine NE.code ?_
            rcases Bool.eq_false_or_eq_true (decide ((16 : Int) ≤ (((byL s).getD i 0 - 48 : Nat) : Int))) with hb18 | hb18
            · have hp18 := of_decide_eq_true hb18
              refine CE.cond_t rfl hb18 ?_
              refine CE.seq ?_
              refine CE.region ?_
              refine WL.det (op_mkIf rfl Tryd.runUnderlying82) rfl rfl rfl ?_
              refine WL.det (op_assign rfl) rfl rfl rfl ?_
              refine WL.det (op_assign rfl) rfl rfl rfl ?_
              refine WL.end ?_
              refine NE.code ?_
              refine CE.ret' ?_
              refine XE.ret_then ?_
              refine XE.ret_blk ?_
              refine XE.ret_then ?_
              refine XE.ret_then ?_
              refine XE.ret_blk ?_
              refine XE.ret_then ?_
              refine XE.leaveT Tryd.results45 (res_tmp rfl (res_tmp rfl res_nil)) ?_
              refine ⟨(.iface 82 (vI 2)), ?_, ?_, (((Mod.refl [] w).nt m1).nt m2)⟩
              all_goals first | (exfalso; omega) | (rw [puS_e (by assumption)]; first | done | rfl | exact .inl ⟨rfl, rfl⟩ | exact .inr (.inl ⟨rfl, rfl⟩) | exact .inr (.inr ⟨rfl, rfl⟩)) | (rw [puS (by assumption) (pu_e hu (by omega))]; first | done | rfl | exact .inl ⟨rfl, rfl⟩ | exact .inr (.inl ⟨rfl, rfl⟩) | exact .inr (.inr ⟨rfl, rfl⟩)) | (rw [puS (by assumption) (pu_b1 hu (by omega) (by omega) (by omega))]; first | done | rfl | exact .inl ⟨rfl, rfl⟩ | exact .inr (.inl ⟨rfl, rfl⟩) | exact .inr (.inr ⟨rfl, rfl⟩)) | (rw [puS (by assumption) (pu_b2 hu (by omega) (by omega) (by omega) (by omega) (by omega))]; first | done | rfl | exact .inl ⟨rfl, rfl⟩ | exact .inr (.inl ⟨rfl, rfl⟩) | exact .inr (.inr ⟨rfl, rfl⟩)) | (rw [puS (by assumption) (pu_r1 hu (by omega) (by omega) (by omega) (by omega))]; first | done | rfl | exact .inl ⟨rfl, rfl⟩ | exact .inr (.inl ⟨rfl, rfl⟩) | exact .inr (.inr ⟨rfl, rfl⟩)) | (rw [puS (by assumption) (pu_r2 hu (by omega) (by omega) (by omega) (by omega) (by omega) (by omega))]; first | done | rfl | exact .inl ⟨rfl, rfl⟩ | exact .inr (.inl ⟨rfl, rfl⟩) | exact .inr (.inr ⟨rfl, rfl⟩))
            · have hp18 := of_decide_eq_false hb18
              refine CE.cond_f rfl hb18 ?_
              refine CE.skip' ?_
              refine NE.code ?_
              refine CE.seq ?_
              refine CE.seq ?_
              refine CE.region ?_
              refine WL.det (op_move rfl) rfl rfl rfl ?_
              refine WL.det (op_move rfl) rfl rfl rfl ?_
              refine WL.det (op_gei rfl rfl) rfl rfl rfl ?_
              refine WL.end ?_
              refine NE.code ?_
              refine CE.cond_f rfl (decide_eq_false (by omega)) ?_
              refine CE.skip' ?_
              refine NE.code ?_
              refine CE.seq ?_
              refine CE.region ?_
              refine WL.det (op_move rfl) rfl rfl rfl ?_
              refine WL.det (op_move rfl) rfl rfl rfl ?_
              refine WL.det (op_cvt_ii (r := 16) rfl Tryd.runUnderlying3 Tryd.runUnderlying55 (by decide)) rfl rfl rfl ?_
              refine WL.det (op_mul (r := ((n * 16 : Nat) : Int)) rfl rfl (w_u64 (by omega) (by omega))) rfl rfl rfl ?_
              refine WL.det (op_assign rfl) rfl rfl rfl ?_
              refine WL.end ?_
              refine NE.code ?_
              refine CE.seq ?_
              refine CE.region ?_
              refine WL.det (op_move rfl) rfl rfl rfl ?_
              refine WL.det (op_move rfl) rfl rfl rfl ?_
              refine WL.det (op_cvt_ii (r := (((byL s).getD i 0 - 48 : Nat) : Int)) rfl Tryd.runUnderlying5 Tryd.runUnderlying55 (w_u64 (by omega) (by omega))) rfl rfl rfl ?_
              refine WL.det (op_add (r := ((n * 16 + ((byL s).getD i 0 - 48) : Nat) : Int)) rfl rfl (w_u64 (by omega) (by omega))) rfl rfl rfl ?_
              refine WL.det (op_assign rfl) rfl rfl rfl ?_
              refine WL.end ?_
              refine NE.code ?_
              refine CE.seq ?_
              refine CE.seq ?_
              refine CE.region ?_
              refine WL.det (op_move rfl) rfl rfl rfl ?_
              refine WL.det (op_move rfl) rfl rfl rfl ?_
              refine WL.det (op_lti rfl rfl) rfl rfl rfl ?_
              refine WL.det (op_move rfl) rfl rfl rfl ?_
              refine WL.yes rfl rfl rfl (ltb rfl) rfl (decide_eq_false (by omega)) ?_
              refine WL.det (op_move rfl) rfl rfl rfl ?_
              refine WL.yes rfl rfl rfl (ltb rfl) rfl (decide_eq_false (by omega)) ?_
              refine WL.det (op_move rfl) rfl rfl rfl ?_
              refine WL.yes rfl rfl rfl (ltb rfl) rfl (decide_eq_false (by omega)) ?_
              refine WL.det (op_gti rfl rfl) rfl rfl rfl ?_
              refine WL.det (op_pick_f rfl (decide_eq_false (by omega)) rfl) rfl rfl rfl ?_
              refine WL.end ?_
              refine NE.code ?_
              rcases Bool.eq_false_or_eq_true (decide ((4294967295 : Int) < ((n * 16 + ((byL s).getD i 0 - 48) : Nat) : Int))) with hb19 | hb19
              · have hp19 := of_decide_eq_true hb19
                refine CE.cond_t rfl hb19 ?_
                refine CE.seq ?_
                refine CE.region ?_
                refine WL.det (op_move rfl) rfl rfl rfl ?_
                refine WL.det (op_mkIf rfl Tryd.runUnderlying82) rfl rfl rfl ?_
                refine WL.det (op_assign rfl) rfl rfl rfl ?_
                refine WL.det (op_assign rfl) rfl rfl rfl ?_
                refine WL.end ?_
                refine NE.code ?_
                refine CE.ret' ?_
                refine XE.ret_then ?_
                refine XE.ret_blk ?_
                refine XE.ret_then ?_
                refine XE.ret_then ?_
                refine XE.ret_blk ?_
                refine XE.ret_then ?_
                refine XE.leaveT Tryd.results45 (res_tmp rfl (res_tmp rfl res_nil)) ?_
                refine ⟨(.iface 82 (vI 1)), ?_, ?_, (((Mod.refl [] w).nt m1).nt m2)⟩
                all_goals first | (exfalso; omega) | (rw [puS_e (by assumption)]; first | done | rfl | exact .inl ⟨rfl, rfl⟩ | exact .inr (.inl ⟨rfl, rfl⟩) | exact .inr (.inr ⟨rfl, rfl⟩)) | (rw [puS (by assumption) (pu_e hu (by omega))]; first | done | rfl | exact .inl ⟨rfl, rfl⟩ | exact .inr (.inl ⟨rfl, rfl⟩) | exact .inr (.inr ⟨rfl, rfl⟩)) | (rw [puS (by assumption) (pu_b1 hu (by omega) (by omega) (by omega))]; first | done | rfl | exact .inl ⟨rfl, rfl⟩ | exact .inr (.inl ⟨rfl, rfl⟩) | exact .inr (.inr ⟨rfl, rfl⟩)) | (rw [puS (by assumption) (pu_b2 hu (by omega) (by omega) (by omega) (by omega) (by omega))]; first | done | rfl | exact .inl ⟨rfl, rfl⟩ | exact .inr (.inl ⟨rfl, rfl⟩) | exact .inr (.inr ⟨rfl, rfl⟩)) | (rw [puS (by assumption) (pu_r1 hu (by omega) (by omega) (by omega) (by omega))]; first | done | rfl | exact .inl ⟨rfl, rfl⟩ | exact .inr (.inl ⟨rfl, rfl⟩) | exact .inr (.inr ⟨rfl, rfl⟩)) | (rw [puS (by assumption) (pu_r2 hu (by omega) (by omega) (by omega) (by omega) (by omega) (by omega))]; first | done | rfl | exact .inl ⟨rfl, rfl⟩ | exact .inr (.inl ⟨rfl, rfl⟩) | exact .inr (.inr ⟨rfl, rfl⟩))
              · have hp19 := of_decide_eq_false hb19
                refine CE.cond_f rfl hb19 ?_
                refine CE.skip' ?_
                refine NE.code ?_
                refine CE.region ?_
                refine WL.det (op_move rfl) rfl rfl rfl ?_
                refine WL.det (op_assign rfl) rfl rfl rfl ?_
                refine WL.end ?_
                refine NE.blk ?_
                refine NE.code ?_
                refine CE.region ?_
                refine WL.det (op_add (r := ((i + 1 : Nat) : Int)) rfl rfl (w_i64 (by omega) (by omega))) rfl rfl rfl ?_
                refine WL.det (op_move rfl) rfl rfl rfl ?_
                refine WL.end ?_
                exact NE.again ((i + 1), (n * 16 + ((byL s).getD i 0 - 48))) (⟨rfl, rfl, rfl, rfl, rfl, rfl, rfl, rfl, rfl, rfl, rfl, rfl, trivial⟩) ⟨(by omega), (by first | omega | (dsimp only; omega)), (by first | exact pu_n1 hu (by omega) (by omega) (by omega) (by omega) | exact pu_n2 hu (by omega) (by omega) (by omega) (by omega) (by omega) (by omega)), m2⟩ (by first | (dsimp only; omega) | omega)
          · have hp17 := of_decide_eq_false hb17
            refine CE.cond_f rfl hb17 ?_
            refine CE.seq ?_
            refine CE.region ?_
            refine WL.det (op_move rfl) rfl rfl rfl ?_
            refine WL.call (oc_call (vs := [.int .u8 (((byL s).getD i 0 : Nat) : Int)]) (cap := []) rfl rfl rfl Tryd.call57 (c_lower ((byL s).getD i 0) (by first | assumption | exact byL_lt _ _) w2)) rfl rfl (ltb rfl) ?_
            rintro _ w9 ⟨rfl, m9⟩
            refine WL.det (op_lei rfl rfl) rfl rfl rfl ?_
            refine WL.det (op_move rfl) rfl rfl rfl ?_
            rcases Bool.eq_false_or_eq_true (decide ((97 : Int) ≤ ((lowC ((byL s).getD i 0) : Nat) : Int))) with hb20 | hb20
            · have hp20 := of_decide_eq_true hb20
              refine WL.yes rfl rfl rfl (ltb rfl) rfl hb20 ?_
              refine WL.det (op_move rfl) rfl rfl rfl ?_
              refine WL.yes rfl rfl rfl (ltb rfl) rfl hb20 ?_
              refine WL.call (oc_call (vs := [.int .u8 (((byL s).getD i 0 : Nat) : Int)]) (cap := []) rfl rfl rfl Tryd.call57 (c_lower ((byL s).getD i 0) (by first | assumption | exact byL_lt _ _) w9)) rfl rfl (ltb rfl) ?_
              rintro _ w10 ⟨rfl, m10⟩
              refine WL.yes rfl rfl rfl (ltb rfl) rfl hb20 ?_
              refine WL.det (op_lei rfl rfl) rfl rfl rfl ?_
              refine WL.det (op_pick_t rfl hb20 rfl) rfl rfl rfl ?_
              refine WL.det (op_assign rfl) rfl rfl rfl ?_
              refine WL.end ?_
              refine NE.code ?_
              rcases Bool.eq_false_or_eq_true (decide (((lowC ((byL s).getD i 0) : Nat) : Int) ≤ (122 : Int))) with hb21 | hb21
              · have hp21 := of_decide_eq_true hb21
                refine CE.cond_t rfl hb21 ?_
                refine CE.region ?_
                refine WL.det (op_move rfl) rfl rfl rfl ?_
                refine WL.call (oc_call (vs := [.int .u8 (((byL s).getD i 0 : Nat) : Int)]) (cap := []) rfl rfl rfl Tryd.call57 (c_lower ((byL s).getD i 0) (by first | assumption | exact byL_lt _ _) w10)) rfl rfl (ltb rfl) ?_
                rintro _ w11 ⟨rfl, m11⟩
                refine WL.det (op_sub (r := ((lowC ((byL s).getD i 0) - 97 : Nat) : Int)) rfl rfl (let_sub (by omega) (by omega))) rfl rfl rfl ?_
                refine WL.det (op_add (r := ((lowC ((byL s).getD i 0) - 97 + 10 : Nat) : Int)) rfl rfl (w_u8 (by omega) (by omega))) rfl rfl rfl ?_
                refine WL.det (op_assign rfl) rfl rfl rfl ?_
                refine WL.end ?_
                refine NE.blk ?_
                refine NE.code ?_
                refine CE.seq ?_
                refine CE.seq ?_
                refine CE.region ?_
                refine WL.det (op_move rfl) rfl rfl rfl ?_
                refine WL.det (op_move rfl) rfl rfl rfl ?_
                refine WL.det (op_cvt_ii (r := 16) rfl Tryd.runUnderlying3 Tryd.runUnderlying5 (by decide)) rfl rfl rfl ?_
                refine WL.det (op_gei rfl rfl) rfl rfl rfl ?_
                refine WL.end ?_
                refine NE.code ?_
                rcases Bool.eq_false_or_eq_true (decide ((16 : Int) ≤ ((lowC ((byL s).getD i 0) - 97 + 10 : Nat) : Int))) with hb22 | hb22
                · have hp22 := of_decide_eq_true hb22
                  refine CE.cond_t rfl hb22 ?_
                  refine CE.seq ?_
                  refine CE.region ?_
                  refine WL.det (op_mkIf rfl Tryd.runUnderlying82) rfl rfl rfl ?_
                  refine WL.det (op_assign rfl) rfl rfl rfl ?_
                  refine WL.det (op_assign rfl) rfl rfl rfl ?_
                  refine WL.end ?_
                  refine NE.code ?_
                  refine CE.ret' ?_
                  refine XE.ret_then ?_
                  refine XE.ret_blk ?_
                  refine XE.ret_then ?_
                  refine XE.ret_then ?_
                  refine XE.ret_blk ?_
                  refine XE.ret_then ?_
                  refine XE.leaveT Tryd.results45 (res_tmp rfl (res_tmp rfl res_nil)) ?_
                  refine ⟨(.iface 82 (vI 2)), ?_, ?_, ((((((Mod.refl [] w).nt m1).nt m2).nt m9).nt m10).nt m11)⟩
                  all_goals first | (exfalso; omega) | (rw [puS_e (by assumption)]; first | done | rfl | exact .inl ⟨rfl, rfl⟩ | exact .inr (.inl ⟨rfl, rfl⟩) | exact .inr (.inr ⟨rfl, rfl⟩)) | (rw [puS (by assumption) (pu_e hu (by omega))]; first | done | rfl | exact .inl ⟨rfl, rfl⟩ | exact .inr (.inl ⟨rfl, rfl⟩) | exact .inr (.inr ⟨rfl, rfl⟩)) | (rw [puS (by assumption) (pu_b1 hu (by omega) (by omega) (by omega))]; first | done | rfl | exact .inl ⟨rfl, rfl⟩ | exact .inr (.inl ⟨rfl, rfl⟩) | exact .inr (.inr ⟨rfl, rfl⟩)) | (rw [puS (by assumption) (pu_b2 hu (by omega) (by omega) (by omega) (by omega) (by omega))]; first | done | rfl | exact .inl ⟨rfl, rfl⟩ | exact .inr (.inl ⟨rfl, rfl⟩) | exact .inr (.inr ⟨rfl, rfl⟩)) | (rw [puS (by assumption) (pu_r1 hu (by omega) (by omega) (by omega) (by omega))]; first | done | rfl | exact .inl ⟨rfl, rfl⟩ | exact .inr (.inl ⟨rfl, rfl⟩) | exact .inr (.inr ⟨rfl, rfl⟩)) | (rw [puS (by assumption) (pu_r2 hu (by omega) (by omega) (by omega) (by omega) (by omega) (by omega))]; first | done | rfl | exact .inl ⟨rfl, rfl⟩ | exact .inr (.inl ⟨rfl, rfl⟩) | exact .inr (.inr ⟨rfl, rfl⟩))
                · have hp22 := of_decide_eq_false hb22
                  refine CE.cond_f rfl hb22 ?_
                  refine CE.skip' ?_
                  refine NE.code ?_
                  refine CE.seq ?_
                  refine CE.seq ?_
                  refine CE.region ?_
                  refine WL.det (op_move rfl) rfl rfl rfl ?_
                  refine WL.det (op_move rfl) rfl rfl rfl ?_
                  refine WL.det (op_gei rfl rfl) rfl rfl rfl ?_
                  refine WL.end ?_
                  refine NE.code ?_
                  refine CE.cond_f rfl (decide_eq_false (by omega)) ?_
                  refine CE.skip' ?_
                  refine NE.code ?_
                  refine CE.seq ?_
                  refine CE.region ?_
                  refine WL.det (op_move rfl) rfl rfl rfl ?_
                  refine WL.det (op_move rfl) rfl rfl rfl ?_
                  refine WL.det (op_cvt_ii (r := 16) rfl Tryd.runUnderlying3 Tryd.runUnderlying55 (by decide)) rfl rfl rfl ?_
                  refine WL.det (op_mul (r := ((n * 16 : Nat) : Int)) rfl rfl (w_u64 (by omega) (by omega))) rfl rfl rfl ?_
                  refine WL.det (op_assign rfl) rfl rfl rfl ?_
                  refine WL.end ?_
                  refine NE.code ?_
                  refine CE.seq ?_
                  refine CE.region ?_
                  refine WL.det (op_move rfl) rfl rfl rfl ?_
                  refine WL.det (op_move rfl) rfl rfl rfl ?_
                  refine WL.det (op_cvt_ii (r := ((lowC ((byL s).getD i 0) - 97 + 10 : Nat) : Int)) rfl Tryd.runUnderlying5 Tryd.runUnderlying55 (w_u64 (by omega) (by omega))) rfl rfl rfl ?_
                  refine WL.det (op_add (r := ((n * 16 + (lowC ((byL s).getD i 0) - 97 + 10) : Nat) : Int)) rfl rfl (w_u64 (by omega) (by omega))) rfl rfl rfl ?_
                  refine WL.det (op_assign rfl) rfl rfl rfl ?_
                  refine WL.end ?_
                  refine NE.code ?_
                  refine CE.seq ?_
                  refine CE.seq ?_
                  refine CE.region ?_
                  refine WL.det (op_move rfl) rfl rfl rfl ?_
                  refine WL.det (op_move rfl) rfl rfl rfl ?_
                  refine WL.det (op_lti rfl rfl) rfl rfl rfl ?_
                  refine WL.det (op_move rfl) rfl rfl rfl ?_
                  refine WL.yes rfl rfl rfl (ltb rfl) rfl (decide_eq_false (by omega)) ?_
                  refine WL.det (op_move rfl) rfl rfl rfl ?_
                  refine WL.yes rfl rfl rfl (ltb rfl) rfl (decide_eq_false (by omega)) ?_
                  refine WL.det (op_move rfl) rfl rfl rfl ?_
                  refine WL.yes rfl rfl rfl (ltb rfl) rfl (decide_eq_false (by omega)) ?_
                  refine WL.det (op_gti rfl rfl) rfl rfl rfl ?_
                  refine WL.det (op_pick_f rfl (decide_eq_false (by omega)) rfl) rfl rfl rfl ?_
                  refine WL.end ?_
                  refine NE.code ?_
                  rcases Bool.eq_false_or_eq_true (decide ((4294967295 : Int) < ((n * 16 + (lowC ((byL s).getD i 0) - 97 + 10) : Nat) : Int))) with hb23 | hb23
                  · have hp23 := of_decide_eq_true hb23
                    refine CE.cond_t rfl hb23 ?_
                    refine CE.seq ?_
                    refine CE.region ?_
                    refine WL.det (op_move rfl) rfl rfl rfl ?_
                    refine WL.det (op_mkIf rfl Tryd.runUnderlying82) rfl rfl rfl ?_
                    refine WL.det (op_assign rfl) rfl rfl rfl ?_
                    refine WL.det (op_assign rfl) rfl rfl rfl ?_
                    refine WL.end ?_
                    refine NE.code ?_
                    refine CE.ret' ?_
                    refine XE.ret_then ?_
                    refine XE.ret_blk ?_
                    refine XE.ret_then ?_
                    refine XE.ret_then ?_
                    refine XE.ret_blk ?_
                    refine XE.ret_then ?_
                    refine XE.leaveT Tryd.results45 (res_tmp rfl (res_tmp rfl res_nil)) ?_
                    refine ⟨(.iface 82 (vI 1)), ?_, ?_, ((((((Mod.refl [] w).nt m1).nt m2).nt m9).nt m10).nt m11)⟩
                    all_goals first | (exfalso; omega) | (rw [puS_e (by assumption)]; first | done | rfl | exact .inl ⟨rfl, rfl⟩ | exact .inr (.inl ⟨rfl, rfl⟩) | exact .inr (.inr ⟨rfl, rfl⟩)) | (rw [puS (by assumption) (pu_e hu (by omega))]; first | done | rfl | exact .inl ⟨rfl, rfl⟩ | exact .inr (.inl ⟨rfl, rfl⟩) | exact .inr (.inr ⟨rfl, rfl⟩)) | (rw [puS (by assumption) (pu_b1 hu (by omega) (by omega) (by omega))]; first | done | rfl | exact .inl ⟨rfl, rfl⟩ | exact .inr (.inl ⟨rfl, rfl⟩) | exact .inr (.inr ⟨rfl, rfl⟩)) | (rw [puS (by assumption) (pu_b2 hu (by omega) (by omega) (by omega) (by omega) (by omega))]; first | done | rfl | exact .inl ⟨rfl, rfl⟩ | exact .inr (.inl ⟨rfl, rfl⟩) | exact .inr (.inr ⟨rfl, rfl⟩)) | (rw [puS (by assumption) (pu_r1 hu (by omega) (by omega) (by omega) (by omega))]; first | done | rfl | exact .inl ⟨rfl, rfl⟩ | exact .inr (.inl ⟨rfl, rfl⟩) | exact .inr (.inr ⟨rfl, rfl⟩)) | (rw [puS (by assumption) (pu_r2 hu (by omega) (by omega) (by omega) (by omega) (by omega) (by omega))]; first | done | rfl | exact .inl ⟨rfl, rfl⟩ | exact .inr (.inl ⟨rfl, rfl⟩) | exact .inr (.inr ⟨rfl, rfl⟩))
                  · have hp23 := of_decide_eq_false hb23
                    refine CE.cond_f rfl hb23 ?_
                    refine CE.skip' ?_
                    refine NE.code ?_
                    refine CE.region ?_
                    refine WL.det (op_move rfl) rfl rfl rfl ?_
                    refine WL.det (op_assign rfl) rfl rfl rfl ?_
                    refine WL.end ?_
                    refine NE.blk ?_
                    refine NE.code ?_
                    refine CE.region ?_
                    refine WL.det (op_add (r := ((i + 1 : Nat) : Int)) rfl rfl (w_i64 (by omega) (by omega))) rfl rfl rfl ?_
                    refine WL.det (op_move rfl) rfl rfl rfl ?_
                    refine WL.end ?_
                    exact NE.again ((i + 1), (n * 16 + (lowC ((byL s).getD i 0) - 97 + 10))) (⟨rfl, rfl, rfl, rfl, rfl, rfl, rfl, rfl, rfl, rfl, rfl, rfl, trivial⟩) ⟨(by omega), (by first | omega | (dsimp only; omega)), (by first | exact pu_n1 hu (by omega) (by omega) (by omega) (by omega) | exact pu_n2 hu (by omega) (by omega) (by omega) (by omega) (by omega) (by omega)), (((m2.nt m9).nt m10).nt m11)⟩ (by first | (dsimp only; omega) | omega)
              · have hp21 := of_decide_eq_false hb21
                refine CE.cond_f rfl hb21 ?_
                refine CE.seq ?_
                refine CE.region ?_
                refine WL.det (op_mkIf rfl Tryd.runUnderlying82) rfl rfl rfl ?_
                refine WL.det (op_assign rfl) rfl rfl rfl ?_
                refine WL.det (op_assign rfl) rfl rfl rfl ?_
                refine WL.end ?_
                refine NE.code ?_
                refine CE.ret' ?_
                refine XE.ret_blk ?_
                refine XE.ret_then ?_
                refine XE.ret_blk ?_
                refine XE.ret_then ?_
                refine XE.ret_then ?_
                refine XE.ret_blk ?_
                refine XE.ret_then ?_
                refine XE.leaveT Tryd.results45 (res_tmp rfl (res_tmp rfl res_nil)) ?_
                refine ⟨(.iface 82 (vI 2)), ?_, ?_, (((((Mod.refl [] w).nt m1).nt m2).nt m9).nt m10)⟩
                all_goals first | (exfalso; omega) | (rw [puS_e (by assumption)]; first | done | rfl | exact .inl ⟨rfl, rfl⟩ | exact .inr (.inl ⟨rfl, rfl⟩) | exact .inr (.inr ⟨rfl, rfl⟩)) | (rw [puS (by assumption) (pu_e hu (by omega))]; first | done | rfl | exact .inl ⟨rfl, rfl⟩ | exact .inr (.inl ⟨rfl, rfl⟩) | exact .inr (.inr ⟨rfl, rfl⟩)) | (rw [puS (by assumption) (pu_b1 hu (by omega) (by omega) (by omega))]; first | done | rfl | exact .inl ⟨rfl, rfl⟩ | exact .inr (.inl ⟨rfl, rfl⟩) | exact .inr (.inr ⟨rfl, rfl⟩)) | (rw [puS (by assumption) (pu_b2 hu (by omega) (by omega) (by omega) (by omega) (by omega))]; first | done | rfl | exact .inl ⟨rfl, rfl⟩ | exact .inr (.inl ⟨rfl, rfl⟩) | exact .inr (.inr ⟨rfl, rfl⟩)) | (rw [puS (by assumption) (pu_r1 hu (by omega) (by omega) (by omega) (by omega))]; first | done | rfl | exact .inl ⟨rfl, rfl⟩ | exact .inr (.inl ⟨rfl, rfl⟩) | exact .inr (.inr ⟨rfl, rfl⟩)) | (rw [puS (by assumption) (pu_r2 hu (by omega) (by omega) (by omega) (by omega) (by omega) (by omega))]; first | done | rfl | exact .inl ⟨rfl, rfl⟩ | exact .inr (.inl ⟨rfl, rfl⟩) | exact .inr (.inr ⟨rfl, rfl⟩))
            · have hp20 := of_decide_eq_false hb20
              refine WL.no rfl rfl rfl (ltb rfl) rfl hb20 rfl (ltb rfl) ?_
              refine WL.no rfl rfl rfl (ltb rfl) rfl hb20 rfl (ltb rfl) ?_
              refine WL.no rfl rfl rfl (ltb rfl) rfl hb20 rfl (ltb rfl) ?_
              refine WL.det (op_pick_f rfl hb20 rfl) rfl rfl rfl ?_
              refine WL.det (op_assign rfl) rfl rfl rfl ?_
              refine WL.end ?_
              refine NE.code ?_
              refine CE.cond_f rfl rfl ?_
              refine CE.seq ?_
              refine CE.region ?_
              refine WL.det (op_mkIf rfl Tryd.runUnderlying82) rfl rfl rfl ?_
              refine WL.det (op_assign rfl) rfl rfl rfl ?_
              refine WL.det (op_assign rfl) rfl rfl rfl ?_
              refine WL.end ?_
              refine NE.code ?_
              refine CE.ret' ?_
              refine XE.ret_blk ?_
              refine XE.ret_then ?_
              refine XE.ret_blk ?_
              refine XE.ret_then ?_
              refine XE.ret_then ?_
              refine XE.ret_blk ?_
              refine XE.ret_then ?_
              refine XE.leaveT Tryd.results45 (res_tmp rfl (res_tmp rfl res_nil)) ?_
              refine ⟨(.iface 82 (vI 2)), ?_, ?_, ((((Mod.refl [] w).nt m1).nt m2).nt m9)⟩
              all_goals first | (exfalso; omega) | (rw [puS_e (by assumption)]; first | done | rfl | exact .inl ⟨rfl, rfl⟩ | exact .inr (.inl ⟨rfl, rfl⟩) | exact .inr (.inr ⟨rfl, rfl⟩)) | (rw [puS (by assumption) (pu_e hu (by omega))]; first | done | rfl | exact .inl ⟨rfl, rfl⟩ | exact .inr (.inl ⟨rfl, rfl⟩) | exact .inr (.inr ⟨rfl, rfl⟩)) | (rw [puS (by assumption) (pu_b1 hu (by omega) (by omega) (by omega))]; first | done | rfl | exact .inl ⟨rfl, rfl⟩ | exact .inr (.inl ⟨rfl, rfl⟩) | exact .inr (.inr ⟨rfl, rfl⟩)) | (rw [puS (by assumption) (pu_b2 hu (by omega) (by omega) (by omega) (by omega) (by omega))]; first | done | rfl | exact .inl ⟨rfl, rfl⟩ | exact .inr (.inl ⟨rfl, rfl⟩) | exact .inr (.inr ⟨rfl, rfl⟩)) | (rw [puS (by assumption) (pu_r1 hu (by omega) (by omega) (by omega) (by omega))]; first | done | rfl | exact .inl ⟨rfl, rfl⟩ | exact .inr (.inl ⟨rfl, rfl⟩) | exact .inr (.inr ⟨rfl, rfl⟩)) | (rw [puS (by assumption) (pu_r2 hu (by omega) (by omega) (by omega) (by omega) (by omega) (by omega))]; first | done | rfl | exact .inl ⟨rfl, rfl⟩ | exact .inr (.inl ⟨rfl, rfl⟩) | exact .inr (.inr ⟨rfl, rfl⟩))
        · have hp16 := of_decide_eq_false hb16
          refine WL.no rfl rfl rfl (ltb rfl) rfl hb16 rfl (ltb rfl) ?_
          refine WL.no rfl rfl rfl (ltb rfl) rfl hb16 rfl (ltb rfl) ?_
          refine WL.det (op_pick_f rfl hb16 rfl) rfl rfl rfl ?_
          refine WL.det (op_assign rfl) rfl rfl rfl ?_
          refine WL.end ?_
          refine NE.code ?_
          refine CE.cond_f rfl rfl ?_
          refine CE.seq ?_
          refine CE.region ?_
          refine WL.det (op_move rfl) rfl rfl rfl ?_
          refine WL.call (oc_call (vs := [.int .u8 (((byL s).getD i 0 : Nat) : Int)]) (cap := []) rfl rfl rfl Tryd.call57 (c_lower ((byL s).getD i 0) (by first | assumption | exact byL_lt _ _) w2)) rfl rfl (ltb rfl) ?_
          rintro _ w12 ⟨rfl, m12⟩
          refine WL.det (op_lei rfl rfl) rfl rfl rfl ?_
          refine WL.det (op_move rfl) rfl rfl rfl ?_
          rcases Bool.eq_false_or_eq_true (decide ((97 : Int) ≤ ((lowC ((byL s).getD i 0) : Nat) : Int))) with hb24 | hb24
          · have hp24 := of_decide_eq_true hb24
            refine WL.yes rfl rfl rfl (ltb rfl) rfl hb24 ?_
            refine WL.det (op_move rfl) rfl rfl rfl ?_
            refine WL.yes rfl rfl rfl (ltb rfl) rfl hb24 ?_
            refine WL.call (oc_call (vs := [.int .u8 (((byL s).getD i 0 : Nat) : Int)]) (cap := []) rfl rfl rfl Tryd.call57 (c_lower ((byL s).getD i 0) (by first | assumption | exact byL_lt _ _) w12)) rfl rfl (ltb rfl) ?_
            rintro _ w13 ⟨rfl, m13⟩
            refine WL.yes rfl rfl rfl (ltb rfl) rfl hb24 ?_
            refine WL.det (op_lei rfl rfl) rfl rfl rfl ?_
            refine WL.det (op_pick_t rfl hb24 rfl) rfl rfl rfl ?_
            refine WL.det (op_assign rfl) rfl rfl rfl ?_
            refine WL.end ?_
            refine NE.code ?_
            rcases Bool.eq_false_or_eq_true (decide (((lowC ((byL s).getD i 0) : Nat) : Int) ≤ (122 : Int))) with hb25 | hb25
            · have hp25 := of_decide_eq_true hb25
              refine CE.cond_t rfl hb25 ?_
              refine CE.region ?_
              refine WL.det (op_move rfl) rfl rfl rfl ?_
              refine WL.call (oc_call (vs := [.int .u8 (((byL s).getD i 0 : Nat) : Int)]) (cap := []) rfl rfl rfl Tryd.call57 (c_lower ((byL s).getD i 0) (by first | assumption | exact byL_lt _ _) w13)) rfl rfl (ltb rfl) ?_
              rintro _ w14 ⟨rfl, m14⟩
              refine WL.det (op_sub (r := ((lowC ((byL s).getD i 0) - 97 : Nat) : Int)) rfl rfl (let_sub (by omega) (by omega))) rfl rfl rfl ?_
              refine WL.det (op_add (r := ((lowC ((byL s).getD i 0) - 97 + 10 : Nat) : Int)) rfl rfl (w_u8 (by omega) (by omega))) rfl rfl rfl ?_
              refine WL.det (op_assign rfl) rfl rfl rfl ?_
              refine WL.end ?_
              refine NE.blk ?_
              refine NE.code ?_
              refine CE.seq ?_
              refine CE.seq ?_
              refine CE.region ?_
              refine WL.det (op_move rfl) rfl rfl rfl ?_
              refine WL.det (op_move rfl) rfl rfl rfl ?_
              refine WL.det (op_cvt_ii (r := 16) rfl Tryd.runUnderlying3 Tryd.runUnderlying5 (by decide)) rfl rfl rfl ?_
              refine WL.det (op_gei rfl rfl) rfl rfl rfl ?_
              refine WL.end ?_
              refine NE.code ?_
              rcases Bool.eq_false_or_eq_true (decide ((16 : Int) ≤ ((lowC ((byL s).getD i 0) - 97 + 10 : Nat) : Int))) with hb26 | hb26
              · have hp26 := of_decide_eq_true hb26
                refine CE.cond_t rfl hb26 ?_
                refine CE.seq ?_
                refine CE.region ?_
                refine WL.det (op_mkIf rfl Tryd.runUnderlying82) rfl rfl rfl ?_
                refine WL.det (op_assign rfl) rfl rfl rfl ?_
                refine WL.det (op_assign rfl) rfl rfl rfl ?_
                refine WL.end ?_
                refine NE.code ?_
                refine CE.ret' ?_
                refine XE.ret_then ?_
                refine XE.ret_blk ?_
                refine XE.ret_then ?_
                refine XE.ret_then ?_
                refine XE.ret_blk ?_
                refine XE.ret_then ?_
                refine XE.leaveT Tryd.results45 (res_tmp rfl (res_tmp rfl res_nil)) ?_
                refine ⟨(.iface 82 (vI 2)), ?_, ?_, ((((((Mod.refl [] w).nt m1).nt m2).nt m12).nt m13).nt m14)⟩
                all_goals first | (exfalso; omega) | (rw [puS_e (by assumption)]; first | done | rfl | exact .inl ⟨rfl, rfl⟩ | exact .inr (.inl ⟨rfl, rfl⟩) | exact .inr (.inr ⟨rfl, rfl⟩)) | (rw [puS (by assumption) (pu_e hu (by omega))]; first | done | rfl | exact .inl ⟨rfl, rfl⟩ | exact .inr (.inl ⟨rfl, rfl⟩) | exact .inr (.inr ⟨rfl, rfl⟩)) | (rw [puS (by assumption) (pu_b1 hu (by omega) (by omega) (by omega))]; first | done | rfl | exact .inl ⟨rfl, rfl⟩ | exact .inr (.inl ⟨rfl, rfl⟩) | exact .inr (.inr ⟨rfl, rfl⟩)) | (rw [puS (by assumption) (pu_b2 hu (by omega) (by omega) (by omega) (by omega) (by omega))]; first | done | rfl | exact .inl ⟨rfl, rfl⟩ | exact .inr (.inl ⟨rfl, rfl⟩) | exact .inr (.inr ⟨rfl, rfl⟩)) | (rw [puS (by assumption) (pu_r1 hu (by omega) (by omega) (by omega) (by omega))]; first | done | rfl | exact .inl ⟨rfl, rfl⟩ | exact .inr (.inl ⟨rfl, rfl⟩) | exact .inr (.inr ⟨rfl, rfl⟩)) | (rw [puS (by assumption) (pu_r2 hu (by omega) (by omega) (by omega) (by omega) (by omega) (by omega))]; first | done | rfl | exact .inl ⟨rfl, rfl⟩ | exact .inr (.inl ⟨rfl, rfl⟩) | exact .inr (.inr ⟨rfl, rfl⟩))
              · have hp26 := of_decide_eq_false hb26
                refine CE.cond_f rfl hb26 ?_
                refine CE.skip' ?_
                refine NE.code ?_
                refine CE.seq ?_
                refine CE.seq ?_
                refine CE.region ?_
                refine WL.det (op_move rfl) rfl rfl rfl ?_
                refine WL.det (op_move rfl) rfl rfl rfl ?_
                refine WL.det (op_gei rfl rfl) rfl rfl rfl ?_
                refine WL.end ?_
                refine NE.code ?_
                refine CE.cond_f rfl (decide_eq_false (by omega)) ?_
                refine CE.skip' ?_
                refine NE.code ?_
                refine CE.seq ?_
                refine CE.region ?_
                refine WL.det (op_move rfl) rfl rfl rfl ?_
                refine WL.det (op_move rfl) rfl rfl rfl ?_
                refine WL.det (op_cvt_ii (r := 16) rfl Tryd.runUnderlying3 Tryd.runUnderlying55 (by decide)) rfl rfl rfl ?_
                refine WL.det (op_mul (r := ((n * 16 : Nat) : Int)) rfl rfl (w_u64 (by omega) (by omega))) rfl rfl rfl ?_
                refine WL.det (op_assign rfl) rfl rfl rfl ?_
                refine WL.end ?_
                refine NE.code ?_
                refine CE.seq ?_
                refine CE.region ?_
                refine WL.det (op_move rfl) rfl rfl rfl ?_
                refine WL.det (op_move rfl) rfl rfl rfl ?_
                refine WL.det (op_cvt_ii (r := ((lowC ((byL s).getD i 0) - 97 + 10 : Nat) : Int)) rfl Tryd.runUnderlying5 Tryd.runUnderlying55 (w_u64 (by omega) (by omega))) rfl rfl rfl ?_
                refine WL.det (op_add (r := ((n * 16 + (lowC ((byL s).getD i 0) - 97 + 10) : Nat) : Int)) rfl rfl (w_u64 (by omega) (by omega))) rfl rfl rfl ?_
                refine WL.det (op_assign rfl) rfl rfl rfl ?_
                refine WL.end ?_
                refine NE.code ?_
                refine CE.seq ?_
                refine CE.seq ?_
                refine CE.region ?_
                refine WL.det (op_move rfl) rfl rfl rfl ?_
                refine WL.det (op_move rfl) rfl rfl rfl ?_
                refine WL.det (op_lti rfl rfl) rfl rfl rfl ?_
                refine WL.det (op_move rfl) rfl rfl rfl ?_
                refine WL.yes rfl rfl rfl (ltb rfl) rfl (decide_eq_false (by omega)) ?_
                refine WL.det (op_move rfl) rfl rfl rfl ?_
                refine WL.yes rfl rfl rfl (ltb rfl) rfl (decide_eq_false (by omega)) ?_
                refine WL.det (op_move rfl) rfl rfl rfl ?_
                refine WL.yes rfl rfl rfl (ltb rfl) rfl (decide_eq_false (by omega)) ?_
                refine WL.det (op_gti rfl rfl) rfl rfl rfl ?_
                refine WL.det (op_pick_f rfl (decide_eq_false (by omega)) rfl) rfl rfl rfl ?_
                refine WL.end ?_
                refine NE.code ?_
                rcases Bool.eq_false_or_eq_true (decide ((4294967295 : Int) < ((n * 16 + (lowC ((byL s).getD i 0) - 97 + 10) : Nat) : Int))) with hb27 | hb27
                · have hp27 := of_decide_eq_true hb27
                  refine CE.cond_t rfl hb27 ?_
                  refine CE.seq ?_
                  refine CE.region ?_
                  refine WL.det (op_move rfl) rfl rfl rfl ?_
                  refine WL.det (op_mkIf rfl Tryd.runUnderlying82) rfl rfl rfl ?_
                  refine WL.det (op_assign rfl) rfl rfl rfl ?_
                  refine WL.det (op_assign rfl) rfl rfl rfl ?_
                  refine WL.end ?_
                  refine NE.code ?_
                  refine CE.ret' ?_
                  refine XE.ret_then ?_
                  refine XE.ret_blk ?_
                  refine XE.ret_then ?_
                  refine XE.ret_then ?_
                  refine XE.ret_blk ?_
                  refine XE.ret_then ?_
                  refine XE.leaveT Tryd.results45 (res_tmp rfl (res_tmp rfl res_nil)) ?_
                  refine ⟨(.iface 82 (vI 1)), ?_, ?_, ((((((Mod.refl [] w).nt m1).nt m2).nt m12).nt m13).nt m14)⟩
                  all_goals first | (exfalso; omega) | (rw [puS_e (by assumption)]; first | done | rfl | exact .inl ⟨rfl, rfl⟩ | exact .inr (.inl ⟨rfl, rfl⟩) | exact .inr (.inr ⟨rfl, rfl⟩)) | (rw [puS (by assumption) (pu_e hu (by omega))]; first | done | rfl | exact .inl ⟨rfl, rfl⟩ | exact .inr (.inl ⟨rfl, rfl⟩) | exact .inr (.inr ⟨rfl, rfl⟩)) | (rw [puS (by assumption) (pu_b1 hu (by omega) (by omega) (by omega))]; first | done | rfl | exact .inl ⟨rfl, rfl⟩ | exact .inr (.inl ⟨rfl, rfl⟩) | exact .inr (.inr ⟨rfl, rfl⟩)) | (rw [puS (by assumption) (pu_b2 hu (by omega) (by omega) (by omega) (by omega) (by omega))]; first | done | rfl | exact .inl ⟨rfl, rfl⟩ | exact .inr (.inl ⟨rfl, rfl⟩) | exact .inr (.inr ⟨rfl, rfl⟩)) | (rw [puS (by assumption) (pu_r1 hu (by omega) (by omega) (by omega) (by omega))]; first | done | rfl | exact .inl ⟨rfl, rfl⟩ | exact .inr (.inl ⟨rfl, rfl⟩) | exact .inr (.inr ⟨rfl, rfl⟩)) | (rw [puS (by assumption) (pu_r2 hu (by omega) (by omega) (by omega) (by omega) (by omega) (by omega))]; first | done | rfl | exact .inl ⟨rfl, rfl⟩ | exact .inr (.inl ⟨rfl, rfl⟩) | exact .inr (.inr ⟨rfl, rfl⟩))
                · have hp27 := of_decide_eq_false hb27
                  refine CE.cond_f rfl hb27 ?_
                  refine CE.skip' ?_
                  refine NE.code ?_
                  refine CE.region ?_
                  refine WL.det (op_move rfl) rfl rfl rfl ?_
                  refine WL.det (op_assign rfl) rfl rfl rfl ?_
                  refine WL.end ?_
                  refine NE.blk ?_
                  refine NE.code ?_
                  refine CE.region ?_
                  refine WL.det (op_add (r := ((i + 1 : Nat) : Int)) rfl rfl (w_i64 (by omega) (by omega))) rfl rfl rfl ?_
                  refine WL.det (op_move rfl) rfl rfl rfl ?_
                  refine WL.end ?_
                  exact NE.again ((i + 1), (n * 16 + (lowC ((byL s).getD i 0) - 97 + 10))) (⟨rfl, rfl, rfl, rfl, rfl, rfl, rfl, rfl, rfl, rfl, rfl, rfl, trivial⟩) ⟨(by omega), (by first | omega | (dsimp only; omega)), (by first | exact pu_n1 hu (by omega) (by omega) (by omega) (by omega) | exact pu_n2 hu (by omega) (by omega) (by omega) (by omega) (by omega) (by omega)), (((m2.nt m12).nt m13).nt m14)⟩ (by first | (dsimp only; omega) | omega)
            · have hp25 := of_decide_eq_false hb25
              refine CE.cond_f rfl hb25 ?_
              refine CE.seq ?_
              refine CE.region ?_
              refine WL.det (op_mkIf rfl Tryd.runUnderlying82) rfl rfl rfl ?_
              refine WL.det (op_assign rfl) rfl rfl rfl ?_
              refine WL.det (op_assign rfl) rfl rfl rfl ?_
              refine WL.end ?_
              refine NE.code ?_
              refine CE.ret' ?_
              refine XE.ret_blk ?_
              refine XE.ret_then ?_
              refine XE.ret_blk ?_
              refine XE.ret_then ?_
              refine XE.ret_then ?_
              refine XE.ret_blk ?_
              refine XE.ret_then ?_
              refine XE.leaveT Tryd.results45 (res_tmp rfl (res_tmp rfl res_nil)) ?_
              refine ⟨(.iface 82 (vI 2)), ?_, ?_, (((((Mod.refl [] w).nt m1).nt m2).nt m12).nt m13)⟩
              all_goals first | (exfalso; omega) | (rw [puS_e (by assumption)]; first | done | rfl | exact .inl ⟨rfl, rfl⟩ | exact .inr (.inl ⟨rfl, rfl⟩) | exact .inr (.inr ⟨rfl, rfl⟩)) | (rw [puS (by assumption) (pu_e hu (by omega))]; first | done | rfl | exact .inl ⟨rfl, rfl⟩ | exact .inr (.inl ⟨rfl, rfl⟩) | exact .inr (.inr ⟨rfl, rfl⟩)) | (rw [puS (by assumption) (pu_b1 hu (by omega) (by omega) (by omega))]; first | done | rfl | exact .inl ⟨rfl, rfl⟩ | exact .inr (.inl ⟨rfl, rfl⟩) | exact .inr (.inr ⟨rfl, rfl⟩)) | (rw [puS (by assumption) (pu_b2 hu (by omega) (by omega) (by omega) (by omega) (by omega))]; first | done | rfl | exact .inl ⟨rfl, rfl⟩ | exact .inr (.inl ⟨rfl, rfl⟩) | exact .inr (.inr ⟨rfl, rfl⟩)) | (rw [puS (by assumption) (pu_r1 hu (by omega) (by omega) (by omega) (by omega))]; first | done | rfl | exact .inl ⟨rfl, rfl⟩ | exact .inr (.inl ⟨rfl, rfl⟩) | exact .inr (.inr ⟨rfl, rfl⟩)) | (rw [puS (by assumption) (pu_r2 hu (by omega) (by omega) (by omega) (by omega) (by omega) (by omega))]; first | done | rfl | exact .inl ⟨rfl, rfl⟩ | exact .inr (.inl ⟨rfl, rfl⟩) | exact .inr (.inr ⟨rfl, rfl⟩))
          · have hp24 := of_decide_eq_false hb24
            refine WL.no rfl rfl rfl (ltb rfl) rfl hb24 rfl (ltb rfl) ?_
            refine WL.no rfl rfl rfl (ltb rfl) rfl hb24 rfl (ltb rfl) ?_
            refine WL.no rfl rfl rfl (ltb rfl) rfl hb24 rfl (ltb rfl) ?_
            refine WL.det (op_pick_f rfl hb24 rfl) rfl rfl rfl ?_
            refine WL.det (op_assign rfl) rfl rfl rfl ?_
            refine WL.end ?_
            refine NE.code ?_
            refine CE.cond_f rfl rfl ?_
            refine CE.seq ?_
            refine CE.region ?_
            refine WL.det (op_mkIf rfl Tryd.runUnderlying82) rfl rfl rfl ?_
            refine WL.det (op_assign rfl) rfl rfl rfl ?_
            refine WL.det (op_assign rfl) rfl rfl rfl ?_
            refine WL.end ?_
            refine NE.code ?_
            refine CE.ret' ?_
            refine XE.ret_blk ?_
            refine XE.ret_then ?_
            refine XE.ret_blk ?_
            refine XE.ret_then ?_
            refine XE.ret_then ?_
            refine XE.ret_blk ?_
            refine XE.ret_then ?_
            refine XE.leaveT Tryd.results45 (res_tmp rfl (res_tmp rfl res_nil)) ?_
            refine ⟨(.iface 82 (vI 2)), ?_, ?_, ((((Mod.refl [] w).nt m1).nt m2).nt m12)⟩
            all_goals first | (exfalso; omega) | (rw [puS_e (by assumption)]; first | done | rfl | exact .inl ⟨rfl, rfl⟩ | exact .inr (.inl ⟨rfl, rfl⟩) | exact .inr (.inr ⟨rfl, rfl⟩)) | (rw [puS (by assumption) (pu_e hu (by omega))]; first | done | rfl | exact .inl ⟨rfl, rfl⟩ | exact .inr (.inl ⟨rfl, rfl⟩) | exact .inr (.inr ⟨rfl, rfl⟩)) | (rw [puS (by assumption) (pu_b1 hu (by omega) (by omega) (by omega))]; first | done | rfl | exact .inl ⟨rfl, rfl⟩ | exact .inr (.inl ⟨rfl, rfl⟩) | exact .inr (.inr ⟨rfl, rfl⟩)) | (rw [puS (by assumption) (pu_b2 hu (by omega) (by omega) (by omega) (by omega) (by omega))]; first | done | rfl | exact .inl ⟨rfl, rfl⟩ | exact .inr (.inl ⟨rfl, rfl⟩) | exact .inr (.inr ⟨rfl, rfl⟩)) | (rw [puS (by assumption) (pu_r1 hu (by omega) (by omega) (by omega) (by omega))]; first | done | rfl | exact .inl ⟨rfl, rfl⟩ | exact .inr (.inl ⟨rfl, rfl⟩) | exact .inr (.inr ⟨rfl, rfl⟩)) | (rw [puS (by assumption) (pu_r2 hu (by omega) (by omega) (by omega) (by omega) (by omega) (by omega))]; first | done | rfl | exact .inl ⟨rfl, rfl⟩ | exact .inr (.inl ⟨rfl, rfl⟩) | exact .inr (.inr ⟨rfl, rfl⟩))
    · have hp2 := of_decide_eq_false hb2
      refine CE.cond_f rfl hb2 ?_
      refine CE.exit' ?_
      refine XE.exit_then ?_
      refine XE.exit_then ?_
      refine XE.exit_here ?_
      refine NE.code ?_
      refine CE.seq ?_
      refine CE.seq ?_
      refine CE.region ?_
      refine WL.det (op_move rfl) rfl rfl rfl ?_
      refine WL.det (op_move rfl) rfl rfl rfl ?_
      refine WL.no rfl rfl rfl (ltb rfl) rfl rfl rfl (ltb rfl) ?_
      refine WL.no rfl rfl rfl (ltb rfl) rfl rfl rfl (ltb rfl) ?_
      refine WL.no rfl rfl rfl (ltb rfl) rfl rfl rfl (ltb rfl) ?_
      refine WL.det (op_pick_f rfl rfl rfl) rfl rfl rfl ?_
      refine WL.end ?_
      refine NE.code ?_
      refine CE.cond_f rfl rfl ?_
      refine CE.skip' ?_
      refine NE.code ?_
      refine CE.seq ?_
      refine CE.region ?_
      refine WL.det (op_move rfl) rfl rfl rfl ?_
      refine WL.det (op_assign rfl) rfl rfl rfl ?_
      refine WL.det (op_assign rfl) rfl rfl rfl ?_
      refine WL.end ?_
      refine NE.code ?_
      refine CE.ret' ?_
      refine XE.leaveT Tryd.results45 (res_tmp rfl (res_tmp rfl res_nil)) ?_
      refine ⟨(.nilIface), ?_, ?_, (((Mod.refl [] w).nt m1).nt m2)⟩
      all_goals first | (exfalso; omega) | (rw [puS_e (by assumption)]; first | done | rfl | exact .inl ⟨rfl, rfl⟩ | exact .inr (.inl ⟨rfl, rfl⟩) | exact .inr (.inr ⟨rfl, rfl⟩)) | (rw [puS (by assumption) (pu_e hu (by omega))]; first | done | rfl | exact .inl ⟨rfl, rfl⟩ | exact .inr (.inl ⟨rfl, rfl⟩) | exact .inr (.inr ⟨rfl, rfl⟩)) | (rw [puS (by assumption) (pu_b1 hu (by omega) (by omega) (by omega))]; first | done | rfl | exact .inl ⟨rfl, rfl⟩ | exact .inr (.inl ⟨rfl, rfl⟩) | exact .inr (.inr ⟨rfl, rfl⟩)) | (rw [puS (by assumption) (pu_b2 hu (by omega) (by omega) (by omega) (by omega) (by omega))]; first | done | rfl | exact .inl ⟨rfl, rfl⟩ | exact .inr (.inl ⟨rfl, rfl⟩) | exact .inr (.inr ⟨rfl, rfl⟩)) | (rw [puS (by assumption) (pu_r1 hu (by omega) (by omega) (by omega) (by omega))]; first | done | rfl | exact .inl ⟨rfl, rfl⟩ | exact .inr (.inl ⟨rfl, rfl⟩) | exact .inr (.inr ⟨rfl, rfl⟩)) | (rw [puS (by assumption) (pu_r2 hu (by omega) (by omega) (by omega) (by omega) (by omega) (by omega))]; first | done | rfl | exact .inl ⟨rfl, rfl⟩ | exact .inr (.inl ⟨rfl, rfl⟩) | exact .inr (.inr ⟨rfl, rfl⟩))

theorem c_iPU0 (s : ByteArray) (hs : s.size ≤ 1048576) (hk0 : ((puF (tl s)).1 == 0) = true) (w : World) : Cl Tryd.prog 45 #[.string s, vI 16, vI 32] w fun v w' => v = .tuple #[.int .u64 (((puF (tl s)).2 : Nat) : Int), .nilIface] ∧ Mod [] w w' := by
  refine Cl.mono (c_iPU s hs w) ?_
  rintro v w' ⟨ev, rfl, h, m⟩
  refine ⟨?_, m⟩
  rcases h with ⟨h1, rfl⟩ | ⟨h1, rfl⟩ | ⟨h1, rfl⟩ <;> simp_all
theorem c_iPU1 (s : ByteArray) (hs : s.size ≤ 1048576) (hk0 : ((puF (tl s)).1 == 0) = false) (hk1 : ((puF (tl s)).1 == 1) = true) (w : World) : Cl Tryd.prog 45 #[.string s, vI 16, vI 32] w fun v w' => v = .tuple #[.int .u64 (((puF (tl s)).2 : Nat) : Int), .iface 82 (vI 1)] ∧ Mod [] w w' := by
  refine Cl.mono (c_iPU s hs w) ?_
  rintro v w' ⟨ev, rfl, h, m⟩
  refine ⟨?_, m⟩
  rcases h with ⟨h1, rfl⟩ | ⟨h1, rfl⟩ | ⟨h1, rfl⟩ <;> simp_all
theorem c_iPU2 (s : ByteArray) (hs : s.size ≤ 1048576) (hk0 : ((puF (tl s)).1 == 0) = false) (hk1 : ((puF (tl s)).1 == 1) = false) (w : World) : Cl Tryd.prog 45 #[.string s, vI 16, vI 32] w fun v w' => v = .tuple #[.int .u64 (((puF (tl s)).2 : Nat) : Int), .iface 82 (vI 2)] ∧ Mod [] w w' := by
  refine Cl.mono (c_iPU s hs w) ?_
  rintro v w' ⟨ev, rfl, h, m⟩
  refine ⟨?_, m⟩
  rcases h with ⟨h1, rfl⟩ | ⟨h1, rfl⟩ | ⟨h1, rfl⟩ <;> simp_all
theorem c_toErrS (fn : ByteArray) (s : ByteArray) (x : Int) (y : Int) (hs : s.size ≤ 1048576) (w : World) (T2 : LibR w LC 0 []) : Cl Tryd.prog 46 #[.string fn, .string s, vI x, vI y, .iface 82 (vI 2)] w fun v w' => ∃ (tp : TypeId) (pv : Value), v = .iface tp pv ∧ Mod [] w w' := c_toErrS9 fn s x y hs w T2
theorem c_toErrR (fn : ByteArray) (s : ByteArray) (x : Int) (y : Int) (hs : s.size ≤ 1048576) (w : World) (T2 : LibR w LC 0 []) : Cl Tryd.prog 46 #[.string fn, .string s, vI x, vI y, .iface 82 (vI 1)] w fun v w' => ∃ (tp : TypeId) (pv : Value), v = .iface tp pv ∧ Mod [] w w' := c_toErrR9 fn s x y hs w T2
set_option maxRecDepth 100000 in
set_option maxHeartbeats 2000000 in
theorem c_PU0 (s : ByteArray) (hs : s.size ≤ 1048576) (hk : ((puF (tl s)).1 == 0) = true) (w : World) (T2 : LibR w LC 0 []) : Cl Tryd.prog 33 #[.string s, vI 16, vI 32] w fun v w' => v = .tuple #[.int .u64 (((puF (tl s)).2 : Nat) : Int), .nilIface] ∧ Mod [] w w' := by
  refine Cl.of Tryd.func33 Tryd.ntmps33 rfl rfl (ρ := [(0, .string s), (1, vI 16), (2, vI 32)]) rfl ?_
  refine CE.seq ?_
  refine CE.region ?_
  refine WL.det (op_assign rfl) rfl rfl rfl ?_
  refine WL.det (op_assign rfl) rfl rfl rfl ?_
  refine WL.end ?_
  refine NE.code ?_
  refine CE.seq ?_
  refine CE.region ?_
  refine WL.det (op_move rfl) rfl rfl rfl ?_
  refine WL.det (op_move rfl) rfl rfl rfl ?_
  refine WL.det (op_move rfl) rfl rfl rfl ?_
  refine WL.call (oc_call (vs := [.string s, vI 16, vI 32]) (cap := []) rfl rfl rfl Tryd.call45 (c_iPU0 s (by first | assumption | omega) (by assumption) w)) rfl rfl (ltb rfl) ?_
  rintro _ w1 ⟨rfl, m1⟩
  refine WL.det (op_move rfl) rfl rfl rfl ?_
  refine WL.det (op_extract rfl rfl) rfl rfl rfl ?_
  refine WL.det (op_extract rfl rfl) rfl rfl rfl ?_
  refine WL.det (op_assign rfl) rfl rfl rfl ?_
  refine WL.det (op_assign rfl) rfl rfl rfl ?_
  refine WL.end ?_
  refine NE.code ?_
  refine CE.seq ?_
  refine CE.seq ?_
  refine CE.region ?_
  refine WL.det (op_move rfl) rfl rfl rfl ?_
  refine WL.det (op_ne_nilif rfl Tryd.underlying57) rfl rfl rfl ?_
  refine WL.end ?_
  refine NE.code ?_
  refine CE.cond_f rfl rfl ?_
  refine CE.skip' ?_
  refine NE.code ?_
  refine CE.seq ?_
  refine CE.region ?_
  refine WL.det (op_move rfl) rfl rfl rfl ?_
  refine WL.det (op_assign rfl) rfl rfl rfl ?_
  refine WL.det (op_assign rfl) rfl rfl rfl ?_
  refine WL.end ?_
  refine NE.code ?_
  refine CE.ret' ?_
  refine XE.leaveT Tryd.results33 (res_tmp rfl (res_tmp rfl res_nil)) ?_
  refine ⟨rfl, ((Mod.refl [] w).nt m1)⟩

set_option maxRecDepth 100000 in
set_option maxHeartbeats 2000000 in
theorem c_PU1 (s : ByteArray) (hs : s.size ≤ 1048576) (hk : ((puF (tl s)).1 == 0) = false) (w : World) (T2 : LibR w LC 0 []) : Cl Tryd.prog 33 #[.string s, vI 16, vI 32] w fun v w' => ∃ (tp : TypeId) (pv : Value), v = .tuple #[.int .u64 (((puF (tl s)).2 : Nat) : Int), .iface tp pv] ∧ Mod [] w w' := by
  refine Cl.of Tryd.func33 Tryd.ntmps33 rfl rfl (ρ := [(0, .string s), (1, vI 16), (2, vI 32)]) rfl ?_
  refine CE.seq ?_
  refine CE.region ?_
  refine WL.det (op_assign rfl) rfl rfl rfl ?_
  refine WL.det (op_assign rfl) rfl rfl rfl ?_
  refine WL.end ?_
  refine NE.code ?_
  refine CE.seq ?_
  refine CE.region ?_
  refine WL.det (op_move rfl) rfl rfl rfl ?_
  refine WL.det (op_move rfl) rfl rfl rfl ?_
  refine WL.det (op_move rfl) rfl rfl rfl ?_
  rcases Bool.eq_false_or_eq_true (((puF (tl s)).1 == 1)) with hb1 | hb1
  · have hp1 := eq_of_beq hb1
    refine WL.call (oc_call (vs := [.string s, vI 16, vI 32]) (cap := []) rfl rfl rfl Tryd.call45 (c_iPU1 s (by first | assumption | omega) (by assumption) (by assumption) w)) rfl rfl (ltb rfl) ?_
    rintro _ w1 ⟨rfl, m1⟩
    refine WL.det (op_move rfl) rfl rfl rfl ?_
    refine WL.det (op_extract rfl rfl) rfl rfl rfl ?_
    refine WL.det (op_extract rfl rfl) rfl rfl rfl ?_
    refine WL.det (op_assign rfl) rfl rfl rfl ?_
    refine WL.det (op_assign rfl) rfl rfl rfl ?_
    refine WL.end ?_
    refine NE.code ?_
    refine CE.seq ?_
    refine CE.seq ?_
    refine CE.region ?_
    refine WL.det (op_move rfl) rfl rfl rfl ?_
    refine WL.det (op_ne_if rfl Tryd.underlying57) rfl rfl rfl ?_
    refine WL.end ?_
    refine NE.code ?_
    refine CE.cond_t rfl rfl ?_
    refine CE.seq ?_
    refine CE.region ?_
    refine WL.det (op_move rfl) rfl rfl rfl ?_
    refine WL.det (op_move rfl) rfl rfl rfl ?_
    refine WL.det (op_move rfl) rfl rfl rfl ?_
    refine WL.det (op_move rfl) rfl rfl rfl ?_
    refine WL.det (op_move rfl) rfl rfl rfl ?_
    refine WL.call (oc_call (vs := [.string (⟨#[80, 97, 114, 115, 101, 85, 105, 110, 116]⟩), .string s, vI 16, vI 32, .iface 82 (vI 1)]) (cap := []) rfl rfl rfl Tryd.call46 (c_toErrR (⟨#[80, 97, 114, 115, 101, 85, 105, 110, 116]⟩) s (16 : Int) (32 : Int) (by first | assumption | omega) w1 (T2.ext m1))) rfl rfl (ltb rfl) ?_
    rintro _ w2 ⟨tp1, pv1, rfl, m2⟩
    refine WL.det (op_assign rfl) rfl rfl rfl ?_
    refine WL.det (op_assign rfl) rfl rfl rfl ?_
    refine WL.end ?_
    refine NE.code ?_
    refine CE.ret' ?_
    refine XE.ret_then ?_
    refine XE.leaveT Tryd.results33 (res_tmp rfl (res_tmp rfl res_nil)) ?_
    refine ⟨tp1, pv1, rfl, (((Mod.refl [] w).nt m1).nt m2)⟩
  · have hp1 := ne_of_beq_false hb1
    refine WL.call (oc_call (vs := [.string s, vI 16, vI 32]) (cap := []) rfl rfl rfl Tryd.call45 (c_iPU2 s (by first | assumption | omega) (by assumption) (by assumption) w)) rfl rfl (ltb rfl) ?_
    rintro _ w3 ⟨rfl, m3⟩
    refine WL.det (op_move rfl) rfl rfl rfl ?_
    refine WL.det (op_extract rfl rfl) rfl rfl rfl ?_
    refine WL.det (op_extract rfl rfl) rfl rfl rfl ?_
    refine WL.det (op_assign rfl) rfl rfl rfl ?_
    refine WL.det (op_assign rfl) rfl rfl rfl ?_
    refine WL.end ?_
    refine NE.code ?_
    refine CE.seq ?_
    refine CE.seq ?_
    refine CE.region ?_
    refine WL.det (op_move rfl) rfl rfl rfl ?_
    refine WL.det (op_ne_if rfl Tryd.underlying57) rfl rfl rfl ?_
    refine WL.end ?_
    refine NE.code ?_
    refine CE.cond_t rfl rfl ?_
    refine CE.seq ?_
    refine CE.region ?_
    refine WL.det (op_move rfl) rfl rfl rfl ?_
    refine WL.det (op_move rfl) rfl rfl rfl ?_
    refine WL.det (op_move rfl) rfl rfl rfl ?_
    refine WL.det (op_move rfl) rfl rfl rfl ?_
    refine WL.det (op_move rfl) rfl rfl rfl ?_
    refine WL.call (oc_call (vs := [.string (⟨#[80, 97, 114, 115, 101, 85, 105, 110, 116]⟩), .string s, vI 16, vI 32, .iface 82 (vI 2)]) (cap := []) rfl rfl rfl Tryd.call46 (c_toErrS (⟨#[80, 97, 114, 115, 101, 85, 105, 110, 116]⟩) s (16 : Int) (32 : Int) (by first | assumption | omega) w3 (T2.ext m3))) rfl rfl (ltb rfl) ?_
    rintro _ w4 ⟨tp2, pv2, rfl, m4⟩
    refine WL.det (op_assign rfl) rfl rfl rfl ?_
    refine WL.det (op_assign rfl) rfl rfl rfl ?_
    refine WL.end ?_
    refine NE.code ?_
    refine CE.ret' ?_
    refine XE.ret_then ?_
    refine XE.leaveT Tryd.results33 (res_tmp rfl (res_tmp rfl res_nil)) ?_
    refine ⟨tp2, pv2, rfl, (((Mod.refl [] w).nt m3).nt m4)⟩

end Go.Proofs.YtpjjnopjpgnlaaaDoor
