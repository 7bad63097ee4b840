/- Texts of samples; valid tunings. -/
import Derived.Test.YtpjjnopjpgnlaaaDoorR9
import Derived.Test.YtpjjnopjpgnlaaaDoorB2
import Derived.Test.YtpjjnopjpgnlaaaDoorE11
import Derived.Test.YtpjjnopjpgnlaaaDoorE20
import Derived.Test.YtpjjnopjpgnlaaaDoorE22
import Derived.Test.YtpjjnopjpgnlaaaDoorE34
set_option linter.unusedVariables false
set_option linter.unusedSimpArgs false
namespace Go.Proofs.YtpjjnopjpgnlaaaDoor

/-- tunings -/
def tunL (ds : List Nat) (oc : Nat) : Nat → Bool
  | 0 => true
  | i + 1 => tunL ds oc i && (fLt .f32 (ds.getD i 0) oc && (if 0 < i then fGt .f32 (ds.getD i 0) (ds.getD (i - 1) 0) else true))
def tunF (ba oc : Nat) (ds : List Nat) (n : Nat) : Bool := (fGe .f32 ba 1065353216 && fLe .f32 ba 1184645120) && (fGe .f32 oc 1065353216 && fLe .f32 oc 1167458304) && vIn ((n : Nat) : Int) (1 : Int) (31 : Int) && (cn .f32 (ds.getD 0 0) == 0) && tunL ds oc n
theorem tunL_out {ds : List Nat} {oc i n : Nat} (hi : i < n) (h : (fLt .f32 (ds.getD i 0) oc && (if 0 < i then fGt .f32 (ds.getD i 0) (ds.getD (i - 1) 0) else true)) = false) : tunL ds oc n = false := by
  induction n with
  | zero => omega
  | succ n ih =>
    unfold tunL
    rcases Nat.lt_or_eq_of_le (Nat.le_of_lt_succ hi) with h1 | h1
    · rw [ih h1]; rfl
    · subst h1; rw [h, Bool.and_false]
theorem tunF_t {ba oc n : Nat} {ds : List Nat} (a : (fGe .f32 ba 1065353216 && fLe .f32 ba 1184645120) = true) (b : fGe .f32 oc 1065353216 = true) (c : fLe .f32 oc 1167458304 = true) (d1 : 1 ≤ n) (d2 : n ≤ 31) (e : cn .f32 (ds.getD 0 0) = 0) (f : tunL ds oc n = true) : tunF ba oc ds n = true := by
  unfold tunF
  have v : vIn ((n : Nat) : Int) (1 : Int) (31 : Int) = true := (vIn_t _ _ _).2 ⟨by omega, by omega⟩
  rw [a, b, c, v, e, f]; rfl
theorem tunF_f {ba oc n : Nat} {ds : List Nat} (h : ¬ ((fGe .f32 ba 1065353216 && fLe .f32 ba 1184645120) = true ∧ fGe .f32 oc 1065353216 = true ∧ fLe .f32 oc 1167458304 = true ∧ 1 ≤ n ∧ n ≤ 31 ∧ cn .f32 (ds.getD 0 0) = 0 ∧ tunL ds oc n = true)) : tunF ba oc ds n = false := by
  cases hb : tunF ba oc ds n
  · rfl
  · exfalso
    apply h
    unfold tunF at hb
    rw [Bool.and_eq_true, Bool.and_eq_true, Bool.and_eq_true, Bool.and_eq_true, vIn_t] at hb
    obtain ⟨⟨⟨⟨a, b⟩, c⟩, d⟩, e⟩ := hb
    rw [Bool.and_eq_true] at b
    exact ⟨a, b.1, b.2, by omega, by omega, eq_of_beq d, e⟩
theorem cn_z : cn .f32 0 = 0 := by decide +kernel
theorem cn_lt32 {x : Nat} (h : x < wid .f32) : cn .f32 x < 4294967296 := by
  unfold cn
  split
  · decide
  · exact wid_lt h
theorem w32_two {a b : Nat} (h1 : a < wid .f32) (h2 : b < wid .f32) : W32 [a, b] := fun x hx => by
  rcases List.mem_cons.1 hx with rfl | hx
  · exact h1
  · rw [List.mem_singleton.1 hx]; exact h2
theorem w32_app {a b : List Nat} (h1 : W32 a) (h2 : W32 b) : W32 (a ++ b) := fun x hx => by
  rcases List.mem_append.1 hx with h | h
  · exact h1 x h
  · exact h2 x h
theorem smp_all {xs : List Nat} {n : Nat} (ln : xs.length = n) : xs.take n = xs := List.take_of_length_le (by omega)
def strsL (xs : List Nat) (i : Nat) : List StrR := (xs.take i).map fun x => ⟨mkS (hexN 8 (cn .f32 x))⟩
theorem strsL_len {xs : List Nat} {n i : Nat} (ln : xs.length = n) (h : i ≤ n) : (strsL xs i).length = i := by
  unfold strsL
  rw [List.length_map, List.length_take, Nat.min_eq_left (by omega)]
theorem strs_step {xs : List Nat} {n i : Nat} (ln : xs.length = n) (h : i < n) : cat StrR.cells (strsL xs i) ++ [.string (mkS (hexN 8 (cn .f32 (xs.getD i 0))))] = cat StrR.cells (strsL xs (i + 1)) := by
  have hl : i < xs.length := by omega
  unfold strsL
  rw [List.take_succ_eq_append_getElem hl, List.map_append, cat_app, List.getD_eq_getElem?_getD, List.getElem?_eq_getElem hl]
  rfl
theorem strs_words (xs : List Nat) (i : Nat) : ((strsL xs i).map fun e => tl e.s) = wordsL (xs.take i) := by
  unfold strsL wordsL
  rw [List.map_map]; rfl
theorem strs_join_le {xs : List Nat} {i : Nat} (h : i ≤ 4096) : (Lib.join ((strsL xs i).map fun e => tl e.s) [32]).length ≤ 1048576 := by
  rw [strs_words]
  by_cases hx : xs.take i = []
  · rw [hx]; exact Nat.zero_le _
  · have h1 := join_len hx
    have h2 : (xs.take i).length ≤ i := by rw [List.length_take]; omega
    omega
theorem words_le {xs : List Nat} {n : Nat} (ln : xs.length = n) (h0 : 0 < n) : (Lib.join (wordsL xs) [32]).length + 1 = 9 * n := by
  rw [join_len (fun e => by rw [e] at ln; simp at ln; omega), ln]
theorem pad_mk {b : Nat} (h : b < 4294967296) : mkS (List.replicate (8 - (mkS (hexM b)).size) 48) ++ mkS (hexM b) = mkS (hexN 8 b) := by
  rw [mkS_size, mkS_app, (hex_pad8 h).2]
theorem hexM_size {b : Nat} (h : b < 4294967296) : (mkS (hexM b)).size ≤ 8 := by rw [mkS_size]; exact (hex_pad8 h).1
theorem tun_join (ba oc : Nat) (ds : List Nat) : (⟨#[116, 117, 110, 105, 110, 103, 32]⟩ : ByteArray) ++ mkS (Lib.join (wordsL ([ba, oc] ++ ds)) [32]) = mkS (tunT ba oc ds) := by
  have e : (⟨#[116, 117, 110, 105, 110, 103, 32]⟩ : ByteArray) = mkS ([116, 117, 110, 105, 110, 103] ++ [32]) := rfl
  have h := join_words (xs := [ba, oc] ++ ds) (by simp)
  rw [e, mkS_app, List.append_assoc]
  unfold tunT
  show mkS (_ ++ (32 :: Lib.join (wordsL ([ba, oc] ++ ds)) [32])) = _
  rw [h]; rfl
theorem tunF_n {ba oc n : Nat} {ds : List Nat} (h : tunF ba oc ds n = true) : 1 ≤ n ∧ n ≤ 31 := by
  unfold tunF at h
  rw [Bool.and_eq_true, Bool.and_eq_true, Bool.and_eq_true, vIn_t] at h
  obtain ⟨⟨⟨_, c⟩, _⟩, _⟩ := h
  omega

set_option maxRecDepth 100000 in
set_option maxHeartbeats 2000000 in
theorem c_l01Bits (a : Nat) (x : Nat) (ha : cn .f32 a = cn .f32 x) (w : World) : Cl Tryd.prog 27 #[vF a] w fun v w' => v = .int .u32 ((cn .f32 x : Nat) : Int) ∧ Mod [] w w' := by
  refine Cl.of Tryd.func27 Tryd.ntmps27 rfl rfl (ρ := [(0, vF a)]) rfl ?_
  refine CE.seq ?_
  refine CE.region ?_
  refine WL.det (op_assign rfl) rfl rfl rfl ?_
  refine WL.end ?_
  refine NE.code ?_
  iterate 2 refine CE.seq ?_
  refine CE.region ?_
  refine WL.det (op_move rfl) rfl rfl rfl ?_
  refine WL.call (oc_call (vs := [vF a]) (cap := []) rfl rfl rfl Tryd.call28 (c_l01NaN a x ha w)) rfl rfl (ltb rfl) ?_
  rintro _ _ ⟨rfl, rfl⟩
  refine WL.end ?_
  refine NE.code ?_
  rcases Bool.eq_false_or_eq_true (isNaN .f32 x) with hb1 | hb1
  · refine CE.cond_t rfl hb1 ?_
    refine CE.seq ?_
    refine CE.region ?_
    refine WL.det (op_assign rfl) rfl rfl rfl ?_
    refine WL.end ?_
    refine NE.code ?_
    refine CE.ret' ?_
    refine XE.ret_then ?_
    refine XE.leave1 Tryd.results27 rfl ?_
    refine ⟨?_, (Mod.refl [] w)⟩
    all_goals first | (rw [cn, if_pos hb1]; rfl) | (rw [cn_of_not hb1, eq_of_cn ha hb1])
  · refine CE.cond_f rfl hb1 ?_
    refine CE.skip' ?_
    refine NE.code ?_
    refine CE.seq ?_
    refine CE.region ?_
    refine WL.det (op_move rfl) rfl rfl rfl ?_
    refine WL.det (op_extern (vs := [vF a]) Tryd.func29 rfl rfl x29n x29e rfl (fun _ => rfl)) rfl rfl rfl ?_
    refine WL.det (op_assign rfl) rfl rfl rfl ?_
    refine WL.end ?_
    refine NE.code ?_
    refine CE.ret' ?_
    refine XE.leave1 Tryd.results27 rfl ?_
    refine ⟨?_, (Mod.refl [] w)⟩
    all_goals first | (rw [cn, if_pos hb1]; rfl) | (rw [cn_of_not hb1, eq_of_cn ha hb1])

theorem c_tz16 (w : World) (T : LibT w LB 0 []) : Cl Tryd.prog 88 #[.int .u64 16] w fun v w' => v = vI 4 ∧ Mod [] w w' := c_TZ16 w T
theorem c_rep (c : Nat) (hc : c ≤ 8) (w : World) : Cl Tryd.prog 48 #[.string (⟨#[48]⟩), vI ((c : Nat) : Int)] w fun v w' => v = .string (mkS (List.replicate c 48)) ∧ Mod [] w w' := c_RepeatX c hc w
theorem c_join (n : Nat) (c : Nat) (A : Option Addr) (b : Nat) (ys : List StrR) (ln : ys.length = n) (hA : 0 < n → A = some ⟨b, 0, none⟩) (h0 : 0 < n) (hc : n ≤ c) (hn : n ≤ 4096) (hl : (Lib.join (ys.map fun e => tl e.s) [32]).length ≤ 1048576) (w : World) (r : Rng w b 0 (cat StrR.cells ys)) : Cl Tryd.prog 40 #[.slice A n c, .string (⟨#[32]⟩)] w fun v w' => v = .string (mkS (Lib.join (ys.map fun e => tl e.s) [32])) ∧ Mod [] w w' := c_JoinX n c A b ys ln hA h0 hc hn hl w r
set_option maxRecDepth 100000 in
set_option maxHeartbeats 2000000 in
theorem c_pow2 (w : World) : Cl Tryd.prog 87 #[vI 16] w fun v w' => v = .bool true ∧ Mod [] w w' := by
  refine Cl.of Tryd.func87 Tryd.ntmps87 rfl rfl (ρ := [(0, vI 16)]) rfl ?_
  refine CE.seq ?_
  refine CE.region ?_
  refine WL.det (op_assign rfl) rfl rfl rfl ?_
  refine WL.end ?_
  refine NE.code ?_
  refine CE.seq ?_
  refine CE.region ?_
  iterate 2 refine WL.det (op_move rfl) rfl rfl rfl ?_
  refine WL.det (op_sub (r := 15) rfl rfl (by decide)) rfl rfl rfl ?_
  refine WL.det (op_andL (r := 0) rfl rfl (by decide)) rfl rfl rfl ?_
  refine WL.det (op_eqi rfl rfl) rfl rfl rfl ?_
  refine WL.det (op_assign rfl) rfl rfl rfl ?_
  refine WL.end ?_
  refine NE.code ?_
  refine CE.ret' ?_
  refine XE.leave1 Tryd.results87 rfl ?_
  refine ⟨rfl, (Mod.refl [] w)⟩

set_option maxRecDepth 100000 in
set_option maxHeartbeats 2000000 in
theorem c_fBits (u : Nat) (hu : u < 4294967296) (w : World) (T : LibT w LB 0 []) : Cl Tryd.prog 77 #[.slice none 0 0, .int .u64 ((u : Nat) : Int), vI 16, .bool false, .bool false] w fun v w' => v = .tuple #[.slice none 0 0, .string (mkS (hexM u))] ∧ Mod [] w w' := by
  refine Cl.of Tryd.func77 Tryd.ntmps77 rfl rfl (ρ := [(0, .slice none 0 0), (1, .int .u64 ((u : Nat) : Int)), (2, vI 16), (3, .bool false), (4, .bool false)]) rfl ?_
  refine CE.seq ?_
  refine CE.region ?_
  iterate 2 refine WL.det (op_assign rfl) rfl rfl rfl ?_
  refine WL.end ?_
  refine NE.code ?_
  iterate 2 refine CE.seq ?_
  refine CE.region ?_
  refine WL.det (op_move rfl) rfl rfl rfl ?_
  refine WL.det (op_lti rfl rfl) rfl rfl rfl ?_
  refine WL.det (op_move rfl) rfl rfl rfl ?_
  refine WL.yes rfl rfl rfl (ltb rfl) rfl rfl ?_
  refine WL.det (op_move rfl) rfl rfl rfl ?_
  refine WL.yes rfl rfl rfl (ltb rfl) rfl rfl ?_
  refine WL.det (op_eqi rfl rfl) rfl rfl rfl ?_
  refine WL.det (op_pick_f rfl rfl rfl) rfl rfl rfl ?_
  refine WL.det (op_move rfl) rfl rfl rfl ?_
  refine WL.yes rfl rfl rfl (ltb rfl) rfl rfl ?_
  refine WL.det (op_move rfl) rfl rfl rfl ?_
  refine WL.yes rfl rfl rfl (ltb rfl) rfl rfl ?_
  refine WL.det (op_gti rfl rfl) rfl rfl rfl ?_
  refine WL.det (op_pick_f rfl rfl rfl) rfl rfl rfl ?_
  refine WL.end ?_
  refine NE.code ?_
  refine CE.cond_f rfl rfl ?_
  refine CE.skip' ?_
  refine NE.code ?_
  refine CE.seq ?_
  refine CE.region ?_
  refine WL.op (op_alloc (cs := [.int .u8 0, .int .u8 0, .int .u8 0, .int .u8 0, .int .u8 0, .int .u8 0, .int .u8 0, .int .u8 0, .int .u8 0, .int .u8 0, .int .u8 0, .int .u8 0, .int .u8 0, .int .u8 0, .int .u8 0, .int .u8 0, .int .u8 0, .int .u8 0, .int .u8 0, .int .u8 0, .int .u8 0, .int .u8 0, .int .u8 0, .int .u8 0, .int .u8 0, .int .u8 0, .int .u8 0, .int .u8 0, .int .u8 0, .int .u8 0, .int .u8 0, .int .u8 0, .int .u8 0, .int .u8 0, .int .u8 0, .int .u8 0, .int .u8 0, .int .u8 0, .int .u8 0, .int .u8 0, .int .u8 0, .int .u8 0, .int .u8 0, .int .u8 0, .int .u8 0, .int .u8 0, .int .u8 0, .int .u8 0, .int .u8 0, .int .u8 0, .int .u8 0, .int .u8 0, .int .u8 0, .int .u8 0, .int .u8 0, .int .u8 0, .int .u8 0, .int .u8 0, .int .u8 0, .int .u8 0, .int .u8 0, .int .u8 0, .int .u8 0, .int .u8 0, .int .u8 0]) Tryd.zeroValue119 rfl) rfl rfl (ltb rfl) ?_
  rintro _ w1 ⟨rfl, r1, m1, z1⟩
  refine WL.end ?_
  refine NE.code ?_
  refine CE.seq ?_
  refine CE.region ?_
  refine WL.det (op_assign rfl) rfl rfl rfl ?_
  refine WL.end ?_
  refine NE.code ?_
  iterate 2 refine CE.seq ?_
  refine CE.region ?_
  refine WL.det (op_move rfl) rfl rfl rfl ?_
  refine WL.end ?_
  refine NE.code ?_
  refine CE.cond_f rfl rfl ?_
  refine CE.skip' ?_
  refine NE.code ?_
  iterate 2 refine CE.seq ?_
  refine CE.region ?_
  refine WL.det (op_move rfl) rfl rfl rfl ?_
  refine WL.call (oc_call (vs := [vI 16]) (cap := []) rfl rfl rfl Tryd.call87 (c_pow2 w1)) rfl rfl (ltb rfl) ?_
  rintro _ w2 ⟨rfl, m2⟩
  refine WL.end ?_
  refine NE.code ?_
  refine CE.cond_t rfl rfl ?_
  refine CE.seq ?_
  refine CE.region ?_
  refine WL.det (op_move rfl) rfl rfl rfl ?_
  refine WL.det (op_cvt_ii (r := 16) rfl Tryd.runUnderlying3 Tryd.runUnderlying81 (by decide)) rfl rfl rfl ?_
  refine WL.call (oc_call (vs := [.int .u64 16]) (cap := []) rfl rfl rfl Tryd.call88 (c_tz16 w2 ((T.ext m1).ext m2))) rfl rfl (ltb rfl) ?_
  rintro _ w3 ⟨rfl, m3⟩
  refine WL.det (op_cvt_ii (r := 4) rfl Tryd.runUnderlying3 Tryd.runUnderlying81 (by decide)) rfl rfl rfl ?_
  refine WL.det (op_assign rfl) rfl rfl rfl ?_
  refine WL.end ?_
  refine NE.code ?_
  refine CE.seq ?_
  refine CE.region ?_
  refine WL.det (op_move rfl) rfl rfl rfl ?_
  refine WL.det (op_cvt_ii (r := 16) rfl Tryd.runUnderlying3 Tryd.runUnderlying55 (by decide)) rfl rfl rfl ?_
  refine WL.det (op_assign rfl) rfl rfl rfl ?_
  refine WL.end ?_
  refine NE.code ?_
  refine CE.seq ?_
  refine CE.region ?_
  refine WL.det (op_move rfl) rfl rfl rfl ?_
  refine WL.det (op_cvt_ii (r := 16) rfl Tryd.runUnderlying3 Tryd.runUnderlying81 (by decide)) rfl rfl rfl ?_
  refine WL.det (op_sub (r := 15) rfl rfl (by decide)) rfl rfl rfl ?_
  refine WL.det (op_assign rfl) rfl rfl rfl ?_
  refine WL.end ?_
  refine NE.code ?_
  refine CE.seq ?_
  refine CE.block ?_
  refine CE.rounds 9 ?_
  refine RN.one ?_
  iterate 2 refine CE.seq ?_
  refine CE.region ?_
  iterate 2 refine WL.det (op_move rfl) rfl rfl rfl ?_
  refine WL.det (op_gei rfl rfl) rfl rfl rfl ?_
  refine WL.end ?_
  refine NE.code ?_
  rcases Bool.eq_false_or_eq_true (decide ((16 : Int) ≤ ((u : Nat) : Int))) with hb1 | hb1
  · have hp1 := of_decide_eq_true hb1
    refine CE.cond_t rfl hb1 ?_
    refine CE.skip' ?_
    refine NE.code ?_
    refine CE.block ?_
    refine CE.seq ?_
    refine CE.region ?_
    refine WL.det (op_move rfl) rfl rfl rfl ?_
    refine WL.det (op_sub (r := 64) rfl rfl (by decide)) rfl rfl rfl ?_
    refine WL.det (op_assign rfl) rfl rfl rfl ?_
    refine WL.end ?_
    refine NE.code ?_
    refine CE.seq ?_
    refine CE.region ?_
    iterate 3 refine WL.det (op_move rfl) rfl rfl rfl ?_
    refine WL.det (op_and15 (a := u) rfl rfl (by omega)) rfl rfl rfl ?_
    refine WL.det (op_byte (i := u % 16) rfl rfl rfl Tryd.runUnderlying9 (show u % 16 < 36 by omega)) rfl rfl rfl ?_
    refine WL.det (op_indexArr (off' := 64) rfl rfl Tryd.runUnderlying119 Tryd.sizeOf5 (by decide) (by decide) rfl) rfl rfl rfl ?_
    refine WL.op0 (op_store (i := 64) (cs := [.int .u8 ((byt D36 (u % 16) : Nat) : Int)]) rfl rfl rfl Tryd.sizeOf5 rfl ((r1.ext m2).ext m3) rfl (lB rfl) rfl) rfl rfl ?_
    rintro _ w4 ⟨r2, m4, z2⟩
    have r3 : Row w4 w.heap.size 0 [.int .u8 0, .int .u8 0, .int .u8 0, .int .u8 0, .int .u8 0, .int .u8 0, .int .u8 0, .int .u8 0, .int .u8 0, .int .u8 0, .int .u8 0, .int .u8 0, .int .u8 0, .int .u8 0, .int .u8 0, .int .u8 0, .int .u8 0, .int .u8 0, .int .u8 0, .int .u8 0, .int .u8 0, .int .u8 0, .int .u8 0, .int .u8 0, .int .u8 0, .int .u8 0, .int .u8 0, .int .u8 0, .int .u8 0, .int .u8 0, .int .u8 0, .int .u8 0, .int .u8 0, .int .u8 0, .int .u8 0, .int .u8 0, .int .u8 0, .int .u8 0, .int .u8 0, .int .u8 0, .int .u8 0, .int .u8 0, .int .u8 0, .int .u8 0, .int .u8 0, .int .u8 0, .int .u8 0, .int .u8 0, .int .u8 0, .int .u8 0, .int .u8 0, .int .u8 0, .int .u8 0, .int .u8 0, .int .u8 0, .int .u8 0, .int .u8 0, .int .u8 0, .int .u8 0, .int .u8 0, .int .u8 0, .int .u8 0, .int .u8 0, .int .u8 0, .int .u8 ((byt D36 (u % 16) : Nat) : Int)] := Row.congr r2 rfl
    refine WL.end ?_
    refine NE.code ?_
    refine CE.region ?_
    iterate 2 refine WL.det (op_move rfl) rfl rfl rfl ?_
    refine WL.det (op_shrN (a := u) (c := 4) rfl rfl (by decide)) rfl rfl rfl ?_
    refine WL.det (op_assign rfl) rfl rfl rfl ?_
    refine WL.end ?_
    refine NE.blk ?_
    refine NE.round ?_
    refine RN.one ?_
    iterate 2 refine CE.seq ?_
    refine CE.region ?_
    iterate 2 refine WL.det (op_move rfl) rfl rfl rfl ?_
    refine WL.det (op_gei rfl rfl) rfl rfl rfl ?_
    refine WL.end ?_
    refine NE.code ?_
    rcases Bool.eq_false_or_eq_true (decide ((16 : Int) ≤ ((u / 2 ^ 4 : Nat) : Int))) with hb2 | hb2
    · have hp2 := of_decide_eq_true hb2
      refine CE.cond_t rfl hb2 ?_
      refine CE.skip' ?_
      refine NE.code ?_
      refine CE.block ?_
      refine CE.seq ?_
      refine CE.region ?_
      refine WL.det (op_move rfl) rfl rfl rfl ?_
      refine WL.det (op_sub (r := 63) rfl rfl (by decide)) rfl rfl rfl ?_
      refine WL.det (op_assign rfl) rfl rfl rfl ?_
      refine WL.end ?_
      refine NE.code ?_
      refine CE.seq ?_
      refine CE.region ?_
      iterate 3 refine WL.det (op_move rfl) rfl rfl rfl ?_
      refine WL.det (op_and15 (a := u / 2 ^ 4) rfl rfl (by omega)) rfl rfl rfl ?_
      refine WL.det (op_byte (i := (u / 2 ^ 4) % 16) rfl rfl rfl Tryd.runUnderlying9 (show (u / 2 ^ 4) % 16 < 36 by omega)) rfl rfl rfl ?_
      refine WL.det (op_indexArr (off' := 63) rfl rfl Tryd.runUnderlying119 Tryd.sizeOf5 (by decide) (by decide) rfl) rfl rfl rfl ?_
      refine WL.op0 (op_store (i := 63) (cs := [.int .u8 ((byt D36 ((u / 2 ^ 4) % 16) : Nat) : Int)]) rfl rfl rfl Tryd.sizeOf5 rfl r3 rfl (lB rfl) rfl) rfl rfl ?_
      rintro _ w5 ⟨r4, m5, z3⟩
      have r5 : Row w5 w.heap.size 0 [.int .u8 0, .int .u8 0, .int .u8 0, .int .u8 0, .int .u8 0, .int .u8 0, .int .u8 0, .int .u8 0, .int .u8 0, .int .u8 0, .int .u8 0, .int .u8 0, .int .u8 0, .int .u8 0, .int .u8 0, .int .u8 0, .int .u8 0, .int .u8 0, .int .u8 0, .int .u8 0, .int .u8 0, .int .u8 0, .int .u8 0, .int .u8 0, .int .u8 0, .int .u8 0, .int .u8 0, .int .u8 0, .int .u8 0, .int .u8 0, .int .u8 0, .int .u8 0, .int .u8 0, .int .u8 0, .int .u8 0, .int .u8 0, .int .u8 0, .int .u8 0, .int .u8 0, .int .u8 0, .int .u8 0, .int .u8 0, .int .u8 0, .int .u8 0, .int .u8 0, .int .u8 0, .int .u8 0, .int .u8 0, .int .u8 0, .int .u8 0, .int .u8 0, .int .u8 0, .int .u8 0, .int .u8 0, .int .u8 0, .int .u8 0, .int .u8 0, .int .u8 0, .int .u8 0, .int .u8 0, .int .u8 0, .int .u8 0, .int .u8 0, .int .u8 ((byt D36 ((u / 2 ^ 4) % 16) : Nat) : Int), .int .u8 ((byt D36 (u % 16) : Nat) : Int)] := Row.congr r4 rfl
      refine WL.end ?_
      refine NE.code ?_
      refine CE.region ?_
      iterate 2 refine WL.det (op_move rfl) rfl rfl rfl ?_
      refine WL.det (op_shrN (a := u / 2 ^ 4) (c := 4) rfl rfl (by decide)) rfl rfl rfl ?_
      refine WL.det (op_assign rfl) rfl rfl rfl ?_
      refine WL.end ?_
      refine NE.blk ?_
      refine NE.round ?_
      refine RN.one ?_
      iterate 2 refine CE.seq ?_
      refine CE.region ?_
      iterate 2 refine WL.det (op_move rfl) rfl rfl rfl ?_
      refine WL.det (op_gei rfl rfl) rfl rfl rfl ?_
      refine WL.end ?_
      refine NE.code ?_
      rcases Bool.eq_false_or_eq_true (decide ((16 : Int) ≤ (((u / 2 ^ 4) / 2 ^ 4 : Nat) : Int))) with hb3 | hb3
      · have hp3 := of_decide_eq_true hb3
        refine CE.cond_t rfl hb3 ?_
        refine CE.skip' ?_
        refine NE.code ?_
        refine CE.block ?_
        refine CE.seq ?_
        refine CE.region ?_
        refine WL.det (op_move rfl) rfl rfl rfl ?_
        refine WL.det (op_sub (r := 62) rfl rfl (by decide)) rfl rfl rfl ?_
        refine WL.det (op_assign rfl) rfl rfl rfl ?_
        refine WL.end ?_
        refine NE.code ?_
        refine CE.seq ?_
        refine CE.region ?_
        iterate 3 refine WL.det (op_move rfl) rfl rfl rfl ?_
        refine WL.det (op_and15 (a := (u / 2 ^ 4) / 2 ^ 4) rfl rfl (by omega)) rfl rfl rfl ?_
        refine WL.det (op_byte (i := ((u / 2 ^ 4) / 2 ^ 4) % 16) rfl rfl rfl Tryd.runUnderlying9 (show ((u / 2 ^ 4) / 2 ^ 4) % 16 < 36 by omega)) rfl rfl rfl ?_
        refine WL.det (op_indexArr (off' := 62) rfl rfl Tryd.runUnderlying119 Tryd.sizeOf5 (by decide) (by decide) rfl) rfl rfl rfl ?_
        refine WL.op0 (op_store (i := 62) (cs := [.int .u8 ((byt D36 (((u / 2 ^ 4) / 2 ^ 4) % 16) : Nat) : Int)]) rfl rfl rfl Tryd.sizeOf5 rfl r5 rfl (lB rfl) rfl) rfl rfl ?_
        rintro _ w6 ⟨r6, m6, z4⟩
        have r7 : Row w6 w.heap.size 0 [.int .u8 0, .int .u8 0, .int .u8 0, .int .u8 0, .int .u8 0, .int .u8 0, .int .u8 0, .int .u8 0, .int .u8 0, .int .u8 0, .int .u8 0, .int .u8 0, .int .u8 0, .int .u8 0, .int .u8 0, .int .u8 0, .int .u8 0, .int .u8 0, .int .u8 0, .int .u8 0, .int .u8 0, .int .u8 0, .int .u8 0, .int .u8 0, .int .u8 0, .int .u8 0, .int .u8 0, .int .u8 0, .int .u8 0, .int .u8 0, .int .u8 0, .int .u8 0, .int .u8 0, .int .u8 0, .int .u8 0, .int .u8 0, .int .u8 0, .int .u8 0, .int .u8 0, .int .u8 0, .int .u8 0, .int .u8 0, .int .u8 0, .int .u8 0, .int .u8 0, .int .u8 0, .int .u8 0, .int .u8 0, .int .u8 0, .int .u8 0, .int .u8 0, .int .u8 0, .int .u8 0, .int .u8 0, .int .u8 0, .int .u8 0, .int .u8 0, .int .u8 0, .int .u8 0, .int .u8 0, .int .u8 0, .int .u8 0, .int .u8 ((byt D36 (((u / 2 ^ 4) / 2 ^ 4) % 16) : Nat) : Int), .int .u8 ((byt D36 ((u / 2 ^ 4) % 16) : Nat) : Int), .int .u8 ((byt D36 (u % 16) : Nat) : Int)] := Row.congr r6 rfl
        refine WL.end ?_
        refine NE.code ?_
        refine CE.region ?_
        iterate 2 refine WL.det (op_move rfl) rfl rfl rfl ?_
        refine WL.det (op_shrN (a := (u / 2 ^ 4) / 2 ^ 4) (c := 4) rfl rfl (by decide)) rfl rfl rfl ?_
        refine WL.det (op_assign rfl) rfl rfl rfl ?_
        refine WL.end ?_
        refine NE.blk ?_
        refine NE.round ?_
        refine RN.one ?_
        iterate 2 refine CE.seq ?_
        refine CE.region ?_
        iterate 2 refine WL.det (op_move rfl) rfl rfl rfl ?_
        refine WL.det (op_gei rfl rfl) rfl rfl rfl ?_
        refine WL.end ?_
        refine NE.code ?_
        rcases Bool.eq_false_or_eq_true (decide ((16 : Int) ≤ ((((u / 2 ^ 4) / 2 ^ 4) / 2 ^ 4 : Nat) : Int))) with hb4 | hb4
        · have hp4 := of_decide_eq_true hb4
          refine CE.cond_t rfl hb4 ?_
          refine CE.skip' ?_
          refine NE.code ?_
          refine CE.block ?_
          refine CE.seq ?_
          refine CE.region ?_
          refine WL.det (op_move rfl) rfl rfl rfl ?_
          refine WL.det (op_sub (r := 61) rfl rfl (by decide)) rfl rfl rfl ?_
          refine WL.det (op_assign rfl) rfl rfl rfl ?_
          refine WL.end ?_
          refine NE.code ?_
          refine CE.seq ?_
          refine CE.region ?_
          iterate 3 refine WL.det (op_move rfl) rfl rfl rfl ?_
          refine WL.det (op_and15 (a := ((u / 2 ^ 4) / 2 ^ 4) / 2 ^ 4) rfl rfl (by omega)) rfl rfl rfl ?_
          refine WL.det (op_byte (i := (((u / 2 ^ 4) / 2 ^ 4) / 2 ^ 4) % 16) rfl rfl rfl Tryd.runUnderlying9 (show (((u / 2 ^ 4) / 2 ^ 4) / 2 ^ 4) % 16 < 36 by omega)) rfl rfl rfl ?_
          refine WL.det (op_indexArr (off' := 61) rfl rfl Tryd.runUnderlying119 Tryd.sizeOf5 (by decide) (by decide) rfl) rfl rfl rfl ?_
          refine WL.op0 (op_store (i := 61) (cs := [.int .u8 ((byt D36 ((((u / 2 ^ 4) / 2 ^ 4) / 2 ^ 4) % 16) : Nat) : Int)]) rfl rfl rfl Tryd.sizeOf5 rfl r7 rfl (lB rfl) rfl) rfl rfl ?_
          rintro _ w7 ⟨r8, m7, z5⟩
          have r9 : Row w7 w.heap.size 0 [.int .u8 0, .int .u8 0, .int .u8 0, .int .u8 0, .int .u8 0, .int .u8 0, .int .u8 0, .int .u8 0, .int .u8 0, .int .u8 0, .int .u8 0, .int .u8 0, .int .u8 0, .int .u8 0, .int .u8 0, .int .u8 0, .int .u8 0, .int .u8 0, .int .u8 0, .int .u8 0, .int .u8 0, .int .u8 0, .int .u8 0, .int .u8 0, .int .u8 0, .int .u8 0, .int .u8 0, .int .u8 0, .int .u8 0, .int .u8 0, .int .u8 0, .int .u8 0, .int .u8 0, .int .u8 0, .int .u8 0, .int .u8 0, .int .u8 0, .int .u8 0, .int .u8 0, .int .u8 0, .int .u8 0, .int .u8 0, .int .u8 0, .int .u8 0, .int .u8 0, .int .u8 0, .int .u8 0, .int .u8 0, .int .u8 0, .int .u8 0, .int .u8 0, .int .u8 0, .int .u8 0, .int .u8 0, .int .u8 0, .int .u8 0, .int .u8 0, .int .u8 0, .int .u8 0, .int .u8 0, .int .u8 0, .int .u8 ((byt D36 ((((u / 2 ^ 4) / 2 ^ 4) / 2 ^ 4) % 16) : Nat) : Int), .int .u8 ((byt D36 (((u / 2 ^ 4) / 2 ^ 4) % 16) : Nat) : Int), .int .u8 ((byt D36 ((u / 2 ^ 4) % 16) : Nat) : Int), .int .u8 ((byt D36 (u % 16) : Nat) : Int)] := Row.congr r8 rfl
          refine WL.end ?_
          refine NE.code ?_
          refine CE.region ?_
          iterate 2 refine WL.det (op_move rfl) rfl rfl rfl ?_
          refine WL.det (op_shrN (a := ((u / 2 ^ 4) / 2 ^ 4) / 2 ^ 4) (c := 4) rfl rfl (by decide)) rfl rfl rfl ?_
          refine WL.det (op_assign rfl) rfl rfl rfl ?_
          refine WL.end ?_
          refine NE.blk ?_
          refine NE.round ?_
          refine RN.one ?_
          iterate 2 refine CE.seq ?_
          refine CE.region ?_
          iterate 2 refine WL.det (op_move rfl) rfl rfl rfl ?_
          refine WL.det (op_gei rfl rfl) rfl rfl rfl ?_
          refine WL.end ?_
          refine NE.code ?_
          rcases Bool.eq_false_or_eq_true (decide ((16 : Int) ≤ (((((u / 2 ^ 4) / 2 ^ 4) / 2 ^ 4) / 2 ^ 4 : Nat) : Int))) with hb5 | hb5
          · have hp5 := of_decide_eq_true hb5
            refine CE.cond_t rfl hb5 ?_
            refine CE.skip' ?_
            refine NE.code ?_
            refine CE.block ?_
            refine CE.seq ?_
            refine CE.region ?_
            refine WL.det (op_move rfl) rfl rfl rfl ?_
            refine WL.det (op_sub (r := 60) rfl rfl (by decide)) rfl rfl rfl ?_
            refine WL.det (op_assign rfl) rfl rfl rfl ?_
            refine WL.end ?_
            refine NE.code ?_
            refine CE.seq ?_
            refine CE.region ?_
            iterate 3 refine WL.det (op_move rfl) rfl rfl rfl ?_
            refine WL.det (op_and15 (a := (((u / 2 ^ 4) / 2 ^ 4) / 2 ^ 4) / 2 ^ 4) rfl rfl (by omega)) rfl rfl rfl ?_
            refine WL.det (op_byte (i := ((((u / 2 ^ 4) / 2 ^ 4) / 2 ^ 4) / 2 ^ 4) % 16) rfl rfl rfl Tryd.runUnderlying9 (show ((((u / 2 ^ 4) / 2 ^ 4) / 2 ^ 4) / 2 ^ 4) % 16 < 36 by omega)) rfl rfl rfl ?_
            refine WL.det (op_indexArr (off' := 60) rfl rfl Tryd.runUnderlying119 Tryd.sizeOf5 (by decide) (by decide) rfl) rfl rfl rfl ?_
            refine WL.op0 (op_store (i := 60) (cs := [.int .u8 ((byt D36 (((((u / 2 ^ 4) / 2 ^ 4) / 2 ^ 4) / 2 ^ 4) % 16) : Nat) : Int)]) rfl rfl rfl Tryd.sizeOf5 rfl r9 rfl (lB rfl) rfl) rfl rfl ?_
            rintro _ w8 ⟨r10, m8, z6⟩
            have r11 : Row w8 w.heap.size 0 [.int .u8 0, .int .u8 0, .int .u8 0, .int .u8 0, .int .u8 0, .int .u8 0, .int .u8 0, .int .u8 0, .int .u8 0, .int .u8 0, .int .u8 0, .int .u8 0, .int .u8 0, .int .u8 0, .int .u8 0, .int .u8 0, .int .u8 0, .int .u8 0, .int .u8 0, .int .u8 0, .int .u8 0, .int .u8 0, .int .u8 0, .int .u8 0, .int .u8 0, .int .u8 0, .int .u8 0, .int .u8 0, .int .u8 0, .int .u8 0, .int .u8 0, .int .u8 0, .int .u8 0, .int .u8 0, .int .u8 0, .int .u8 0, .int .u8 0, .int .u8 0, .int .u8 0, .int .u8 0, .int .u8 0, .int .u8 0, .int .u8 0, .int .u8 0, .int .u8 0, .int .u8 0, .int .u8 0, .int .u8 0, .int .u8 0, .int .u8 0, .int .u8 0, .int .u8 0, .int .u8 0, .int .u8 0, .int .u8 0, .int .u8 0, .int .u8 0, .int .u8 0, .int .u8 0, .int .u8 0, .int .u8 ((byt D36 (((((u / 2 ^ 4) / 2 ^ 4) / 2 ^ 4) / 2 ^ 4) % 16) : Nat) : Int), .int .u8 ((byt D36 ((((u / 2 ^ 4) / 2 ^ 4) / 2 ^ 4) % 16) : Nat) : Int), .int .u8 ((byt D36 (((u / 2 ^ 4) / 2 ^ 4) % 16) : Nat) : Int), .int .u8 ((byt D36 ((u / 2 ^ 4) % 16) : Nat) : Int), .int .u8 ((byt D36 (u % 16) : Nat) : Int)] := Row.congr r10 rfl
            refine WL.end ?_
            refine NE.code ?_
            refine CE.region ?_
            iterate 2 refine WL.det (op_move rfl) rfl rfl rfl ?_
            refine WL.det (op_shrN (a := (((u / 2 ^ 4) / 2 ^ 4) / 2 ^ 4) / 2 ^ 4) (c := 4) rfl rfl (by decide)) rfl rfl rfl ?_
            refine WL.det (op_assign rfl) rfl rfl rfl ?_
            refine WL.end ?_
            refine NE.blk ?_
            refine NE.round ?_
            refine RN.one ?_
            iterate 2 refine CE.seq ?_
            refine CE.region ?_
            iterate 2 refine WL.det (op_move rfl) rfl rfl rfl ?_
            refine WL.det (op_gei rfl rfl) rfl rfl rfl ?_
            refine WL.end ?_
            refine NE.code ?_
            rcases Bool.eq_false_or_eq_true (decide ((16 : Int) ≤ ((((((u / 2 ^ 4) / 2 ^ 4) / 2 ^ 4) / 2 ^ 4) / 2 ^ 4 : Nat) : Int))) with hb6 | hb6
            · have hp6 := of_decide_eq_true hb6
              refine CE.cond_t rfl hb6 ?_
              refine CE.skip' ?_
              refine NE.code ?_
              refine CE.block ?_
              refine CE.seq ?_
              refine CE.region ?_
              refine WL.det (op_move rfl) rfl rfl rfl ?_
              refine WL.det (op_sub (r := 59) rfl rfl (by decide)) rfl rfl rfl ?_
              refine WL.det (op_assign rfl) rfl rfl rfl ?_
              refine WL.end ?_
              refine NE.code ?_
              refine CE.seq ?_
              refine CE.region ?_
              iterate 3 refine WL.det (op_move rfl) rfl rfl rfl ?_
              refine WL.det (op_and15 (a := ((((u / 2 ^ 4) / 2 ^ 4) / 2 ^ 4) / 2 ^ 4) / 2 ^ 4) rfl rfl (by omega)) rfl rfl rfl ?_
              refine WL.det (op_byte (i := (((((u / 2 ^ 4) / 2 ^ 4) / 2 ^ 4) / 2 ^ 4) / 2 ^ 4) % 16) rfl rfl rfl Tryd.runUnderlying9 (show (((((u / 2 ^ 4) / 2 ^ 4) / 2 ^ 4) / 2 ^ 4) / 2 ^ 4) % 16 < 36 by omega)) rfl rfl rfl ?_
              refine WL.det (op_indexArr (off' := 59) rfl rfl Tryd.runUnderlying119 Tryd.sizeOf5 (by decide) (by decide) rfl) rfl rfl rfl ?_
              refine WL.op0 (op_store (i := 59) (cs := [.int .u8 ((byt D36 ((((((u / 2 ^ 4) / 2 ^ 4) / 2 ^ 4) / 2 ^ 4) / 2 ^ 4) % 16) : Nat) : Int)]) rfl rfl rfl Tryd.sizeOf5 rfl r11 rfl (lB rfl) rfl) rfl rfl ?_
              rintro _ w9 ⟨r12, m9, z7⟩
              have r13 : Row w9 w.heap.size 0 [.int .u8 0, .int .u8 0, .int .u8 0, .int .u8 0, .int .u8 0, .int .u8 0, .int .u8 0, .int .u8 0, .int .u8 0, .int .u8 0, .int .u8 0, .int .u8 0, .int .u8 0, .int .u8 0, .int .u8 0, .int .u8 0, .int .u8 0, .int .u8 0, .int .u8 0, .int .u8 0, .int .u8 0, .int .u8 0, .int .u8 0, .int .u8 0, .int .u8 0, .int .u8 0, .int .u8 0, .int .u8 0, .int .u8 0, .int .u8 0, .int .u8 0, .int .u8 0, .int .u8 0, .int .u8 0, .int .u8 0, .int .u8 0, .int .u8 0, .int .u8 0, .int .u8 0, .int .u8 0, .int .u8 0, .int .u8 0, .int .u8 0, .int .u8 0, .int .u8 0, .int .u8 0, .int .u8 0, .int .u8 0, .int .u8 0, .int .u8 0, .int .u8 0, .int .u8 0, .int .u8 0, .int .u8 0, .int .u8 0, .int .u8 0, .int .u8 0, .int .u8 0, .int .u8 0, .int .u8 ((byt D36 ((((((u / 2 ^ 4) / 2 ^ 4) / 2 ^ 4) / 2 ^ 4) / 2 ^ 4) % 16) : Nat) : Int), .int .u8 ((byt D36 (((((u / 2 ^ 4) / 2 ^ 4) / 2 ^ 4) / 2 ^ 4) % 16) : Nat) : Int), .int .u8 ((byt D36 ((((u / 2 ^ 4) / 2 ^ 4) / 2 ^ 4) % 16) : Nat) : Int), .int .u8 ((byt D36 (((u / 2 ^ 4) / 2 ^ 4) % 16) : Nat) : Int), .int .u8 ((byt D36 ((u / 2 ^ 4) % 16) : Nat) : Int), .int .u8 ((byt D36 (u % 16) : Nat) : Int)] := Row.congr r12 rfl
              refine WL.end ?_
              refine NE.code ?_
              refine CE.region ?_
              iterate 2 refine WL.det (op_move rfl) rfl rfl rfl ?_
              refine WL.det (op_shrN (a := ((((u / 2 ^ 4) / 2 ^ 4) / 2 ^ 4) / 2 ^ 4) / 2 ^ 4) (c := 4) rfl rfl (by decide)) rfl rfl rfl ?_
              refine WL.det (op_assign rfl) rfl rfl rfl ?_
              refine WL.end ?_
              refine NE.blk ?_
              refine NE.round ?_
              refine RN.one ?_
              iterate 2 refine CE.seq ?_
              refine CE.region ?_
              iterate 2 refine WL.det (op_move rfl) rfl rfl rfl ?_
              refine WL.det (op_gei rfl rfl) rfl rfl rfl ?_
              refine WL.end ?_
              refine NE.code ?_
              rcases Bool.eq_false_or_eq_true (decide ((16 : Int) ≤ (((((((u / 2 ^ 4) / 2 ^ 4) / 2 ^ 4) / 2 ^ 4) / 2 ^ 4) / 2 ^ 4 : Nat) : Int))) with hb7 | hb7
              · have hp7 := of_decide_eq_true hb7
                refine CE.cond_t rfl hb7 ?_
                refine CE.skip' ?_
                refine NE.code ?_
                refine CE.block ?_
                refine CE.seq ?_
                refine CE.region ?_
                refine WL.det (op_move rfl) rfl rfl rfl ?_
                refine WL.det (op_sub (r := 58) rfl rfl (by decide)) rfl rfl rfl ?_
                refine WL.det (op_assign rfl) rfl rfl rfl ?_
                refine WL.end ?_
                refine NE.code ?_
                refine CE.seq ?_
                refine CE.region ?_
                iterate 3 refine WL.det (op_move rfl) rfl rfl rfl ?_
                refine WL.det (op_and15 (a := (((((u / 2 ^ 4) / 2 ^ 4) / 2 ^ 4) / 2 ^ 4) / 2 ^ 4) / 2 ^ 4) rfl rfl (by omega)) rfl rfl rfl ?_
                refine WL.det (op_byte (i := ((((((u / 2 ^ 4) / 2 ^ 4) / 2 ^ 4) / 2 ^ 4) / 2 ^ 4) / 2 ^ 4) % 16) rfl rfl rfl Tryd.runUnderlying9 (show ((((((u / 2 ^ 4) / 2 ^ 4) / 2 ^ 4) / 2 ^ 4) / 2 ^ 4) / 2 ^ 4) % 16 < 36 by omega)) rfl rfl rfl ?_
                refine WL.det (op_indexArr (off' := 58) rfl rfl Tryd.runUnderlying119 Tryd.sizeOf5 (by decide) (by decide) rfl) rfl rfl rfl ?_
                refine WL.op0 (op_store (i := 58) (cs := [.int .u8 ((byt D36 (((((((u / 2 ^ 4) / 2 ^ 4) / 2 ^ 4) / 2 ^ 4) / 2 ^ 4) / 2 ^ 4) % 16) : Nat) : Int)]) rfl rfl rfl Tryd.sizeOf5 rfl r13 rfl (lB rfl) rfl) rfl rfl ?_
                rintro _ w10 ⟨r14, m10, z8⟩
                have r15 : Row w10 w.heap.size 0 [.int .u8 0, .int .u8 0, .int .u8 0, .int .u8 0, .int .u8 0, .int .u8 0, .int .u8 0, .int .u8 0, .int .u8 0, .int .u8 0, .int .u8 0, .int .u8 0, .int .u8 0, .int .u8 0, .int .u8 0, .int .u8 0, .int .u8 0, .int .u8 0, .int .u8 0, .int .u8 0, .int .u8 0, .int .u8 0, .int .u8 0, .int .u8 0, .int .u8 0, .int .u8 0, .int .u8 0, .int .u8 0, .int .u8 0, .int .u8 0, .int .u8 0, .int .u8 0, .int .u8 0, .int .u8 0, .int .u8 0, .int .u8 0, .int .u8 0, .int .u8 0, .int .u8 0, .int .u8 0, .int .u8 0, .int .u8 0, .int .u8 0, .int .u8 0, .int .u8 0, .int .u8 0, .int .u8 0, .int .u8 0, .int .u8 0, .int .u8 0, .int .u8 0, .int .u8 0, .int .u8 0, .int .u8 0, .int .u8 0, .int .u8 0, .int .u8 0, .int .u8 0, .int .u8 ((byt D36 (((((((u / 2 ^ 4) / 2 ^ 4) / 2 ^ 4) / 2 ^ 4) / 2 ^ 4) / 2 ^ 4) % 16) : Nat) : Int), .int .u8 ((byt D36 ((((((u / 2 ^ 4) / 2 ^ 4) / 2 ^ 4) / 2 ^ 4) / 2 ^ 4) % 16) : Nat) : Int), .int .u8 ((byt D36 (((((u / 2 ^ 4) / 2 ^ 4) / 2 ^ 4) / 2 ^ 4) % 16) : Nat) : Int), .int .u8 ((byt D36 ((((u / 2 ^ 4) / 2 ^ 4) / 2 ^ 4) % 16) : Nat) : Int), .int .u8 ((byt D36 (((u / 2 ^ 4) / 2 ^ 4) % 16) : Nat) : Int), .int .u8 ((byt D36 ((u / 2 ^ 4) % 16) : Nat) : Int), .int .u8 ((byt D36 (u % 16) : Nat) : Int)] := Row.congr r14 rfl
                refine WL.end ?_
                refine NE.code ?_
                refine CE.region ?_
                iterate 2 refine WL.det (op_move rfl) rfl rfl rfl ?_
                refine WL.det (op_shrN (a := (((((u / 2 ^ 4) / 2 ^ 4) / 2 ^ 4) / 2 ^ 4) / 2 ^ 4) / 2 ^ 4) (c := 4) rfl rfl (by decide)) rfl rfl rfl ?_
                refine WL.det (op_assign rfl) rfl rfl rfl ?_
                refine WL.end ?_
                refine NE.blk ?_
                refine NE.round ?_
                refine RN.one ?_
                iterate 2 refine CE.seq ?_
                refine CE.region ?_
                iterate 2 refine WL.det (op_move rfl) rfl rfl rfl ?_
                refine WL.det (op_gei rfl rfl) rfl rfl rfl ?_
                refine WL.end ?_
                refine NE.code ?_
                refine CE.cond_f rfl (decide_eq_false (by omega)) ?_
                refine CE.exit' ?_
                iterate 2 refine XE.exit_then ?_
                refine XE.exit_here ?_
                refine NE.code ?_
                refine CE.seq ?_
                refine CE.region ?_
                refine WL.det (op_move rfl) rfl rfl rfl ?_
                refine WL.det (op_sub (r := 57) rfl rfl (by decide)) rfl rfl rfl ?_
                refine WL.det (op_assign rfl) rfl rfl rfl ?_
                refine WL.end ?_
                refine NE.code ?_
                refine CE.region ?_
                iterate 2 refine WL.det (op_move rfl) rfl rfl rfl ?_
                refine WL.det (op_byte (i := ((((((u / 2 ^ 4) / 2 ^ 4) / 2 ^ 4) / 2 ^ 4) / 2 ^ 4) / 2 ^ 4) / 2 ^ 4) rfl rfl rfl Tryd.runUnderlying9 (show ((((((u / 2 ^ 4) / 2 ^ 4) / 2 ^ 4) / 2 ^ 4) / 2 ^ 4) / 2 ^ 4) / 2 ^ 4 < 36 by omega)) rfl rfl rfl ?_
                refine WL.det (op_indexArr (off' := 57) rfl rfl Tryd.runUnderlying119 Tryd.sizeOf5 (by decide) (by decide) rfl) rfl rfl rfl ?_
                refine WL.op0 (op_store (i := 57) (cs := [.int .u8 ((byt D36 (((((((u / 2 ^ 4) / 2 ^ 4) / 2 ^ 4) / 2 ^ 4) / 2 ^ 4) / 2 ^ 4) / 2 ^ 4) : Nat) : Int)]) rfl rfl rfl Tryd.sizeOf5 rfl r15 rfl (lB rfl) rfl) rfl rfl ?_
                rintro _ w11 ⟨r16, m11, z9⟩
                have r17 : Row w11 w.heap.size 0 [.int .u8 0, .int .u8 0, .int .u8 0, .int .u8 0, .int .u8 0, .int .u8 0, .int .u8 0, .int .u8 0, .int .u8 0, .int .u8 0, .int .u8 0, .int .u8 0, .int .u8 0, .int .u8 0, .int .u8 0, .int .u8 0, .int .u8 0, .int .u8 0, .int .u8 0, .int .u8 0, .int .u8 0, .int .u8 0, .int .u8 0, .int .u8 0, .int .u8 0, .int .u8 0, .int .u8 0, .int .u8 0, .int .u8 0, .int .u8 0, .int .u8 0, .int .u8 0, .int .u8 0, .int .u8 0, .int .u8 0, .int .u8 0, .int .u8 0, .int .u8 0, .int .u8 0, .int .u8 0, .int .u8 0, .int .u8 0, .int .u8 0, .int .u8 0, .int .u8 0, .int .u8 0, .int .u8 0, .int .u8 0, .int .u8 0, .int .u8 0, .int .u8 0, .int .u8 0, .int .u8 0, .int .u8 0, .int .u8 0, .int .u8 0, .int .u8 0, .int .u8 ((byt D36 (((((((u / 2 ^ 4) / 2 ^ 4) / 2 ^ 4) / 2 ^ 4) / 2 ^ 4) / 2 ^ 4) / 2 ^ 4) : Nat) : Int), .int .u8 ((byt D36 (((((((u / 2 ^ 4) / 2 ^ 4) / 2 ^ 4) / 2 ^ 4) / 2 ^ 4) / 2 ^ 4) % 16) : Nat) : Int), .int .u8 ((byt D36 ((((((u / 2 ^ 4) / 2 ^ 4) / 2 ^ 4) / 2 ^ 4) / 2 ^ 4) % 16) : Nat) : Int), .int .u8 ((byt D36 (((((u / 2 ^ 4) / 2 ^ 4) / 2 ^ 4) / 2 ^ 4) % 16) : Nat) : Int), .int .u8 ((byt D36 ((((u / 2 ^ 4) / 2 ^ 4) / 2 ^ 4) % 16) : Nat) : Int), .int .u8 ((byt D36 (((u / 2 ^ 4) / 2 ^ 4) % 16) : Nat) : Int), .int .u8 ((byt D36 ((u / 2 ^ 4) % 16) : Nat) : Int), .int .u8 ((byt D36 (u % 16) : Nat) : Int)] := Row.congr r16 rfl
                refine WL.end ?_
                refine NE.code ?_
                iterate 2 refine CE.seq ?_
                refine CE.region ?_
                refine WL.det (op_move rfl) rfl rfl rfl ?_
                refine WL.end ?_
                refine NE.code ?_
                refine CE.cond_f rfl rfl ?_
                refine CE.skip' ?_
                refine NE.code ?_
                iterate 2 refine CE.seq ?_
                refine CE.region ?_
                refine WL.det (op_move rfl) rfl rfl rfl ?_
                refine WL.end ?_
                refine NE.code ?_
                refine CE.cond_f rfl rfl ?_
                refine CE.skip' ?_
                refine NE.code ?_
                refine CE.seq ?_
                refine CE.region ?_
                refine WL.det (op_move rfl) rfl rfl rfl ?_
                refine WL.det (op_arrLo (i := 57) (off' := 57) rfl rfl rfl Tryd.runUnderlying119 Tryd.sizeOf5 (by decide) rfl) rfl rfl rfl ?_
                refine WL.det (op_bytesStr (zs := [((byt D36 (((((((u / 2 ^ 4) / 2 ^ 4) / 2 ^ 4) / 2 ^ 4) / 2 ^ 4) / 2 ^ 4) / 2 ^ 4) : Nat) : Int), ((byt D36 (((((((u / 2 ^ 4) / 2 ^ 4) / 2 ^ 4) / 2 ^ 4) / 2 ^ 4) / 2 ^ 4) % 16) : Nat) : Int), ((byt D36 ((((((u / 2 ^ 4) / 2 ^ 4) / 2 ^ 4) / 2 ^ 4) / 2 ^ 4) % 16) : Nat) : Int), ((byt D36 (((((u / 2 ^ 4) / 2 ^ 4) / 2 ^ 4) / 2 ^ 4) % 16) : Nat) : Int), ((byt D36 ((((u / 2 ^ 4) / 2 ^ 4) / 2 ^ 4) % 16) : Nat) : Int), ((byt D36 (((u / 2 ^ 4) / 2 ^ 4) % 16) : Nat) : Int), ((byt D36 ((u / 2 ^ 4) % 16) : Nat) : Int), ((byt D36 (u % 16) : Nat) : Int)]) rfl Tryd.underlying73 Tryd.underlying5 Tryd.underlying9 (r17.rng.drop 57) rfl) rfl rfl rfl ?_
                refine WL.det (op_assign rfl) rfl rfl rfl ?_
                refine WL.end ?_
                refine NE.code ?_
                refine CE.ret' ?_
                refine XE.leaveT Tryd.results77 (res_tmp rfl (res_tmp rfl res_nil)) ?_
                refine ⟨?_, ((((((((((((Mod.refl [] w).nt m1).nt m2).nt m3).then m4 ((aC (.inr lR) aN))).then m5 ((aC (.inr lR) aN))).then m6 ((aC (.inr lR) aN))).then m7 ((aC (.inr lR) aN))).then m8 ((aC (.inr lR) aN))).then m9 ((aC (.inr lR) aN))).then m10 ((aC (.inr lR) aN))).then m11 ((aC (.inr lR) aN)))⟩
                all_goals first | (rw [hexM_lt (u := u) (by omega)]; rfl) | (rw [hexM_ge (u := u) (by omega), hexM_lt (u := u / 2 ^ 4) (by omega)]; rfl) | (rw [hexM_ge (u := u) (by omega), hexM_ge (u := u / 2 ^ 4) (by omega), hexM_lt (u := u / 2 ^ 4 / 2 ^ 4) (by omega)]; rfl) | (rw [hexM_ge (u := u) (by omega), hexM_ge (u := u / 2 ^ 4) (by omega), hexM_ge (u := u / 2 ^ 4 / 2 ^ 4) (by omega), hexM_lt (u := u / 2 ^ 4 / 2 ^ 4 / 2 ^ 4) (by omega)]; rfl) | (rw [hexM_ge (u := u) (by omega), hexM_ge (u := u / 2 ^ 4) (by omega), hexM_ge (u := u / 2 ^ 4 / 2 ^ 4) (by omega), hexM_ge (u := u / 2 ^ 4 / 2 ^ 4 / 2 ^ 4) (by omega), hexM_lt (u := u / 2 ^ 4 / 2 ^ 4 / 2 ^ 4 / 2 ^ 4) (by omega)]; rfl) | (rw [hexM_ge (u := u) (by omega), hexM_ge (u := u / 2 ^ 4) (by omega), hexM_ge (u := u / 2 ^ 4 / 2 ^ 4) (by omega), hexM_ge (u := u / 2 ^ 4 / 2 ^ 4 / 2 ^ 4) (by omega), hexM_ge (u := u / 2 ^ 4 / 2 ^ 4 / 2 ^ 4 / 2 ^ 4) (by omega), hexM_lt (u := u / 2 ^ 4 / 2 ^ 4 / 2 ^ 4 / 2 ^ 4 / 2 ^ 4) (by omega)]; rfl) | (rw [hexM_ge (u := u) (by omega), hexM_ge (u := u / 2 ^ 4) (by omega), hexM_ge (u := u / 2 ^ 4 / 2 ^ 4) (by omega), hexM_ge (u := u / 2 ^ 4 / 2 ^ 4 / 2 ^ 4) (by omega), hexM_ge (u := u / 2 ^ 4 / 2 ^ 4 / 2 ^ 4 / 2 ^ 4) (by omega), hexM_ge (u := u / 2 ^ 4 / 2 ^ 4 / 2 ^ 4 / 2 ^ 4 / 2 ^ 4) (by omega), hexM_lt (u := u / 2 ^ 4 / 2 ^ 4 / 2 ^ 4 / 2 ^ 4 / 2 ^ 4 / 2 ^ 4) (by omega)]; rfl) | (rw [hexM_ge (u := u) (by omega), hexM_ge (u := u / 2 ^ 4) (by omega), hexM_ge (u := u / 2 ^ 4 / 2 ^ 4) (by omega), hexM_ge (u := u / 2 ^ 4 / 2 ^ 4 / 2 ^ 4) (by omega), hexM_ge (u := u / 2 ^ 4 / 2 ^ 4 / 2 ^ 4 / 2 ^ 4) (by omega), hexM_ge (u := u / 2 ^ 4 / 2 ^ 4 / 2 ^ 4 / 2 ^ 4 / 2 ^ 4) (by omega), hexM_ge (u := u / 2 ^ 4 / 2 ^ 4 / 2 ^ 4 / 2 ^ 4 / 2 ^ 4 / 2 ^ 4) (by omega), hexM_lt (u := u / 2 ^ 4 / 2 ^ 4 / 2 ^ 4 / 2 ^ 4 / 2 ^ 4 / 2 ^ 4 / 2 ^ 4) (by omega)]; rfl)
              · have hp7 := of_decide_eq_false hb7
                refine CE.cond_f rfl hb7 ?_
                refine CE.exit' ?_
                iterate 2 refine XE.exit_then ?_
                refine XE.exit_here ?_
                refine NE.code ?_
                refine CE.seq ?_
                refine CE.region ?_
                refine WL.det (op_move rfl) rfl rfl rfl ?_
                refine WL.det (op_sub (r := 58) rfl rfl (by decide)) rfl rfl rfl ?_
                refine WL.det (op_assign rfl) rfl rfl rfl ?_
                refine WL.end ?_
                refine NE.code ?_
                refine CE.region ?_
                iterate 2 refine WL.det (op_move rfl) rfl rfl rfl ?_
                refine WL.det (op_byte (i := (((((u / 2 ^ 4) / 2 ^ 4) / 2 ^ 4) / 2 ^ 4) / 2 ^ 4) / 2 ^ 4) rfl rfl rfl Tryd.runUnderlying9 (show (((((u / 2 ^ 4) / 2 ^ 4) / 2 ^ 4) / 2 ^ 4) / 2 ^ 4) / 2 ^ 4 < 36 by omega)) rfl rfl rfl ?_
                refine WL.det (op_indexArr (off' := 58) rfl rfl Tryd.runUnderlying119 Tryd.sizeOf5 (by decide) (by decide) rfl) rfl rfl rfl ?_
                refine WL.op0 (op_store (i := 58) (cs := [.int .u8 ((byt D36 ((((((u / 2 ^ 4) / 2 ^ 4) / 2 ^ 4) / 2 ^ 4) / 2 ^ 4) / 2 ^ 4) : Nat) : Int)]) rfl rfl rfl Tryd.sizeOf5 rfl r13 rfl (lB rfl) rfl) rfl rfl ?_
                rintro _ w12 ⟨r18, m12, z10⟩
                have r19 : Row w12 w.heap.size 0 [.int .u8 0, .int .u8 0, .int .u8 0, .int .u8 0, .int .u8 0, .int .u8 0, .int .u8 0, .int .u8 0, .int .u8 0, .int .u8 0, .int .u8 0, .int .u8 0, .int .u8 0, .int .u8 0, .int .u8 0, .int .u8 0, .int .u8 0, .int .u8 0, .int .u8 0, .int .u8 0, .int .u8 0, .int .u8 0, .int .u8 0, .int .u8 0, .int .u8 0, .int .u8 0, .int .u8 0, .int .u8 0, .int .u8 0, .int .u8 0, .int .u8 0, .int .u8 0, .int .u8 0, .int .u8 0, .int .u8 0, .int .u8 0, .int .u8 0, .int .u8 0, .int .u8 0, .int .u8 0, .int .u8 0, .int .u8 0, .int .u8 0, .int .u8 0, .int .u8 0, .int .u8 0, .int .u8 0, .int .u8 0, .int .u8 0, .int .u8 0, .int .u8 0, .int .u8 0, .int .u8 0, .int .u8 0, .int .u8 0, .int .u8 0, .int .u8 0, .int .u8 0, .int .u8 ((byt D36 ((((((u / 2 ^ 4) / 2 ^ 4) / 2 ^ 4) / 2 ^ 4) / 2 ^ 4) / 2 ^ 4) : Nat) : Int), .int .u8 ((byt D36 ((((((u / 2 ^ 4) / 2 ^ 4) / 2 ^ 4) / 2 ^ 4) / 2 ^ 4) % 16) : Nat) : Int), .int .u8 ((byt D36 (((((u / 2 ^ 4) / 2 ^ 4) / 2 ^ 4) / 2 ^ 4) % 16) : Nat) : Int), .int .u8 ((byt D36 ((((u / 2 ^ 4) / 2 ^ 4) / 2 ^ 4) % 16) : Nat) : Int), .int .u8 ((byt D36 (((u / 2 ^ 4) / 2 ^ 4) % 16) : Nat) : Int), .int .u8 ((byt D36 ((u / 2 ^ 4) % 16) : Nat) : Int), .int .u8 ((byt D36 (u % 16) : Nat) : Int)] := Row.congr r18 rfl
                refine WL.end ?_
                refine NE.code ?_
                iterate 2 refine CE.seq ?_
                refine CE.region ?_
                refine WL.det (op_move rfl) rfl rfl rfl ?_
                refine WL.end ?_
                refine NE.code ?_
                refine CE.cond_f rfl rfl ?_
                refine CE.skip' ?_
                refine NE.code ?_
                iterate 2 refine CE.seq ?_
                refine CE.region ?_
                refine WL.det (op_move rfl) rfl rfl rfl ?_
                refine WL.end ?_
                refine NE.code ?_
                refine CE.cond_f rfl rfl ?_
                refine CE.skip' ?_
                refine NE.code ?_
                refine CE.seq ?_
                refine CE.region ?_
                refine WL.det (op_move rfl) rfl rfl rfl ?_
                refine WL.det (op_arrLo (i := 58) (off' := 58) rfl rfl rfl Tryd.runUnderlying119 Tryd.sizeOf5 (by decide) rfl) rfl rfl rfl ?_
                refine WL.det (op_bytesStr (zs := [((byt D36 ((((((u / 2 ^ 4) / 2 ^ 4) / 2 ^ 4) / 2 ^ 4) / 2 ^ 4) / 2 ^ 4) : Nat) : Int), ((byt D36 ((((((u / 2 ^ 4) / 2 ^ 4) / 2 ^ 4) / 2 ^ 4) / 2 ^ 4) % 16) : Nat) : Int), ((byt D36 (((((u / 2 ^ 4) / 2 ^ 4) / 2 ^ 4) / 2 ^ 4) % 16) : Nat) : Int), ((byt D36 ((((u / 2 ^ 4) / 2 ^ 4) / 2 ^ 4) % 16) : Nat) : Int), ((byt D36 (((u / 2 ^ 4) / 2 ^ 4) % 16) : Nat) : Int), ((byt D36 ((u / 2 ^ 4) % 16) : Nat) : Int), ((byt D36 (u % 16) : Nat) : Int)]) rfl Tryd.underlying73 Tryd.underlying5 Tryd.underlying9 (r19.rng.drop 58) rfl) rfl rfl rfl ?_
                refine WL.det (op_assign rfl) rfl rfl rfl ?_
                refine WL.end ?_
                refine NE.code ?_
                refine CE.ret' ?_
                refine XE.leaveT Tryd.results77 (res_tmp rfl (res_tmp rfl res_nil)) ?_
                refine ⟨?_, (((((((((((Mod.refl [] w).nt m1).nt m2).nt m3).then m4 ((aC (.inr lR) aN))).then m5 ((aC (.inr lR) aN))).then m6 ((aC (.inr lR) aN))).then m7 ((aC (.inr lR) aN))).then m8 ((aC (.inr lR) aN))).then m9 ((aC (.inr lR) aN))).then m12 ((aC (.inr lR) aN)))⟩
                all_goals first | (rw [hexM_lt (u := u) (by omega)]; rfl) | (rw [hexM_ge (u := u) (by omega), hexM_lt (u := u / 2 ^ 4) (by omega)]; rfl) | (rw [hexM_ge (u := u) (by omega), hexM_ge (u := u / 2 ^ 4) (by omega), hexM_lt (u := u / 2 ^ 4 / 2 ^ 4) (by omega)]; rfl) | (rw [hexM_ge (u := u) (by omega), hexM_ge (u := u / 2 ^ 4) (by omega), hexM_ge (u := u / 2 ^ 4 / 2 ^ 4) (by omega), hexM_lt (u := u / 2 ^ 4 / 2 ^ 4 / 2 ^ 4) (by omega)]; rfl) | (rw [hexM_ge (u := u) (by omega), hexM_ge (u := u / 2 ^ 4) (by omega), hexM_ge (u := u / 2 ^ 4 / 2 ^ 4) (by omega), hexM_ge (u := u / 2 ^ 4 / 2 ^ 4 / 2 ^ 4) (by omega), hexM_lt (u := u / 2 ^ 4 / 2 ^ 4 / 2 ^ 4 / 2 ^ 4) (by omega)]; rfl) | (rw [hexM_ge (u := u) (by omega), hexM_ge (u := u / 2 ^ 4) (by omega), hexM_ge (u := u / 2 ^ 4 / 2 ^ 4) (by omega), hexM_ge (u := u / 2 ^ 4 / 2 ^ 4 / 2 ^ 4) (by omega), hexM_ge (u := u / 2 ^ 4 / 2 ^ 4 / 2 ^ 4 / 2 ^ 4) (by omega), hexM_lt (u := u / 2 ^ 4 / 2 ^ 4 / 2 ^ 4 / 2 ^ 4 / 2 ^ 4) (by omega)]; rfl) | (rw [hexM_ge (u := u) (by omega), hexM_ge (u := u / 2 ^ 4) (by omega), hexM_ge (u := u / 2 ^ 4 / 2 ^ 4) (by omega), hexM_ge (u := u / 2 ^ 4 / 2 ^ 4 / 2 ^ 4) (by omega), hexM_ge (u := u / 2 ^ 4 / 2 ^ 4 / 2 ^ 4 / 2 ^ 4) (by omega), hexM_ge (u := u / 2 ^ 4 / 2 ^ 4 / 2 ^ 4 / 2 ^ 4 / 2 ^ 4) (by omega), hexM_lt (u := u / 2 ^ 4 / 2 ^ 4 / 2 ^ 4 / 2 ^ 4 / 2 ^ 4 / 2 ^ 4) (by omega)]; rfl) | (rw [hexM_ge (u := u) (by omega), hexM_ge (u := u / 2 ^ 4) (by omega), hexM_ge (u := u / 2 ^ 4 / 2 ^ 4) (by omega), hexM_ge (u := u / 2 ^ 4 / 2 ^ 4 / 2 ^ 4) (by omega), hexM_ge (u := u / 2 ^ 4 / 2 ^ 4 / 2 ^ 4 / 2 ^ 4) (by omega), hexM_ge (u := u / 2 ^ 4 / 2 ^ 4 / 2 ^ 4 / 2 ^ 4 / 2 ^ 4) (by omega), hexM_ge (u := u / 2 ^ 4 / 2 ^ 4 / 2 ^ 4 / 2 ^ 4 / 2 ^ 4 / 2 ^ 4) (by omega), hexM_lt (u := u / 2 ^ 4 / 2 ^ 4 / 2 ^ 4 / 2 ^ 4 / 2 ^ 4 / 2 ^ 4 / 2 ^ 4) (by omega)]; rfl)
            · have hp6 := of_decide_eq_false hb6
              refine CE.cond_f rfl hb6 ?_
              refine CE.exit' ?_
              iterate 2 refine XE.exit_then ?_
              refine XE.exit_here ?_
              refine NE.code ?_
              refine CE.seq ?_
              refine CE.region ?_
              refine WL.det (op_move rfl) rfl rfl rfl ?_
              refine WL.det (op_sub (r := 59) rfl rfl (by decide)) rfl rfl rfl ?_
              refine WL.det (op_assign rfl) rfl rfl rfl ?_
              refine WL.end ?_
              refine NE.code ?_
              refine CE.region ?_
              iterate 2 refine WL.det (op_move rfl) rfl rfl rfl ?_
              refine WL.det (op_byte (i := ((((u / 2 ^ 4) / 2 ^ 4) / 2 ^ 4) / 2 ^ 4) / 2 ^ 4) rfl rfl rfl Tryd.runUnderlying9 (show ((((u / 2 ^ 4) / 2 ^ 4) / 2 ^ 4) / 2 ^ 4) / 2 ^ 4 < 36 by omega)) rfl rfl rfl ?_
              refine WL.det (op_indexArr (off' := 59) rfl rfl Tryd.runUnderlying119 Tryd.sizeOf5 (by decide) (by decide) rfl) rfl rfl rfl ?_
              refine WL.op0 (op_store (i := 59) (cs := [.int .u8 ((byt D36 (((((u / 2 ^ 4) / 2 ^ 4) / 2 ^ 4) / 2 ^ 4) / 2 ^ 4) : Nat) : Int)]) rfl rfl rfl Tryd.sizeOf5 rfl r11 rfl (lB rfl) rfl) rfl rfl ?_
              rintro _ w13 ⟨r20, m13, z11⟩
              have r21 : Row w13 w.heap.size 0 [.int .u8 0, .int .u8 0, .int .u8 0, .int .u8 0, .int .u8 0, .int .u8 0, .int .u8 0, .int .u8 0, .int .u8 0, .int .u8 0, .int .u8 0, .int .u8 0, .int .u8 0, .int .u8 0, .int .u8 0, .int .u8 0, .int .u8 0, .int .u8 0, .int .u8 0, .int .u8 0, .int .u8 0, .int .u8 0, .int .u8 0, .int .u8 0, .int .u8 0, .int .u8 0, .int .u8 0, .int .u8 0, .int .u8 0, .int .u8 0, .int .u8 0, .int .u8 0, .int .u8 0, .int .u8 0, .int .u8 0, .int .u8 0, .int .u8 0, .int .u8 0, .int .u8 0, .int .u8 0, .int .u8 0, .int .u8 0, .int .u8 0, .int .u8 0, .int .u8 0, .int .u8 0, .int .u8 0, .int .u8 0, .int .u8 0, .int .u8 0, .int .u8 0, .int .u8 0, .int .u8 0, .int .u8 0, .int .u8 0, .int .u8 0, .int .u8 0, .int .u8 0, .int .u8 0, .int .u8 ((byt D36 (((((u / 2 ^ 4) / 2 ^ 4) / 2 ^ 4) / 2 ^ 4) / 2 ^ 4) : Nat) : Int), .int .u8 ((byt D36 (((((u / 2 ^ 4) / 2 ^ 4) / 2 ^ 4) / 2 ^ 4) % 16) : Nat) : Int), .int .u8 ((byt D36 ((((u / 2 ^ 4) / 2 ^ 4) / 2 ^ 4) % 16) : Nat) : Int), .int .u8 ((byt D36 (((u / 2 ^ 4) / 2 ^ 4) % 16) : Nat) : Int), .int .u8 ((byt D36 ((u / 2 ^ 4) % 16) : Nat) : Int), .int .u8 ((byt D36 (u % 16) : Nat) : Int)] := Row.congr r20 rfl
              refine WL.end ?_
              refine NE.code ?_
              iterate 2 refine CE.seq ?_
              refine CE.region ?_
              refine WL.det (op_move rfl) rfl rfl rfl ?_
              refine WL.end ?_
              refine NE.code ?_
              refine CE.cond_f rfl rfl ?_
              refine CE.skip' ?_
              refine NE.code ?_
              iterate 2 refine CE.seq ?_
              refine CE.region ?_
              refine WL.det (op_move rfl) rfl rfl rfl ?_
              refine WL.end ?_
              refine NE.code ?_
              refine CE.cond_f rfl rfl ?_
              refine CE.skip' ?_
              refine NE.code ?_
              refine CE.seq ?_
              refine CE.region ?_
              refine WL.det (op_move rfl) rfl rfl rfl ?_
              refine WL.det (op_arrLo (i := 59) (off' := 59) rfl rfl rfl Tryd.runUnderlying119 Tryd.sizeOf5 (by decide) rfl) rfl rfl rfl ?_
              refine WL.det (op_bytesStr (zs := [((byt D36 (((((u / 2 ^ 4) / 2 ^ 4) / 2 ^ 4) / 2 ^ 4) / 2 ^ 4) : Nat) : Int), ((byt D36 (((((u / 2 ^ 4) / 2 ^ 4) / 2 ^ 4) / 2 ^ 4) % 16) : Nat) : Int), ((byt D36 ((((u / 2 ^ 4) / 2 ^ 4) / 2 ^ 4) % 16) : Nat) : Int), ((byt D36 (((u / 2 ^ 4) / 2 ^ 4) % 16) : Nat) : Int), ((byt D36 ((u / 2 ^ 4) % 16) : Nat) : Int), ((byt D36 (u % 16) : Nat) : Int)]) rfl Tryd.underlying73 Tryd.underlying5 Tryd.underlying9 (r21.rng.drop 59) rfl) rfl rfl rfl ?_
              refine WL.det (op_assign rfl) rfl rfl rfl ?_
              refine WL.end ?_
              refine NE.code ?_
              refine CE.ret' ?_
              refine XE.leaveT Tryd.results77 (res_tmp rfl (res_tmp rfl res_nil)) ?_
              refine ⟨?_, ((((((((((Mod.refl [] w).nt m1).nt m2).nt m3).then m4 ((aC (.inr lR) aN))).then m5 ((aC (.inr lR) aN))).then m6 ((aC (.inr lR) aN))).then m7 ((aC (.inr lR) aN))).then m8 ((aC (.inr lR) aN))).then m13 ((aC (.inr lR) aN)))⟩
              all_goals first | (rw [hexM_lt (u := u) (by omega)]; rfl) | (rw [hexM_ge (u := u) (by omega), hexM_lt (u := u / 2 ^ 4) (by omega)]; rfl) | (rw [hexM_ge (u := u) (by omega), hexM_ge (u := u / 2 ^ 4) (by omega), hexM_lt (u := u / 2 ^ 4 / 2 ^ 4) (by omega)]; rfl) | (rw [hexM_ge (u := u) (by omega), hexM_ge (u := u / 2 ^ 4) (by omega), hexM_ge (u := u / 2 ^ 4 / 2 ^ 4) (by omega), hexM_lt (u := u / 2 ^ 4 / 2 ^ 4 / 2 ^ 4) (by omega)]; rfl) | (rw [hexM_ge (u := u) (by omega), hexM_ge (u := u / 2 ^ 4) (by omega), hexM_ge (u := u / 2 ^ 4 / 2 ^ 4) (by omega), hexM_ge (u := u / 2 ^ 4 / 2 ^ 4 / 2 ^ 4) (by omega), hexM_lt (u := u / 2 ^ 4 / 2 ^ 4 / 2 ^ 4 / 2 ^ 4) (by omega)]; rfl) | (rw [hexM_ge (u := u) (by omega), hexM_ge (u := u / 2 ^ 4) (by omega), hexM_ge (u := u / 2 ^ 4 / 2 ^ 4) (by omega), hexM_ge (u := u / 2 ^ 4 / 2 ^ 4 / 2 ^ 4) (by omega), hexM_ge (u := u / 2 ^ 4 / 2 ^ 4 / 2 ^ 4 / 2 ^ 4) (by omega), hexM_lt (u := u / 2 ^ 4 / 2 ^ 4 / 2 ^ 4 / 2 ^ 4 / 2 ^ 4) (by omega)]; rfl) | (rw [hexM_ge (u := u) (by omega), hexM_ge (u := u / 2 ^ 4) (by omega), hexM_ge (u := u / 2 ^ 4 / 2 ^ 4) (by omega), hexM_ge (u := u / 2 ^ 4 / 2 ^ 4 / 2 ^ 4) (by omega), hexM_ge (u := u / 2 ^ 4 / 2 ^ 4 / 2 ^ 4 / 2 ^ 4) (by omega), hexM_ge (u := u / 2 ^ 4 / 2 ^ 4 / 2 ^ 4 / 2 ^ 4 / 2 ^ 4) (by omega), hexM_lt (u := u / 2 ^ 4 / 2 ^ 4 / 2 ^ 4 / 2 ^ 4 / 2 ^ 4 / 2 ^ 4) (by omega)]; rfl) | (rw [hexM_ge (u := u) (by omega), hexM_ge (u := u / 2 ^ 4) (by omega), hexM_ge (u := u / 2 ^ 4 / 2 ^ 4) (by omega), hexM_ge (u := u / 2 ^ 4 / 2 ^ 4 / 2 ^ 4) (by omega), hexM_ge (u := u / 2 ^ 4 / 2 ^ 4 / 2 ^ 4 / 2 ^ 4) (by omega), hexM_ge (u := u / 2 ^ 4 / 2 ^ 4 / 2 ^ 4 / 2 ^ 4 / 2 ^ 4) (by omega), hexM_ge (u := u / 2 ^ 4 / 2 ^ 4 / 2 ^ 4 / 2 ^ 4 / 2 ^ 4 / 2 ^ 4) (by omega), hexM_lt (u := u / 2 ^ 4 / 2 ^ 4 / 2 ^ 4 / 2 ^ 4 / 2 ^ 4 / 2 ^ 4 / 2 ^ 4) (by omega)]; rfl)
          · have hp5 := of_decide_eq_false hb5
            refine CE.cond_f rfl hb5 ?_
            refine CE.exit' ?_
            iterate 2 refine XE.exit_then ?_
            refine XE.exit_here ?_
            refine NE.code ?_
            refine CE.seq ?_
            refine CE.region ?_
            refine WL.det (op_move rfl) rfl rfl rfl ?_
            refine WL.det (op_sub (r := 60) rfl rfl (by decide)) rfl rfl rfl ?_
            refine WL.det (op_assign rfl) rfl rfl rfl ?_
            refine WL.end ?_
            refine NE.code ?_
            refine CE.region ?_
            iterate 2 refine WL.det (op_move rfl) rfl rfl rfl ?_
            refine WL.det (op_byte (i := (((u / 2 ^ 4) / 2 ^ 4) / 2 ^ 4) / 2 ^ 4) rfl rfl rfl Tryd.runUnderlying9 (show (((u / 2 ^ 4) / 2 ^ 4) / 2 ^ 4) / 2 ^ 4 < 36 by omega)) rfl rfl rfl ?_
            refine WL.det (op_indexArr (off' := 60) rfl rfl Tryd.runUnderlying119 Tryd.sizeOf5 (by decide) (by decide) rfl) rfl rfl rfl ?_
            refine WL.op0 (op_store (i := 60) (cs := [.int .u8 ((byt D36 ((((u / 2 ^ 4) / 2 ^ 4) / 2 ^ 4) / 2 ^ 4) : Nat) : Int)]) rfl rfl rfl Tryd.sizeOf5 rfl r9 rfl (lB rfl) rfl) rfl rfl ?_
            rintro _ w14 ⟨r22, m14, z12⟩
            have r23 : Row w14 w.heap.size 0 [.int .u8 0, .int .u8 0, .int .u8 0, .int .u8 0, .int .u8 0, .int .u8 0, .int .u8 0, .int .u8 0, .int .u8 0, .int .u8 0, .int .u8 0, .int .u8 0, .int .u8 0, .int .u8 0, .int .u8 0, .int .u8 0, .int .u8 0, .int .u8 0, .int .u8 0, .int .u8 0, .int .u8 0, .int .u8 0, .int .u8 0, .int .u8 0, .int .u8 0, .int .u8 0, .int .u8 0, .int .u8 0, .int .u8 0, .int .u8 0, .int .u8 0, .int .u8 0, .int .u8 0, .int .u8 0, .int .u8 0, .int .u8 0, .int .u8 0, .int .u8 0, .int .u8 0, .int .u8 0, .int .u8 0, .int .u8 0, .int .u8 0, .int .u8 0, .int .u8 0, .int .u8 0, .int .u8 0, .int .u8 0, .int .u8 0, .int .u8 0, .int .u8 0, .int .u8 0, .int .u8 0, .int .u8 0, .int .u8 0, .int .u8 0, .int .u8 0, .int .u8 0, .int .u8 0, .int .u8 0, .int .u8 ((byt D36 ((((u / 2 ^ 4) / 2 ^ 4) / 2 ^ 4) / 2 ^ 4) : Nat) : Int), .int .u8 ((byt D36 ((((u / 2 ^ 4) / 2 ^ 4) / 2 ^ 4) % 16) : Nat) : Int), .int .u8 ((byt D36 (((u / 2 ^ 4) / 2 ^ 4) % 16) : Nat) : Int), .int .u8 ((byt D36 ((u / 2 ^ 4) % 16) : Nat) : Int), .int .u8 ((byt D36 (u % 16) : Nat) : Int)] := Row.congr r22 rfl
            refine WL.end ?_
            refine NE.code ?_
            iterate 2 refine CE.seq ?_
            refine CE.region ?_
            refine WL.det (op_move rfl) rfl rfl rfl ?_
            refine WL.end ?_
            refine NE.code ?_
            refine CE.cond_f rfl rfl ?_
            refine CE.skip' ?_
            refine NE.code ?_
            iterate 2 refine CE.seq ?_
            refine CE.region ?_
            refine WL.det (op_move rfl) rfl rfl rfl ?_
            refine WL.end ?_
            refine NE.code ?_
            refine CE.cond_f rfl rfl ?_
            refine CE.skip' ?_
            refine NE.code ?_
            refine CE.seq ?_
            refine CE.region ?_
            refine WL.det (op_move rfl) rfl rfl rfl ?_
            refine WL.det (op_arrLo (i := 60) (off' := 60) rfl rfl rfl Tryd.runUnderlying119 Tryd.sizeOf5 (by decide) rfl) rfl rfl rfl ?_
            refine WL.det (op_bytesStr (zs := [((byt D36 ((((u / 2 ^ 4) / 2 ^ 4) / 2 ^ 4) / 2 ^ 4) : Nat) : Int), ((byt D36 ((((u / 2 ^ 4) / 2 ^ 4) / 2 ^ 4) % 16) : Nat) : Int), ((byt D36 (((u / 2 ^ 4) / 2 ^ 4) % 16) : Nat) : Int), ((byt D36 ((u / 2 ^ 4) % 16) : Nat) : Int), ((byt D36 (u % 16) : Nat) : Int)]) rfl Tryd.underlying73 Tryd.underlying5 Tryd.underlying9 (r23.rng.drop 60) rfl) rfl rfl rfl ?_
            refine WL.det (op_assign rfl) rfl rfl rfl ?_
            refine WL.end ?_
            refine NE.code ?_
            refine CE.ret' ?_
            refine XE.leaveT Tryd.results77 (res_tmp rfl (res_tmp rfl res_nil)) ?_
            refine ⟨?_, (((((((((Mod.refl [] w).nt m1).nt m2).nt m3).then m4 ((aC (.inr lR) aN))).then m5 ((aC (.inr lR) aN))).then m6 ((aC (.inr lR) aN))).then m7 ((aC (.inr lR) aN))).then m14 ((aC (.inr lR) aN)))⟩
            all_goals first | (rw [hexM_lt (u := u) (by omega)]; rfl) | (rw [hexM_ge (u := u) (by omega), hexM_lt (u := u / 2 ^ 4) (by omega)]; rfl) | (rw [hexM_ge (u := u) (by omega), hexM_ge (u := u / 2 ^ 4) (by omega), hexM_lt (u := u / 2 ^ 4 / 2 ^ 4) (by omega)]; rfl) | (rw [hexM_ge (u := u) (by omega), hexM_ge (u := u / 2 ^ 4) (by omega), hexM_ge (u := u / 2 ^ 4 / 2 ^ 4) (by omega), hexM_lt (u := u / 2 ^ 4 / 2 ^ 4 / 2 ^ 4) (by omega)]; rfl) | (rw [hexM_ge (u := u) (by omega), hexM_ge (u := u / 2 ^ 4) (by omega), hexM_ge (u := u / 2 ^ 4 / 2 ^ 4) (by omega), hexM_ge (u := u / 2 ^ 4 / 2 ^ 4 / 2 ^ 4) (by omega), hexM_lt (u := u / 2 ^ 4 / 2 ^ 4 / 2 ^ 4 / 2 ^ 4) (by omega)]; rfl) | (rw [hexM_ge (u := u) (by omega), hexM_ge (u := u / 2 ^ 4) (by omega), hexM_ge (u := u / 2 ^ 4 / 2 ^ 4) (by omega), hexM_ge (u := u / 2 ^ 4 / 2 ^ 4 / 2 ^ 4) (by omega), hexM_ge (u := u / 2 ^ 4 / 2 ^ 4 / 2 ^ 4 / 2 ^ 4) (by omega), hexM_lt (u := u / 2 ^ 4 / 2 ^ 4 / 2 ^ 4 / 2 ^ 4 / 2 ^ 4) (by omega)]; rfl) | (rw [hexM_ge (u := u) (by omega), hexM_ge (u := u / 2 ^ 4) (by omega), hexM_ge (u := u / 2 ^ 4 / 2 ^ 4) (by omega), hexM_ge (u := u / 2 ^ 4 / 2 ^ 4 / 2 ^ 4) (by omega), hexM_ge (u := u / 2 ^ 4 / 2 ^ 4 / 2 ^ 4 / 2 ^ 4) (by omega), hexM_ge (u := u / 2 ^ 4 / 2 ^ 4 / 2 ^ 4 / 2 ^ 4 / 2 ^ 4) (by omega), hexM_lt (u := u / 2 ^ 4 / 2 ^ 4 / 2 ^ 4 / 2 ^ 4 / 2 ^ 4 / 2 ^ 4) (by omega)]; rfl) | (rw [hexM_ge (u := u) (by omega), hexM_ge (u := u / 2 ^ 4) (by omega), hexM_ge (u := u / 2 ^ 4 / 2 ^ 4) (by omega), hexM_ge (u := u / 2 ^ 4 / 2 ^ 4 / 2 ^ 4) (by omega), hexM_ge (u := u / 2 ^ 4 / 2 ^ 4 / 2 ^ 4 / 2 ^ 4) (by omega), hexM_ge (u := u / 2 ^ 4 / 2 ^ 4 / 2 ^ 4 / 2 ^ 4 / 2 ^ 4) (by omega), hexM_ge (u := u / 2 ^ 4 / 2 ^ 4 / 2 ^ 4 / 2 ^ 4 / 2 ^ 4 / 2 ^ 4) (by omega), hexM_lt (u := u / 2 ^ 4 / 2 ^ 4 / 2 ^ 4 / 2 ^ 4 / 2 ^ 4 / 2 ^ 4 / 2 ^ 4) (by omega)]; rfl)
        · have hp4 := of_decide_eq_false hb4
          refine CE.cond_f rfl hb4 ?_
          refine CE.exit' ?_
          iterate 2 refine XE.exit_then ?_
          refine XE.exit_here ?_
          refine NE.code ?_
          refine CE.seq ?_
          refine CE.region ?_
          refine WL.det (op_move rfl) rfl rfl rfl ?_
          refine WL.det (op_sub (r := 61) rfl rfl (by decide)) rfl rfl rfl ?_
          refine WL.det (op_assign rfl) rfl rfl rfl ?_
          refine WL.end ?_
          refine NE.code ?_
          refine CE.region ?_
          iterate 2 refine WL.det (op_move rfl) rfl rfl rfl ?_
          refine WL.det (op_byte (i := ((u / 2 ^ 4) / 2 ^ 4) / 2 ^ 4) rfl rfl rfl Tryd.runUnderlying9 (show ((u / 2 ^ 4) / 2 ^ 4) / 2 ^ 4 < 36 by omega)) rfl rfl rfl ?_
          refine WL.det (op_indexArr (off' := 61) rfl rfl Tryd.runUnderlying119 Tryd.sizeOf5 (by decide) (by decide) rfl) rfl rfl rfl ?_
          refine WL.op0 (op_store (i := 61) (cs := [.int .u8 ((byt D36 (((u / 2 ^ 4) / 2 ^ 4) / 2 ^ 4) : Nat) : Int)]) rfl rfl rfl Tryd.sizeOf5 rfl r7 rfl (lB rfl) rfl) rfl rfl ?_
          rintro _ w15 ⟨r24, m15, z13⟩
          have r25 : Row w15 w.heap.size 0 [.int .u8 0, .int .u8 0, .int .u8 0, .int .u8 0, .int .u8 0, .int .u8 0, .int .u8 0, .int .u8 0, .int .u8 0, .int .u8 0, .int .u8 0, .int .u8 0, .int .u8 0, .int .u8 0, .int .u8 0, .int .u8 0, .int .u8 0, .int .u8 0, .int .u8 0, .int .u8 0, .int .u8 0, .int .u8 0, .int .u8 0, .int .u8 0, .int .u8 0, .int .u8 0, .int .u8 0, .int .u8 0, .int .u8 0, .int .u8 0, .int .u8 0, .int .u8 0, .int .u8 0, .int .u8 0, .int .u8 0, .int .u8 0, .int .u8 0, .int .u8 0, .int .u8 0, .int .u8 0, .int .u8 0, .int .u8 0, .int .u8 0, .int .u8 0, .int .u8 0, .int .u8 0, .int .u8 0, .int .u8 0, .int .u8 0, .int .u8 0, .int .u8 0, .int .u8 0, .int .u8 0, .int .u8 0, .int .u8 0, .int .u8 0, .int .u8 0, .int .u8 0, .int .u8 0, .int .u8 0, .int .u8 0, .int .u8 ((byt D36 (((u / 2 ^ 4) / 2 ^ 4) / 2 ^ 4) : Nat) : Int), .int .u8 ((byt D36 (((u / 2 ^ 4) / 2 ^ 4) % 16) : Nat) : Int), .int .u8 ((byt D36 ((u / 2 ^ 4) % 16) : Nat) : Int), .int .u8 ((byt D36 (u % 16) : Nat) : Int)] := Row.congr r24 rfl
          refine WL.end ?_
          refine NE.code ?_
          iterate 2 refine CE.seq ?_
          refine CE.region ?_
          refine WL.det (op_move rfl) rfl rfl rfl ?_
          refine WL.end ?_
          refine NE.code ?_
          refine CE.cond_f rfl rfl ?_
          refine CE.skip' ?_
          refine NE.code ?_
          iterate 2 refine CE.seq ?_
          refine CE.region ?_
          refine WL.det (op_move rfl) rfl rfl rfl ?_
          refine WL.end ?_
          refine NE.code ?_
          refine CE.cond_f rfl rfl ?_
          refine CE.skip' ?_
          refine NE.code ?_
          refine CE.seq ?_
          refine CE.region ?_
          refine WL.det (op_move rfl) rfl rfl rfl ?_
          refine WL.det (op_arrLo (i := 61) (off' := 61) rfl rfl rfl Tryd.runUnderlying119 Tryd.sizeOf5 (by decide) rfl) rfl rfl rfl ?_
          refine WL.det (op_bytesStr (zs := [((byt D36 (((u / 2 ^ 4) / 2 ^ 4) / 2 ^ 4) : Nat) : Int), ((byt D36 (((u / 2 ^ 4) / 2 ^ 4) % 16) : Nat) : Int), ((byt D36 ((u / 2 ^ 4) % 16) : Nat) : Int), ((byt D36 (u % 16) : Nat) : Int)]) rfl Tryd.underlying73 Tryd.underlying5 Tryd.underlying9 (r25.rng.drop 61) rfl) rfl rfl rfl ?_
          refine WL.det (op_assign rfl) rfl rfl rfl ?_
          refine WL.end ?_
          refine NE.code ?_
          refine CE.ret' ?_
          refine XE.leaveT Tryd.results77 (res_tmp rfl (res_tmp rfl res_nil)) ?_
          refine ⟨?_, ((((((((Mod.refl [] w).nt m1).nt m2).nt m3).then m4 ((aC (.inr lR) aN))).then m5 ((aC (.inr lR) aN))).then m6 ((aC (.inr lR) aN))).then m15 ((aC (.inr lR) aN)))⟩
          all_goals first | (rw [hexM_lt (u := u) (by omega)]; rfl) | (rw [hexM_ge (u := u) (by omega), hexM_lt (u := u / 2 ^ 4) (by omega)]; rfl) | (rw [hexM_ge (u := u) (by omega), hexM_ge (u := u / 2 ^ 4) (by omega), hexM_lt (u := u / 2 ^ 4 / 2 ^ 4) (by omega)]; rfl) | (rw [hexM_ge (u := u) (by omega), hexM_ge (u := u / 2 ^ 4) (by omega), hexM_ge (u := u / 2 ^ 4 / 2 ^ 4) (by omega), hexM_lt (u := u / 2 ^ 4 / 2 ^ 4 / 2 ^ 4) (by omega)]; rfl) | (rw [hexM_ge (u := u) (by omega), hexM_ge (u := u / 2 ^ 4) (by omega), hexM_ge (u := u / 2 ^ 4 / 2 ^ 4) (by omega), hexM_ge (u := u / 2 ^ 4 / 2 ^ 4 / 2 ^ 4) (by omega), hexM_lt (u := u / 2 ^ 4 / 2 ^ 4 / 2 ^ 4 / 2 ^ 4) (by omega)]; rfl) | (rw [hexM_ge (u := u) (by omega), hexM_ge (u := u / 2 ^ 4) (by omega), hexM_ge (u := u / 2 ^ 4 / 2 ^ 4) (by omega), hexM_ge (u := u / 2 ^ 4 / 2 ^ 4 / 2 ^ 4) (by omega), hexM_ge (u := u / 2 ^ 4 / 2 ^ 4 / 2 ^ 4 / 2 ^ 4) (by omega), hexM_lt (u := u / 2 ^ 4 / 2 ^ 4 / 2 ^ 4 / 2 ^ 4 / 2 ^ 4) (by omega)]; rfl) | (rw [hexM_ge (u := u) (by omega), hexM_ge (u := u / 2 ^ 4) (by omega), hexM_ge (u := u / 2 ^ 4 / 2 ^ 4) (by omega), hexM_ge (u := u / 2 ^ 4 / 2 ^ 4 / 2 ^ 4) (by omega), hexM_ge (u := u / 2 ^ 4 / 2 ^ 4 / 2 ^ 4 / 2 ^ 4) (by omega), hexM_ge (u := u / 2 ^ 4 / 2 ^ 4 / 2 ^ 4 / 2 ^ 4 / 2 ^ 4) (by omega), hexM_lt (u := u / 2 ^ 4 / 2 ^ 4 / 2 ^ 4 / 2 ^ 4 / 2 ^ 4 / 2 ^ 4) (by omega)]; rfl) | (rw [hexM_ge (u := u) (by omega), hexM_ge (u := u / 2 ^ 4) (by omega), hexM_ge (u := u / 2 ^ 4 / 2 ^ 4) (by omega), hexM_ge (u := u / 2 ^ 4 / 2 ^ 4 / 2 ^ 4) (by omega), hexM_ge (u := u / 2 ^ 4 / 2 ^ 4 / 2 ^ 4 / 2 ^ 4) (by omega), hexM_ge (u := u / 2 ^ 4 / 2 ^ 4 / 2 ^ 4 / 2 ^ 4 / 2 ^ 4) (by omega), hexM_ge (u := u / 2 ^ 4 / 2 ^ 4 / 2 ^ 4 / 2 ^ 4 / 2 ^ 4 / 2 ^ 4) (by omega), hexM_lt (u := u / 2 ^ 4 / 2 ^ 4 / 2 ^ 4 / 2 ^ 4 / 2 ^ 4 / 2 ^ 4 / 2 ^ 4) (by omega)]; rfl)
      · have hp3 := of_decide_eq_false hb3
        refine CE.cond_f rfl hb3 ?_
        refine CE.exit' ?_
        iterate 2 refine XE.exit_then ?_
        refine XE.exit_here ?_
        refine NE.code ?_
        refine CE.seq ?_
        refine CE.region ?_
        refine WL.det (op_move rfl) rfl rfl rfl ?_
        refine WL.det (op_sub (r := 62) rfl rfl (by decide)) rfl rfl rfl ?_
        refine WL.det (op_assign rfl) rfl rfl rfl ?_
        refine WL.end ?_
        refine NE.code ?_
        refine CE.region ?_
        iterate 2 refine WL.det (op_move rfl) rfl rfl rfl ?_
        refine WL.det (op_byte (i := (u / 2 ^ 4) / 2 ^ 4) rfl rfl rfl Tryd.runUnderlying9 (show (u / 2 ^ 4) / 2 ^ 4 < 36 by omega)) rfl rfl rfl ?_
        refine WL.det (op_indexArr (off' := 62) rfl rfl Tryd.runUnderlying119 Tryd.sizeOf5 (by decide) (by decide) rfl) rfl rfl rfl ?_
        refine WL.op0 (op_store (i := 62) (cs := [.int .u8 ((byt D36 ((u / 2 ^ 4) / 2 ^ 4) : Nat) : Int)]) rfl rfl rfl Tryd.sizeOf5 rfl r5 rfl (lB rfl) rfl) rfl rfl ?_
        rintro _ w16 ⟨r26, m16, z14⟩
        have r27 : Row w16 w.heap.size 0 [.int .u8 0, .int .u8 0, .int .u8 0, .int .u8 0, .int .u8 0, .int .u8 0, .int .u8 0, .int .u8 0, .int .u8 0, .int .u8 0, .int .u8 0, .int .u8 0, .int .u8 0, .int .u8 0, .int .u8 0, .int .u8 0, .int .u8 0, .int .u8 0, .int .u8 0, .int .u8 0, .int .u8 0, .int .u8 0, .int .u8 0, .int .u8 0, .int .u8 0, .int .u8 0, .int .u8 0, .int .u8 0, .int .u8 0, .int .u8 0, .int .u8 0, .int .u8 0, .int .u8 0, .int .u8 0, .int .u8 0, .int .u8 0, .int .u8 0, .int .u8 0, .int .u8 0, .int .u8 0, .int .u8 0, .int .u8 0, .int .u8 0, .int .u8 0, .int .u8 0, .int .u8 0, .int .u8 0, .int .u8 0, .int .u8 0, .int .u8 0, .int .u8 0, .int .u8 0, .int .u8 0, .int .u8 0, .int .u8 0, .int .u8 0, .int .u8 0, .int .u8 0, .int .u8 0, .int .u8 0, .int .u8 0, .int .u8 0, .int .u8 ((byt D36 ((u / 2 ^ 4) / 2 ^ 4) : Nat) : Int), .int .u8 ((byt D36 ((u / 2 ^ 4) % 16) : Nat) : Int), .int .u8 ((byt D36 (u % 16) : Nat) : Int)] := Row.congr r26 rfl
        refine WL.end ?_
        refine NE.code ?_
        iterate 2 refine CE.seq ?_
        refine CE.region ?_
        refine WL.det (op_move rfl) rfl rfl rfl ?_
        refine WL.end ?_
        refine NE.code ?_
        refine CE.cond_f rfl rfl ?_
        refine CE.skip' ?_
        refine NE.code ?_
        iterate 2 refine CE.seq ?_
        refine CE.region ?_
        refine WL.det (op_move rfl) rfl rfl rfl ?_
        refine WL.end ?_
        refine NE.code ?_
        refine CE.cond_f rfl rfl ?_
        refine CE.skip' ?_
        refine NE.code ?_
        refine CE.seq ?_
        refine CE.region ?_
        refine WL.det (op_move rfl) rfl rfl rfl ?_
        refine WL.det (op_arrLo (i := 62) (off' := 62) rfl rfl rfl Tryd.runUnderlying119 Tryd.sizeOf5 (by decide) rfl) rfl rfl rfl ?_
        refine WL.det (op_bytesStr (zs := [((byt D36 ((u / 2 ^ 4) / 2 ^ 4) : Nat) : Int), ((byt D36 ((u / 2 ^ 4) % 16) : Nat) : Int), ((byt D36 (u % 16) : Nat) : Int)]) rfl Tryd.underlying73 Tryd.underlying5 Tryd.underlying9 (r27.rng.drop 62) rfl) rfl rfl rfl ?_
        refine WL.det (op_assign rfl) rfl rfl rfl ?_
        refine WL.end ?_
        refine NE.code ?_
        refine CE.ret' ?_
        refine XE.leaveT Tryd.results77 (res_tmp rfl (res_tmp rfl res_nil)) ?_
        refine ⟨?_, (((((((Mod.refl [] w).nt m1).nt m2).nt m3).then m4 ((aC (.inr lR) aN))).then m5 ((aC (.inr lR) aN))).then m16 ((aC (.inr lR) aN)))⟩
        all_goals first | (rw [hexM_lt (u := u) (by omega)]; rfl) | (rw [hexM_ge (u := u) (by omega), hexM_lt (u := u / 2 ^ 4) (by omega)]; rfl) | (rw [hexM_ge (u := u) (by omega), hexM_ge (u := u / 2 ^ 4) (by omega), hexM_lt (u := u / 2 ^ 4 / 2 ^ 4) (by omega)]; rfl) | (rw [hexM_ge (u := u) (by omega), hexM_ge (u := u / 2 ^ 4) (by omega), hexM_ge (u := u / 2 ^ 4 / 2 ^ 4) (by omega), hexM_lt (u := u / 2 ^ 4 / 2 ^ 4 / 2 ^ 4) (by omega)]; rfl) | (rw [hexM_ge (u := u) (by omega), hexM_ge (u := u / 2 ^ 4) (by omega), hexM_ge (u := u / 2 ^ 4 / 2 ^ 4) (by omega), hexM_ge (u := u / 2 ^ 4 / 2 ^ 4 / 2 ^ 4) (by omega), hexM_lt (u := u / 2 ^ 4 / 2 ^ 4 / 2 ^ 4 / 2 ^ 4) (by omega)]; rfl) | (rw [hexM_ge (u := u) (by omega), hexM_ge (u := u / 2 ^ 4) (by omega), hexM_ge (u := u / 2 ^ 4 / 2 ^ 4) (by omega), hexM_ge (u := u / 2 ^ 4 / 2 ^ 4 / 2 ^ 4) (by omega), hexM_ge (u := u / 2 ^ 4 / 2 ^ 4 / 2 ^ 4 / 2 ^ 4) (by omega), hexM_lt (u := u / 2 ^ 4 / 2 ^ 4 / 2 ^ 4 / 2 ^ 4 / 2 ^ 4) (by omega)]; rfl) | (rw [hexM_ge (u := u) (by omega), hexM_ge (u := u / 2 ^ 4) (by omega), hexM_ge (u := u / 2 ^ 4 / 2 ^ 4) (by omega), hexM_ge (u := u / 2 ^ 4 / 2 ^ 4 / 2 ^ 4) (by omega), hexM_ge (u := u / 2 ^ 4 / 2 ^ 4 / 2 ^ 4 / 2 ^ 4) (by omega), hexM_ge (u := u / 2 ^ 4 / 2 ^ 4 / 2 ^ 4 / 2 ^ 4 / 2 ^ 4) (by omega), hexM_lt (u := u / 2 ^ 4 / 2 ^ 4 / 2 ^ 4 / 2 ^ 4 / 2 ^ 4 / 2 ^ 4) (by omega)]; rfl) | (rw [hexM_ge (u := u) (by omega), hexM_ge (u := u / 2 ^ 4) (by omega), hexM_ge (u := u / 2 ^ 4 / 2 ^ 4) (by omega), hexM_ge (u := u / 2 ^ 4 / 2 ^ 4 / 2 ^ 4) (by omega), hexM_ge (u := u / 2 ^ 4 / 2 ^ 4 / 2 ^ 4 / 2 ^ 4) (by omega), hexM_ge (u := u / 2 ^ 4 / 2 ^ 4 / 2 ^ 4 / 2 ^ 4 / 2 ^ 4) (by omega), hexM_ge (u := u / 2 ^ 4 / 2 ^ 4 / 2 ^ 4 / 2 ^ 4 / 2 ^ 4 / 2 ^ 4) (by omega), hexM_lt (u := u / 2 ^ 4 / 2 ^ 4 / 2 ^ 4 / 2 ^ 4 / 2 ^ 4 / 2 ^ 4 / 2 ^ 4) (by omega)]; rfl)
    · have hp2 := of_decide_eq_false hb2
      refine CE.cond_f rfl hb2 ?_
      refine CE.exit' ?_
      iterate 2 refine XE.exit_then ?_
      refine XE.exit_here ?_
      refine NE.code ?_
      refine CE.seq ?_
      refine CE.region ?_
      refine WL.det (op_move rfl) rfl rfl rfl ?_
      refine WL.det (op_sub (r := 63) rfl rfl (by decide)) rfl rfl rfl ?_
      refine WL.det (op_assign rfl) rfl rfl rfl ?_
      refine WL.end ?_
      refine NE.code ?_
      refine CE.region ?_
      iterate 2 refine WL.det (op_move rfl) rfl rfl rfl ?_
      refine WL.det (op_byte (i := u / 2 ^ 4) rfl rfl rfl Tryd.runUnderlying9 (show u / 2 ^ 4 < 36 by omega)) rfl rfl rfl ?_
      refine WL.det (op_indexArr (off' := 63) rfl rfl Tryd.runUnderlying119 Tryd.sizeOf5 (by decide) (by decide) rfl) rfl rfl rfl ?_
      refine WL.op0 (op_store (i := 63) (cs := [.int .u8 ((byt D36 (u / 2 ^ 4) : Nat) : Int)]) rfl rfl rfl Tryd.sizeOf5 rfl r3 rfl (lB rfl) rfl) rfl rfl ?_
      rintro _ w17 ⟨r28, m17, z15⟩
      have r29 : Row w17 w.heap.size 0 [.int .u8 0, .int .u8 0, .int .u8 0, .int .u8 0, .int .u8 0, .int .u8 0, .int .u8 0, .int .u8 0, .int .u8 0, .int .u8 0, .int .u8 0, .int .u8 0, .int .u8 0, .int .u8 0, .int .u8 0, .int .u8 0, .int .u8 0, .int .u8 0, .int .u8 0, .int .u8 0, .int .u8 0, .int .u8 0, .int .u8 0, .int .u8 0, .int .u8 0, .int .u8 0, .int .u8 0, .int .u8 0, .int .u8 0, .int .u8 0, .int .u8 0, .int .u8 0, .int .u8 0, .int .u8 0, .int .u8 0, .int .u8 0, .int .u8 0, .int .u8 0, .int .u8 0, .int .u8 0, .int .u8 0, .int .u8 0, .int .u8 0, .int .u8 0, .int .u8 0, .int .u8 0, .int .u8 0, .int .u8 0, .int .u8 0, .int .u8 0, .int .u8 0, .int .u8 0, .int .u8 0, .int .u8 0, .int .u8 0, .int .u8 0, .int .u8 0, .int .u8 0, .int .u8 0, .int .u8 0, .int .u8 0, .int .u8 0, .int .u8 0, .int .u8 ((byt D36 (u / 2 ^ 4) : Nat) : Int), .int .u8 ((byt D36 (u % 16) : Nat) : Int)] := Row.congr r28 rfl
      refine WL.end ?_
      refine NE.code ?_
      iterate 2 refine CE.seq ?_
      refine CE.region ?_
      refine WL.det (op_move rfl) rfl rfl rfl ?_
      refine WL.end ?_
      refine NE.code ?_
      refine CE.cond_f rfl rfl ?_
      refine CE.skip' ?_
      refine NE.code ?_
      iterate 2 refine CE.seq ?_
      refine CE.region ?_
      refine WL.det (op_move rfl) rfl rfl rfl ?_
      refine WL.end ?_
      refine NE.code ?_
      refine CE.cond_f rfl rfl ?_
      refine CE.skip' ?_
      refine NE.code ?_
      refine CE.seq ?_
      refine CE.region ?_
      refine WL.det (op_move rfl) rfl rfl rfl ?_
      refine WL.det (op_arrLo (i := 63) (off' := 63) rfl rfl rfl Tryd.runUnderlying119 Tryd.sizeOf5 (by decide) rfl) rfl rfl rfl ?_
      refine WL.det (op_bytesStr (zs := [((byt D36 (u / 2 ^ 4) : Nat) : Int), ((byt D36 (u % 16) : Nat) : Int)]) rfl Tryd.underlying73 Tryd.underlying5 Tryd.underlying9 (r29.rng.drop 63) rfl) rfl rfl rfl ?_
      refine WL.det (op_assign rfl) rfl rfl rfl ?_
      refine WL.end ?_
      refine NE.code ?_
      refine CE.ret' ?_
      refine XE.leaveT Tryd.results77 (res_tmp rfl (res_tmp rfl res_nil)) ?_
      refine ⟨?_, ((((((Mod.refl [] w).nt m1).nt m2).nt m3).then m4 ((aC (.inr lR) aN))).then m17 ((aC (.inr lR) aN)))⟩
      all_goals first | (rw [hexM_lt (u := u) (by omega)]; rfl) | (rw [hexM_ge (u := u) (by omega), hexM_lt (u := u / 2 ^ 4) (by omega)]; rfl) | (rw [hexM_ge (u := u) (by omega), hexM_ge (u := u / 2 ^ 4) (by omega), hexM_lt (u := u / 2 ^ 4 / 2 ^ 4) (by omega)]; rfl) | (rw [hexM_ge (u := u) (by omega), hexM_ge (u := u / 2 ^ 4) (by omega), hexM_ge (u := u / 2 ^ 4 / 2 ^ 4) (by omega), hexM_lt (u := u / 2 ^ 4 / 2 ^ 4 / 2 ^ 4) (by omega)]; rfl) | (rw [hexM_ge (u := u) (by omega), hexM_ge (u := u / 2 ^ 4) (by omega), hexM_ge (u := u / 2 ^ 4 / 2 ^ 4) (by omega), hexM_ge (u := u / 2 ^ 4 / 2 ^ 4 / 2 ^ 4) (by omega), hexM_lt (u := u / 2 ^ 4 / 2 ^ 4 / 2 ^ 4 / 2 ^ 4) (by omega)]; rfl) | (rw [hexM_ge (u := u) (by omega), hexM_ge (u := u / 2 ^ 4) (by omega), hexM_ge (u := u / 2 ^ 4 / 2 ^ 4) (by omega), hexM_ge (u := u / 2 ^ 4 / 2 ^ 4 / 2 ^ 4) (by omega), hexM_ge (u := u / 2 ^ 4 / 2 ^ 4 / 2 ^ 4 / 2 ^ 4) (by omega), hexM_lt (u := u / 2 ^ 4 / 2 ^ 4 / 2 ^ 4 / 2 ^ 4 / 2 ^ 4) (by omega)]; rfl) | (rw [hexM_ge (u := u) (by omega), hexM_ge (u := u / 2 ^ 4) (by omega), hexM_ge (u := u / 2 ^ 4 / 2 ^ 4) (by omega), hexM_ge (u := u / 2 ^ 4 / 2 ^ 4 / 2 ^ 4) (by omega), hexM_ge (u := u / 2 ^ 4 / 2 ^ 4 / 2 ^ 4 / 2 ^ 4) (by omega), hexM_ge (u := u / 2 ^ 4 / 2 ^ 4 / 2 ^ 4 / 2 ^ 4 / 2 ^ 4) (by omega), hexM_lt (u := u / 2 ^ 4 / 2 ^ 4 / 2 ^ 4 / 2 ^ 4 / 2 ^ 4 / 2 ^ 4) (by omega)]; rfl) | (rw [hexM_ge (u := u) (by omega), hexM_ge (u := u / 2 ^ 4) (by omega), hexM_ge (u := u / 2 ^ 4 / 2 ^ 4) (by omega), hexM_ge (u := u / 2 ^ 4 / 2 ^ 4 / 2 ^ 4) (by omega), hexM_ge (u := u / 2 ^ 4 / 2 ^ 4 / 2 ^ 4 / 2 ^ 4) (by omega), hexM_ge (u := u / 2 ^ 4 / 2 ^ 4 / 2 ^ 4 / 2 ^ 4 / 2 ^ 4) (by omega), hexM_ge (u := u / 2 ^ 4 / 2 ^ 4 / 2 ^ 4 / 2 ^ 4 / 2 ^ 4 / 2 ^ 4) (by omega), hexM_lt (u := u / 2 ^ 4 / 2 ^ 4 / 2 ^ 4 / 2 ^ 4 / 2 ^ 4 / 2 ^ 4 / 2 ^ 4) (by omega)]; rfl)
  · have hp1 := of_decide_eq_false hb1
    refine CE.cond_f rfl hb1 ?_
    refine CE.exit' ?_
    iterate 2 refine XE.exit_then ?_
    refine XE.exit_here ?_
    refine NE.code ?_
    refine CE.seq ?_
    refine CE.region ?_
    refine WL.det (op_move rfl) rfl rfl rfl ?_
    refine WL.det (op_sub (r := 64) rfl rfl (by decide)) rfl rfl rfl ?_
    refine WL.det (op_assign rfl) rfl rfl rfl ?_
    refine WL.end ?_
    refine NE.code ?_
    refine CE.region ?_
    iterate 2 refine WL.det (op_move rfl) rfl rfl rfl ?_
    refine WL.det (op_byte (i := u) rfl rfl rfl Tryd.runUnderlying9 (show u < 36 by omega)) rfl rfl rfl ?_
    refine WL.det (op_indexArr (off' := 64) rfl rfl Tryd.runUnderlying119 Tryd.sizeOf5 (by decide) (by decide) rfl) rfl rfl rfl ?_
    refine WL.op0 (op_store (i := 64) (cs := [.int .u8 ((byt D36 u : Nat) : Int)]) rfl rfl rfl Tryd.sizeOf5 rfl ((r1.ext m2).ext m3) rfl (lB rfl) rfl) rfl rfl ?_
    rintro _ w18 ⟨r30, m18, z16⟩
    have r31 : Row w18 w.heap.size 0 [.int .u8 0, .int .u8 0, .int .u8 0, .int .u8 0, .int .u8 0, .int .u8 0, .int .u8 0, .int .u8 0, .int .u8 0, .int .u8 0, .int .u8 0, .int .u8 0, .int .u8 0, .int .u8 0, .int .u8 0, .int .u8 0, .int .u8 0, .int .u8 0, .int .u8 0, .int .u8 0, .int .u8 0, .int .u8 0, .int .u8 0, .int .u8 0, .int .u8 0, .int .u8 0, .int .u8 0, .int .u8 0, .int .u8 0, .int .u8 0, .int .u8 0, .int .u8 0, .int .u8 0, .int .u8 0, .int .u8 0, .int .u8 0, .int .u8 0, .int .u8 0, .int .u8 0, .int .u8 0, .int .u8 0, .int .u8 0, .int .u8 0, .int .u8 0, .int .u8 0, .int .u8 0, .int .u8 0, .int .u8 0, .int .u8 0, .int .u8 0, .int .u8 0, .int .u8 0, .int .u8 0, .int .u8 0, .int .u8 0, .int .u8 0, .int .u8 0, .int .u8 0, .int .u8 0, .int .u8 0, .int .u8 0, .int .u8 0, .int .u8 0, .int .u8 0, .int .u8 ((byt D36 u : Nat) : Int)] := Row.congr r30 rfl
    refine WL.end ?_
    refine NE.code ?_
    iterate 2 refine CE.seq ?_
    refine CE.region ?_
    refine WL.det (op_move rfl) rfl rfl rfl ?_
    refine WL.end ?_
    refine NE.code ?_
    refine CE.cond_f rfl rfl ?_
    refine CE.skip' ?_
    refine NE.code ?_
    iterate 2 refine CE.seq ?_
    refine CE.region ?_
    refine WL.det (op_move rfl) rfl rfl rfl ?_
    refine WL.end ?_
    refine NE.code ?_
    refine CE.cond_f rfl rfl ?_
    refine CE.skip' ?_
    refine NE.code ?_
    refine CE.seq ?_
    refine CE.region ?_
    refine WL.det (op_move rfl) rfl rfl rfl ?_
    refine WL.det (op_arrLo (i := 64) (off' := 64) rfl rfl rfl Tryd.runUnderlying119 Tryd.sizeOf5 (by decide) rfl) rfl rfl rfl ?_
    refine WL.det (op_bytesStr (zs := [((byt D36 u : Nat) : Int)]) rfl Tryd.underlying73 Tryd.underlying5 Tryd.underlying9 (r31.rng.drop 64) rfl) rfl rfl rfl ?_
    refine WL.det (op_assign rfl) rfl rfl rfl ?_
    refine WL.end ?_
    refine NE.code ?_
    refine CE.ret' ?_
    refine XE.leaveT Tryd.results77 (res_tmp rfl (res_tmp rfl res_nil)) ?_
    refine ⟨?_, (((((Mod.refl [] w).nt m1).nt m2).nt m3).then m18 ((aC (.inr lR) aN)))⟩
    all_goals first | (rw [hexM_lt (u := u) (by omega)]; rfl) | (rw [hexM_ge (u := u) (by omega), hexM_lt (u := u / 2 ^ 4) (by omega)]; rfl) | (rw [hexM_ge (u := u) (by omega), hexM_ge (u := u / 2 ^ 4) (by omega), hexM_lt (u := u / 2 ^ 4 / 2 ^ 4) (by omega)]; rfl) | (rw [hexM_ge (u := u) (by omega), hexM_ge (u := u / 2 ^ 4) (by omega), hexM_ge (u := u / 2 ^ 4 / 2 ^ 4) (by omega), hexM_lt (u := u / 2 ^ 4 / 2 ^ 4 / 2 ^ 4) (by omega)]; rfl) | (rw [hexM_ge (u := u) (by omega), hexM_ge (u := u / 2 ^ 4) (by omega), hexM_ge (u := u / 2 ^ 4 / 2 ^ 4) (by omega), hexM_ge (u := u / 2 ^ 4 / 2 ^ 4 / 2 ^ 4) (by omega), hexM_lt (u := u / 2 ^ 4 / 2 ^ 4 / 2 ^ 4 / 2 ^ 4) (by omega)]; rfl) | (rw [hexM_ge (u := u) (by omega), hexM_ge (u := u / 2 ^ 4) (by omega), hexM_ge (u := u / 2 ^ 4 / 2 ^ 4) (by omega), hexM_ge (u := u / 2 ^ 4 / 2 ^ 4 / 2 ^ 4) (by omega), hexM_ge (u := u / 2 ^ 4 / 2 ^ 4 / 2 ^ 4 / 2 ^ 4) (by omega), hexM_lt (u := u / 2 ^ 4 / 2 ^ 4 / 2 ^ 4 / 2 ^ 4 / 2 ^ 4) (by omega)]; rfl) | (rw [hexM_ge (u := u) (by omega), hexM_ge (u := u / 2 ^ 4) (by omega), hexM_ge (u := u / 2 ^ 4 / 2 ^ 4) (by omega), hexM_ge (u := u / 2 ^ 4 / 2 ^ 4 / 2 ^ 4) (by omega), hexM_ge (u := u / 2 ^ 4 / 2 ^ 4 / 2 ^ 4 / 2 ^ 4) (by omega), hexM_ge (u := u / 2 ^ 4 / 2 ^ 4 / 2 ^ 4 / 2 ^ 4 / 2 ^ 4) (by omega), hexM_lt (u := u / 2 ^ 4 / 2 ^ 4 / 2 ^ 4 / 2 ^ 4 / 2 ^ 4 / 2 ^ 4) (by omega)]; rfl) | (rw [hexM_ge (u := u) (by omega), hexM_ge (u := u / 2 ^ 4) (by omega), hexM_ge (u := u / 2 ^ 4 / 2 ^ 4) (by omega), hexM_ge (u := u / 2 ^ 4 / 2 ^ 4 / 2 ^ 4) (by omega), hexM_ge (u := u / 2 ^ 4 / 2 ^ 4 / 2 ^ 4 / 2 ^ 4) (by omega), hexM_ge (u := u / 2 ^ 4 / 2 ^ 4 / 2 ^ 4 / 2 ^ 4 / 2 ^ 4) (by omega), hexM_ge (u := u / 2 ^ 4 / 2 ^ 4 / 2 ^ 4 / 2 ^ 4 / 2 ^ 4 / 2 ^ 4) (by omega), hexM_lt (u := u / 2 ^ 4 / 2 ^ 4 / 2 ^ 4 / 2 ^ 4 / 2 ^ 4 / 2 ^ 4 / 2 ^ 4) (by omega)]; rfl)

set_option maxRecDepth 100000 in
set_option maxHeartbeats 2000000 in
theorem c_fUintI (u : Nat) (hu : u < 4294967296) (w : World) (T : LibT w LB 0 []) : Cl Tryd.prog 63 #[.int .u64 ((u : Nat) : Int), vI 16] w fun v w' => v = .string (mkS (hexM u)) ∧ Mod [] w w' := by
  refine Cl.of Tryd.func63 Tryd.ntmps63 rfl rfl (ρ := [(0, .int .u64 ((u : Nat) : Int)), (1, vI 16)]) rfl ?_
  refine CE.seq ?_
  refine CE.region ?_
  refine WL.det (op_assign rfl) rfl rfl rfl ?_
  refine WL.end ?_
  refine NE.code ?_
  iterate 2 refine CE.seq ?_
  refine CE.region ?_
  refine WL.det (op_move rfl) rfl rfl rfl ?_
  refine WL.det (op_eqi rfl rfl) rfl rfl rfl ?_
  refine WL.end ?_
  refine NE.code ?_
  refine CE.cond_f rfl rfl ?_
  refine CE.skip' ?_
  refine NE.code ?_
  refine CE.seq ?_
  refine CE.region ?_
  iterate 2 refine WL.det (op_move rfl) rfl rfl rfl ?_
  refine WL.call (oc_call (vs := [.slice none 0 0, .int .u64 ((u : Nat) : Int), vI 16, .bool false, .bool false]) (cap := []) rfl rfl rfl Tryd.call77 (c_fBits u (by first | assumption | omega) w T)) rfl rfl (ltb rfl) ?_
  rintro _ w1 ⟨rfl, m1⟩
  refine WL.det (op_move rfl) rfl rfl rfl ?_
  iterate 2 refine WL.det (op_extract rfl rfl) rfl rfl rfl ?_
  iterate 2 refine WL.det (op_assign rfl) rfl rfl rfl ?_
  refine WL.end ?_
  refine NE.code ?_
  refine CE.seq ?_
  refine CE.region ?_
  refine WL.det (op_move rfl) rfl rfl rfl ?_
  refine WL.det (op_assign rfl) rfl rfl rfl ?_
  refine WL.end ?_
  refine NE.code ?_
  refine CE.ret' ?_
  refine XE.leave1 Tryd.results63 rfl ?_
  refine ⟨rfl, ((Mod.refl [] w).nt m1)⟩

set_option maxRecDepth 100000 in
set_option maxHeartbeats 2000000 in
theorem c_fUint (u : Nat) (hu : u < 4294967296) (w : World) (T : LibT w LB 0 []) : Cl Tryd.prog 47 #[.int .u64 ((u : Nat) : Int), vI 16] w fun v w' => v = .string (mkS (hexM u)) ∧ Mod [] w w' := by
  refine Cl.of Tryd.func47 Tryd.ntmps47 rfl rfl (ρ := [(0, .int .u64 ((u : Nat) : Int)), (1, vI 16)]) rfl ?_
  refine CE.seq ?_
  refine CE.region ?_
  refine WL.det (op_assign rfl) rfl rfl rfl ?_
  refine WL.end ?_
  refine NE.code ?_
  refine CE.seq ?_
  refine CE.region ?_
  iterate 2 refine WL.det (op_move rfl) rfl rfl rfl ?_
  refine WL.call (oc_call (vs := [.int .u64 ((u : Nat) : Int), vI 16]) (cap := []) rfl rfl rfl Tryd.call63 (c_fUintI u (by first | assumption | omega) w T)) rfl rfl (ltb rfl) ?_
  rintro _ w1 ⟨rfl, m1⟩
  refine WL.det (op_assign rfl) rfl rfl rfl ?_
  refine WL.end ?_
  refine NE.code ?_
  refine CE.ret' ?_
  refine XE.leave1 Tryd.results47 rfl ?_
  refine ⟨rfl, ((Mod.refl [] w).nt m1)⟩

set_option maxRecDepth 100000 in
set_option maxHeartbeats 2000000 in
theorem c_bitsText (a : Nat) (x : Nat) (ha : cn .f32 a = cn .f32 x) (hx : cn .f32 x < 4294967296) (w : World) (T : LibT w LB 0 []) : Cl Tryd.prog 34 #[vF a] w fun v w' => v = .string (mkS (hexN 8 (cn .f32 x))) ∧ Mod [] w w' := by
  have hM := hexM_size hx
  refine Cl.of Tryd.func34 Tryd.ntmps34 rfl rfl (ρ := [(0, vF a)]) rfl ?_
  refine CE.seq ?_
  refine CE.region ?_
  refine WL.det (op_assign rfl) rfl rfl rfl ?_
  refine WL.end ?_
  refine NE.code ?_
  refine CE.seq ?_
  refine CE.region ?_
  refine WL.det (op_move rfl) rfl rfl rfl ?_
  refine WL.call (oc_call (vs := [vF a]) (cap := []) rfl rfl rfl Tryd.call39 (c_bitsOf a x ha w)) rfl rfl (ltb rfl) ?_
  rintro _ _ ⟨rfl, rfl⟩
  refine WL.det (op_cvt_ii (r := ((cn .f32 x : Nat) : Int)) rfl Tryd.runUnderlying50 Tryd.runUnderlying55 (w_u64 (by omega) (by omega))) rfl rfl rfl ?_
  refine WL.call (oc_call (vs := [.int .u64 ((cn .f32 x : Nat) : Int), vI 16]) (cap := []) rfl rfl rfl Tryd.call47 (c_fUint (cn .f32 x) (by first | assumption | omega) w T)) rfl rfl (ltb rfl) ?_
  rintro _ w1 ⟨rfl, m1⟩
  refine WL.det (op_assign rfl) rfl rfl rfl ?_
  refine WL.end ?_
  refine NE.code ?_
  refine CE.seq ?_
  refine CE.region ?_
  refine WL.det (op_move rfl) rfl rfl rfl ?_
  refine WL.det (op_lens rfl Tryd.runUnderlying9) rfl rfl rfl ?_
  refine WL.det (op_sub (r := ((8 - ((mkS (hexM (cn .f32 x))).size) : Nat) : Int)) rfl rfl (w_nsub (l := 8) (n := (mkS (hexM (cn .f32 x))).size) (by omega) (by omega))) rfl rfl rfl ?_
  refine WL.call (oc_call (vs := [.string (⟨#[48]⟩), vI ((8 - ((mkS (hexM (cn .f32 x))).size) : Nat) : Int)]) (cap := []) rfl rfl rfl Tryd.call48 (c_rep (8 - ((mkS (hexM (cn .f32 x))).size)) (by omega) w1)) rfl rfl (ltb rfl) ?_
  rintro _ w2 ⟨rfl, m2⟩
  refine WL.det (op_move rfl) rfl rfl rfl ?_
  refine WL.det (op_strAdd rfl rfl (by have := mkS_size (List.replicate (8 - ((mkS (hexM (cn .f32 x))).size)) 48); have := List.length_replicate (n := (8 - ((mkS (hexM (cn .f32 x))).size))) (a := (48 : UInt8)); have := mkS_size (hexM (cn .f32 x)); omega)) rfl rfl rfl ?_
  refine WL.det (op_assign rfl) rfl rfl rfl ?_
  refine WL.end ?_
  refine NE.code ?_
  refine CE.ret' ?_
  refine XE.leave1 Tryd.results34 rfl ?_
  refine ⟨?_, (((Mod.refl [] w).nt m1).nt m2)⟩
  all_goals exact congrArg Value.string (pad_mk hx)

set_option maxRecDepth 100000 in
set_option maxHeartbeats 2000000 in
theorem c_smpText (n : Nat) (c : Nat) (A : Option Addr) (b : Nat) (o : Nat) (xs : List Nat) (ln : xs.length = n) (hA : 0 < n → A = some ⟨b, o, none⟩) (hn : n ≤ 4096) (hw : W32 xs) (h0 : 0 < n) (w : World) (r : Rng w b o (fl xs)) (T : LibT w LB 0 []) : Cl Tryd.prog 25 #[.slice A n c] w fun v w' => v = .string (mkS (Lib.join (wordsL xs) [32])) ∧ Mod [] w w' := by
  refine Cl.of Tryd.func25 Tryd.ntmps25 rfl rfl (ρ := [(0, .slice A n c)]) rfl ?_
  refine CE.seq ?_
  refine CE.region ?_
  refine WL.det (op_assign rfl) rfl rfl rfl ?_
  refine WL.end ?_
  refine NE.code ?_
  refine CE.seq ?_
  refine CE.region ?_
  refine WL.det (op_assign rfl) rfl rfl rfl ?_
  refine WL.end ?_
  refine NE.code ?_
  iterate 2 refine CE.seq ?_
  refine CE.region ?_
  refine WL.det (op_move rfl) rfl rfl rfl ?_
  refine WL.det (op_len rfl Tryd.runUnderlying23) rfl rfl rfl ?_
  refine WL.det (op_move rfl) rfl rfl rfl ?_
  refine WL.end ?_
  refine NE.code ?_
  refine CE.block ?_
  refine CE.loop (fun (z : Nat × Option Addr × Nat) => [(8, vI ((z.1 : Nat) : Int)), (3, .slice z.2.1 z.1 z.2.2), (2, .string (⟨#[]⟩)), (6, .slice A n c), (7, vI ((n : Nat) : Int))]) (fun (z : Nat × Option Addr × Nat) => fun W => (z.1 ≤ n) ∧ Own 9 1 w.heap.size W z.2.1 z.1 z.2.2 (cat StrR.cells (strsL xs z.1)) ∧ Mod [] w W) (fun (z : Nat × Option Addr × Nat) => n - z.1) (0, none, 0) (⟨rfl, rfl, rfl, rfl, rfl, trivial⟩) ⟨(by omega), (Own.congr Own.nil (rfl)), Mod.refl _ _⟩ ?_
  rintro ⟨i, A2, cc⟩ w1 ⟨hi, ow1, m1⟩
  replace hi : i ≤ n := hi
  replace ow1 : Own 9 1 w.heap.size w1 A2 i cc (cat StrR.cells (strsL xs i)) := ow1
  show CE _ _ _ _ [(8, vI ((i : Nat) : Int)), (3, .slice A2 i cc), (2, .string (⟨#[]⟩)), (6, .slice A n c), (7, vI ((n : Nat) : Int))] _
  refine CE.seq ?_
  refine CE.region ?_
  refine WL.det (op_lti rfl rfl) rfl rfl rfl ?_
  refine WL.end ?_
  refine NE.code ?_
  refine CE.seq ?_
  rcases Bool.eq_false_or_eq_true (decide (((i : Nat) : Int) < ((n : Nat) : Int))) with hb1 | hb1
  · have hp1 := of_decide_eq_true hb1
    refine CE.cond_t rfl hb1 ?_
    refine CE.skip' ?_
    refine NE.code ?_
    refine CE.seq ?_
    refine CE.block ?_
    refine CE.seq ?_
    refine CE.region ?_
    refine WL.det (op_indexSl (off' := o + i) rfl (hA (by omega)) rfl Tryd.runUnderlying23 Tryd.sizeOf22 (by omega) (by omega) (by omega)) rfl rfl rfl ?_
    refine WL.det (op_load1 (i := i) rfl Tryd.isAgg22 (r.ext m1) rfl (fl_get (by have eL : List.length xs = n := ln; omega))) rfl rfl rfl ?_
    refine WL.det (op_assign rfl) rfl rfl rfl ?_
    refine WL.end ?_
    refine NE.code ?_
    refine CE.region ?_
    iterate 2 refine WL.det (op_move rfl) rfl rfl rfl ?_
    refine WL.call (oc_call (vs := [vF (xs.getD i 0)]) (cap := []) rfl rfl rfl Tryd.call34 (c_bitsText (xs.getD i 0) (xs.getD i 0) rfl (by first | assumption | exact cn_lt32 (W32.get hw _) | exact cn_lt32 (by assumption)) w1 (T.ext m1))) rfl rfl (ltb rfl) ?_
    rintro _ w2 ⟨rfl, m2⟩
    refine WL.op (op_buildSl (qs := [(0, .string (mkS (hexN 8 (cn .f32 (xs.getD i 0)))))]) (cells := #[.string (mkS (hexN 8 (cn .f32 (xs.getD i 0))))]) rfl Tryd.runUnderlying31 Tryd.sizeOf9 Tryd.zeroValue9 (by decide) (by decide) (by kernel_rfl)) rfl rfl (ltb rfl) ?_
    rintro _ w3 ⟨rfl, r1, m3, z1⟩
    have sz1 := (lT (lT m1.size m2.size) m3.size)
    refine WL.op (op_appW (i := Tryd.t9) (m := 1) (bt := 16) (news := [.string (mkS (hexN 8 (cn .f32 (xs.getD i 0))))]) rfl rfl Tryd.underlying31 rfl rfl rfl rfl rfl (by decide) r1.rng rfl rfl ow1 ((ow1.ext m2).ext m3) sz1 (by omega) (by decide)) rfl rfl (ltb rfl) ?_
    rintro _ w4 ⟨A1, c1, b1, rfl, ow2, ge1, hd1, m4⟩
    refine WL.det (op_assign rfl) rfl rfl rfl ?_
    refine WL.end ?_
    refine NE.blk ?_
    refine NE.code ?_
    refine CE.region ?_
    refine WL.det (op_add (r := ((i + 1 : Nat) : Int)) rfl rfl (w_i64 (by omega) (by omega))) rfl rfl rfl ?_
    refine WL.det (op_move rfl) rfl rfl rfl ?_
    refine WL.end ?_
    exact NE.again ((i + 1), A1, c1) (⟨rfl, rfl, rfl, rfl, rfl, trivial⟩) ⟨(by omega), (Own.congr ow2 ((strs_step ln (by omega)))), (((m1.nt m2).nt m3).then m4 ((aC (.inr ge1) aN)))⟩ (by first | (dsimp only; omega) | omega)
  · have hp1 := of_decide_eq_false hb1
    refine CE.cond_f rfl hb1 ?_
    refine CE.exit' ?_
    iterate 2 refine XE.exit_then ?_
    refine XE.exit_here ?_
    refine NE.code ?_
    refine CE.seq ?_
    refine CE.region ?_
    refine WL.det (op_move rfl) rfl rfl rfl ?_
    have hc1 := Own.cap ow1
    obtain ⟨b2, hA1, r2, ge2⟩ := Own.place ow1
    refine WL.call (oc_call (vs := [.slice A2 i cc, .string (⟨#[32]⟩)]) (cap := []) rfl rfl rfl Tryd.call40 (c_join i cc A2 b2 (strsL xs i) (strsL_len ln hi) hA1 (by omega) (by omega) (by omega) (by exact strs_join_le (by omega)) w1 r2)) rfl rfl (ltb rfl) ?_
    rintro _ w5 ⟨rfl, m5⟩
    refine WL.det (op_assign rfl) rfl rfl rfl ?_
    refine WL.end ?_
    refine NE.code ?_
    refine CE.ret' ?_
    refine XE.leave1 Tryd.results25 rfl ?_
    refine ⟨?_, (((Mod.refl [] w).nt m1).nt m5)⟩
    all_goals (have e9 : i = n := (by omega); subst e9; rw [strs_words, smp_all ln])

set_option maxRecDepth 100000 in
set_option maxHeartbeats 2000000 in
theorem c_insideI (a : Nat) (lo : Nat) (hi : Nat) (w : World) : Cl Tryd.prog 36 #[vF a, vF lo, vF hi] w fun v w' => v = .bool (fGe .f32 a lo && fLe .f32 a hi) ∧ w = w' := by
  refine Cl.of Tryd.func36 Tryd.ntmps36 rfl rfl (ρ := [(0, vF a), (1, vF lo), (2, vF hi)]) rfl ?_
  refine CE.seq ?_
  refine CE.region ?_
  refine WL.det (op_assign rfl) rfl rfl rfl ?_
  refine WL.end ?_
  refine NE.code ?_
  refine CE.seq ?_
  refine CE.region ?_
  iterate 2 refine WL.det (op_move rfl) rfl rfl rfl ?_
  refine WL.det (op_fge (c := fGe .f32 a lo) rfl rfl rfl rfl rfl) rfl rfl rfl ?_
  refine WL.det (op_move rfl) rfl rfl rfl ?_
  rcases Bool.eq_false_or_eq_true (fGe .f32 a lo) with hb1 | hb1
  · refine WL.yes rfl rfl rfl (ltb rfl) rfl hb1 ?_
    refine WL.det (op_move rfl) rfl rfl rfl ?_
    refine WL.yes rfl rfl rfl (ltb rfl) rfl hb1 ?_
    refine WL.det (op_move rfl) rfl rfl rfl ?_
    refine WL.yes rfl rfl rfl (ltb rfl) rfl hb1 ?_
    refine WL.det (op_fle (c := fLe .f32 a hi) rfl rfl rfl rfl rfl) rfl rfl rfl ?_
    refine WL.det (op_pick_t rfl hb1 rfl) rfl rfl rfl ?_
    refine WL.det (op_assign rfl) rfl rfl rfl ?_
    refine WL.end ?_
    refine NE.code ?_
    refine CE.ret' ?_
    refine XE.leave1 Tryd.results36 rfl ?_
    refine ⟨?_, rfl⟩
    all_goals simp_all
  · refine WL.no rfl rfl rfl (ltb rfl) rfl hb1 rfl (ltb rfl) ?_
    iterate 2 refine WL.no rfl rfl rfl (ltb rfl) rfl hb1 rfl (ltb rfl) ?_
    refine WL.det (op_pick_f rfl hb1 rfl) rfl rfl rfl ?_
    refine WL.det (op_assign rfl) rfl rfl rfl ?_
    refine WL.end ?_
    refine NE.code ?_
    refine CE.ret' ?_
    refine XE.leave1 Tryd.results36 rfl ?_
    refine ⟨?_, rfl⟩
    all_goals simp_all

set_option maxRecDepth 100000 in
set_option maxHeartbeats 2000000 in
theorem c_isBase (a : Nat) (w : World) : Cl Tryd.prog 35 #[vF a] w fun v w' => v = .bool (fGe .f32 a 1065353216 && fLe .f32 a 1184645120) ∧ Mod [] w w' := by
  refine Cl.of Tryd.func35 Tryd.ntmps35 rfl rfl (ρ := [(0, vF a)]) rfl ?_
  refine CE.seq ?_
  refine CE.region ?_
  refine WL.det (op_assign rfl) rfl rfl rfl ?_
  refine WL.end ?_
  refine NE.code ?_
  refine CE.seq ?_
  refine CE.region ?_
  refine WL.det (op_move rfl) rfl rfl rfl ?_
  refine WL.call (oc_call (vs := [vF a, vF 1065353216, vF 1184645120]) (cap := []) rfl rfl rfl Tryd.call36 (c_insideI a 1065353216 1184645120 w)) rfl rfl (ltb rfl) ?_
  rintro _ _ ⟨rfl, rfl⟩
  refine WL.det (op_assign rfl) rfl rfl rfl ?_
  refine WL.end ?_
  refine NE.code ?_
  refine CE.ret' ?_
  refine XE.leave1 Tryd.results35 rfl ?_
  refine ⟨rfl, (Mod.refl [] w)⟩

set_option maxRecDepth 100000 in
set_option maxHeartbeats 2000000 in
theorem c_l07Base (a : Nat) (w : World) : Cl Tryd.prog 20 #[vF a] w fun v w' => v = .bool (fGe .f32 a 1065353216 && fLe .f32 a 1184645120) ∧ Mod [] w w' := by
  refine Cl.of Tryd.func20 Tryd.ntmps20 rfl rfl (ρ := [(0, vF a)]) rfl ?_
  refine CE.seq ?_
  refine CE.region ?_
  refine WL.det (op_assign rfl) rfl rfl rfl ?_
  refine WL.end ?_
  refine NE.code ?_
  refine CE.seq ?_
  refine CE.region ?_
  refine WL.det (op_move rfl) rfl rfl rfl ?_
  refine WL.det (op_fge (c := fGe .f32 a 1065353216) rfl rfl rfl rfl rfl) rfl rfl rfl ?_
  refine WL.det (op_move rfl) rfl rfl rfl ?_
  rcases Bool.eq_false_or_eq_true (fGe .f32 a 1065353216) with hb1 | hb1
  · refine WL.yes rfl rfl rfl (ltb rfl) rfl hb1 ?_
    refine WL.det (op_move rfl) rfl rfl rfl ?_
    refine WL.yes rfl rfl rfl (ltb rfl) rfl hb1 ?_
    refine WL.det (op_fle (c := fLe .f32 a 1184645120) rfl rfl rfl rfl rfl) rfl rfl rfl ?_
    refine WL.det (op_pick_t rfl hb1 rfl) rfl rfl rfl ?_
    refine WL.det (op_assign rfl) rfl rfl rfl ?_
    refine WL.end ?_
    refine NE.code ?_
    refine CE.ret' ?_
    refine XE.leave1 Tryd.results20 rfl ?_
    refine ⟨?_, (Mod.refl [] w)⟩
    all_goals simp_all
  · refine WL.no rfl rfl rfl (ltb rfl) rfl hb1 rfl (ltb rfl) ?_
    refine WL.no rfl rfl rfl (ltb rfl) rfl hb1 rfl (ltb rfl) ?_
    refine WL.det (op_pick_f rfl hb1 rfl) rfl rfl rfl ?_
    refine WL.det (op_assign rfl) rfl rfl rfl ?_
    refine WL.end ?_
    refine NE.code ?_
    refine CE.ret' ?_
    refine XE.leave1 Tryd.results20 rfl ?_
    refine ⟨?_, (Mod.refl [] w)⟩
    all_goals simp_all

set_option maxRecDepth 100000 in
set_option maxHeartbeats 2000000 in
theorem c_iValidT (ba : Nat) (oc : Nat) (n : Nat) (c : Nat) (b : Nat) (o : Nat) (ds : List Nat) (ln : ds.length = n) (hn : n ≤ 1048576) (w : World) (r : Rng w b o (fl ds)) : Cl Tryd.prog 24 #[.agg #[vF ba, vF oc, vS b o n c]] w fun v w' => v = .bool (tunF ba oc ds n) ∧ Mod [] w w' := by
  refine Cl.of Tryd.func24 Tryd.ntmps24 rfl rfl (ρ := [(0, .agg #[vF ba, vF oc, vS b o n c])]) rfl ?_
  refine CE.seq ?_
  refine CE.region ?_
  refine WL.op (op_box (cs := [vF ba, vF oc, vS b o n c]) rfl rfl) rfl rfl (ltb rfl) ?_
  rintro _ w1 ⟨rfl, r1, m1, z1⟩
  refine WL.det (op_assign rfl) rfl rfl rfl ?_
  refine WL.end ?_
  refine NE.code ?_
  iterate 2 refine CE.seq ?_
  refine CE.region ?_
  refine WL.det (op_fieldAddr (off' := 0) rfl Tryd.runUnderlying25 rfl rfl Tryd.sizeOf22 rfl) rfl rfl rfl ?_
  refine WL.det (op_load1 (i := 0) rfl Tryd.isAgg22 r1.rng rfl rfl) rfl rfl rfl ?_
  refine WL.call (oc_call (vs := [vF ba]) (cap := []) rfl rfl rfl Tryd.call35 (c_isBase ba w1)) rfl rfl (ltb rfl) ?_
  rintro _ w2 ⟨rfl, m2⟩
  refine WL.det (op_not rfl) rfl rfl rfl ?_
  refine WL.det (op_move rfl) rfl rfl rfl ?_
  rcases Bool.eq_false_or_eq_true (fGe .f32 ba 1065353216 && fLe .f32 ba 1184645120) with hb1 | hb1
  · refine WL.yes rfl rfl rfl (ltb rfl) rfl (bnot_t hb1) ?_
    refine WL.det (op_fieldAddr (off' := 1) rfl Tryd.runUnderlying25 rfl rfl Tryd.sizeOf22 rfl) rfl rfl rfl ?_
    refine WL.yes rfl rfl rfl (ltb rfl) rfl (bnot_t hb1) ?_
    refine WL.det (op_load1 (i := 1) rfl Tryd.isAgg22 (r1.ext m2).rng rfl rfl) rfl rfl rfl ?_
    refine WL.yes rfl rfl rfl (ltb rfl) rfl (bnot_t hb1) ?_
    refine WL.call (oc_call (vs := [vF oc, vF 1065353216, vF 1167458304]) (cap := []) rfl rfl rfl Tryd.call36 (c_insideI oc 1065353216 1167458304 w2)) rfl rfl (ltb rfl) ?_
    rintro _ _ ⟨rfl, rfl⟩
    refine WL.yes rfl rfl rfl (ltb rfl) rfl (bnot_t hb1) ?_
    refine WL.det (op_not rfl) rfl rfl rfl ?_
    refine WL.det (op_pick_f rfl (bnot_t hb1) rfl) rfl rfl rfl ?_
    refine WL.det (op_move rfl) rfl rfl rfl ?_
    rcases Bool.eq_false_or_eq_true (fGe .f32 oc 1065353216 && fLe .f32 oc 1167458304) with hb2 | hb2
    · refine WL.yes rfl rfl rfl (ltb rfl) rfl (bnot_t hb2) ?_
      refine WL.det (op_fieldAddr (off' := 2) rfl Tryd.runUnderlying25 rfl rfl Tryd.sizeOf23 rfl) rfl rfl rfl ?_
      refine WL.yes rfl rfl rfl (ltb rfl) rfl (bnot_t hb2) ?_
      refine WL.det (op_load1 (i := 2) rfl Tryd.isAgg23 (r1.ext m2).rng rfl rfl) rfl rfl rfl ?_
      refine WL.yes rfl rfl rfl (ltb rfl) rfl (bnot_t hb2) ?_
      refine WL.call (oc_call (vs := [vS b o n c]) (cap := []) rfl rfl rfl Tryd.call38 (c_length32 n c (some ⟨b, o, none⟩) w2)) rfl rfl (ltb rfl) ?_
      rintro _ _ ⟨rfl, rfl⟩
      refine WL.yes rfl rfl rfl (ltb rfl) rfl (bnot_t hb2) ?_
      refine WL.call (oc_call (vs := [vI ((n : Nat) : Int), vI 1, vI 31]) (cap := []) rfl rfl rfl Tryd.call37 (c_within ((n : Nat) : Int) (1 : Int) (31 : Int) w2)) rfl rfl (ltb rfl) ?_
      rintro _ _ ⟨rfl, rfl⟩
      refine WL.yes rfl rfl rfl (ltb rfl) rfl (bnot_t hb2) ?_
      refine WL.det (op_not rfl) rfl rfl rfl ?_
      refine WL.det (op_pick_f rfl (bnot_t hb2) rfl) rfl rfl rfl ?_
      refine WL.det (op_move rfl) rfl rfl rfl ?_
      rcases Bool.eq_false_or_eq_true (vIn ((n : Nat) : Int) (1 : Int) (31 : Int)) with hb3 | hb3
      · have hp3 := hb3; try simp only [Bool.and_eq_true, Bool.or_eq_true, Bool.not_eq_true', Bool.not_eq_false', Bool.and_eq_false_iff, Bool.or_eq_false_iff, decide_eq_true_eq, decide_eq_false_iff_not, beq_iff_eq, bne_iff_ne, beq_eq_false_iff_ne, bne_eq_false_iff_eq, ne_eq, Bool.false_eq_true, not_false_eq_true, not_true_eq_false, vIn_t, vIn_f] at hp3
        refine WL.yes rfl rfl rfl (ltb rfl) rfl (bnot_t hb3) ?_
        refine WL.det (op_fieldAddr (off' := 2) rfl Tryd.runUnderlying25 rfl rfl Tryd.sizeOf23 rfl) rfl rfl rfl ?_
        refine WL.yes rfl rfl rfl (ltb rfl) rfl (bnot_t hb3) ?_
        refine WL.det (op_load1 (i := 2) rfl Tryd.isAgg23 (r1.ext m2).rng rfl rfl) rfl rfl rfl ?_
        refine WL.yes rfl rfl rfl (ltb rfl) rfl (bnot_t hb3) ?_
        refine WL.det (op_indexSl (off' := o) rfl rfl rfl Tryd.runUnderlying23 Tryd.sizeOf22 (by omega) (by omega) rfl) rfl rfl rfl ?_
        refine WL.yes rfl rfl rfl (ltb rfl) rfl (bnot_t hb3) ?_
        refine WL.det (op_load1 (i := 0) rfl Tryd.isAgg22 ((r.ext m1).ext m2) rfl (fl_get (by have eL : List.length ds = n := ln; omega))) rfl rfl rfl ?_
        refine WL.yes rfl rfl rfl (ltb rfl) rfl (bnot_t hb3) ?_
        refine WL.call (oc_call (vs := [vF (ds.getD 0 0)]) (cap := []) rfl rfl rfl Tryd.call39 (c_bitsOf (ds.getD 0 0) (ds.getD 0 0) rfl w2)) rfl rfl (ltb rfl) ?_
        rintro _ _ ⟨rfl, rfl⟩
        refine WL.yes rfl rfl rfl (ltb rfl) rfl (bnot_t hb3) ?_
        refine WL.det (op_nei rfl rfl) rfl rfl rfl ?_
        refine WL.det (op_pick_f rfl (bnot_t hb3) rfl) rfl rfl rfl ?_
        refine WL.end ?_
        refine NE.code ?_
        rcases Bool.eq_false_or_eq_true ((((cn .f32 (ds.getD 0 0) : Nat) : Int) != (0 : Int))) with hb4 | hb4
        · have hp4 := bne_iff_ne.1 hb4
          refine CE.cond_t rfl hb4 ?_
          refine CE.seq ?_
          refine CE.region ?_
          refine WL.det (op_assign rfl) rfl rfl rfl ?_
          refine WL.end ?_
          refine NE.code ?_
          refine CE.ret' ?_
          refine XE.ret_then ?_
          refine XE.leave1 Tryd.results24 rfl ?_
          refine ⟨?_, (((Mod.refl [] w).nt m1).nt m2)⟩
          all_goals first | exact congrArg Value.bool (tunF_f (by rintro ⟨a1, a2, a3, a4, a5, a6, a7⟩; first | omega | (simp_all; done) | (simp_all [cn_z]; done) | (rw [tunL_out (i := i) (by omega) (by simp_all)] at a7; cases a7))).symm | (have e9 : i = n := (by omega); subst e9; exact congrArg Value.bool (tunF_t (by assumption) (by simp_all) (by simp_all) (by omega) (by omega) (by first | omega | (rw [← cn_z]; assumption) | simp_all) hu).symm) | (have e7 := tunL_out (ds := ds) (oc := oc) (i := i) (n := n) (by omega) (by simp_all); simp [tunF, e7]; done) | (have e9 : i = n := (by omega); subst e9; simp_all [tunF]; done) | (simp_all [tunF]; done) | (simp_all [tunF]; omega)
        · have hp4 := bne_eq_false_iff_eq.1 hb4
          refine CE.cond_f rfl hb4 ?_
          refine CE.skip' ?_
          refine NE.code ?_
          iterate 2 refine CE.seq ?_
          refine CE.region ?_
          refine WL.det (op_fieldAddr (off' := 2) rfl Tryd.runUnderlying25 rfl rfl Tryd.sizeOf23 rfl) rfl rfl rfl ?_
          refine WL.det (op_load1 (i := 2) rfl Tryd.isAgg23 (r1.ext m2).rng rfl rfl) rfl rfl rfl ?_
          refine WL.det (op_len rfl Tryd.runUnderlying23) rfl rfl rfl ?_
          refine WL.det (op_move rfl) rfl rfl rfl ?_
          refine WL.end ?_
          refine NE.code ?_
          refine CE.block ?_
          refine CE.loop (fun (i : Nat) => [(33, vI ((i : Nat) : Int)), (1, vP w.heap.size 0), (2, .bool false), (31, vS b o n c), (32, vI ((n : Nat) : Int))]) (fun (i : Nat) => fun W => (i ≤ n) ∧ (tunL ds oc i = true) ∧ Mod [] w2 W) (fun (i : Nat) => n - i) 0 (⟨rfl, rfl, rfl, rfl, rfl, trivial⟩) ⟨(by omega), (by rfl), Mod.refl _ _⟩ ?_
          rintro i w3 ⟨hi, hu, m3⟩
          show CE _ _ _ _ [(33, vI ((i : Nat) : Int)), (1, vP w.heap.size 0), (2, .bool false), (31, vS b o n c), (32, vI ((n : Nat) : Int))] _
          refine CE.seq ?_
          refine CE.region ?_
          refine WL.det (op_lti rfl rfl) rfl rfl rfl ?_
          refine WL.end ?_
          refine NE.code ?_
          refine CE.seq ?_
          rcases Bool.eq_false_or_eq_true (decide (((i : Nat) : Int) < ((n : Nat) : Int))) with hb5 | hb5
          · have hp5 := of_decide_eq_true hb5
            refine CE.cond_t rfl hb5 ?_
            refine CE.skip' ?_
            refine NE.code ?_
            refine CE.seq ?_
            refine CE.block ?_
            refine CE.seq ?_
            refine CE.region ?_
            refine WL.det (op_move rfl) rfl rfl rfl ?_
            refine WL.det (op_indexSl (off' := o + i) rfl rfl rfl Tryd.runUnderlying23 Tryd.sizeOf22 (by omega) (by omega) (by omega)) rfl rfl rfl ?_
            have r2 := (((r.ext m1).ext m2).ext m3)
            refine WL.det (op_load1 (i := i) rfl Tryd.isAgg22 r2 rfl (fl_get (by have eL : List.length ds = n := ln; omega))) rfl rfl rfl ?_
            iterate 2 refine WL.det (op_assign rfl) rfl rfl rfl ?_
            refine WL.end ?_
            refine NE.code ?_
            refine CE.seq ?_
            refine CE.region ?_
            refine WL.det (op_move rfl) rfl rfl rfl ?_
            refine WL.det (op_fieldAddr (off' := 1) rfl Tryd.runUnderlying25 rfl rfl Tryd.sizeOf22 rfl) rfl rfl rfl ?_
            refine WL.det (op_load1 (i := 1) rfl Tryd.isAgg22 ((r1.ext m2).ext m3).rng rfl rfl) rfl rfl rfl ?_
            refine WL.det (op_flt (c := fLt .f32 (ds.getD i 0) oc) rfl rfl rfl rfl rfl) rfl rfl rfl ?_
            refine WL.det (op_not rfl) rfl rfl rfl ?_
            refine WL.det (op_move rfl) rfl rfl rfl ?_
            rcases Bool.eq_false_or_eq_true (fLt .f32 (ds.getD i 0) oc) with hb6 | hb6
            · refine WL.yes rfl rfl rfl (ltb rfl) rfl (bnot_t hb6) ?_
              refine WL.det (op_move rfl) rfl rfl rfl ?_
              refine WL.yes rfl rfl rfl (ltb rfl) rfl (bnot_t hb6) ?_
              refine WL.det (op_gti rfl rfl) rfl rfl rfl ?_
              refine WL.yes rfl rfl rfl (ltb rfl) rfl (bnot_t hb6) ?_
              refine WL.det (op_move rfl) rfl rfl rfl ?_
              rcases Bool.eq_false_or_eq_true (decide ((0 : Int) < ((i : Nat) : Int))) with hb7 | hb7
              · have hp7 := of_decide_eq_true hb7
                refine WL.yes rfl rfl rfl (ltb rfl) rfl hb7 ?_
                refine WL.det (op_move rfl) rfl rfl rfl ?_
                refine WL.yes rfl rfl rfl (ltb rfl) rfl hb7 ?_
                refine WL.det (op_fieldAddr (off' := 2) rfl Tryd.runUnderlying25 rfl rfl Tryd.sizeOf23 rfl) rfl rfl rfl ?_
                refine WL.yes rfl rfl rfl (ltb rfl) rfl hb7 ?_
                refine WL.det (op_load1 (i := 2) rfl Tryd.isAgg23 ((r1.ext m2).ext m3).rng rfl rfl) rfl rfl rfl ?_
                refine WL.yes rfl rfl rfl (ltb rfl) rfl hb7 ?_
                refine WL.det (op_move rfl) rfl rfl rfl ?_
                refine WL.yes rfl rfl rfl (ltb rfl) rfl hb7 ?_
                refine WL.det (op_sub (r := ((i - 1 : Nat) : Int)) rfl rfl (w_nsub (l := i) (n := 1) (by omega) (by omega))) rfl rfl rfl ?_
                refine WL.yes rfl rfl rfl (ltb rfl) rfl hb7 ?_
                refine WL.det (op_indexSl (off' := o + (i - 1)) rfl rfl rfl Tryd.runUnderlying23 Tryd.sizeOf22 (by omega) (by omega) (by omega)) rfl rfl rfl ?_
                refine WL.yes rfl rfl rfl (ltb rfl) rfl hb7 ?_
                refine WL.det (op_load1 (i := (i - 1)) rfl Tryd.isAgg22 r2 rfl (fl_get (by have eL : List.length ds = n := ln; omega))) rfl rfl rfl ?_
                refine WL.yes rfl rfl rfl (ltb rfl) rfl hb7 ?_
                refine WL.det (op_fgt (c := fGt .f32 (ds.getD i 0) (ds.getD (i - 1) 0)) rfl rfl rfl rfl rfl) rfl rfl rfl ?_
                refine WL.yes rfl rfl rfl (ltb rfl) rfl hb7 ?_
                refine WL.det (op_not rfl) rfl rfl rfl ?_
                refine WL.yes rfl rfl rfl (ltb rfl) rfl (bnot_t hb6) ?_
                refine WL.det (op_pick_t rfl hb7 rfl) rfl rfl rfl ?_
                refine WL.det (op_pick_f rfl (bnot_t hb6) rfl) rfl rfl rfl ?_
                refine WL.end ?_
                refine NE.code ?_
                rcases Bool.eq_false_or_eq_true (fGt .f32 (ds.getD i 0) (ds.getD (i - 1) 0)) with hb8 | hb8
                · refine CE.cond_f rfl (bnot_t hb8) ?_
                  refine CE.skip' ?_
                  refine NE.blk ?_
                  refine NE.code ?_
                  refine CE.region ?_
                  refine WL.det (op_add (r := ((i + 1 : Nat) : Int)) rfl rfl (w_i64 (by omega) (by omega))) rfl rfl rfl ?_
                  refine WL.det (op_move rfl) rfl rfl rfl ?_
                  refine WL.end ?_
                  exact NE.again (i + 1) (⟨rfl, rfl, rfl, rfl, rfl, trivial⟩) ⟨(by omega), (by simp_all [tunL]), m3⟩ (by first | (dsimp only; omega) | omega)
                · refine CE.cond_t rfl (bnot_f hb8) ?_
                  refine CE.seq ?_
                  refine CE.region ?_
                  refine WL.det (op_assign rfl) rfl rfl rfl ?_
                  refine WL.end ?_
                  refine NE.code ?_
                  refine CE.ret' ?_
                  refine XE.ret_blk ?_
                  iterate 2 refine XE.ret_then ?_
                  refine XE.ret_blk ?_
                  refine XE.ret_then ?_
                  refine XE.leave1 Tryd.results24 rfl ?_
                  refine ⟨?_, ((((Mod.refl [] w).nt m1).nt m2).nt m3)⟩
                  all_goals first | exact congrArg Value.bool (tunF_f (by rintro ⟨a1, a2, a3, a4, a5, a6, a7⟩; first | omega | (simp_all; done) | (simp_all [cn_z]; done) | (rw [tunL_out (i := i) (by omega) (by simp_all)] at a7; cases a7))).symm | (have e9 : i = n := (by omega); subst e9; exact congrArg Value.bool (tunF_t (by assumption) (by simp_all) (by simp_all) (by omega) (by omega) (by first | omega | (rw [← cn_z]; assumption) | simp_all) hu).symm) | (have e7 := tunL_out (ds := ds) (oc := oc) (i := i) (n := n) (by omega) (by simp_all); simp [tunF, e7]; done) | (have e9 : i = n := (by omega); subst e9; simp_all [tunF]; done) | (simp_all [tunF]; done) | (simp_all [tunF]; omega)
              · have hp7 := of_decide_eq_false hb7
                iterate 9 refine WL.no rfl rfl rfl (ltb rfl) rfl hb7 rfl (ltb rfl) ?_
                refine WL.yes rfl rfl rfl (ltb rfl) rfl (bnot_t hb6) ?_
                refine WL.det (op_pick_f rfl hb7 rfl) rfl rfl rfl ?_
                refine WL.det (op_pick_f rfl (bnot_t hb6) rfl) rfl rfl rfl ?_
                refine WL.end ?_
                refine NE.code ?_
                refine CE.cond_f rfl rfl ?_
                refine CE.skip' ?_
                refine NE.blk ?_
                refine NE.code ?_
                refine CE.region ?_
                refine WL.det (op_add (r := ((i + 1 : Nat) : Int)) rfl rfl (w_i64 (by omega) (by omega))) rfl rfl rfl ?_
                refine WL.det (op_move rfl) rfl rfl rfl ?_
                refine WL.end ?_
                exact NE.again (i + 1) (⟨rfl, rfl, rfl, rfl, rfl, trivial⟩) ⟨(by omega), (by simp_all [tunL]), m3⟩ (by first | (dsimp only; omega) | omega)
            · refine WL.no rfl rfl rfl (ltb rfl) rfl (bnot_f hb6) rfl (ltb rfl) ?_
              iterate 2 refine WL.no rfl rfl rfl (ltb rfl) rfl (bnot_f hb6) rfl (ltb rfl) ?_
              iterate 9 refine WL.nou rfl rfl rfl (ltb rfl) rfl rfl (ltb rfl) ?_
              refine WL.no rfl rfl rfl (ltb rfl) rfl (bnot_f hb6) rfl (ltb rfl) ?_
              refine WL.det (op_pick_t rfl (bnot_f hb6) rfl) rfl rfl rfl ?_
              refine WL.end ?_
              refine NE.code ?_
              refine CE.cond_t rfl rfl ?_
              refine CE.seq ?_
              refine CE.region ?_
              refine WL.det (op_assign rfl) rfl rfl rfl ?_
              refine WL.end ?_
              refine NE.code ?_
              refine CE.ret' ?_
              refine XE.ret_blk ?_
              iterate 2 refine XE.ret_then ?_
              refine XE.ret_blk ?_
              refine XE.ret_then ?_
              refine XE.leave1 Tryd.results24 rfl ?_
              refine ⟨?_, ((((Mod.refl [] w).nt m1).nt m2).nt m3)⟩
              all_goals first | exact congrArg Value.bool (tunF_f (by rintro ⟨a1, a2, a3, a4, a5, a6, a7⟩; first | omega | (simp_all; done) | (simp_all [cn_z]; done) | (rw [tunL_out (i := i) (by omega) (by simp_all)] at a7; cases a7))).symm | (have e9 : i = n := (by omega); subst e9; exact congrArg Value.bool (tunF_t (by assumption) (by simp_all) (by simp_all) (by omega) (by omega) (by first | omega | (rw [← cn_z]; assumption) | simp_all) hu).symm) | (have e7 := tunL_out (ds := ds) (oc := oc) (i := i) (n := n) (by omega) (by simp_all); simp [tunF, e7]; done) | (have e9 : i = n := (by omega); subst e9; simp_all [tunF]; done) | (simp_all [tunF]; done) | (simp_all [tunF]; omega)
          · have hp5 := of_decide_eq_false hb5
            refine CE.cond_f rfl hb5 ?_
            refine CE.exit' ?_
            iterate 2 refine XE.exit_then ?_
            refine XE.exit_here ?_
            refine NE.code ?_
            refine CE.seq ?_
            refine CE.region ?_
            refine WL.det (op_assign rfl) rfl rfl rfl ?_
            refine WL.end ?_
            refine NE.code ?_
            refine CE.ret' ?_
            refine XE.leave1 Tryd.results24 rfl ?_
            refine ⟨?_, ((((Mod.refl [] w).nt m1).nt m2).nt m3)⟩
            all_goals first | exact congrArg Value.bool (tunF_f (by rintro ⟨a1, a2, a3, a4, a5, a6, a7⟩; first | omega | (simp_all; done) | (simp_all [cn_z]; done) | (rw [tunL_out (i := i) (by omega) (by simp_all)] at a7; cases a7))).symm | (have e9 : i = n := (by omega); subst e9; exact congrArg Value.bool (tunF_t (by assumption) (by simp_all) (by simp_all) (by omega) (by omega) (by first | omega | (rw [← cn_z]; assumption) | simp_all) hu).symm) | (have e7 := tunL_out (ds := ds) (oc := oc) (i := i) (n := n) (by omega) (by simp_all); simp [tunF, e7]; done) | (have e9 : i = n := (by omega); subst e9; simp_all [tunF]; done) | (simp_all [tunF]; done) | (simp_all [tunF]; omega)
      · have hp3 := hb3; try simp only [Bool.and_eq_true, Bool.or_eq_true, Bool.not_eq_true', Bool.not_eq_false', Bool.and_eq_false_iff, Bool.or_eq_false_iff, decide_eq_true_eq, decide_eq_false_iff_not, beq_iff_eq, bne_iff_ne, beq_eq_false_iff_ne, bne_eq_false_iff_eq, ne_eq, Bool.false_eq_true, not_false_eq_true, not_true_eq_false, vIn_t, vIn_f] at hp3
        iterate 6 refine WL.no rfl rfl rfl (ltb rfl) rfl (bnot_f hb3) rfl (ltb rfl) ?_
        refine WL.det (op_pick_t rfl (bnot_f hb3) rfl) rfl rfl rfl ?_
        refine WL.end ?_
        refine NE.code ?_
        refine CE.cond_t rfl rfl ?_
        refine CE.seq ?_
        refine CE.region ?_
        refine WL.det (op_assign rfl) rfl rfl rfl ?_
        refine WL.end ?_
        refine NE.code ?_
        refine CE.ret' ?_
        refine XE.ret_then ?_
        refine XE.leave1 Tryd.results24 rfl ?_
        refine ⟨?_, (((Mod.refl [] w).nt m1).nt m2)⟩
        all_goals first | exact congrArg Value.bool (tunF_f (by rintro ⟨a1, a2, a3, a4, a5, a6, a7⟩; first | omega | (simp_all; done) | (simp_all [cn_z]; done) | (rw [tunL_out (i := i) (by omega) (by simp_all)] at a7; cases a7))).symm | (have e9 : i = n := (by omega); subst e9; exact congrArg Value.bool (tunF_t (by assumption) (by simp_all) (by simp_all) (by omega) (by omega) (by first | omega | (rw [← cn_z]; assumption) | simp_all) hu).symm) | (have e7 := tunL_out (ds := ds) (oc := oc) (i := i) (n := n) (by omega) (by simp_all); simp [tunF, e7]; done) | (have e9 : i = n := (by omega); subst e9; simp_all [tunF]; done) | (simp_all [tunF]; done) | (simp_all [tunF]; omega)
    · refine WL.no rfl rfl rfl (ltb rfl) rfl (bnot_f hb2) rfl (ltb rfl) ?_
      iterate 4 refine WL.no rfl rfl rfl (ltb rfl) rfl (bnot_f hb2) rfl (ltb rfl) ?_
      refine WL.det (op_pick_t rfl (bnot_f hb2) rfl) rfl rfl rfl ?_
      refine WL.det (op_move rfl) rfl rfl rfl ?_
      iterate 6 refine WL.no rfl rfl rfl (ltb rfl) rfl rfl rfl (ltb rfl) ?_
      refine WL.det (op_pick_t rfl rfl rfl) rfl rfl rfl ?_
      refine WL.end ?_
      refine NE.code ?_
      refine CE.cond_t rfl rfl ?_
      refine CE.seq ?_
      refine CE.region ?_
      refine WL.det (op_assign rfl) rfl rfl rfl ?_
      refine WL.end ?_
      refine NE.code ?_
      refine CE.ret' ?_
      refine XE.ret_then ?_
      refine XE.leave1 Tryd.results24 rfl ?_
      refine ⟨?_, (((Mod.refl [] w).nt m1).nt m2)⟩
      all_goals first | exact congrArg Value.bool (tunF_f (by rintro ⟨a1, a2, a3, a4, a5, a6, a7⟩; first | omega | (simp_all; done) | (simp_all [cn_z]; done) | (rw [tunL_out (i := i) (by omega) (by simp_all)] at a7; cases a7))).symm | (have e9 : i = n := (by omega); subst e9; exact congrArg Value.bool (tunF_t (by assumption) (by simp_all) (by simp_all) (by omega) (by omega) (by first | omega | (rw [← cn_z]; assumption) | simp_all) hu).symm) | (have e7 := tunL_out (ds := ds) (oc := oc) (i := i) (n := n) (by omega) (by simp_all); simp [tunF, e7]; done) | (have e9 : i = n := (by omega); subst e9; simp_all [tunF]; done) | (simp_all [tunF]; done) | (simp_all [tunF]; omega)
  · refine WL.no rfl rfl rfl (ltb rfl) rfl (bnot_f hb1) rfl (ltb rfl) ?_
    iterate 3 refine WL.no rfl rfl rfl (ltb rfl) rfl (bnot_f hb1) rfl (ltb rfl) ?_
    refine WL.det (op_pick_t rfl (bnot_f hb1) rfl) rfl rfl rfl ?_
    refine WL.det (op_move rfl) rfl rfl rfl ?_
    iterate 5 refine WL.no rfl rfl rfl (ltb rfl) rfl rfl rfl (ltb rfl) ?_
    refine WL.det (op_pick_t rfl rfl rfl) rfl rfl rfl ?_
    refine WL.det (op_move rfl) rfl rfl rfl ?_
    iterate 6 refine WL.no rfl rfl rfl (ltb rfl) rfl rfl rfl (ltb rfl) ?_
    refine WL.det (op_pick_t rfl rfl rfl) rfl rfl rfl ?_
    refine WL.end ?_
    refine NE.code ?_
    refine CE.cond_t rfl rfl ?_
    refine CE.seq ?_
    refine CE.region ?_
    refine WL.det (op_assign rfl) rfl rfl rfl ?_
    refine WL.end ?_
    refine NE.code ?_
    refine CE.ret' ?_
    refine XE.ret_then ?_
    refine XE.leave1 Tryd.results24 rfl ?_
    refine ⟨?_, (((Mod.refl [] w).nt m1).nt m2)⟩
    all_goals first | exact congrArg Value.bool (tunF_f (by rintro ⟨a1, a2, a3, a4, a5, a6, a7⟩; first | omega | (simp_all; done) | (simp_all [cn_z]; done) | (rw [tunL_out (i := i) (by omega) (by simp_all)] at a7; cases a7))).symm | (have e9 : i = n := (by omega); subst e9; exact congrArg Value.bool (tunF_t (by assumption) (by simp_all) (by simp_all) (by omega) (by omega) (by first | omega | (rw [← cn_z]; assumption) | simp_all) hu).symm) | (have e7 := tunL_out (ds := ds) (oc := oc) (i := i) (n := n) (by omega) (by simp_all); simp [tunF, e7]; done) | (have e9 : i = n := (by omega); subst e9; simp_all [tunF]; done) | (simp_all [tunF]; done) | (simp_all [tunF]; omega)

set_option maxRecDepth 100000 in
set_option maxHeartbeats 2000000 in
theorem c_l07Ok (ba : Nat) (oc : Nat) (n : Nat) (c : Nat) (b : Nat) (o : Nat) (ds : List Nat) (p : Nat) (ln : ds.length = n) (hn : n ≤ 1048576) (w : World) (q : Rng w p 0 [vF ba, vF oc, vS b o n c]) (r : Rng w b o (fl ds)) : Cl Tryd.prog 11 #[vP p 0] w fun v w' => v = .bool (tunF ba oc ds n) ∧ Mod [] w w' := by
  refine Cl.of Tryd.func11 Tryd.ntmps11 rfl rfl (ρ := [(0, vP p 0)]) rfl ?_
  refine CE.seq ?_
  refine CE.region ?_
  refine WL.det (op_assign rfl) rfl rfl rfl ?_
  refine WL.end ?_
  refine NE.code ?_
  refine CE.seq ?_
  refine CE.region ?_
  refine WL.det (op_move rfl) rfl rfl rfl ?_
  refine WL.det (op_nilCheck rfl) rfl rfl rfl ?_
  refine WL.det (op_fieldAddr (off' := 2) rfl Tryd.runUnderlying25 rfl rfl Tryd.sizeOf23 rfl) rfl rfl rfl ?_
  refine WL.det (op_load1 (i := 2) rfl Tryd.isAgg23 q rfl rfl) rfl rfl rfl ?_
  refine WL.det (op_len rfl Tryd.runUnderlying23) rfl rfl rfl ?_
  refine WL.det (op_assign rfl) rfl rfl rfl ?_
  refine WL.end ?_
  refine NE.code ?_
  iterate 2 refine CE.seq ?_
  refine CE.region ?_
  refine WL.det (op_move rfl) rfl rfl rfl ?_
  refine WL.det (op_nilCheck rfl) rfl rfl rfl ?_
  refine WL.det (op_fieldAddr (off' := 0) rfl Tryd.runUnderlying25 rfl rfl Tryd.sizeOf22 rfl) rfl rfl rfl ?_
  refine WL.det (op_load1 (i := 0) rfl Tryd.isAgg22 q rfl rfl) rfl rfl rfl ?_
  refine WL.call (oc_call (vs := [vF ba]) (cap := []) rfl rfl rfl Tryd.call20 (c_l07Base ba w)) rfl rfl (ltb rfl) ?_
  rintro _ w1 ⟨rfl, m1⟩
  refine WL.det (op_not rfl) rfl rfl rfl ?_
  refine WL.det (op_move rfl) rfl rfl rfl ?_
  rcases Bool.eq_false_or_eq_true (fGe .f32 ba 1065353216 && fLe .f32 ba 1184645120) with hb1 | hb1
  · refine WL.yes rfl rfl rfl (ltb rfl) rfl (bnot_t hb1) ?_
    refine WL.det (op_move rfl) rfl rfl rfl ?_
    refine WL.yes rfl rfl rfl (ltb rfl) rfl (bnot_t hb1) ?_
    refine WL.det (op_nilCheck rfl) rfl rfl rfl ?_
    refine WL.yes rfl rfl rfl (ltb rfl) rfl (bnot_t hb1) ?_
    refine WL.det (op_fieldAddr (off' := 1) rfl Tryd.runUnderlying25 rfl rfl Tryd.sizeOf22 rfl) rfl rfl rfl ?_
    refine WL.yes rfl rfl rfl (ltb rfl) rfl (bnot_t hb1) ?_
    refine WL.det (op_load1 (i := 1) rfl Tryd.isAgg22 (q.ext m1) rfl rfl) rfl rfl rfl ?_
    refine WL.yes rfl rfl rfl (ltb rfl) rfl (bnot_t hb1) ?_
    refine WL.det (op_fge (c := fGe .f32 oc 1065353216) rfl rfl rfl rfl rfl) rfl rfl rfl ?_
    refine WL.yes rfl rfl rfl (ltb rfl) rfl (bnot_t hb1) ?_
    refine WL.det (op_move rfl) rfl rfl rfl ?_
    rcases Bool.eq_false_or_eq_true (fGe .f32 oc 1065353216) with hb2 | hb2
    · refine WL.yes rfl rfl rfl (ltb rfl) rfl hb2 ?_
      refine WL.det (op_move rfl) rfl rfl rfl ?_
      refine WL.yes rfl rfl rfl (ltb rfl) rfl hb2 ?_
      refine WL.det (op_nilCheck rfl) rfl rfl rfl ?_
      refine WL.yes rfl rfl rfl (ltb rfl) rfl hb2 ?_
      refine WL.det (op_fieldAddr (off' := 1) rfl Tryd.runUnderlying25 rfl rfl Tryd.sizeOf22 rfl) rfl rfl rfl ?_
      refine WL.yes rfl rfl rfl (ltb rfl) rfl hb2 ?_
      refine WL.det (op_load1 (i := 1) rfl Tryd.isAgg22 (q.ext m1) rfl rfl) rfl rfl rfl ?_
      refine WL.yes rfl rfl rfl (ltb rfl) rfl hb2 ?_
      refine WL.det (op_fle (c := fLe .f32 oc 1167458304) rfl rfl rfl rfl rfl) rfl rfl rfl ?_
      refine WL.yes rfl rfl rfl (ltb rfl) rfl (bnot_t hb1) ?_
      refine WL.det (op_pick_t rfl hb2 rfl) rfl rfl rfl ?_
      refine WL.yes rfl rfl rfl (ltb rfl) rfl (bnot_t hb1) ?_
      refine WL.det (op_not rfl) rfl rfl rfl ?_
      refine WL.det (op_pick_f rfl (bnot_t hb1) rfl) rfl rfl rfl ?_
      refine WL.det (op_move rfl) rfl rfl rfl ?_
      rcases Bool.eq_false_or_eq_true (fLe .f32 oc 1167458304) with hb3 | hb3
      · refine WL.yes rfl rfl rfl (ltb rfl) rfl (bnot_t hb3) ?_
        refine WL.det (op_move rfl) rfl rfl rfl ?_
        refine WL.yes rfl rfl rfl (ltb rfl) rfl (bnot_t hb3) ?_
        refine WL.det (op_lti rfl rfl) rfl rfl rfl ?_
        refine WL.det (op_pick_f rfl (bnot_t hb3) rfl) rfl rfl rfl ?_
        refine WL.det (op_move rfl) rfl rfl rfl ?_
        rcases Bool.eq_false_or_eq_true (decide (((n : Nat) : Int) < (1 : Int))) with hb4 | hb4
        · have hp4 := of_decide_eq_true hb4
          iterate 2 refine WL.no rfl rfl rfl (ltb rfl) rfl hb4 rfl (ltb rfl) ?_
          refine WL.det (op_pick_t rfl hb4 rfl) rfl rfl rfl ?_
          refine WL.det (op_move rfl) rfl rfl rfl ?_
          iterate 8 refine WL.no rfl rfl rfl (ltb rfl) rfl rfl rfl (ltb rfl) ?_
          refine WL.det (op_pick_t rfl rfl rfl) rfl rfl rfl ?_
          refine WL.end ?_
          refine NE.code ?_
          refine CE.cond_t rfl rfl ?_
          refine CE.seq ?_
          refine CE.region ?_
          refine WL.det (op_assign rfl) rfl rfl rfl ?_
          refine WL.end ?_
          refine NE.code ?_
          refine CE.ret' ?_
          refine XE.ret_then ?_
          refine XE.leave1 Tryd.results11 rfl ?_
          refine ⟨?_, ((Mod.refl [] w).nt m1)⟩
          all_goals first | exact congrArg Value.bool (tunF_f (by rintro ⟨a1, a2, a3, a4, a5, a6, a7⟩; first | omega | (simp_all; done) | (simp_all [cn_z]; done) | (rw [tunL_out (i := i) (by omega) (by simp_all)] at a7; cases a7))).symm | (have e9 : i = n := (by omega); subst e9; exact congrArg Value.bool (tunF_t (by assumption) (by simp_all) (by simp_all) (by omega) (by omega) (by first | omega | (rw [← cn_z]; assumption) | simp_all) hu).symm) | (have e7 := tunL_out (ds := ds) (oc := oc) (i := i) (n := n) (by omega) (by simp_all); simp [tunF, e7]; done) | (have e9 : i = n := (by omega); subst e9; simp_all [tunF]; done) | (simp_all [tunF]; done) | (simp_all [tunF]; omega)
        · have hp4 := of_decide_eq_false hb4
          refine WL.yes rfl rfl rfl (ltb rfl) rfl hb4 ?_
          refine WL.det (op_move rfl) rfl rfl rfl ?_
          refine WL.yes rfl rfl rfl (ltb rfl) rfl hb4 ?_
          refine WL.det (op_gti rfl rfl) rfl rfl rfl ?_
          refine WL.det (op_pick_f rfl hb4 rfl) rfl rfl rfl ?_
          refine WL.det (op_move rfl) rfl rfl rfl ?_
          rcases Bool.eq_false_or_eq_true (decide ((31 : Int) < ((n : Nat) : Int))) with hb5 | hb5
          · have hp5 := of_decide_eq_true hb5
            iterate 8 refine WL.no rfl rfl rfl (ltb rfl) rfl hb5 rfl (ltb rfl) ?_
            refine WL.det (op_pick_t rfl hb5 rfl) rfl rfl rfl ?_
            refine WL.end ?_
            refine NE.code ?_
            refine CE.cond_t rfl rfl ?_
            refine CE.seq ?_
            refine CE.region ?_
            refine WL.det (op_assign rfl) rfl rfl rfl ?_
            refine WL.end ?_
            refine NE.code ?_
            refine CE.ret' ?_
            refine XE.ret_then ?_
            refine XE.leave1 Tryd.results11 rfl ?_
            refine ⟨?_, ((Mod.refl [] w).nt m1)⟩
            all_goals first | exact congrArg Value.bool (tunF_f (by rintro ⟨a1, a2, a3, a4, a5, a6, a7⟩; first | omega | (simp_all; done) | (simp_all [cn_z]; done) | (rw [tunL_out (i := i) (by omega) (by simp_all)] at a7; cases a7))).symm | (have e9 : i = n := (by omega); subst e9; exact congrArg Value.bool (tunF_t (by assumption) (by simp_all) (by simp_all) (by omega) (by omega) (by first | omega | (rw [← cn_z]; assumption) | simp_all) hu).symm) | (have e7 := tunL_out (ds := ds) (oc := oc) (i := i) (n := n) (by omega) (by simp_all); simp [tunF, e7]; done) | (have e9 : i = n := (by omega); subst e9; simp_all [tunF]; done) | (simp_all [tunF]; done) | (simp_all [tunF]; omega)
          · have hp5 := of_decide_eq_false hb5
            refine WL.yes rfl rfl rfl (ltb rfl) rfl hb5 ?_
            refine WL.det (op_move rfl) rfl rfl rfl ?_
            refine WL.yes rfl rfl rfl (ltb rfl) rfl hb5 ?_
            refine WL.det (op_nilCheck rfl) rfl rfl rfl ?_
            refine WL.yes rfl rfl rfl (ltb rfl) rfl hb5 ?_
            refine WL.det (op_fieldAddr (off' := 2) rfl Tryd.runUnderlying25 rfl rfl Tryd.sizeOf23 rfl) rfl rfl rfl ?_
            refine WL.yes rfl rfl rfl (ltb rfl) rfl hb5 ?_
            refine WL.det (op_load1 (i := 2) rfl Tryd.isAgg23 (q.ext m1) rfl rfl) rfl rfl rfl ?_
            refine WL.yes rfl rfl rfl (ltb rfl) rfl hb5 ?_
            refine WL.det (op_indexSl (off' := o) rfl rfl rfl Tryd.runUnderlying23 Tryd.sizeOf22 (by omega) (by omega) rfl) rfl rfl rfl ?_
            refine WL.yes rfl rfl rfl (ltb rfl) rfl hb5 ?_
            refine WL.det (op_load1 (i := 0) rfl Tryd.isAgg22 (r.ext m1) rfl (fl_get (by have eL : List.length ds = n := ln; omega))) rfl rfl rfl ?_
            refine WL.yes rfl rfl rfl (ltb rfl) rfl hb5 ?_
            refine WL.call (oc_call (vs := [vF (ds.getD 0 0), vF 0]) (cap := []) rfl rfl rfl Tryd.call21 (c_l01Same (ds.getD 0 0) (ds.getD 0 0) 0 0 rfl rfl w1)) rfl rfl (ltb rfl) ?_
            rintro _ _ ⟨rfl, rfl⟩
            refine WL.yes rfl rfl rfl (ltb rfl) rfl hb5 ?_
            refine WL.det (op_not rfl) rfl rfl rfl ?_
            refine WL.det (op_pick_f rfl hb5 rfl) rfl rfl rfl ?_
            refine WL.end ?_
            refine NE.code ?_
            rcases Bool.eq_false_or_eq_true (cn .f32 (ds.getD 0 0) == cn .f32 0) with hb6 | hb6
            · have hp6 := hb6; try simp only [Bool.and_eq_true, Bool.or_eq_true, Bool.not_eq_true', Bool.not_eq_false', Bool.and_eq_false_iff, Bool.or_eq_false_iff, decide_eq_true_eq, decide_eq_false_iff_not, beq_iff_eq, bne_iff_ne, beq_eq_false_iff_ne, bne_eq_false_iff_eq, ne_eq, Bool.false_eq_true, not_false_eq_true, not_true_eq_false, vIn_t, vIn_f] at hp6
              refine CE.cond_f rfl (bnot_t hb6) ?_
              refine CE.skip' ?_
              refine NE.code ?_
              iterate 2 refine CE.seq ?_
              refine CE.region ?_
              refine WL.det (op_assign rfl) rfl rfl rfl ?_
              refine WL.end ?_
              refine NE.code ?_
              refine CE.block ?_
              refine CE.loop (fun (i : Nat) => [(4, vI ((i : Nat) : Int)), (0, vP p 0), (2, .bool false), (3, vI ((n : Nat) : Int))]) (fun (i : Nat) => fun W => (i ≤ n) ∧ (tunL ds oc i = true) ∧ Mod [] w1 W) (fun (i : Nat) => n - i) 0 (⟨rfl, rfl, rfl, rfl, trivial⟩) ⟨(by omega), (by rfl), Mod.refl _ _⟩ ?_
              rintro i w2 ⟨hi, hu, m2⟩
              show CE _ _ _ _ [(4, vI ((i : Nat) : Int)), (0, vP p 0), (2, .bool false), (3, vI ((n : Nat) : Int))] _
              iterate 2 refine CE.seq ?_
              refine CE.region ?_
              iterate 2 refine WL.det (op_move rfl) rfl rfl rfl ?_
              refine WL.det (op_lti rfl rfl) rfl rfl rfl ?_
              refine WL.end ?_
              refine NE.code ?_
              rcases Bool.eq_false_or_eq_true (decide (((i : Nat) : Int) < ((n : Nat) : Int))) with hb7 | hb7
              · have hp7 := of_decide_eq_true hb7
                refine CE.cond_t rfl hb7 ?_
                refine CE.skip' ?_
                refine NE.code ?_
                refine CE.seq ?_
                refine CE.block ?_
                refine CE.seq ?_
                rcases Bool.eq_false_or_eq_true (decide ((0 : Int) < ((i : Nat) : Int))) with hb8 | hb8
                · have hp8 := of_decide_eq_true hb8
                  rcases Bool.eq_false_or_eq_true (fGt .f32 (ds.getD i 0) (ds.getD (i - 1) 0)) with hb9 | hb9
                  · refine CE.draw (fun _ => none) [0, 1, 2, 3, 4, 5, 6, 7, 8, 9, 10, 11, 12, 13, 14, 15, 16, 17, 18, 19, 20, 21, 22, 23, 24, 25, 26, 27, 28, 29, 30, 31, 32] [33, 34, 35] [] (by kernel_rfl) (by kernel_rfl) ?_
                    have md1 : Mod [] w2 w2.drew := (Mod.refl _ _).drew
                    generalize w2.drew = w3 at md1 ⊢
                    refine DR.det (i := 0) rfl rfl (by kernel_rfl) (.free rfl) rfl rfl (fun wD mD => op_move rfl) ?_
                    refine DR.det (i := 1) rfl rfl (by kernel_rfl) (.free rfl) rfl rfl (fun wD mD => op_gti rfl rfl) ?_
                    refine DR.det (i := 2) rfl rfl (by kernel_rfl) (.free rfl) rfl rfl (fun wD mD => op_move rfl) ?_
                    refine DR.det (i := 3) rfl rfl (by kernel_rfl) (.yes rfl rfl rfl (ltb rfl) rfl hb8) rfl rfl (fun wD mD => op_move rfl) ?_
                    refine DR.det (i := 4) rfl rfl (by kernel_rfl) (.yes rfl rfl rfl (ltb rfl) rfl hb8) rfl rfl (fun wD mD => op_nilCheck rfl) ?_
                    refine DR.det (i := 5) rfl rfl (by kernel_rfl) (.yes rfl rfl rfl (ltb rfl) rfl hb8) rfl rfl (fun wD mD => op_fieldAddr (off' := 2) rfl Tryd.runUnderlying25 rfl rfl Tryd.sizeOf23 rfl) ?_
                    refine DR.det (i := 6) rfl rfl (by kernel_rfl) (.yes rfl rfl rfl (ltb rfl) rfl hb8) rfl rfl (fun wD mD => op_load1 (i := 2) rfl Tryd.isAgg23 ((((q.ext m1).ext m2).ext md1).ext mD) rfl rfl) ?_
                    refine DR.det (i := 7) rfl rfl (by kernel_rfl) (.yes rfl rfl rfl (ltb rfl) rfl hb8) rfl rfl (fun wD mD => op_move rfl) ?_
                    refine DR.det (i := 8) rfl rfl (by kernel_rfl) (.yes rfl rfl rfl (ltb rfl) rfl hb8) rfl rfl (fun wD mD => op_indexSl (off' := o + i) rfl rfl rfl Tryd.runUnderlying23 Tryd.sizeOf22 (by omega) (by omega) (by omega)) ?_
                    refine DR.det (i := 9) rfl rfl (by kernel_rfl) (.yes rfl rfl rfl (ltb rfl) rfl hb8) rfl rfl (fun wD mD => op_load1 (i := i) rfl Tryd.isAgg22 ((((r.ext m1).ext m2).ext md1).ext mD) rfl (fl_get (by have eL : List.length ds = n := ln; omega))) ?_
                    refine DR.det (i := 10) rfl rfl (by kernel_rfl) (.yes rfl rfl rfl (ltb rfl) rfl hb8) rfl rfl (fun wD mD => op_move rfl) ?_
                    refine DR.det (i := 11) rfl rfl (by kernel_rfl) (.yes rfl rfl rfl (ltb rfl) rfl hb8) rfl rfl (fun wD mD => op_nilCheck rfl) ?_
                    refine DR.det (i := 12) rfl rfl (by kernel_rfl) (.yes rfl rfl rfl (ltb rfl) rfl hb8) rfl rfl (fun wD mD => op_fieldAddr (off' := 2) rfl Tryd.runUnderlying25 rfl rfl Tryd.sizeOf23 rfl) ?_
                    refine DR.det (i := 13) rfl rfl (by kernel_rfl) (.yes rfl rfl rfl (ltb rfl) rfl hb8) rfl rfl (fun wD mD => op_load1 (i := 2) rfl Tryd.isAgg23 ((((q.ext m1).ext m2).ext md1).ext mD) rfl rfl) ?_
                    refine DR.det (i := 14) rfl rfl (by kernel_rfl) (.yes rfl rfl rfl (ltb rfl) rfl hb8) rfl rfl (fun wD mD => op_move rfl) ?_
                    refine DR.det (i := 15) rfl rfl (by kernel_rfl) (.yes rfl rfl rfl (ltb rfl) rfl hb8) rfl rfl (fun wD mD => op_sub (r := ((i - 1 : Nat) : Int)) rfl rfl (w_nsub (l := i) (n := 1) (by omega) (by omega))) ?_
                    refine DR.det (i := 16) rfl rfl (by kernel_rfl) (.yes rfl rfl rfl (ltb rfl) rfl hb8) rfl rfl (fun wD mD => op_indexSl (off' := o + (i - 1)) rfl rfl rfl Tryd.runUnderlying23 Tryd.sizeOf22 (by omega) (by omega) (by omega)) ?_
                    refine DR.det (i := 17) rfl rfl (by kernel_rfl) (.yes rfl rfl rfl (ltb rfl) rfl hb8) rfl rfl (fun wD mD => op_load1 (i := (i - 1)) rfl Tryd.isAgg22 ((((r.ext m1).ext m2).ext md1).ext mD) rfl (fl_get (by have eL : List.length ds = n := ln; omega))) ?_
                    refine DR.det (i := 18) rfl rfl (by kernel_rfl) (.yes rfl rfl rfl (ltb rfl) rfl hb8) rfl rfl (fun wD mD => op_fgt (c := fGt .f32 (ds.getD i 0) (ds.getD (i - 1) 0)) rfl rfl rfl rfl rfl) ?_
                    refine DR.det (i := 19) rfl rfl (by kernel_rfl) (.yes rfl rfl rfl (ltb rfl) rfl hb8) rfl rfl (fun wD mD => op_not rfl) ?_
                    refine DR.det (i := 20) rfl rfl (by kernel_rfl) (.free rfl) rfl rfl (fun wD mD => op_pick_t rfl hb8 rfl) ?_
                    refine DR.det (i := 21) rfl rfl (by kernel_rfl) (.free rfl) rfl rfl (fun wD mD => op_move rfl) ?_
                    refine DR.det (i := 22) rfl rfl (by kernel_rfl) (.yes rfl rfl rfl (ltb rfl) rfl (bnot_t hb9)) rfl rfl (fun wD mD => op_move rfl) ?_
                    refine DR.det (i := 23) rfl rfl (by kernel_rfl) (.yes rfl rfl rfl (ltb rfl) rfl (bnot_t hb9)) rfl rfl (fun wD mD => op_nilCheck rfl) ?_
                    refine DR.det (i := 24) rfl rfl (by kernel_rfl) (.yes rfl rfl rfl (ltb rfl) rfl (bnot_t hb9)) rfl rfl (fun wD mD => op_fieldAddr (off' := 2) rfl Tryd.runUnderlying25 rfl rfl Tryd.sizeOf23 rfl) ?_
                    refine DR.det (i := 25) rfl rfl (by kernel_rfl) (.yes rfl rfl rfl (ltb rfl) rfl (bnot_t hb9)) rfl rfl (fun wD mD => op_load1 (i := 2) rfl Tryd.isAgg23 ((((q.ext m1).ext m2).ext md1).ext mD) rfl rfl) ?_
                    refine DR.det (i := 26) rfl rfl (by kernel_rfl) (.yes rfl rfl rfl (ltb rfl) rfl (bnot_t hb9)) rfl rfl (fun wD mD => op_move rfl) ?_
                    refine DR.det (i := 27) rfl rfl (by kernel_rfl) (.yes rfl rfl rfl (ltb rfl) rfl (bnot_t hb9)) rfl rfl (fun wD mD => op_indexSl (off' := o + i) rfl rfl rfl Tryd.runUnderlying23 Tryd.sizeOf22 (by omega) (by omega) (by omega)) ?_
                    refine DR.det (i := 28) rfl rfl (by kernel_rfl) (.yes rfl rfl rfl (ltb rfl) rfl (bnot_t hb9)) rfl rfl (fun wD mD => op_load1 (i := i) rfl Tryd.isAgg22 ((((r.ext m1).ext m2).ext md1).ext mD) rfl (fl_get (by have eL : List.length ds = n := ln; omega))) ?_
                    refine DR.det (i := 29) rfl rfl (by kernel_rfl) (.yes rfl rfl rfl (ltb rfl) rfl (bnot_t hb9)) rfl rfl (fun wD mD => op_move rfl) ?_
                    refine DR.det (i := 30) rfl rfl (by kernel_rfl) (.yes rfl rfl rfl (ltb rfl) rfl (bnot_t hb9)) rfl rfl (fun wD mD => op_nilCheck rfl) ?_
                    refine DR.det (i := 31) rfl rfl (by kernel_rfl) (.yes rfl rfl rfl (ltb rfl) rfl (bnot_t hb9)) rfl rfl (fun wD mD => op_fieldAddr (off' := 1) rfl Tryd.runUnderlying25 rfl rfl Tryd.sizeOf22 rfl) ?_
                    refine DR.det (i := 32) rfl rfl (by kernel_rfl) (.yes rfl rfl rfl (ltb rfl) rfl (bnot_t hb9)) rfl rfl (fun wD mD => op_load1 (i := 1) rfl Tryd.isAgg22 ((((q.ext m1).ext m2).ext md1).ext mD) rfl rfl) ?_
                    refine DR.done rfl ?_
                    intro w4 m3
                    refine WO.det (op_flt (c := fLt .f32 (ds.getD i 0) oc) rfl rfl rfl rfl rfl) rfl (.yes rfl rfl rfl (ltb rfl) rfl (bnot_t hb9)) rfl rfl ?_
                    refine WO.det (op_not rfl) rfl (.yes rfl rfl rfl (ltb rfl) rfl (bnot_t hb9)) rfl rfl ?_
                    refine WO.det (op_pick_f rfl (bnot_t hb9) rfl) rfl (.free rfl) rfl rfl ?_
                    refine WO.end ?_
                    refine NE.code ?_
                    rcases Bool.eq_false_or_eq_true (fLt .f32 (ds.getD i 0) oc) with hb10 | hb10
                    · refine CE.cond_f rfl (bnot_t hb10) ?_
                      refine CE.skip' ?_
                      refine NE.blk ?_
                      refine NE.code ?_
                      refine CE.region ?_
                      refine WL.det (op_move rfl) rfl rfl rfl ?_
                      refine WL.det (op_add (r := ((i + 1 : Nat) : Int)) rfl rfl (w_i64 (by omega) (by omega))) rfl rfl rfl ?_
                      refine WL.det (op_assign rfl) rfl rfl rfl ?_
                      refine WL.end ?_
                      exact NE.again (i + 1) (⟨rfl, rfl, rfl, rfl, trivial⟩) ⟨(by omega), (by simp_all [tunL]), ((m2.nt md1).nt m3)⟩ (by first | (dsimp only; omega) | omega)
                    · refine CE.cond_t rfl (bnot_f hb10) ?_
                      refine CE.seq ?_
                      refine CE.region ?_
                      refine WL.det (op_assign rfl) rfl rfl rfl ?_
                      refine WL.end ?_
                      refine NE.code ?_
                      refine CE.ret' ?_
                      refine XE.ret_blk ?_
                      iterate 2 refine XE.ret_then ?_
                      refine XE.ret_blk ?_
                      refine XE.ret_then ?_
                      refine XE.leave1 Tryd.results11 rfl ?_
                      refine ⟨?_, (((((Mod.refl [] w).nt m1).nt m2).nt md1).nt m3)⟩
                      all_goals first | exact congrArg Value.bool (tunF_f (by rintro ⟨a1, a2, a3, a4, a5, a6, a7⟩; first | omega | (simp_all; done) | (simp_all [cn_z]; done) | (rw [tunL_out (i := i) (by omega) (by simp_all)] at a7; cases a7))).symm | (have e9 : i = n := (by omega); subst e9; exact congrArg Value.bool (tunF_t (by assumption) (by simp_all) (by simp_all) (by omega) (by omega) (by first | omega | (rw [← cn_z]; assumption) | simp_all) hu).symm) | (have e7 := tunL_out (ds := ds) (oc := oc) (i := i) (n := n) (by omega) (by simp_all); simp [tunF, e7]; done) | (have e9 : i = n := (by omega); subst e9; simp_all [tunF]; done) | (simp_all [tunF]; done) | (simp_all [tunF]; omega)
                  · refine CE.draw (fun _ => none) [0, 1, 2, 3, 4, 5, 6, 7, 8, 9, 10, 11, 12, 13, 14, 15, 16, 17, 18, 19, 20, 21, 22, 23, 24, 25, 26, 27, 28, 29, 30, 31, 32] [33, 34, 35] [] (by kernel_rfl) (by kernel_rfl) ?_
                    have md2 : Mod [] w2 w2.drew := (Mod.refl _ _).drew
                    generalize w2.drew = w5 at md2 ⊢
                    refine DR.det (i := 0) rfl rfl (by kernel_rfl) (.free rfl) rfl rfl (fun wD mD => op_move rfl) ?_
                    refine DR.det (i := 1) rfl rfl (by kernel_rfl) (.free rfl) rfl rfl (fun wD mD => op_gti rfl rfl) ?_
                    refine DR.det (i := 2) rfl rfl (by kernel_rfl) (.free rfl) rfl rfl (fun wD mD => op_move rfl) ?_
                    refine DR.det (i := 3) rfl rfl (by kernel_rfl) (.yes rfl rfl rfl (ltb rfl) rfl hb8) rfl rfl (fun wD mD => op_move rfl) ?_
                    refine DR.det (i := 4) rfl rfl (by kernel_rfl) (.yes rfl rfl rfl (ltb rfl) rfl hb8) rfl rfl (fun wD mD => op_nilCheck rfl) ?_
                    refine DR.det (i := 5) rfl rfl (by kernel_rfl) (.yes rfl rfl rfl (ltb rfl) rfl hb8) rfl rfl (fun wD mD => op_fieldAddr (off' := 2) rfl Tryd.runUnderlying25 rfl rfl Tryd.sizeOf23 rfl) ?_
                    refine DR.det (i := 6) rfl rfl (by kernel_rfl) (.yes rfl rfl rfl (ltb rfl) rfl hb8) rfl rfl (fun wD mD => op_load1 (i := 2) rfl Tryd.isAgg23 ((((q.ext m1).ext m2).ext md2).ext mD) rfl rfl) ?_
                    refine DR.det (i := 7) rfl rfl (by kernel_rfl) (.yes rfl rfl rfl (ltb rfl) rfl hb8) rfl rfl (fun wD mD => op_move rfl) ?_
                    refine DR.det (i := 8) rfl rfl (by kernel_rfl) (.yes rfl rfl rfl (ltb rfl) rfl hb8) rfl rfl (fun wD mD => op_indexSl (off' := o + i) rfl rfl rfl Tryd.runUnderlying23 Tryd.sizeOf22 (by omega) (by omega) (by omega)) ?_
                    refine DR.det (i := 9) rfl rfl (by kernel_rfl) (.yes rfl rfl rfl (ltb rfl) rfl hb8) rfl rfl (fun wD mD => op_load1 (i := i) rfl Tryd.isAgg22 ((((r.ext m1).ext m2).ext md2).ext mD) rfl (fl_get (by have eL : List.length ds = n := ln; omega))) ?_
                    refine DR.det (i := 10) rfl rfl (by kernel_rfl) (.yes rfl rfl rfl (ltb rfl) rfl hb8) rfl rfl (fun wD mD => op_move rfl) ?_
                    refine DR.det (i := 11) rfl rfl (by kernel_rfl) (.yes rfl rfl rfl (ltb rfl) rfl hb8) rfl rfl (fun wD mD => op_nilCheck rfl) ?_
                    refine DR.det (i := 12) rfl rfl (by kernel_rfl) (.yes rfl rfl rfl (ltb rfl) rfl hb8) rfl rfl (fun wD mD => op_fieldAddr (off' := 2) rfl Tryd.runUnderlying25 rfl rfl Tryd.sizeOf23 rfl) ?_
                    refine DR.det (i := 13) rfl rfl (by kernel_rfl) (.yes rfl rfl rfl (ltb rfl) rfl hb8) rfl rfl (fun wD mD => op_load1 (i := 2) rfl Tryd.isAgg23 ((((q.ext m1).ext m2).ext md2).ext mD) rfl rfl) ?_
                    refine DR.det (i := 14) rfl rfl (by kernel_rfl) (.yes rfl rfl rfl (ltb rfl) rfl hb8) rfl rfl (fun wD mD => op_move rfl) ?_
                    refine DR.det (i := 15) rfl rfl (by kernel_rfl) (.yes rfl rfl rfl (ltb rfl) rfl hb8) rfl rfl (fun wD mD => op_sub (r := ((i - 1 : Nat) : Int)) rfl rfl (w_nsub (l := i) (n := 1) (by omega) (by omega))) ?_
                    refine DR.det (i := 16) rfl rfl (by kernel_rfl) (.yes rfl rfl rfl (ltb rfl) rfl hb8) rfl rfl (fun wD mD => op_indexSl (off' := o + (i - 1)) rfl rfl rfl Tryd.runUnderlying23 Tryd.sizeOf22 (by omega) (by omega) (by omega)) ?_
                    refine DR.det (i := 17) rfl rfl (by kernel_rfl) (.yes rfl rfl rfl (ltb rfl) rfl hb8) rfl rfl (fun wD mD => op_load1 (i := (i - 1)) rfl Tryd.isAgg22 ((((r.ext m1).ext m2).ext md2).ext mD) rfl (fl_get (by have eL : List.length ds = n := ln; omega))) ?_
                    refine DR.det (i := 18) rfl rfl (by kernel_rfl) (.yes rfl rfl rfl (ltb rfl) rfl hb8) rfl rfl (fun wD mD => op_fgt (c := fGt .f32 (ds.getD i 0) (ds.getD (i - 1) 0)) rfl rfl rfl rfl rfl) ?_
                    refine DR.det (i := 19) rfl rfl (by kernel_rfl) (.yes rfl rfl rfl (ltb rfl) rfl hb8) rfl rfl (fun wD mD => op_not rfl) ?_
                    refine DR.det (i := 20) rfl rfl (by kernel_rfl) (.free rfl) rfl rfl (fun wD mD => op_pick_t rfl hb8 rfl) ?_
                    refine DR.det (i := 21) rfl rfl (by kernel_rfl) (.free rfl) rfl rfl (fun wD mD => op_move rfl) ?_
                    refine DR.skip (i := 22) rfl (by kernel_rfl) (.no rfl rfl rfl (ltb rfl) rfl (bnot_f hb9)) rfl (ltb rfl) ?_
                    refine DR.skip (i := 23) rfl (by kernel_rfl) (.no rfl rfl rfl (ltb rfl) rfl (bnot_f hb9)) rfl (ltb rfl) ?_
                    refine DR.skip (i := 24) rfl (by kernel_rfl) (.no rfl rfl rfl (ltb rfl) rfl (bnot_f hb9)) rfl (ltb rfl) ?_
                    refine DR.skip (i := 25) rfl (by kernel_rfl) (.no rfl rfl rfl (ltb rfl) rfl (bnot_f hb9)) rfl (ltb rfl) ?_
                    refine DR.skip (i := 26) rfl (by kernel_rfl) (.no rfl rfl rfl (ltb rfl) rfl (bnot_f hb9)) rfl (ltb rfl) ?_
                    refine DR.skip (i := 27) rfl (by kernel_rfl) (.no rfl rfl rfl (ltb rfl) rfl (bnot_f hb9)) rfl (ltb rfl) ?_
                    refine DR.skip (i := 28) rfl (by kernel_rfl) (.no rfl rfl rfl (ltb rfl) rfl (bnot_f hb9)) rfl (ltb rfl) ?_
                    refine DR.skip (i := 29) rfl (by kernel_rfl) (.no rfl rfl rfl (ltb rfl) rfl (bnot_f hb9)) rfl (ltb rfl) ?_
                    refine DR.skip (i := 30) rfl (by kernel_rfl) (.no rfl rfl rfl (ltb rfl) rfl (bnot_f hb9)) rfl (ltb rfl) ?_
                    refine DR.skip (i := 31) rfl (by kernel_rfl) (.no rfl rfl rfl (ltb rfl) rfl (bnot_f hb9)) rfl (ltb rfl) ?_
                    refine DR.skip (i := 32) rfl (by kernel_rfl) (.no rfl rfl rfl (ltb rfl) rfl (bnot_f hb9)) rfl (ltb rfl) ?_
                    refine DR.done rfl ?_
                    intro w6 m4
                    iterate 2 refine WO.skip rfl (.no rfl rfl rfl (ltb rfl) rfl (bnot_f hb9)) rfl (ltb rfl) ?_
                    refine WO.det (op_pick_t rfl (bnot_f hb9) rfl) rfl (.free rfl) rfl rfl ?_
                    refine WO.end ?_
                    refine NE.code ?_
                    refine CE.cond_t rfl rfl ?_
                    refine CE.seq ?_
                    refine CE.region ?_
                    refine WL.det (op_assign rfl) rfl rfl rfl ?_
                    refine WL.end ?_
                    refine NE.code ?_
                    refine CE.ret' ?_
                    refine XE.ret_blk ?_
                    iterate 2 refine XE.ret_then ?_
                    refine XE.ret_blk ?_
                    refine XE.ret_then ?_
                    refine XE.leave1 Tryd.results11 rfl ?_
                    refine ⟨?_, (((((Mod.refl [] w).nt m1).nt m2).nt md2).nt m4)⟩
                    all_goals first | exact congrArg Value.bool (tunF_f (by rintro ⟨a1, a2, a3, a4, a5, a6, a7⟩; first | omega | (simp_all; done) | (simp_all [cn_z]; done) | (rw [tunL_out (i := i) (by omega) (by simp_all)] at a7; cases a7))).symm | (have e9 : i = n := (by omega); subst e9; exact congrArg Value.bool (tunF_t (by assumption) (by simp_all) (by simp_all) (by omega) (by omega) (by first | omega | (rw [← cn_z]; assumption) | simp_all) hu).symm) | (have e7 := tunL_out (ds := ds) (oc := oc) (i := i) (n := n) (by omega) (by simp_all); simp [tunF, e7]; done) | (have e9 : i = n := (by omega); subst e9; simp_all [tunF]; done) | (simp_all [tunF]; done) | (simp_all [tunF]; omega)
                · have hp8 := of_decide_eq_false hb8
                  refine CE.draw (fun _ => none) [0, 1, 2, 3, 4, 5, 6, 7, 8, 9, 10, 11, 12, 13, 14, 15, 16, 17, 18, 19, 20, 21, 22, 23, 24, 25, 26, 27, 28, 29, 30, 31, 32] [33, 34, 35] [] (by kernel_rfl) (by kernel_rfl) ?_
                  have md3 : Mod [] w2 w2.drew := (Mod.refl _ _).drew
                  generalize w2.drew = w7 at md3 ⊢
                  refine DR.det (i := 0) rfl rfl (by kernel_rfl) (.free rfl) rfl rfl (fun wD mD => op_move rfl) ?_
                  refine DR.det (i := 1) rfl rfl (by kernel_rfl) (.free rfl) rfl rfl (fun wD mD => op_gti rfl rfl) ?_
                  refine DR.det (i := 2) rfl rfl (by kernel_rfl) (.free rfl) rfl rfl (fun wD mD => op_move rfl) ?_
                  refine DR.skip (i := 3) rfl (by kernel_rfl) (.no rfl rfl rfl (ltb rfl) rfl hb8) rfl (ltb rfl) ?_
                  refine DR.skip (i := 4) rfl (by kernel_rfl) (.no rfl rfl rfl (ltb rfl) rfl hb8) rfl (ltb rfl) ?_
                  refine DR.skip (i := 5) rfl (by kernel_rfl) (.no rfl rfl rfl (ltb rfl) rfl hb8) rfl (ltb rfl) ?_
                  refine DR.skip (i := 6) rfl (by kernel_rfl) (.no rfl rfl rfl (ltb rfl) rfl hb8) rfl (ltb rfl) ?_
                  refine DR.skip (i := 7) rfl (by kernel_rfl) (.no rfl rfl rfl (ltb rfl) rfl hb8) rfl (ltb rfl) ?_
                  refine DR.skip (i := 8) rfl (by kernel_rfl) (.no rfl rfl rfl (ltb rfl) rfl hb8) rfl (ltb rfl) ?_
                  refine DR.skip (i := 9) rfl (by kernel_rfl) (.no rfl rfl rfl (ltb rfl) rfl hb8) rfl (ltb rfl) ?_
                  refine DR.skip (i := 10) rfl (by kernel_rfl) (.no rfl rfl rfl (ltb rfl) rfl hb8) rfl (ltb rfl) ?_
                  refine DR.skip (i := 11) rfl (by kernel_rfl) (.no rfl rfl rfl (ltb rfl) rfl hb8) rfl (ltb rfl) ?_
                  refine DR.skip (i := 12) rfl (by kernel_rfl) (.no rfl rfl rfl (ltb rfl) rfl hb8) rfl (ltb rfl) ?_
                  refine DR.skip (i := 13) rfl (by kernel_rfl) (.no rfl rfl rfl (ltb rfl) rfl hb8) rfl (ltb rfl) ?_
                  refine DR.skip (i := 14) rfl (by kernel_rfl) (.no rfl rfl rfl (ltb rfl) rfl hb8) rfl (ltb rfl) ?_
                  refine DR.skip (i := 15) rfl (by kernel_rfl) (.no rfl rfl rfl (ltb rfl) rfl hb8) rfl (ltb rfl) ?_
                  refine DR.skip (i := 16) rfl (by kernel_rfl) (.no rfl rfl rfl (ltb rfl) rfl hb8) rfl (ltb rfl) ?_
                  refine DR.skip (i := 17) rfl (by kernel_rfl) (.no rfl rfl rfl (ltb rfl) rfl hb8) rfl (ltb rfl) ?_
                  refine DR.skip (i := 18) rfl (by kernel_rfl) (.no rfl rfl rfl (ltb rfl) rfl hb8) rfl (ltb rfl) ?_
                  refine DR.skip (i := 19) rfl (by kernel_rfl) (.no rfl rfl rfl (ltb rfl) rfl hb8) rfl (ltb rfl) ?_
                  refine DR.det (i := 20) rfl rfl (by kernel_rfl) (.free rfl) rfl rfl (fun wD mD => op_pick_f rfl hb8 rfl) ?_
                  refine DR.det (i := 21) rfl rfl (by kernel_rfl) (.free rfl) rfl rfl (fun wD mD => op_move rfl) ?_
                  refine DR.det (i := 22) rfl rfl (by kernel_rfl) (.yes rfl rfl rfl (ltb rfl) rfl rfl) rfl rfl (fun wD mD => op_move rfl) ?_
                  refine DR.det (i := 23) rfl rfl (by kernel_rfl) (.yes rfl rfl rfl (ltb rfl) rfl rfl) rfl rfl (fun wD mD => op_nilCheck rfl) ?_
                  refine DR.det (i := 24) rfl rfl (by kernel_rfl) (.yes rfl rfl rfl (ltb rfl) rfl rfl) rfl rfl (fun wD mD => op_fieldAddr (off' := 2) rfl Tryd.runUnderlying25 rfl rfl Tryd.sizeOf23 rfl) ?_
                  refine DR.det (i := 25) rfl rfl (by kernel_rfl) (.yes rfl rfl rfl (ltb rfl) rfl rfl) rfl rfl (fun wD mD => op_load1 (i := 2) rfl Tryd.isAgg23 ((((q.ext m1).ext m2).ext md3).ext mD) rfl rfl) ?_
                  refine DR.det (i := 26) rfl rfl (by kernel_rfl) (.yes rfl rfl rfl (ltb rfl) rfl rfl) rfl rfl (fun wD mD => op_move rfl) ?_
                  refine DR.det (i := 27) rfl rfl (by kernel_rfl) (.yes rfl rfl rfl (ltb rfl) rfl rfl) rfl rfl (fun wD mD => op_indexSl (off' := o + i) rfl rfl rfl Tryd.runUnderlying23 Tryd.sizeOf22 (by omega) (by omega) (by omega)) ?_
                  refine DR.det (i := 28) rfl rfl (by kernel_rfl) (.yes rfl rfl rfl (ltb rfl) rfl rfl) rfl rfl (fun wD mD => op_load1 (i := i) rfl Tryd.isAgg22 ((((r.ext m1).ext m2).ext md3).ext mD) rfl (fl_get (by have eL : List.length ds = n := ln; omega))) ?_
                  refine DR.det (i := 29) rfl rfl (by kernel_rfl) (.yes rfl rfl rfl (ltb rfl) rfl rfl) rfl rfl (fun wD mD => op_move rfl) ?_
                  refine DR.det (i := 30) rfl rfl (by kernel_rfl) (.yes rfl rfl rfl (ltb rfl) rfl rfl) rfl rfl (fun wD mD => op_nilCheck rfl) ?_
                  refine DR.det (i := 31) rfl rfl (by kernel_rfl) (.yes rfl rfl rfl (ltb rfl) rfl rfl) rfl rfl (fun wD mD => op_fieldAddr (off' := 1) rfl Tryd.runUnderlying25 rfl rfl Tryd.sizeOf22 rfl) ?_
                  refine DR.det (i := 32) rfl rfl (by kernel_rfl) (.yes rfl rfl rfl (ltb rfl) rfl rfl) rfl rfl (fun wD mD => op_load1 (i := 1) rfl Tryd.isAgg22 ((((q.ext m1).ext m2).ext md3).ext mD) rfl rfl) ?_
                  refine DR.done rfl ?_
                  intro w8 m5
                  refine WO.det (op_flt (c := fLt .f32 (ds.getD i 0) oc) rfl rfl rfl rfl rfl) rfl (.yes rfl rfl rfl (ltb rfl) rfl rfl) rfl rfl ?_
                  refine WO.det (op_not rfl) rfl (.yes rfl rfl rfl (ltb rfl) rfl rfl) rfl rfl ?_
                  refine WO.det (op_pick_f rfl rfl rfl) rfl (.free rfl) rfl rfl ?_
                  refine WO.end ?_
                  refine NE.code ?_
                  rcases Bool.eq_false_or_eq_true (fLt .f32 (ds.getD i 0) oc) with hb11 | hb11
                  · refine CE.cond_f rfl (bnot_t hb11) ?_
                    refine CE.skip' ?_
                    refine NE.blk ?_
                    refine NE.code ?_
                    refine CE.region ?_
                    refine WL.det (op_move rfl) rfl rfl rfl ?_
                    refine WL.det (op_add (r := ((i + 1 : Nat) : Int)) rfl rfl (w_i64 (by omega) (by omega))) rfl rfl rfl ?_
                    refine WL.det (op_assign rfl) rfl rfl rfl ?_
                    refine WL.end ?_
                    exact NE.again (i + 1) (⟨rfl, rfl, rfl, rfl, trivial⟩) ⟨(by omega), (by simp_all [tunL]), ((m2.nt md3).nt m5)⟩ (by first | (dsimp only; omega) | omega)
                  · refine CE.cond_t rfl (bnot_f hb11) ?_
                    refine CE.seq ?_
                    refine CE.region ?_
                    refine WL.det (op_assign rfl) rfl rfl rfl ?_
                    refine WL.end ?_
                    refine NE.code ?_
                    refine CE.ret' ?_
                    refine XE.ret_blk ?_
                    iterate 2 refine XE.ret_then ?_
                    refine XE.ret_blk ?_
                    refine XE.ret_then ?_
                    refine XE.leave1 Tryd.results11 rfl ?_
                    refine ⟨?_, (((((Mod.refl [] w).nt m1).nt m2).nt md3).nt m5)⟩
                    all_goals first | exact congrArg Value.bool (tunF_f (by rintro ⟨a1, a2, a3, a4, a5, a6, a7⟩; first | omega | (simp_all; done) | (simp_all [cn_z]; done) | (rw [tunL_out (i := i) (by omega) (by simp_all)] at a7; cases a7))).symm | (have e9 : i = n := (by omega); subst e9; exact congrArg Value.bool (tunF_t (by assumption) (by simp_all) (by simp_all) (by omega) (by omega) (by first | omega | (rw [← cn_z]; assumption) | simp_all) hu).symm) | (have e7 := tunL_out (ds := ds) (oc := oc) (i := i) (n := n) (by omega) (by simp_all); simp [tunF, e7]; done) | (have e9 : i = n := (by omega); subst e9; simp_all [tunF]; done) | (simp_all [tunF]; done) | (simp_all [tunF]; omega)
              · have hp7 := of_decide_eq_false hb7
                refine CE.cond_f rfl hb7 ?_
                refine CE.exit' ?_
                iterate 2 refine XE.exit_then ?_
                refine XE.exit_here ?_
                refine NE.code ?_
                refine CE.seq ?_
                refine CE.region ?_
                refine WL.det (op_assign rfl) rfl rfl rfl ?_
                refine WL.end ?_
                refine NE.code ?_
                refine CE.ret' ?_
                refine XE.leave1 Tryd.results11 rfl ?_
                refine ⟨?_, (((Mod.refl [] w).nt m1).nt m2)⟩
                all_goals first | exact congrArg Value.bool (tunF_f (by rintro ⟨a1, a2, a3, a4, a5, a6, a7⟩; first | omega | (simp_all; done) | (simp_all [cn_z]; done) | (rw [tunL_out (i := i) (by omega) (by simp_all)] at a7; cases a7))).symm | (have e9 : i = n := (by omega); subst e9; exact congrArg Value.bool (tunF_t (by assumption) (by simp_all) (by simp_all) (by omega) (by omega) (by first | omega | (rw [← cn_z]; assumption) | simp_all) hu).symm) | (have e7 := tunL_out (ds := ds) (oc := oc) (i := i) (n := n) (by omega) (by simp_all); simp [tunF, e7]; done) | (have e9 : i = n := (by omega); subst e9; simp_all [tunF]; done) | (simp_all [tunF]; done) | (simp_all [tunF]; omega)
            · have hp6 := hb6; try simp only [Bool.and_eq_true, Bool.or_eq_true, Bool.not_eq_true', Bool.not_eq_false', Bool.and_eq_false_iff, Bool.or_eq_false_iff, decide_eq_true_eq, decide_eq_false_iff_not, beq_iff_eq, bne_iff_ne, beq_eq_false_iff_ne, bne_eq_false_iff_eq, ne_eq, Bool.false_eq_true, not_false_eq_true, not_true_eq_false, vIn_t, vIn_f] at hp6
              refine CE.cond_t rfl (bnot_f hb6) ?_
              refine CE.seq ?_
              refine CE.region ?_
              refine WL.det (op_assign rfl) rfl rfl rfl ?_
              refine WL.end ?_
              refine NE.code ?_
              refine CE.ret' ?_
              refine XE.ret_then ?_
              refine XE.leave1 Tryd.results11 rfl ?_
              refine ⟨?_, ((Mod.refl [] w).nt m1)⟩
              all_goals first | exact congrArg Value.bool (tunF_f (by rintro ⟨a1, a2, a3, a4, a5, a6, a7⟩; first | omega | (simp_all; done) | (simp_all [cn_z]; done) | (rw [tunL_out (i := i) (by omega) (by simp_all)] at a7; cases a7))).symm | (have e9 : i = n := (by omega); subst e9; exact congrArg Value.bool (tunF_t (by assumption) (by simp_all) (by simp_all) (by omega) (by omega) (by first | omega | (rw [← cn_z]; assumption) | simp_all) hu).symm) | (have e7 := tunL_out (ds := ds) (oc := oc) (i := i) (n := n) (by omega) (by simp_all); simp [tunF, e7]; done) | (have e9 : i = n := (by omega); subst e9; simp_all [tunF]; done) | (simp_all [tunF]; done) | (simp_all [tunF]; omega)
      · refine WL.no rfl rfl rfl (ltb rfl) rfl (bnot_f hb3) rfl (ltb rfl) ?_
        refine WL.no rfl rfl rfl (ltb rfl) rfl (bnot_f hb3) rfl (ltb rfl) ?_
        refine WL.det (op_pick_t rfl (bnot_f hb3) rfl) rfl rfl rfl ?_
        refine WL.det (op_move rfl) rfl rfl rfl ?_
        iterate 2 refine WL.no rfl rfl rfl (ltb rfl) rfl rfl rfl (ltb rfl) ?_
        refine WL.det (op_pick_t rfl rfl rfl) rfl rfl rfl ?_
        refine WL.det (op_move rfl) rfl rfl rfl ?_
        iterate 8 refine WL.no rfl rfl rfl (ltb rfl) rfl rfl rfl (ltb rfl) ?_
        refine WL.det (op_pick_t rfl rfl rfl) rfl rfl rfl ?_
        refine WL.end ?_
        refine NE.code ?_
        refine CE.cond_t rfl rfl ?_
        refine CE.seq ?_
        refine CE.region ?_
        refine WL.det (op_assign rfl) rfl rfl rfl ?_
        refine WL.end ?_
        refine NE.code ?_
        refine CE.ret' ?_
        refine XE.ret_then ?_
        refine XE.leave1 Tryd.results11 rfl ?_
        refine ⟨?_, ((Mod.refl [] w).nt m1)⟩
        all_goals first | exact congrArg Value.bool (tunF_f (by rintro ⟨a1, a2, a3, a4, a5, a6, a7⟩; first | omega | (simp_all; done) | (simp_all [cn_z]; done) | (rw [tunL_out (i := i) (by omega) (by simp_all)] at a7; cases a7))).symm | (have e9 : i = n := (by omega); subst e9; exact congrArg Value.bool (tunF_t (by assumption) (by simp_all) (by simp_all) (by omega) (by omega) (by first | omega | (rw [← cn_z]; assumption) | simp_all) hu).symm) | (have e7 := tunL_out (ds := ds) (oc := oc) (i := i) (n := n) (by omega) (by simp_all); simp [tunF, e7]; done) | (have e9 : i = n := (by omega); subst e9; simp_all [tunF]; done) | (simp_all [tunF]; done) | (simp_all [tunF]; omega)
    · refine WL.no rfl rfl rfl (ltb rfl) rfl hb2 rfl (ltb rfl) ?_
      iterate 4 refine WL.no rfl rfl rfl (ltb rfl) rfl hb2 rfl (ltb rfl) ?_
      refine WL.yes rfl rfl rfl (ltb rfl) rfl (bnot_t hb1) ?_
      refine WL.det (op_pick_f rfl hb2 rfl) rfl rfl rfl ?_
      refine WL.yes rfl rfl rfl (ltb rfl) rfl (bnot_t hb1) ?_
      refine WL.det (op_not rfl) rfl rfl rfl ?_
      refine WL.det (op_pick_f rfl (bnot_t hb1) rfl) rfl rfl rfl ?_
      refine WL.det (op_move rfl) rfl rfl rfl ?_
      iterate 2 refine WL.no rfl rfl rfl (ltb rfl) rfl rfl rfl (ltb rfl) ?_
      refine WL.det (op_pick_t rfl rfl rfl) rfl rfl rfl ?_
      refine WL.det (op_move rfl) rfl rfl rfl ?_
      iterate 2 refine WL.no rfl rfl rfl (ltb rfl) rfl rfl rfl (ltb rfl) ?_
      refine WL.det (op_pick_t rfl rfl rfl) rfl rfl rfl ?_
      refine WL.det (op_move rfl) rfl rfl rfl ?_
      iterate 8 refine WL.no rfl rfl rfl (ltb rfl) rfl rfl rfl (ltb rfl) ?_
      refine WL.det (op_pick_t rfl rfl rfl) rfl rfl rfl ?_
      refine WL.end ?_
      refine NE.code ?_
      refine CE.cond_t rfl rfl ?_
      refine CE.seq ?_
      refine CE.region ?_
      refine WL.det (op_assign rfl) rfl rfl rfl ?_
      refine WL.end ?_
      refine NE.code ?_
      refine CE.ret' ?_
      refine XE.ret_then ?_
      refine XE.leave1 Tryd.results11 rfl ?_
      refine ⟨?_, ((Mod.refl [] w).nt m1)⟩
      all_goals first | exact congrArg Value.bool (tunF_f (by rintro ⟨a1, a2, a3, a4, a5, a6, a7⟩; first | omega | (simp_all; done) | (simp_all [cn_z]; done) | (rw [tunL_out (i := i) (by omega) (by simp_all)] at a7; cases a7))).symm | (have e9 : i = n := (by omega); subst e9; exact congrArg Value.bool (tunF_t (by assumption) (by simp_all) (by simp_all) (by omega) (by omega) (by first | omega | (rw [← cn_z]; assumption) | simp_all) hu).symm) | (have e7 := tunL_out (ds := ds) (oc := oc) (i := i) (n := n) (by omega) (by simp_all); simp [tunF, e7]; done) | (have e9 : i = n := (by omega); subst e9; simp_all [tunF]; done) | (simp_all [tunF]; done) | (simp_all [tunF]; omega)
  · refine WL.no rfl rfl rfl (ltb rfl) rfl (bnot_f hb1) rfl (ltb rfl) ?_
    iterate 5 refine WL.no rfl rfl rfl (ltb rfl) rfl (bnot_f hb1) rfl (ltb rfl) ?_
    iterate 5 refine WL.nou rfl rfl rfl (ltb rfl) rfl rfl (ltb rfl) ?_
    iterate 2 refine WL.no rfl rfl rfl (ltb rfl) rfl (bnot_f hb1) rfl (ltb rfl) ?_
    refine WL.det (op_pick_t rfl (bnot_f hb1) rfl) rfl rfl rfl ?_
    refine WL.det (op_move rfl) rfl rfl rfl ?_
    iterate 2 refine WL.no rfl rfl rfl (ltb rfl) rfl rfl rfl (ltb rfl) ?_
    refine WL.det (op_pick_t rfl rfl rfl) rfl rfl rfl ?_
    refine WL.det (op_move rfl) rfl rfl rfl ?_
    iterate 2 refine WL.no rfl rfl rfl (ltb rfl) rfl rfl rfl (ltb rfl) ?_
    refine WL.det (op_pick_t rfl rfl rfl) rfl rfl rfl ?_
    refine WL.det (op_move rfl) rfl rfl rfl ?_
    iterate 8 refine WL.no rfl rfl rfl (ltb rfl) rfl rfl rfl (ltb rfl) ?_
    refine WL.det (op_pick_t rfl rfl rfl) rfl rfl rfl ?_
    refine WL.end ?_
    refine NE.code ?_
    refine CE.cond_t rfl rfl ?_
    refine CE.seq ?_
    refine CE.region ?_
    refine WL.det (op_assign rfl) rfl rfl rfl ?_
    refine WL.end ?_
    refine NE.code ?_
    refine CE.ret' ?_
    refine XE.ret_then ?_
    refine XE.leave1 Tryd.results11 rfl ?_
    refine ⟨?_, ((Mod.refl [] w).nt m1)⟩
    all_goals first | exact congrArg Value.bool (tunF_f (by rintro ⟨a1, a2, a3, a4, a5, a6, a7⟩; first | omega | (simp_all; done) | (simp_all [cn_z]; done) | (rw [tunL_out (i := i) (by omega) (by simp_all)] at a7; cases a7))).symm | (have e9 : i = n := (by omega); subst e9; exact congrArg Value.bool (tunF_t (by assumption) (by simp_all) (by simp_all) (by omega) (by omega) (by first | omega | (rw [← cn_z]; assumption) | simp_all) hu).symm) | (have e7 := tunL_out (ds := ds) (oc := oc) (i := i) (n := n) (by omega) (by simp_all); simp [tunF, e7]; done) | (have e9 : i = n := (by omega); subst e9; simp_all [tunF]; done) | (simp_all [tunF]; done) | (simp_all [tunF]; omega)

end Go.Proofs.YtpjjnopjpgnlaaaDoor
