/- The events between two times; marks of scores. -/
import Derived.Test.YtdopidalhkcefaaDoorW6
import Derived.Test.YtdopidalhkcefaaDoorE32
import Derived.Test.YtdopidalhkcefaaDoorE11
set_option linter.unusedVariables false
set_option linter.unusedSimpArgs false
namespace Go.Proofs.YtdopidalhkcefaaDoor

/-- a record that bears its marks, from `q` on -/
def markE (q : Nat) : EvR := ⟨((q : Nat) : Int), ((q + 1 : Nat) : Int), ((q + 1 + 1 : Nat) : Int), ((q + 1 + 1 + 1 : Nat) : Int), ((q + 1 + 1 + 1 + 1 : Nat) : Int), FloatKind.f32.nearest ((q + 1 + 1 + 1 + 1 + 1 : Nat) : Int)⟩
theorem markE_cells (q : Nat) : EvR.cells (markE q) = [vI ((q : Nat) : Int), vI ((q + 1 : Nat) : Int), vI ((q + 1 + 1 : Nat) : Int), vI ((q + 1 + 1 + 1 : Nat) : Int), vI ((q + 1 + 1 + 1 + 1 : Nat) : Int), vF (FloatKind.f32.nearest ((q + 1 + 1 + 1 + 1 + 1 : Nat) : Int))] := by simp only [EvR.cells, markE]
/-- the first `i` records marked -/
def markEs (es : List EvR) (q i : Nat) : List EvR := (List.range i).map (fun j => markE (q + 6 * j)) ++ es.drop i
theorem markEs_len {es : List EvR} {q i n : Nat} (hl : es.length = n) (h : i ≤ n) : (markEs es q i).length = n := by simp [markEs]; omega
theorem markEs_zero (es : List EvR) (q : Nat) : cat EvR.cells es = cat EvR.cells (markEs es q 0) := by simp [markEs]
theorem markEs_set {es : List EvR} {q i n : Nat} (hl : es.length = n) (h : i < n) : (markEs es q i).set i (markE (q + 6 * i)) = markEs es q (i + 1) := by
  have hi : i < es.length := by omega
  unfold markEs
  rw [List.range_succ, List.map_append, List.append_assoc, List.set_append_right _ _ (by simp), List.drop_eq_getElem_cons hi, List.length_map, List.length_range, Nat.sub_self]
  rfl
theorem markEs_get {es : List EvR} {q i n : Nat} (hl : es.length = n) (h : i < n) : (markEs es q n).getD i EvR.d = markE (q + 6 * i) := by
  unfold markEs
  simp [List.getD_eq_getElem?_getD, List.getElem?_append_left, h]
theorem inr_cells (a : ByteArray) (b : Int) (c d e : Nat) : InR.cells ⟨a, b, c, d, e⟩ = [.string a, vI b, vF c, vF d, vF e] := by simp only [InR.cells]
theorem fEq_nearE (i : Int) : fEq .f32 (FloatKind.f32.nearest i) (FloatKind.f32.nearest i) = true := by rw [fEq_self, isNaN_near, Bool.not_false]
section
variable {e : EvR} {q : Nat}
theorem mkE_at (h : e = markE q) : e.at_ = ((q : Nat) : Int) := by rw [h, markE]
theorem mkE_kind (h : e = markE q) : e.kind = ((q + 1 : Nat) : Int) := by rw [h, markE]
theorem mkE_note (h : e = markE q) : e.note = ((q + 1 + 1 : Nat) : Int) := by rw [h, markE]
theorem mkE_ins (h : e = markE q) : e.ins = ((q + 1 + 1 + 1 : Nat) : Int) := by rw [h, markE]
theorem mkE_key (h : e = markE q) : e.key = ((q + 1 + 1 + 1 + 1 : Nat) : Int) := by rw [h, markE]
theorem mkE_force (h : e = markE q) : fEq .f32 e.force (FloatKind.f32.nearest ((q + 1 + 1 + 1 + 1 + 1 : Nat) : Int)) = true := by rw [h]; simp only [markE]; exact fEq_nearE _
end
/-- the events between two times -/
def betw (es : List EvR) (f t : Int) : Nat → List EvR
  | 0 => []
  | i + 1 => if f ≤ (es.getD i EvR.d).at_ ∧ (es.getD i EvR.d).at_ < t then betw es f t i ++ [(es.getD i EvR.d)] else betw es f t i
theorem betw_le (es : List EvR) (f t : Int) : ∀ i, (betw es f t i).length ≤ i
  | 0 => Nat.le_refl _
  | i + 1 => by
    have := betw_le es f t i
    unfold betw
    split
    · rw [List.length_append, List.length_singleton]; omega
    · omega
theorem betw_t {es ys : List EvR} {f t : Int} {i : Nat} (h : ys = betw es f t i) (h1 : f ≤ (es.getD i EvR.d).at_) (h2 : (es.getD i EvR.d).at_ < t) : ys ++ [(es.getD i EvR.d)] = betw es f t (i + 1) := by
  have e : betw es f t (i + 1) = if f ≤ (es.getD i EvR.d).at_ ∧ (es.getD i EvR.d).at_ < t then betw es f t i ++ [(es.getD i EvR.d)] else betw es f t i := rfl
  rw [e, if_pos ⟨h1, h2⟩, h]
theorem betw_f {es ys : List EvR} {f t : Int} {i : Nat} (h : ys = betw es f t i) (hn : ¬ (f ≤ (es.getD i EvR.d).at_ ∧ (es.getD i EvR.d).at_ < t)) : ys = betw es f t (i + 1) := by
  have e : betw es f t (i + 1) = if f ≤ (es.getD i EvR.d).at_ ∧ (es.getD i EvR.d).at_ < t then betw es f t i ++ [(es.getD i EvR.d)] else betw es f t i := rfl
  rw [e, if_neg hn, h]
theorem cat_snocE (ys : List EvR) (e : EvR) : cat EvR.cells ys ++ [vI e.at_, vI e.kind, vI e.note, vI e.ins, vI e.key, vF e.force] = cat EvR.cells (ys ++ [e]) := by
  rw [cat_app]
  show _ = _ ++ (EvR.cells e ++ [])
  rw [List.append_nil]; rfl

set_option maxRecDepth 100000 in
set_option maxHeartbeats 2000000 in
theorem c_markEventS_nil (q : Nat) (hq : q ≤ 1048576) (w : World) : Cl Tryd.prog 28 #[.slice none 0 0, vI ((q : Nat) : Int)] w fun v w' => v = vI ((q : Nat) : Int) ∧ Mod [] w w' := by
  refine Cl.of Tryd.func28 Tryd.ntmps28 rfl rfl (ρ := [(0, .slice none 0 0), (1, vI ((q : Nat) : Int))]) rfl ?_
  refine CE.seq ?_
  refine CE.region ?_
  refine WL.det (op_assign rfl) rfl rfl rfl ?_
  refine WL.end ?_
  refine NE.code ?_
  refine CE.seq ?_
  refine CE.seq ?_
  refine CE.region ?_
  refine WL.det (op_assign rfl) rfl rfl rfl ?_
  refine WL.end ?_
  refine NE.code ?_
  refine CE.block ?_
  refine CE.rounds 1 ?_
  refine RN.one ?_
  refine CE.seq ?_
  refine CE.seq ?_
  refine CE.region ?_
  refine WL.det (op_move rfl) rfl rfl rfl ?_
  refine WL.det (op_move rfl) rfl rfl rfl ?_
  refine WL.det (op_len rfl Tryd.runUnderlying41) rfl rfl rfl ?_
  refine WL.det (op_lti rfl rfl) rfl rfl rfl ?_
  refine WL.end ?_
  refine NE.code ?_
  refine CE.cond_f rfl rfl ?_
  refine CE.exit' ?_
  refine XE.exit_then ?_
  refine XE.exit_then ?_
  refine XE.exit_here ?_
  refine NE.code ?_
  refine CE.seq ?_
  refine CE.region ?_
  refine WL.det (op_move rfl) rfl rfl rfl ?_
  refine WL.det (op_assign rfl) rfl rfl rfl ?_
  refine WL.end ?_
  refine NE.code ?_
  refine CE.ret' ?_
  refine XE.leave1 Tryd.results28 rfl ?_
  refine ⟨rfl, (Mod.refl [] w)⟩

set_option maxRecDepth 100000 in
set_option maxHeartbeats 2000000 in
theorem c_heldEventS_nil (q : Nat) (hq : q ≤ 1048576) (w : World) : Cl Tryd.prog 29 #[.slice none 0 0, vI ((q : Nat) : Int)] w fun v w' => v = vI ((q : Nat) : Int) ∧ Mod [] w w' := by
  refine Cl.of Tryd.func29 Tryd.ntmps29 rfl rfl (ρ := [(0, .slice none 0 0), (1, vI ((q : Nat) : Int))]) rfl ?_
  refine CE.seq ?_
  refine CE.region ?_
  refine WL.det (op_assign rfl) rfl rfl rfl ?_
  refine WL.end ?_
  refine NE.code ?_
  refine CE.seq ?_
  refine CE.seq ?_
  refine CE.region ?_
  refine WL.det (op_assign rfl) rfl rfl rfl ?_
  refine WL.end ?_
  refine NE.code ?_
  refine CE.block ?_
  refine CE.rounds 1 ?_
  refine RN.one ?_
  refine CE.seq ?_
  refine CE.seq ?_
  refine CE.region ?_
  refine WL.det (op_move rfl) rfl rfl rfl ?_
  refine WL.det (op_move rfl) rfl rfl rfl ?_
  refine WL.det (op_len rfl Tryd.runUnderlying41) rfl rfl rfl ?_
  refine WL.det (op_lti rfl rfl) rfl rfl rfl ?_
  refine WL.end ?_
  refine NE.code ?_
  refine CE.cond_f rfl rfl ?_
  refine CE.exit' ?_
  refine XE.exit_then ?_
  refine XE.exit_then ?_
  refine XE.exit_here ?_
  refine NE.code ?_
  refine CE.seq ?_
  refine CE.region ?_
  refine WL.det (op_move rfl) rfl rfl rfl ?_
  refine WL.det (op_assign rfl) rfl rfl rfl ?_
  refine WL.end ?_
  refine NE.code ?_
  refine CE.ret' ?_
  refine XE.leave1 Tryd.results29 rfl ?_
  refine ⟨rfl, (Mod.refl [] w)⟩

set_option maxRecDepth 100000 in
set_option maxHeartbeats 2000000 in
theorem c_markEventS (n : Nat) (c : Nat) (A : Option Addr) (b : Nat) (es : List EvR) (q : Nat) (ln : es.length = n) (hA : 0 < n → A = some ⟨b, 0, none⟩) (hn : n ≤ 1048576) (hq : q ≤ 10485760) (w : World) (r : Row w b 0 (cat EvR.cells es)) : Cl Tryd.prog 28 #[.slice A n c, vI ((q : Nat) : Int)] w fun v w' => v = vI (((q + 6 * n) : Nat) : Int) ∧ Row w' b 0 (cat EvR.cells (markEs es q n)) ∧ Mod [b] w w' := by
  refine Cl.of Tryd.func28 Tryd.ntmps28 rfl rfl (ρ := [(0, .slice A n c), (1, vI ((q : Nat) : Int))]) rfl ?_
  refine CE.seq ?_
  refine CE.region ?_
  refine WL.det (op_assign rfl) rfl rfl rfl ?_
  refine WL.end ?_
  refine NE.code ?_
  refine CE.seq ?_
  refine CE.seq ?_
  refine CE.region ?_
  refine WL.det (op_assign rfl) rfl rfl rfl ?_
  refine WL.end ?_
  refine NE.code ?_
  refine CE.block ?_
  refine CE.loop (fun (i : Nat) => [(5, vI ((i : Nat) : Int)), (1, vI (((q + 6 * i) : Nat) : Int)), (0, .slice A n c), (4, vI 0)]) (fun (i : Nat) => fun W => (i ≤ n) ∧ Row W b 0 (cat EvR.cells (markEs es q i)) ∧ Mod [b] w W) (fun (i : Nat) => n - i) 0 (⟨rfl, rfl, rfl, rfl, trivial⟩) ⟨(by omega), (Row.congr r (markEs_zero es q)), Mod.refl _ _⟩ ?_
  rintro i w1 ⟨hi, r1, m1⟩
  show CE _ _ _ _ [(5, vI ((i : Nat) : Int)), (1, vI (((q + 6 * i) : Nat) : Int)), (0, .slice A n c), (4, vI 0)] _
  refine CE.seq ?_
  refine CE.seq ?_
  refine CE.region ?_
  refine WL.det (op_move rfl) rfl rfl rfl ?_
  refine WL.det (op_move rfl) rfl rfl rfl ?_
  refine WL.det (op_len rfl Tryd.runUnderlying41) rfl rfl rfl ?_
  refine WL.det (op_lti rfl rfl) rfl rfl rfl ?_
  refine WL.end ?_
  refine NE.code ?_
  rcases Bool.eq_false_or_eq_true (decide (((i : Nat) : Int) < ((n : Nat) : Int))) with hb1 | hb1
  · have hp1 := of_decide_eq_true hb1
    refine CE.cond_t rfl hb1 ?_
    refine CE.skip' ?_
    refine NE.code ?_
    refine CE.seq ?_
    have r2 : Row w1 b 0 (splice (cat EvR.cells (markEs es q i)) (0 + i * 6) [vI (((markEs es q i).getD i EvR.d).at_), vI (((markEs es q i).getD i EvR.d).kind), vI (((markEs es q i).getD i EvR.d).note), vI (((markEs es q i).getD i EvR.d).ins), vI (((markEs es q i).getD i EvR.d).key), vF (((markEs es q i).getD i EvR.d).force)]) := Row.congr r1 (zp_ (cat_part (f := EvR.cells) (d := EvR.d) (fun _ => rfl) (markEs_len ln hi) (show i < n by omega)))
    refine CE.block ?_
    refine CE.seq ?_
    refine CE.region ?_
    refine WL.det (op_move rfl) rfl rfl rfl ?_
    refine WL.det (op_move rfl) rfl rfl rfl ?_
    refine WL.det (op_move rfl) rfl rfl rfl ?_
    refine WL.det (op_indexSl (off' := 0 + i * 6) rfl (hA (by omega)) rfl Tryd.runUnderlying41 Tryd.sizeOf72 (by omega) (by omega) (by omega)) rfl rfl rfl ?_
    refine WL.det (op_fieldAddr (off' := 0 + i * 6) rfl Tryd.runUnderlying72 rfl rfl Tryd.sizeOf2 rfl) rfl rfl rfl ?_
    refine WL.op0 (op_store (i := 0 + i * 6) (cs := [vI (((q + 6 * i) : Nat) : Int)]) rfl rfl rfl Tryd.sizeOf2 rfl r2 (Nat.zero_add _) (sub_fit (i := 0) (zf_ (cat_fit (f := EvR.cells) (fun _ => rfl) (markEs_len ln hi) (show i < n by omega))) (lB rfl)) rfl) rfl rfl ?_
    rintro _ w2 ⟨r3, m2, z1⟩
    have r4 : Row w2 b 0 (splice (cat EvR.cells (markEs es q i)) (0 + i * 6) [vI (((q + 6 * i) : Nat) : Int), vI (((markEs es q i).getD i EvR.d).kind), vI (((markEs es q i).getD i EvR.d).note), vI (((markEs es q i).getD i EvR.d).ins), vI (((markEs es q i).getD i EvR.d).key), vF (((markEs es q i).getD i EvR.d).force)]) := Row.congr r3 (sub_put (i := 0) (zf_ (cat_fit (f := EvR.cells) (fun _ => rfl) (markEs_len ln hi) (show i < n by omega))) (lB rfl) rfl)
    refine WL.end ?_
    refine NE.code ?_
    refine CE.seq ?_
    refine CE.region ?_
    refine WL.det (op_move rfl) rfl rfl rfl ?_
    refine WL.det (op_add (r := (((q + 6 * i) + 1 : Nat) : Int)) rfl rfl (w_i64 (by omega) (by omega))) rfl rfl rfl ?_
    refine WL.det (op_assign rfl) rfl rfl rfl ?_
    refine WL.end ?_
    refine NE.code ?_
    refine CE.seq ?_
    refine CE.region ?_
    refine WL.det (op_move rfl) rfl rfl rfl ?_
    refine WL.det (op_move rfl) rfl rfl rfl ?_
    refine WL.det (op_move rfl) rfl rfl rfl ?_
    refine WL.det (op_indexSl (off' := 0 + i * 6) rfl (hA (by omega)) rfl Tryd.runUnderlying41 Tryd.sizeOf72 (by omega) (by omega) (by omega)) rfl rfl rfl ?_
    refine WL.det (op_fieldAddr (off' := 0 + i * 6 + 1) rfl Tryd.runUnderlying72 rfl rfl Tryd.sizeOf2 rfl) rfl rfl rfl ?_
    refine WL.op0 (op_store (i := 0 + i * 6 + 1) (cs := [vI (((q + 6 * i) + 1 : Nat) : Int)]) rfl rfl rfl Tryd.sizeOf2 rfl r4 (Nat.zero_add _) (sub_fit (i := 1) (zf_ (cat_fit (f := EvR.cells) (fun _ => rfl) (markEs_len ln hi) (show i < n by omega))) (lB rfl)) rfl) rfl rfl ?_
    rintro _ w3 ⟨r5, m3, z2⟩
    have r6 : Row w3 b 0 (splice (cat EvR.cells (markEs es q i)) (0 + i * 6) [vI (((q + 6 * i) : Nat) : Int), vI (((q + 6 * i) + 1 : Nat) : Int), vI (((markEs es q i).getD i EvR.d).note), vI (((markEs es q i).getD i EvR.d).ins), vI (((markEs es q i).getD i EvR.d).key), vF (((markEs es q i).getD i EvR.d).force)]) := Row.congr r5 (sub_put (i := 1) (zf_ (cat_fit (f := EvR.cells) (fun _ => rfl) (markEs_len ln hi) (show i < n by omega))) (lB rfl) rfl)
    refine WL.end ?_
    refine NE.code ?_
    refine CE.seq ?_
    refine CE.region ?_
    refine WL.det (op_move rfl) rfl rfl rfl ?_
    refine WL.det (op_add (r := (((q + 6 * i) + 1 + 1 : Nat) : Int)) rfl rfl (w_i64 (by omega) (by omega))) rfl rfl rfl ?_
    refine WL.det (op_assign rfl) rfl rfl rfl ?_
    refine WL.end ?_
    refine NE.code ?_
    refine CE.seq ?_
    refine CE.region ?_
    refine WL.det (op_move rfl) rfl rfl rfl ?_
    refine WL.det (op_move rfl) rfl rfl rfl ?_
    refine WL.det (op_move rfl) rfl rfl rfl ?_
    refine WL.det (op_indexSl (off' := 0 + i * 6) rfl (hA (by omega)) rfl Tryd.runUnderlying41 Tryd.sizeOf72 (by omega) (by omega) (by omega)) rfl rfl rfl ?_
    refine WL.det (op_fieldAddr (off' := 0 + i * 6 + 2) rfl Tryd.runUnderlying72 rfl rfl Tryd.sizeOf2 rfl) rfl rfl rfl ?_
    refine WL.op0 (op_store (i := 0 + i * 6 + 2) (cs := [vI (((q + 6 * i) + 1 + 1 : Nat) : Int)]) rfl rfl rfl Tryd.sizeOf2 rfl r6 (Nat.zero_add _) (sub_fit (i := 2) (zf_ (cat_fit (f := EvR.cells) (fun _ => rfl) (markEs_len ln hi) (show i < n by omega))) (lB rfl)) rfl) rfl rfl ?_
    rintro _ w4 ⟨r7, m4, z3⟩
    have r8 : Row w4 b 0 (splice (cat EvR.cells (markEs es q i)) (0 + i * 6) [vI (((q + 6 * i) : Nat) : Int), vI (((q + 6 * i) + 1 : Nat) : Int), vI (((q + 6 * i) + 1 + 1 : Nat) : Int), vI (((markEs es q i).getD i EvR.d).ins), vI (((markEs es q i).getD i EvR.d).key), vF (((markEs es q i).getD i EvR.d).force)]) := Row.congr r7 (sub_put (i := 2) (zf_ (cat_fit (f := EvR.cells) (fun _ => rfl) (markEs_len ln hi) (show i < n by omega))) (lB rfl) rfl)
    refine WL.end ?_
    refine NE.code ?_
    refine CE.seq ?_
    refine CE.region ?_
    refine WL.det (op_move rfl) rfl rfl rfl ?_
    refine WL.det (op_add (r := (((q + 6 * i) + 1 + 1 + 1 : Nat) : Int)) rfl rfl (w_i64 (by omega) (by omega))) rfl rfl rfl ?_
    refine WL.det (op_assign rfl) rfl rfl rfl ?_
    refine WL.end ?_
    refine NE.code ?_
    refine CE.seq ?_
    refine CE.region ?_
    refine WL.det (op_move rfl) rfl rfl rfl ?_
    refine WL.det (op_move rfl) rfl rfl rfl ?_
    refine WL.det (op_move rfl) rfl rfl rfl ?_
    refine WL.det (op_indexSl (off' := 0 + i * 6) rfl (hA (by omega)) rfl Tryd.runUnderlying41 Tryd.sizeOf72 (by omega) (by omega) (by omega)) rfl rfl rfl ?_
    refine WL.det (op_fieldAddr (off' := 0 + i * 6 + 3) rfl Tryd.runUnderlying72 rfl rfl Tryd.sizeOf2 rfl) rfl rfl rfl ?_
    refine WL.op0 (op_store (i := 0 + i * 6 + 3) (cs := [vI (((q + 6 * i) + 1 + 1 + 1 : Nat) : Int)]) rfl rfl rfl Tryd.sizeOf2 rfl r8 (Nat.zero_add _) (sub_fit (i := 3) (zf_ (cat_fit (f := EvR.cells) (fun _ => rfl) (markEs_len ln hi) (show i < n by omega))) (lB rfl)) rfl) rfl rfl ?_
    rintro _ w5 ⟨r9, m5, z4⟩
    have r10 : Row w5 b 0 (splice (cat EvR.cells (markEs es q i)) (0 + i * 6) [vI (((q + 6 * i) : Nat) : Int), vI (((q + 6 * i) + 1 : Nat) : Int), vI (((q + 6 * i) + 1 + 1 : Nat) : Int), vI (((q + 6 * i) + 1 + 1 + 1 : Nat) : Int), vI (((markEs es q i).getD i EvR.d).key), vF (((markEs es q i).getD i EvR.d).force)]) := Row.congr r9 (sub_put (i := 3) (zf_ (cat_fit (f := EvR.cells) (fun _ => rfl) (markEs_len ln hi) (show i < n by omega))) (lB rfl) rfl)
    refine WL.end ?_
    refine NE.code ?_
    refine CE.seq ?_
    refine CE.region ?_
    refine WL.det (op_move rfl) rfl rfl rfl ?_
    refine WL.det (op_add (r := (((q + 6 * i) + 1 + 1 + 1 + 1 : Nat) : Int)) rfl rfl (w_i64 (by omega) (by omega))) rfl rfl rfl ?_
    refine WL.det (op_assign rfl) rfl rfl rfl ?_
    refine WL.end ?_
    refine NE.code ?_
    refine CE.seq ?_
    refine CE.region ?_
    refine WL.det (op_move rfl) rfl rfl rfl ?_
    refine WL.det (op_move rfl) rfl rfl rfl ?_
    refine WL.det (op_move rfl) rfl rfl rfl ?_
    refine WL.det (op_indexSl (off' := 0 + i * 6) rfl (hA (by omega)) rfl Tryd.runUnderlying41 Tryd.sizeOf72 (by omega) (by omega) (by omega)) rfl rfl rfl ?_
    refine WL.det (op_fieldAddr (off' := 0 + i * 6 + 4) rfl Tryd.runUnderlying72 rfl rfl Tryd.sizeOf2 rfl) rfl rfl rfl ?_
    refine WL.op0 (op_store (i := 0 + i * 6 + 4) (cs := [vI (((q + 6 * i) + 1 + 1 + 1 + 1 : Nat) : Int)]) rfl rfl rfl Tryd.sizeOf2 rfl r10 (Nat.zero_add _) (sub_fit (i := 4) (zf_ (cat_fit (f := EvR.cells) (fun _ => rfl) (markEs_len ln hi) (show i < n by omega))) (lB rfl)) rfl) rfl rfl ?_
    rintro _ w6 ⟨r11, m6, z5⟩
    have r12 : Row w6 b 0 (splice (cat EvR.cells (markEs es q i)) (0 + i * 6) [vI (((q + 6 * i) : Nat) : Int), vI (((q + 6 * i) + 1 : Nat) : Int), vI (((q + 6 * i) + 1 + 1 : Nat) : Int), vI (((q + 6 * i) + 1 + 1 + 1 : Nat) : Int), vI (((q + 6 * i) + 1 + 1 + 1 + 1 : Nat) : Int), vF (((markEs es q i).getD i EvR.d).force)]) := Row.congr r11 (sub_put (i := 4) (zf_ (cat_fit (f := EvR.cells) (fun _ => rfl) (markEs_len ln hi) (show i < n by omega))) (lB rfl) rfl)
    refine WL.end ?_
    refine NE.code ?_
    refine CE.seq ?_
    refine CE.region ?_
    refine WL.det (op_move rfl) rfl rfl rfl ?_
    refine WL.det (op_add (r := (((q + 6 * i) + 1 + 1 + 1 + 1 + 1 : Nat) : Int)) rfl rfl (w_i64 (by omega) (by omega))) rfl rfl rfl ?_
    refine WL.det (op_assign rfl) rfl rfl rfl ?_
    refine WL.end ?_
    refine NE.code ?_
    refine CE.seq ?_
    refine CE.region ?_
    refine WL.det (op_move rfl) rfl rfl rfl ?_
    refine WL.det (op_move rfl) rfl rfl rfl ?_
    refine WL.det (op_move rfl) rfl rfl rfl ?_
    refine WL.det (op_cvt_if rfl Tryd.runUnderlying3 Tryd.runUnderlying22) rfl rfl rfl ?_
    refine WL.det (op_indexSl (off' := 0 + i * 6) rfl (hA (by omega)) rfl Tryd.runUnderlying41 Tryd.sizeOf72 (by omega) (by omega) (by omega)) rfl rfl rfl ?_
    refine WL.det (op_fieldAddr (off' := 0 + i * 6 + 5) rfl Tryd.runUnderlying72 rfl rfl Tryd.sizeOf22 rfl) rfl rfl rfl ?_
    refine WL.op0 (op_store (i := 0 + i * 6 + 5) (cs := [vF (FloatKind.f32.nearest (((q + 6 * i) + 1 + 1 + 1 + 1 + 1 : Nat) : Int))]) rfl rfl rfl Tryd.sizeOf22 rfl r12 (Nat.zero_add _) (sub_fit (i := 5) (zf_ (cat_fit (f := EvR.cells) (fun _ => rfl) (markEs_len ln hi) (show i < n by omega))) (lB rfl)) rfl) rfl rfl ?_
    rintro _ w7 ⟨r13, m7, z6⟩
    have r14 : Row w7 b 0 (splice (cat EvR.cells (markEs es q i)) (0 + i * 6) [vI (((q + 6 * i) : Nat) : Int), vI (((q + 6 * i) + 1 : Nat) : Int), vI (((q + 6 * i) + 1 + 1 : Nat) : Int), vI (((q + 6 * i) + 1 + 1 + 1 : Nat) : Int), vI (((q + 6 * i) + 1 + 1 + 1 + 1 : Nat) : Int), vF (FloatKind.f32.nearest (((q + 6 * i) + 1 + 1 + 1 + 1 + 1 : Nat) : Int))]) := Row.congr r13 (sub_put (i := 5) (zf_ (cat_fit (f := EvR.cells) (fun _ => rfl) (markEs_len ln hi) (show i < n by omega))) (lB rfl) rfl)
    refine WL.end ?_
    refine NE.code ?_
    refine CE.region ?_
    refine WL.det (op_move rfl) rfl rfl rfl ?_
    refine WL.det (op_add (r := (((q + 6 * i) + 1 + 1 + 1 + 1 + 1 + 1 : Nat) : Int)) rfl rfl (w_i64 (by omega) (by omega))) rfl rfl rfl ?_
    refine WL.det (op_assign rfl) rfl rfl rfl ?_
    refine WL.end ?_
    refine NE.blk ?_
    refine NE.code ?_
    refine CE.region ?_
    refine WL.det (op_move rfl) rfl rfl rfl ?_
    refine WL.det (op_add (r := ((i + 1 : Nat) : Int)) rfl rfl (w_i64 (by omega) (by omega))) rfl rfl rfl ?_
    refine WL.det (op_assign rfl) rfl rfl rfl ?_
    refine WL.end ?_
    exact NE.again (i + 1) (⟨rfl, rfl, rfl, rfl, trivial⟩) ⟨(by omega), (Row.congr r14 (by rw [← markE_cells]; exact zs_ ((cat_set (f := EvR.cells) (fun _ => rfl) (markEs_len ln hi) (show i < n by omega) (markE (q + 6 * i))).trans (congrArg (cat EvR.cells) (markEs_set ln (by omega)))))), ((((((m1.then m2 ((aC (.inl (by simp)) aN))).then m3 ((aC (.inl (by simp)) aN))).then m4 ((aC (.inl (by simp)) aN))).then m5 ((aC (.inl (by simp)) aN))).then m6 ((aC (.inl (by simp)) aN))).then m7 ((aC (.inl (by simp)) aN)))⟩ (by first | (dsimp only; omega) | omega)
  · have hp1 := of_decide_eq_false hb1
    refine CE.cond_f rfl hb1 ?_
    refine CE.exit' ?_
    refine XE.exit_then ?_
    refine XE.exit_then ?_
    refine XE.exit_here ?_
    refine NE.code ?_
    refine CE.seq ?_
    refine CE.region ?_
    refine WL.det (op_move rfl) rfl rfl rfl ?_
    refine WL.det (op_assign rfl) rfl rfl rfl ?_
    refine WL.end ?_
    refine NE.code ?_
    refine CE.ret' ?_
    refine XE.leave1 Tryd.results28 rfl ?_
    refine ⟨?_, (Row.congr r1 ?_), ((Mod.refl [b] w).then m1 ((aC (.inl (by simp)) aN)))⟩
    all_goals (have e : i = n := (by omega); subst e; rfl)

set_option maxRecDepth 100000 in
set_option maxHeartbeats 2000000 in
theorem c_heldEventS (n : Nat) (c : Nat) (A : Option Addr) (b : Nat) (es : List EvR) (q : Nat) (ln : es.length = n) (hA : 0 < n → A = some ⟨b, 0, none⟩) (hn : n ≤ 1048576) (hq : q ≤ 10485760) (hh : ∀ i, i < n → es.getD i EvR.d = markE (q + 6 * i)) (w : World) (r : Rng w b 0 (cat EvR.cells es)) : Cl Tryd.prog 29 #[.slice A n c, vI ((q : Nat) : Int)] w fun v w' => v = vI (((q + 6 * n) : Nat) : Int) ∧ Mod [] w w' := by
  refine Cl.of Tryd.func29 Tryd.ntmps29 rfl rfl (ρ := [(0, .slice A n c), (1, vI ((q : Nat) : Int))]) rfl ?_
  refine CE.seq ?_
  refine CE.region ?_
  refine WL.det (op_assign rfl) rfl rfl rfl ?_
  refine WL.end ?_
  refine NE.code ?_
  refine CE.seq ?_
  refine CE.seq ?_
  refine CE.region ?_
  refine WL.det (op_assign rfl) rfl rfl rfl ?_
  refine WL.end ?_
  refine NE.code ?_
  refine CE.block ?_
  refine CE.loop (fun (i : Nat) => [(5, vI ((i : Nat) : Int)), (1, vI (((q + 6 * i) : Nat) : Int)), (0, .slice A n c), (4, vI 0)]) (fun (i : Nat) => fun W => (i ≤ n) ∧ Mod [] w W) (fun (i : Nat) => n - i) 0 (⟨rfl, rfl, rfl, rfl, trivial⟩) ⟨(by omega), Mod.refl _ _⟩ ?_
  rintro i w1 ⟨hi, m1⟩
  show CE _ _ _ _ [(5, vI ((i : Nat) : Int)), (1, vI (((q + 6 * i) : Nat) : Int)), (0, .slice A n c), (4, vI 0)] _
  refine CE.seq ?_
  refine CE.seq ?_
  refine CE.region ?_
  refine WL.det (op_move rfl) rfl rfl rfl ?_
  refine WL.det (op_move rfl) rfl rfl rfl ?_
  refine WL.det (op_len rfl Tryd.runUnderlying41) rfl rfl rfl ?_
  refine WL.det (op_lti rfl rfl) rfl rfl rfl ?_
  refine WL.end ?_
  refine NE.code ?_
  rcases Bool.eq_false_or_eq_true (decide (((i : Nat) : Int) < ((n : Nat) : Int))) with hb1 | hb1
  · have hp1 := of_decide_eq_true hb1
    refine CE.cond_t rfl hb1 ?_
    refine CE.skip' ?_
    refine NE.code ?_
    refine CE.seq ?_
    refine CE.block ?_
    refine CE.seq ?_
    refine CE.seq ?_
    refine CE.region ?_
    refine WL.det (op_move rfl) rfl rfl rfl ?_
    refine WL.det (op_move rfl) rfl rfl rfl ?_
    refine WL.det (op_indexSl (off' := 0 + i * 6) rfl (hA (by omega)) rfl Tryd.runUnderlying41 Tryd.sizeOf72 (by omega) (by omega) (by omega)) rfl rfl rfl ?_
    refine WL.det (op_fieldAddr (off' := 0 + i * 6) rfl Tryd.runUnderlying72 rfl rfl Tryd.sizeOf2 rfl) rfl rfl rfl ?_
    refine WL.det (op_load1 (i := i * 6) rfl Tryd.isAgg2 (r.ext m1) rfl (cat_get0 (f := EvR.cells) (m := 6) (i := i) (d := EvR.d) (fun _ => rfl) (by have eL : List.length es = n := ln; omega) rfl)) rfl rfl rfl ?_
    refine WL.det (op_move rfl) rfl rfl rfl ?_
    refine WL.det (op_nei rfl rfl) rfl rfl rfl ?_
    refine WL.end ?_
    refine NE.code ?_
    refine CE.cond_f rfl (bne_eq_false_iff_eq.2 (mkE_at (hh i (by omega)))) ?_
    refine CE.skip' ?_
    refine NE.code ?_
    refine CE.seq ?_
    refine CE.region ?_
    refine WL.det (op_move rfl) rfl rfl rfl ?_
    refine WL.det (op_add (r := (((q + 6 * i) + 1 : Nat) : Int)) rfl rfl (w_i64 (by omega) (by omega))) rfl rfl rfl ?_
    refine WL.det (op_assign rfl) rfl rfl rfl ?_
    refine WL.end ?_
    refine NE.code ?_
    refine CE.seq ?_
    refine CE.seq ?_
    refine CE.region ?_
    refine WL.det (op_move rfl) rfl rfl rfl ?_
    refine WL.det (op_move rfl) rfl rfl rfl ?_
    refine WL.det (op_indexSl (off' := 0 + i * 6) rfl (hA (by omega)) rfl Tryd.runUnderlying41 Tryd.sizeOf72 (by omega) (by omega) (by omega)) rfl rfl rfl ?_
    refine WL.det (op_fieldAddr (off' := 0 + i * 6 + 1) rfl Tryd.runUnderlying72 rfl rfl Tryd.sizeOf2 rfl) rfl rfl rfl ?_
    refine WL.det (op_load1 (i := i * 6 + 1) rfl Tryd.isAgg2 (r.ext m1) rfl (cat_get (f := EvR.cells) (m := 6) (i := i) (d := EvR.d) (fun _ => rfl) (by have eL : List.length es = n := ln; omega) rfl)) rfl rfl rfl ?_
    refine WL.det (op_move rfl) rfl rfl rfl ?_
    refine WL.det (op_nei rfl rfl) rfl rfl rfl ?_
    refine WL.end ?_
    refine NE.code ?_
    refine CE.cond_f rfl (bne_eq_false_iff_eq.2 (mkE_kind (hh i (by omega)))) ?_
    refine CE.skip' ?_
    refine NE.code ?_
    refine CE.seq ?_
    refine CE.region ?_
    refine WL.det (op_move rfl) rfl rfl rfl ?_
    refine WL.det (op_add (r := (((q + 6 * i) + 1 + 1 : Nat) : Int)) rfl rfl (w_i64 (by omega) (by omega))) rfl rfl rfl ?_
    refine WL.det (op_assign rfl) rfl rfl rfl ?_
    refine WL.end ?_
    refine NE.code ?_
    refine CE.seq ?_
    refine CE.seq ?_
    refine CE.region ?_
    refine WL.det (op_move rfl) rfl rfl rfl ?_
    refine WL.det (op_move rfl) rfl rfl rfl ?_
    refine WL.det (op_indexSl (off' := 0 + i * 6) rfl (hA (by omega)) rfl Tryd.runUnderlying41 Tryd.sizeOf72 (by omega) (by omega) (by omega)) rfl rfl rfl ?_
    refine WL.det (op_fieldAddr (off' := 0 + i * 6 + 2) rfl Tryd.runUnderlying72 rfl rfl Tryd.sizeOf2 rfl) rfl rfl rfl ?_
    refine WL.det (op_load1 (i := i * 6 + 2) rfl Tryd.isAgg2 (r.ext m1) rfl (cat_get (f := EvR.cells) (m := 6) (i := i) (d := EvR.d) (fun _ => rfl) (by have eL : List.length es = n := ln; omega) rfl)) rfl rfl rfl ?_
    refine WL.det (op_move rfl) rfl rfl rfl ?_
    refine WL.det (op_nei rfl rfl) rfl rfl rfl ?_
    refine WL.end ?_
    refine NE.code ?_
    refine CE.cond_f rfl (bne_eq_false_iff_eq.2 (mkE_note (hh i (by omega)))) ?_
    refine CE.skip' ?_
    refine NE.code ?_
    refine CE.seq ?_
    refine CE.region ?_
    refine WL.det (op_move rfl) rfl rfl rfl ?_
    refine WL.det (op_add (r := (((q + 6 * i) + 1 + 1 + 1 : Nat) : Int)) rfl rfl (w_i64 (by omega) (by omega))) rfl rfl rfl ?_
    refine WL.det (op_assign rfl) rfl rfl rfl ?_
    refine WL.end ?_
    refine NE.code ?_
    refine CE.seq ?_
    refine CE.seq ?_
    refine CE.region ?_
    refine WL.det (op_move rfl) rfl rfl rfl ?_
    refine WL.det (op_move rfl) rfl rfl rfl ?_
    refine WL.det (op_indexSl (off' := 0 + i * 6) rfl (hA (by omega)) rfl Tryd.runUnderlying41 Tryd.sizeOf72 (by omega) (by omega) (by omega)) rfl rfl rfl ?_
    refine WL.det (op_fieldAddr (off' := 0 + i * 6 + 3) rfl Tryd.runUnderlying72 rfl rfl Tryd.sizeOf2 rfl) rfl rfl rfl ?_
    refine WL.det (op_load1 (i := i * 6 + 3) rfl Tryd.isAgg2 (r.ext m1) rfl (cat_get (f := EvR.cells) (m := 6) (i := i) (d := EvR.d) (fun _ => rfl) (by have eL : List.length es = n := ln; omega) rfl)) rfl rfl rfl ?_
    refine WL.det (op_move rfl) rfl rfl rfl ?_
    refine WL.det (op_nei rfl rfl) rfl rfl rfl ?_
    refine WL.end ?_
    refine NE.code ?_
    refine CE.cond_f rfl (bne_eq_false_iff_eq.2 (mkE_ins (hh i (by omega)))) ?_
    refine CE.skip' ?_
    refine NE.code ?_
    refine CE.seq ?_
    refine CE.region ?_
    refine WL.det (op_move rfl) rfl rfl rfl ?_
    refine WL.det (op_add (r := (((q + 6 * i) + 1 + 1 + 1 + 1 : Nat) : Int)) rfl rfl (w_i64 (by omega) (by omega))) rfl rfl rfl ?_
    refine WL.det (op_assign rfl) rfl rfl rfl ?_
    refine WL.end ?_
    refine NE.code ?_
    refine CE.seq ?_
    refine CE.seq ?_
    refine CE.region ?_
    refine WL.det (op_move rfl) rfl rfl rfl ?_
    refine WL.det (op_move rfl) rfl rfl rfl ?_
    refine WL.det (op_indexSl (off' := 0 + i * 6) rfl (hA (by omega)) rfl Tryd.runUnderlying41 Tryd.sizeOf72 (by omega) (by omega) (by omega)) rfl rfl rfl ?_
    refine WL.det (op_fieldAddr (off' := 0 + i * 6 + 4) rfl Tryd.runUnderlying72 rfl rfl Tryd.sizeOf2 rfl) rfl rfl rfl ?_
    refine WL.det (op_load1 (i := i * 6 + 4) rfl Tryd.isAgg2 (r.ext m1) rfl (cat_get (f := EvR.cells) (m := 6) (i := i) (d := EvR.d) (fun _ => rfl) (by have eL : List.length es = n := ln; omega) rfl)) rfl rfl rfl ?_
    refine WL.det (op_move rfl) rfl rfl rfl ?_
    refine WL.det (op_nei rfl rfl) rfl rfl rfl ?_
    refine WL.end ?_
    refine NE.code ?_
    refine CE.cond_f rfl (bne_eq_false_iff_eq.2 (mkE_key (hh i (by omega)))) ?_
    refine CE.skip' ?_
    refine NE.code ?_
    refine CE.seq ?_
    refine CE.region ?_
    refine WL.det (op_move rfl) rfl rfl rfl ?_
    refine WL.det (op_add (r := (((q + 6 * i) + 1 + 1 + 1 + 1 + 1 : Nat) : Int)) rfl rfl (w_i64 (by omega) (by omega))) rfl rfl rfl ?_
    refine WL.det (op_assign rfl) rfl rfl rfl ?_
    refine WL.end ?_
    refine NE.code ?_
    refine CE.seq ?_
    refine CE.seq ?_
    refine CE.region ?_
    refine WL.det (op_move rfl) rfl rfl rfl ?_
    refine WL.det (op_move rfl) rfl rfl rfl ?_
    refine WL.det (op_indexSl (off' := 0 + i * 6) rfl (hA (by omega)) rfl Tryd.runUnderlying41 Tryd.sizeOf72 (by omega) (by omega) (by omega)) rfl rfl rfl ?_
    refine WL.det (op_fieldAddr (off' := 0 + i * 6 + 5) rfl Tryd.runUnderlying72 rfl rfl Tryd.sizeOf22 rfl) rfl rfl rfl ?_
    refine WL.det (op_load1 (i := i * 6 + 5) rfl Tryd.isAgg22 (r.ext m1) rfl (cat_get (f := EvR.cells) (m := 6) (i := i) (d := EvR.d) (fun _ => rfl) (by have eL : List.length es = n := ln; omega) rfl)) rfl rfl rfl ?_
    refine WL.det (op_move rfl) rfl rfl rfl ?_
    refine WL.det (op_cvt_if rfl Tryd.runUnderlying3 Tryd.runUnderlying22) rfl rfl rfl ?_
    refine WL.det (op_fne (c := !(fEq .f32 ((es.getD i EvR.d).force) (FloatKind.f32.nearest (((q + 6 * i) + 1 + 1 + 1 + 1 + 1 : Nat) : Int)))) rfl rfl rfl rfl rfl) rfl rfl rfl ?_
    refine WL.end ?_
    refine NE.code ?_
    refine CE.cond_f rfl (bnot_t (mkE_force (hh i (by omega)))) ?_
    refine CE.skip' ?_
    refine NE.code ?_
    refine CE.region ?_
    refine WL.det (op_move rfl) rfl rfl rfl ?_
    refine WL.det (op_add (r := (((q + 6 * i) + 1 + 1 + 1 + 1 + 1 + 1 : Nat) : Int)) rfl rfl (w_i64 (by omega) (by omega))) rfl rfl rfl ?_
    refine WL.det (op_assign rfl) rfl rfl rfl ?_
    refine WL.end ?_
    refine NE.blk ?_
    refine NE.code ?_
    refine CE.region ?_
    refine WL.det (op_move rfl) rfl rfl rfl ?_
    refine WL.det (op_add (r := ((i + 1 : Nat) : Int)) rfl rfl (w_i64 (by omega) (by omega))) rfl rfl rfl ?_
    refine WL.det (op_assign rfl) rfl rfl rfl ?_
    refine WL.end ?_
    exact NE.again (i + 1) (⟨rfl, rfl, rfl, rfl, trivial⟩) ⟨(by omega), m1⟩ (by first | (dsimp only; omega) | omega)
  · have hp1 := of_decide_eq_false hb1
    refine CE.cond_f rfl hb1 ?_
    refine CE.exit' ?_
    refine XE.exit_then ?_
    refine XE.exit_then ?_
    refine XE.exit_here ?_
    refine NE.code ?_
    refine CE.seq ?_
    refine CE.region ?_
    refine WL.det (op_move rfl) rfl rfl rfl ?_
    refine WL.det (op_assign rfl) rfl rfl rfl ?_
    refine WL.end ?_
    refine NE.code ?_
    refine CE.ret' ?_
    refine XE.leave1 Tryd.results29 rfl ?_
    refine ⟨?_, ((Mod.refl [] w).nt m1)⟩
    all_goals (have e : i = n := (by omega); subst e; rfl)

set_option maxRecDepth 100000 in
set_option maxHeartbeats 2000000 in
theorem c_markText (q : Nat) (hq : q ≤ 104857600) (w : World) : Cl Tryd.prog 79 #[vI ((q : Nat) : Int)] w fun v w' => ∃ (st : ByteArray), v = .string st ∧ Mod [] w w' := by
  refine Cl.of Tryd.func79 Tryd.ntmps79 rfl rfl (ρ := [(0, vI ((q : Nat) : Int))]) rfl ?_
  refine CE.seq ?_
  refine CE.region ?_
  refine WL.det (op_assign rfl) rfl rfl rfl ?_
  refine WL.end ?_
  refine NE.code ?_
  refine CE.seq ?_
  refine CE.seq ?_
  refine CE.region ?_
  refine WL.det (op_move rfl) rfl rfl rfl ?_
  refine WL.det (op_lei rfl rfl) rfl rfl rfl ?_
  refine WL.end ?_
  refine NE.code ?_
  rcases Bool.eq_false_or_eq_true (decide (((q : Nat) : Int) ≤ (0 : Int))) with hb1 | hb1
  · have hp1 := of_decide_eq_true hb1
    refine CE.cond_t rfl hb1 ?_
    refine CE.seq ?_
    refine CE.region ?_
    refine WL.det (op_assign rfl) rfl rfl rfl ?_
    refine WL.end ?_
    refine NE.code ?_
    refine CE.ret' ?_
    refine XE.ret_then ?_
    refine XE.leave1 Tryd.results79 rfl ?_
    refine ⟨(⟨#[109, 48]⟩), rfl, (Mod.refl [] w)⟩
  · have hp1 := of_decide_eq_false hb1
    refine CE.cond_f rfl hb1 ?_
    refine CE.skip' ?_
    refine NE.code ?_
    refine CE.seq ?_
    refine CE.region ?_
    refine WL.det (op_assign rfl) rfl rfl rfl ?_
    refine WL.end ?_
    refine NE.code ?_
    refine CE.seq ?_
    refine CE.block ?_
    refine CE.loop (fun (z : Nat × ByteArray) => [(0, vI ((z.1 : Nat) : Int)), (3, .string z.2), (2, .string (⟨#[]⟩))]) (fun (z : Nat × ByteArray) => fun W => (z.1 ≤ q) ∧ (z.2.size + z.1 ≤ q) ∧ Mod [] w W) (fun (z : Nat × ByteArray) => z.1) (q, (⟨#[]⟩)) (⟨rfl, rfl, rfl, trivial⟩) ⟨(by omega), (by show 0 + q ≤ q; omega), Mod.refl _ _⟩ ?_
    rintro ⟨kk, s⟩ w1 ⟨hk, hs, m1⟩
    replace hk : kk ≤ q := hk
    replace hs : s.size + kk ≤ q := hs
    show CE _ _ _ _ [(0, vI ((kk : Nat) : Int)), (3, .string s), (2, .string (⟨#[]⟩))] _
    refine CE.seq ?_
    refine CE.seq ?_
    refine CE.region ?_
    refine WL.det (op_move rfl) rfl rfl rfl ?_
    refine WL.det (op_gti rfl rfl) rfl rfl rfl ?_
    refine WL.end ?_
    refine NE.code ?_
    rcases Bool.eq_false_or_eq_true (decide ((0 : Int) < ((kk : Nat) : Int))) with hb2 | hb2
    · have hp2 := of_decide_eq_true hb2
      refine CE.cond_t rfl hb2 ?_
      refine CE.skip' ?_
      refine NE.code ?_
      refine CE.block ?_
      refine CE.seq ?_
      refine CE.region ?_
      refine WL.det (op_move rfl) rfl rfl rfl ?_
      refine WL.det (op_rem (r := ((kk % 10 : Nat) : Int)) rfl rfl (by omega) rfl) rfl rfl rfl ?_
      refine WL.det (op_add (r := ((48 + kk % 10 : Nat) : Int)) rfl rfl (w_i64 (by omega) (by omega))) rfl rfl rfl ?_
      refine WL.det (op_cvt_ii (r := ((48 + kk % 10 : Nat) : Int)) rfl Tryd.runUnderlying3 Tryd.runUnderlying5 (w_u8 (by omega) (by omega))) rfl rfl rfl ?_
      refine WL.op (op_buildSl (qs := [(0, .int .u8 ((48 + kk % 10 : Nat) : Int))]) (cells := #[.int .u8 ((48 + kk % 10 : Nat) : Int)]) rfl Tryd.runUnderlying125 Tryd.sizeOf5 Tryd.zeroValue5 (by decide) (by decide) (by kernel_rfl)) rfl rfl (ltb rfl) ?_
      rintro _ w2 ⟨rfl, r1, m2, z1⟩
      refine WL.det (op_byteStr rfl Tryd.underlying125 Tryd.underlying5 Tryd.underlying9 r1.rng) rfl rfl rfl ?_
      refine WL.det (op_move rfl) rfl rfl rfl ?_
      refine WL.det (op_strAdd rfl rfl (by have h90 := nums_size ((48 + kk % 10 : Nat) : Int); omega)) rfl rfl rfl ?_
      refine WL.det (op_assign rfl) rfl rfl rfl ?_
      refine WL.end ?_
      refine NE.code ?_
      refine CE.region ?_
      refine WL.det (op_move rfl) rfl rfl rfl ?_
      refine WL.det (op_quo (r := ((kk / 10 : Nat) : Int)) rfl rfl (by omega) (quo_nat (by omega))) rfl rfl rfl ?_
      refine WL.det (op_assign rfl) rfl rfl rfl ?_
      refine WL.end ?_
      refine NE.blk ?_
      exact NE.again ((kk / 10), ((strOfNums [((48 + kk % 10 : Nat) : Int)]) ++ s)) (⟨rfl, rfl, rfl, trivial⟩) ⟨(by omega), (by rw [str_size, nums_size]; omega), (m1.nt m2)⟩ (by first | (dsimp only; omega) | omega)
    · have hp2 := of_decide_eq_false hb2
      refine CE.cond_f rfl hb2 ?_
      refine CE.exit' ?_
      refine XE.exit_then ?_
      refine XE.exit_then ?_
      refine XE.exit_here ?_
      refine NE.code ?_
      refine CE.seq ?_
      refine CE.region ?_
      refine WL.det (op_move rfl) rfl rfl rfl ?_
      refine WL.det (op_strAdd rfl rfl (by have h90 : (⟨#[109]⟩ : ByteArray).size = 1 := rfl; omega)) rfl rfl rfl ?_
      refine WL.det (op_assign rfl) rfl rfl rfl ?_
      refine WL.end ?_
      refine NE.code ?_
      refine CE.ret' ?_
      refine XE.leave1 Tryd.results79 rfl ?_
      refine ⟨((⟨#[109]⟩ : ByteArray) ++ s), rfl, ((Mod.refl [] w).nt m1)⟩

set_option maxRecDepth 100000 in
set_option maxHeartbeats 2000000 in
theorem c_markInstrS (n : Nat) (c : Nat) (b : Nat) (es : List InR) (q : Nat) (ln : es.length = n) (hn : n ≤ 1048576) (hq : q ≤ 10485760) (w : World) (r : Row w b 0 (cat InR.cells es)) : Cl Tryd.prog 58 #[vS b 0 n c, vI ((q : Nat) : Int)] w fun v w' => v = vI (((q + 5 * n) : Nat) : Int) ∧ Mod [b] w w' := by
  refine Cl.of Tryd.func58 Tryd.ntmps58 rfl rfl (ρ := [(0, vS b 0 n c), (1, vI ((q : Nat) : Int))]) rfl ?_
  refine CE.seq ?_
  refine CE.region ?_
  refine WL.det (op_assign rfl) rfl rfl rfl ?_
  refine WL.end ?_
  refine NE.code ?_
  refine CE.seq ?_
  refine CE.seq ?_
  refine CE.region ?_
  refine WL.det (op_assign rfl) rfl rfl rfl ?_
  refine WL.end ?_
  refine NE.code ?_
  refine CE.block ?_
  refine CE.loop (fun (z : Nat × List InR) => [(5, vI ((z.1 : Nat) : Int)), (1, vI (((q + 5 * z.1) : Nat) : Int)), (0, vS b 0 n c), (4, vI 0)]) (fun (z : Nat × List InR) => fun W => (z.1 ≤ n) ∧ (z.2.length = n) ∧ Row W b 0 (cat InR.cells z.2) ∧ Mod [b] w W) (fun (z : Nat × List InR) => n - z.1) (0, es) (⟨rfl, rfl, rfl, rfl, trivial⟩) ⟨(by omega), (by exact ln), (Row.congr r rfl), Mod.refl _ _⟩ ?_
  rintro ⟨i, xs⟩ w1 ⟨hi, lxs, r1, m1⟩
  replace hi : i ≤ n := hi
  replace lxs : xs.length = n := lxs
  replace r1 : Row w1 b 0 (cat InR.cells xs) := r1
  show CE _ _ _ _ [(5, vI ((i : Nat) : Int)), (1, vI (((q + 5 * i) : Nat) : Int)), (0, vS b 0 n c), (4, vI 0)] _
  refine CE.seq ?_
  refine CE.seq ?_
  refine CE.region ?_
  refine WL.det (op_move rfl) rfl rfl rfl ?_
  refine WL.det (op_move rfl) rfl rfl rfl ?_
  refine WL.det (op_len rfl Tryd.runUnderlying40) rfl rfl rfl ?_
  refine WL.det (op_lti rfl rfl) rfl rfl rfl ?_
  refine WL.end ?_
  refine NE.code ?_
  rcases Bool.eq_false_or_eq_true (decide (((i : Nat) : Int) < ((n : Nat) : Int))) with hb1 | hb1
  · have hp1 := of_decide_eq_true hb1
    refine CE.cond_t rfl hb1 ?_
    refine CE.skip' ?_
    refine NE.code ?_
    refine CE.seq ?_
    have r2 : Row w1 b 0 (splice (cat InR.cells xs) (0 + i * 5) [.string ((xs.getD i InR.d).name), vI ((xs.getD i InR.d).kind), vF ((xs.getD i InR.d).a), vF ((xs.getD i InR.d).b), vF ((xs.getD i InR.d).c)]) := Row.congr r1 (zp_ (cat_part (f := InR.cells) (d := InR.d) (fun _ => rfl) lxs (show i < n by omega)))
    refine CE.block ?_
    refine CE.seq ?_
    refine CE.region ?_
    refine WL.det (op_move rfl) rfl rfl rfl ?_
    refine WL.det (op_move rfl) rfl rfl rfl ?_
    refine WL.det (op_move rfl) rfl rfl rfl ?_
    refine WL.call (oc_call (vs := [vI (((q + 5 * i) : Nat) : Int)]) (cap := []) rfl rfl rfl Tryd.call79 (c_markText (q + 5 * i) (by omega) w1)) rfl rfl (ltb rfl) ?_
    rintro _ w2 ⟨st1, rfl, m2⟩
    refine WL.det (op_indexSl (off' := 0 + i * 5) rfl rfl rfl Tryd.runUnderlying40 Tryd.sizeOf27 (by omega) (by omega) (by omega)) rfl rfl rfl ?_
    refine WL.det (op_fieldAddr (off' := 0 + i * 5) rfl Tryd.runUnderlying27 rfl rfl Tryd.sizeOf9 rfl) rfl rfl rfl ?_
    refine WL.op0 (op_store (i := 0 + i * 5) (cs := [.string st1]) rfl rfl rfl Tryd.sizeOf9 rfl (r2.ext m2) (Nat.zero_add _) (sub_fit (i := 0) (zf_ (cat_fit (f := InR.cells) (fun _ => rfl) lxs (show i < n by omega))) (lB rfl)) rfl) rfl rfl ?_
    rintro _ w3 ⟨r3, m3, z1⟩
    have r4 : Row w3 b 0 (splice (cat InR.cells xs) (0 + i * 5) [.string st1, vI ((xs.getD i InR.d).kind), vF ((xs.getD i InR.d).a), vF ((xs.getD i InR.d).b), vF ((xs.getD i InR.d).c)]) := Row.congr r3 (sub_put (i := 0) (zf_ (cat_fit (f := InR.cells) (fun _ => rfl) lxs (show i < n by omega))) (lB rfl) rfl)
    refine WL.end ?_
    refine NE.code ?_
    refine CE.seq ?_
    refine CE.region ?_
    refine WL.det (op_move rfl) rfl rfl rfl ?_
    refine WL.det (op_add (r := (((q + 5 * i) + 1 : Nat) : Int)) rfl rfl (w_i64 (by omega) (by omega))) rfl rfl rfl ?_
    refine WL.det (op_assign rfl) rfl rfl rfl ?_
    refine WL.end ?_
    refine NE.code ?_
    refine CE.seq ?_
    refine CE.region ?_
    refine WL.det (op_move rfl) rfl rfl rfl ?_
    refine WL.det (op_move rfl) rfl rfl rfl ?_
    refine WL.det (op_move rfl) rfl rfl rfl ?_
    refine WL.det (op_indexSl (off' := 0 + i * 5) rfl rfl rfl Tryd.runUnderlying40 Tryd.sizeOf27 (by omega) (by omega) (by omega)) rfl rfl rfl ?_
    refine WL.det (op_fieldAddr (off' := 0 + i * 5 + 1) rfl Tryd.runUnderlying27 rfl rfl Tryd.sizeOf2 rfl) rfl rfl rfl ?_
    refine WL.op0 (op_store (i := 0 + i * 5 + 1) (cs := [vI (((q + 5 * i) + 1 : Nat) : Int)]) rfl rfl rfl Tryd.sizeOf2 rfl r4 (Nat.zero_add _) (sub_fit (i := 1) (zf_ (cat_fit (f := InR.cells) (fun _ => rfl) lxs (show i < n by omega))) (lB rfl)) rfl) rfl rfl ?_
    rintro _ w4 ⟨r5, m4, z2⟩
    have r6 : Row w4 b 0 (splice (cat InR.cells xs) (0 + i * 5) [.string st1, vI (((q + 5 * i) + 1 : Nat) : Int), vF ((xs.getD i InR.d).a), vF ((xs.getD i InR.d).b), vF ((xs.getD i InR.d).c)]) := Row.congr r5 (sub_put (i := 1) (zf_ (cat_fit (f := InR.cells) (fun _ => rfl) lxs (show i < n by omega))) (lB rfl) rfl)
    refine WL.end ?_
    refine NE.code ?_
    refine CE.seq ?_
    refine CE.region ?_
    refine WL.det (op_move rfl) rfl rfl rfl ?_
    refine WL.det (op_add (r := (((q + 5 * i) + 1 + 1 : Nat) : Int)) rfl rfl (w_i64 (by omega) (by omega))) rfl rfl rfl ?_
    refine WL.det (op_assign rfl) rfl rfl rfl ?_
    refine WL.end ?_
    refine NE.code ?_
    refine CE.seq ?_
    refine CE.region ?_
    refine WL.det (op_move rfl) rfl rfl rfl ?_
    refine WL.det (op_move rfl) rfl rfl rfl ?_
    refine WL.det (op_move rfl) rfl rfl rfl ?_
    refine WL.det (op_cvt_if rfl Tryd.runUnderlying3 Tryd.runUnderlying22) rfl rfl rfl ?_
    refine WL.det (op_indexSl (off' := 0 + i * 5) rfl rfl rfl Tryd.runUnderlying40 Tryd.sizeOf27 (by omega) (by omega) (by omega)) rfl rfl rfl ?_
    refine WL.det (op_fieldAddr (off' := 0 + i * 5 + 2) rfl Tryd.runUnderlying27 rfl rfl Tryd.sizeOf22 rfl) rfl rfl rfl ?_
    refine WL.op0 (op_store (i := 0 + i * 5 + 2) (cs := [vF (FloatKind.f32.nearest (((q + 5 * i) + 1 + 1 : Nat) : Int))]) rfl rfl rfl Tryd.sizeOf22 rfl r6 (Nat.zero_add _) (sub_fit (i := 2) (zf_ (cat_fit (f := InR.cells) (fun _ => rfl) lxs (show i < n by omega))) (lB rfl)) rfl) rfl rfl ?_
    rintro _ w5 ⟨r7, m5, z3⟩
    have r8 : Row w5 b 0 (splice (cat InR.cells xs) (0 + i * 5) [.string st1, vI (((q + 5 * i) + 1 : Nat) : Int), vF (FloatKind.f32.nearest (((q + 5 * i) + 1 + 1 : Nat) : Int)), vF ((xs.getD i InR.d).b), vF ((xs.getD i InR.d).c)]) := Row.congr r7 (sub_put (i := 2) (zf_ (cat_fit (f := InR.cells) (fun _ => rfl) lxs (show i < n by omega))) (lB rfl) rfl)
    refine WL.end ?_
    refine NE.code ?_
    refine CE.seq ?_
    refine CE.region ?_
    refine WL.det (op_move rfl) rfl rfl rfl ?_
    refine WL.det (op_add (r := (((q + 5 * i) + 1 + 1 + 1 : Nat) : Int)) rfl rfl (w_i64 (by omega) (by omega))) rfl rfl rfl ?_
    refine WL.det (op_assign rfl) rfl rfl rfl ?_
    refine WL.end ?_
    refine NE.code ?_
    refine CE.seq ?_
    refine CE.region ?_
    refine WL.det (op_move rfl) rfl rfl rfl ?_
    refine WL.det (op_move rfl) rfl rfl rfl ?_
    refine WL.det (op_move rfl) rfl rfl rfl ?_
    refine WL.det (op_cvt_if rfl Tryd.runUnderlying3 Tryd.runUnderlying22) rfl rfl rfl ?_
    refine WL.det (op_indexSl (off' := 0 + i * 5) rfl rfl rfl Tryd.runUnderlying40 Tryd.sizeOf27 (by omega) (by omega) (by omega)) rfl rfl rfl ?_
    refine WL.det (op_fieldAddr (off' := 0 + i * 5 + 3) rfl Tryd.runUnderlying27 rfl rfl Tryd.sizeOf22 rfl) rfl rfl rfl ?_
    refine WL.op0 (op_store (i := 0 + i * 5 + 3) (cs := [vF (FloatKind.f32.nearest (((q + 5 * i) + 1 + 1 + 1 : Nat) : Int))]) rfl rfl rfl Tryd.sizeOf22 rfl r8 (Nat.zero_add _) (sub_fit (i := 3) (zf_ (cat_fit (f := InR.cells) (fun _ => rfl) lxs (show i < n by omega))) (lB rfl)) rfl) rfl rfl ?_
    rintro _ w6 ⟨r9, m6, z4⟩
    have r10 : Row w6 b 0 (splice (cat InR.cells xs) (0 + i * 5) [.string st1, vI (((q + 5 * i) + 1 : Nat) : Int), vF (FloatKind.f32.nearest (((q + 5 * i) + 1 + 1 : Nat) : Int)), vF (FloatKind.f32.nearest (((q + 5 * i) + 1 + 1 + 1 : Nat) : Int)), vF ((xs.getD i InR.d).c)]) := Row.congr r9 (sub_put (i := 3) (zf_ (cat_fit (f := InR.cells) (fun _ => rfl) lxs (show i < n by omega))) (lB rfl) rfl)
    refine WL.end ?_
    refine NE.code ?_
    refine CE.seq ?_
    refine CE.region ?_
    refine WL.det (op_move rfl) rfl rfl rfl ?_
    refine WL.det (op_add (r := (((q + 5 * i) + 1 + 1 + 1 + 1 : Nat) : Int)) rfl rfl (w_i64 (by omega) (by omega))) rfl rfl rfl ?_
    refine WL.det (op_assign rfl) rfl rfl rfl ?_
    refine WL.end ?_
    refine NE.code ?_
    refine CE.seq ?_
    refine CE.region ?_
    refine WL.det (op_move rfl) rfl rfl rfl ?_
    refine WL.det (op_move rfl) rfl rfl rfl ?_
    refine WL.det (op_move rfl) rfl rfl rfl ?_
    refine WL.det (op_cvt_if rfl Tryd.runUnderlying3 Tryd.runUnderlying22) rfl rfl rfl ?_
    refine WL.det (op_indexSl (off' := 0 + i * 5) rfl rfl rfl Tryd.runUnderlying40 Tryd.sizeOf27 (by omega) (by omega) (by omega)) rfl rfl rfl ?_
    refine WL.det (op_fieldAddr (off' := 0 + i * 5 + 4) rfl Tryd.runUnderlying27 rfl rfl Tryd.sizeOf22 rfl) rfl rfl rfl ?_
    refine WL.op0 (op_store (i := 0 + i * 5 + 4) (cs := [vF (FloatKind.f32.nearest (((q + 5 * i) + 1 + 1 + 1 + 1 : Nat) : Int))]) rfl rfl rfl Tryd.sizeOf22 rfl r10 (Nat.zero_add _) (sub_fit (i := 4) (zf_ (cat_fit (f := InR.cells) (fun _ => rfl) lxs (show i < n by omega))) (lB rfl)) rfl) rfl rfl ?_
    rintro _ w7 ⟨r11, m7, z5⟩
    have r12 : Row w7 b 0 (splice (cat InR.cells xs) (0 + i * 5) [.string st1, vI (((q + 5 * i) + 1 : Nat) : Int), vF (FloatKind.f32.nearest (((q + 5 * i) + 1 + 1 : Nat) : Int)), vF (FloatKind.f32.nearest (((q + 5 * i) + 1 + 1 + 1 : Nat) : Int)), vF (FloatKind.f32.nearest (((q + 5 * i) + 1 + 1 + 1 + 1 : Nat) : Int))]) := Row.congr r11 (sub_put (i := 4) (zf_ (cat_fit (f := InR.cells) (fun _ => rfl) lxs (show i < n by omega))) (lB rfl) rfl)
    refine WL.end ?_
    refine NE.code ?_
    refine CE.region ?_
    refine WL.det (op_move rfl) rfl rfl rfl ?_
    refine WL.det (op_add (r := (((q + 5 * i) + 1 + 1 + 1 + 1 + 1 : Nat) : Int)) rfl rfl (w_i64 (by omega) (by omega))) rfl rfl rfl ?_
    refine WL.det (op_assign rfl) rfl rfl rfl ?_
    refine WL.end ?_
    refine NE.blk ?_
    refine NE.code ?_
    refine CE.region ?_
    refine WL.det (op_move rfl) rfl rfl rfl ?_
    refine WL.det (op_add (r := ((i + 1 : Nat) : Int)) rfl rfl (w_i64 (by omega) (by omega))) rfl rfl rfl ?_
    refine WL.det (op_assign rfl) rfl rfl rfl ?_
    refine WL.end ?_
    exact NE.again ((i + 1), (xs.set i ⟨st1, (((q + 5 * i) + 1 : Nat) : Int), (FloatKind.f32.nearest (((q + 5 * i) + 1 + 1 : Nat) : Int)), (FloatKind.f32.nearest (((q + 5 * i) + 1 + 1 + 1 : Nat) : Int)), (FloatKind.f32.nearest (((q + 5 * i) + 1 + 1 + 1 + 1 : Nat) : Int))⟩)) (⟨rfl, rfl, rfl, rfl, trivial⟩) ⟨(by omega), (by exact (List.length_set).trans lxs), (Row.congr r12 (by rw [← inr_cells]; exact zs_ (cat_set (f := InR.cells) (m := 5) (fun _ => rfl) lxs (show i < n by omega) _))), ((((((m1.nt m2).then m3 ((aC (.inl (by simp)) aN))).then m4 ((aC (.inl (by simp)) aN))).then m5 ((aC (.inl (by simp)) aN))).then m6 ((aC (.inl (by simp)) aN))).then m7 ((aC (.inl (by simp)) aN)))⟩ (by first | (dsimp only; omega) | omega)
  · have hp1 := of_decide_eq_false hb1
    refine CE.cond_f rfl hb1 ?_
    refine CE.exit' ?_
    refine XE.exit_then ?_
    refine XE.exit_then ?_
    refine XE.exit_here ?_
    refine NE.code ?_
    refine CE.seq ?_
    refine CE.region ?_
    refine WL.det (op_move rfl) rfl rfl rfl ?_
    refine WL.det (op_assign rfl) rfl rfl rfl ?_
    refine WL.end ?_
    refine NE.code ?_
    refine CE.ret' ?_
    refine XE.leave1 Tryd.results58 rfl ?_
    refine ⟨?_, ((Mod.refl [b] w).then m1 ((aC (.inl (by simp)) aN)))⟩
    all_goals (have e : i = n := (by omega); subst e; rfl)

set_option maxRecDepth 100000 in
set_option maxHeartbeats 2000000 in
theorem c_markScore (ra : Nat) (ba : Nat) (oc : Nat) (nD : Nat) (bD : Nat) (esD : List Nat) (nI : Nat) (bI : Nat) (esI : List InR) (nE : Nat) (bE : Nat) (es : List EvR) (q : Nat) (lnD : esD.length = nD) (lnI : esI.length = nI) (lnE : es.length = nE) (hnD : nD ≤ 1048576) (hnI : nI ≤ 1048576) (hnE : nE ≤ 1048576) (hq : q ≤ 1048576) (w : World) (rD : Row w bD 0 (fl esD)) (rI : Row w bI 0 (cat InR.cells esI)) (rE : Row w bE 0 (cat EvR.cells es)) (nDI : bD ≠ bI) (nDE : bD ≠ bE) (nIE : bI ≠ bE) : Cl Tryd.prog 27 #[.agg #[vF ra, vF ba, vF oc, vS bD 0 nD nD, vS bI 0 nI nI, vS bE 0 nE nE], vI ((q : Nat) : Int)] w fun v w' => v = vI (((q + nD + 5 * nI + 6 * nE) : Nat) : Int) ∧ Mod [bD, bI, bE] w w' := by
  refine Cl.of Tryd.func27 Tryd.ntmps27 rfl rfl (ρ := [(0, .agg #[vF ra, vF ba, vF oc, vS bD 0 nD nD, vS bI 0 nI nI, vS bE 0 nE nE]), (1, vI ((q : Nat) : Int))]) rfl ?_
  refine CE.seq ?_
  refine CE.region ?_
  refine WL.op (op_box (cs := [vF ra, vF ba, vF oc, vS bD 0 nD nD, vS bI 0 nI nI, vS bE 0 nE nE]) rfl rfl) rfl rfl (ltb rfl) ?_
  rintro _ w1 ⟨rfl, r1, m1, z1⟩
  refine WL.det (op_assign rfl) rfl rfl rfl ?_
  refine WL.end ?_
  refine NE.code ?_
  refine CE.seq ?_
  refine CE.region ?_
  refine WL.det (op_fieldAddr (off' := 1) rfl Tryd.runUnderlying43 rfl rfl Tryd.sizeOf39 rfl) rfl rfl rfl ?_
  refine WL.det (op_loadA (i := 1) (cs := [vF ba, vF oc, vS bD 0 nD nD]) rfl Tryd.isAgg39 Tryd.sizeOf39 r1.rng rfl rfl rfl) rfl rfl rfl ?_
  refine WL.det (op_move rfl) rfl rfl rfl ?_
  refine WL.call (oc_call (vs := [.agg #[vF ba, vF oc, vS bD 0 nD nD], vI ((q : Nat) : Int)]) (cap := []) rfl rfl rfl Tryd.call57 (c_markTuning ba oc nD nD bD esD q lnD (by omega) (by omega) w1 (rD.ext m1))) rfl rfl (ltb rfl) ?_
  rintro _ w2 ⟨rfl, r2, m2⟩
  refine WL.det (op_assign rfl) rfl rfl rfl ?_
  refine WL.end ?_
  refine NE.code ?_
  refine CE.seq ?_
  refine CE.region ?_
  refine WL.det (op_fieldAddr (off' := 4) rfl Tryd.runUnderlying43 rfl rfl Tryd.sizeOf40 rfl) rfl rfl rfl ?_
  refine WL.det (op_load1 (i := 4) rfl Tryd.isAgg40 (r1.mod m2 (nC (lG (lL rD.lt lR)) nN)).rng rfl rfl) rfl rfl rfl ?_
  refine WL.det (op_move rfl) rfl rfl rfl ?_
  refine WL.call (oc_call (vs := [vS bI 0 nI nI, vI ((q + nD : Nat) : Int)]) (cap := []) rfl rfl rfl Tryd.call58 (c_markInstrS nI nI bI esI (q + nD) lnI (by omega) (by omega) w2 ((rI.ext m1).mod m2 (nC (Ne.symm nDI) nN)))) rfl rfl (ltb rfl) ?_
  rintro _ w3 ⟨rfl, m3⟩
  refine WL.det (op_assign rfl) rfl rfl rfl ?_
  refine WL.end ?_
  refine NE.code ?_
  refine CE.seq ?_
  refine CE.region ?_
  refine WL.det (op_fieldAddr (off' := 5) rfl Tryd.runUnderlying43 rfl rfl Tryd.sizeOf41 rfl) rfl rfl rfl ?_
  refine WL.det (op_load1 (i := 5) rfl Tryd.isAgg41 ((r1.mod m2 (nC (lG (lL rD.lt lR)) nN)).mod m3 (nC (lG (lL rI.lt lR)) nN)).rng rfl rfl) rfl rfl rfl ?_
  refine WL.det (op_move rfl) rfl rfl rfl ?_
  refine WL.call (oc_call (vs := [vS bE 0 nE nE, vI ((((q + nD) + 5 * nI) : Nat) : Int)]) (cap := []) rfl rfl rfl Tryd.call28 (c_markEventS nE nE (some ⟨bE, 0, none⟩) bE es ((q + nD) + 5 * nI) lnE (fun _ => rfl) (by omega) (by omega) w3 (((rE.ext m1).mod m2 (nC (Ne.symm nDE) nN)).mod m3 (nC (Ne.symm nIE) nN)))) rfl rfl (ltb rfl) ?_
  rintro _ w4 ⟨rfl, r3, m4⟩
  refine WL.det (op_assign rfl) rfl rfl rfl ?_
  refine WL.end ?_
  refine NE.code ?_
  refine CE.seq ?_
  refine CE.region ?_
  refine WL.det (op_move rfl) rfl rfl rfl ?_
  refine WL.det (op_assign rfl) rfl rfl rfl ?_
  refine WL.end ?_
  refine NE.code ?_
  refine CE.ret' ?_
  refine XE.leave1 Tryd.results27 rfl ?_
  refine ⟨?_, (((((Mod.refl [bD, bI, bE] w).nt m1).then m2 ((aC (.inl (by simp)) aN))).then m3 ((aC (.inl (by simp)) aN))).then m4 ((aC (.inl (by simp)) aN)))⟩
  all_goals first | rfl | exact congrArg (Value.int .i64) (by omega)

set_option maxRecDepth 100000 in
set_option maxHeartbeats 2000000 in
theorem c_sBetw (ra : Nat) (ba : Nat) (oc : Nat) (nD : Nat) (bD : Nat) (esD : List Nat) (nI : Nat) (bI : Nat) (esI : List InR) (nE : Nat) (bE : Nat) (es : List EvR) (ef : Int) (et : Int) (lnD : esD.length = nD) (lnI : esI.length = nI) (lnE : es.length = nE) (hnD : nD ≤ 1048576) (hnI : nI ≤ 1048576) (hnE : nE ≤ 1048576) (hS : ∀ i, (esI.getD i InR.d).name.size ≤ 9223372036854775807) (hW : ∀ i, EvW (es.getD i EvR.d)) (hv : vScS ra ba oc esD nD esI nI es nE = true) (w : World) (rD : Rng w bD 0 (fl esD)) (rI : Rng w bI 0 (cat InR.cells esI)) (rE : Rng w bE 0 (cat EvR.cells es)) : Cl Tryd.prog 24 #[.agg #[vF ra, vF ba, vF oc, vS bD 0 nD nD, vS bI 0 nI nI, vS bE 0 nE nE], vI ef, vI et] w fun v w' => ∃ (b' : Nat) (c' : Nat) (A' : Option Addr), v = .tuple #[.slice A' ((betw es ef et nE).length) c', vI 0] ∧ (0 < (betw es ef et nE).length → A' = some ⟨b', 0, none⟩) ∧ Row w' b' 0 (cat EvR.cells (betw es ef et nE)) ∧ w.heap.size ≤ b' ∧ Mod [] w w' := by
  refine Cl.of Tryd.func24 Tryd.ntmps24 rfl rfl (ρ := [(0, .agg #[vF ra, vF ba, vF oc, vS bD 0 nD nD, vS bI 0 nI nI, vS bE 0 nE nE]), (1, vI ef), (2, vI et)]) rfl ?_
  refine CE.seq ?_
  refine CE.region ?_
  refine WL.op (op_box (cs := [vF ra, vF ba, vF oc, vS bD 0 nD nD, vS bI 0 nI nI, vS bE 0 nE nE]) rfl rfl) rfl rfl (ltb rfl) ?_
  rintro _ w1 ⟨rfl, r1, m1, z1⟩
  refine WL.det (op_assign rfl) rfl rfl rfl ?_
  refine WL.det (op_assign rfl) rfl rfl rfl ?_
  refine WL.end ?_
  refine NE.code ?_
  refine CE.seq ?_
  refine CE.seq ?_
  refine CE.region ?_
  refine WL.call (oc_call (vs := [vP w.heap.size 0]) (cap := []) rfl rfl rfl Tryd.call39 (c_l08Ok ra ba oc nD bD esD nI bI esI nE bE es w.heap.size lnD lnI lnE (by omega) (by omega) (by omega) (by assumption) (by assumption) w1 r1.rng (rD.ext m1) (rI.ext m1) (rE.ext m1))) rfl rfl (ltb rfl) ?_
  rintro _ w2 ⟨rfl, m2⟩
  refine WL.det (op_not rfl) rfl rfl rfl ?_
  refine WL.end ?_
  refine NE.code ?_
  refine CE.cond_f rfl (bnot_t hv) ?_
  refine CE.skip' ?_
  refine NE.code ?_
  refine CE.seq ?_
  refine CE.region ?_
  refine WL.op (op_emptySl rfl Tryd.runUnderlying41 Tryd.sizeOf72) rfl rfl (ltb rfl) ?_
  rintro _ w3 ⟨rfl, r2, m3, z2⟩
  refine WL.det (op_assign rfl) rfl rfl rfl ?_
  refine WL.end ?_
  refine NE.code ?_
  refine CE.seq ?_
  refine CE.seq ?_
  refine CE.region ?_
  refine WL.det (op_assign rfl) rfl rfl rfl ?_
  refine WL.end ?_
  refine NE.code ?_
  refine CE.block ?_
  refine CE.loop (fun (z : Nat × Nat × Option Addr × Nat × List EvR) => [(9, vI ((z.1 : Nat) : Int)), (8, .slice z.2.2.1 z.2.1 z.2.2.2.1), (1, vI ef), (2, vI et), (3, vP w.heap.size 0), (6, .slice none 0 0), (7, vI 0)]) (fun (z : Nat × Nat × Option Addr × Nat × List EvR) => fun W => (z.1 ≤ nE) ∧ (z.2.2.2.2 = betw es ef et z.1) ∧ (z.2.2.2.2.length = z.2.1) ∧ (z.2.1 ≤ z.1) ∧ Own 72 6 w3.heap.size W z.2.2.1 z.2.1 z.2.2.2.1 (cat EvR.cells z.2.2.2.2) ∧ Mod [] w3 W) (fun (z : Nat × Nat × Option Addr × Nat × List EvR) => nE - z.1) (0, 0, (some ⟨w2.heap.size, 0, none⟩), 0, []) (⟨rfl, rfl, rfl, rfl, rfl, rfl, rfl, trivial⟩) ⟨(by omega), (by rfl), (by rfl), (by exact Nat.le_refl _), (Own.congr Own.emp (rfl)), Mod.refl _ _⟩ ?_
  rintro ⟨i, nn, A2, cc, ys⟩ w4 ⟨hi, hy, hly, hnn, ow1, m4⟩
  replace hi : i ≤ nE := hi
  replace hy : ys = betw es ef et i := hy
  replace hly : ys.length = nn := hly
  replace hnn : nn ≤ i := hnn
  replace ow1 : Own 72 6 w3.heap.size w4 A2 nn cc (cat EvR.cells ys) := ow1
  show CE _ _ _ _ [(9, vI ((i : Nat) : Int)), (8, .slice A2 nn cc), (1, vI ef), (2, vI et), (3, vP w.heap.size 0), (6, .slice none 0 0), (7, vI 0)] _
  refine CE.seq ?_
  refine CE.seq ?_
  refine CE.region ?_
  refine WL.det (op_move rfl) rfl rfl rfl ?_
  refine WL.det (op_fieldAddr (off' := 5) rfl Tryd.runUnderlying43 rfl rfl Tryd.sizeOf41 rfl) rfl rfl rfl ?_
  refine WL.det (op_load1 (i := 5) rfl Tryd.isAgg41 (((r1.ext m2).ext m3).ext m4).rng rfl rfl) rfl rfl rfl ?_
  refine WL.det (op_len rfl Tryd.runUnderlying41) rfl rfl rfl ?_
  refine WL.det (op_lti rfl rfl) rfl rfl rfl ?_
  refine WL.end ?_
  refine NE.code ?_
  rcases Bool.eq_false_or_eq_true (decide (((i : Nat) : Int) < ((nE : Nat) : Int))) with hb1 | hb1
  · have hp1 := of_decide_eq_true hb1
    refine CE.cond_t rfl hb1 ?_
    refine CE.skip' ?_
    refine NE.code ?_
    refine CE.seq ?_
    refine CE.block ?_
    refine CE.seq ?_
    refine CE.region ?_
    refine WL.det (op_fieldAddr (off' := 5) rfl Tryd.runUnderlying43 rfl rfl Tryd.sizeOf41 rfl) rfl rfl rfl ?_
    refine WL.det (op_load1 (i := 5) rfl Tryd.isAgg41 (((r1.ext m2).ext m3).ext m4).rng rfl rfl) rfl rfl rfl ?_
    refine WL.det (op_move rfl) rfl rfl rfl ?_
    refine WL.det (op_indexSl (off' := 0 + i * 6) rfl rfl rfl Tryd.runUnderlying41 Tryd.sizeOf72 (by omega) (by omega) (by omega)) rfl rfl rfl ?_
    refine WL.det (op_fieldAddr (off' := 0 + i * 6) rfl Tryd.runUnderlying72 rfl rfl Tryd.sizeOf2 rfl) rfl rfl rfl ?_
    refine WL.det (op_load1 (i := i * 6) rfl Tryd.isAgg2 ((((rE.ext m1).ext m2).ext m3).ext m4) rfl (cat_get0 (f := EvR.cells) (m := 6) (i := i) (d := EvR.d) (fun _ => rfl) (by have eL : List.length es = nE := lnE; omega) rfl)) rfl rfl rfl ?_
    refine WL.det (op_move rfl) rfl rfl rfl ?_
    refine WL.det (op_gei rfl rfl) rfl rfl rfl ?_
    refine WL.det (op_move rfl) rfl rfl rfl ?_
    rcases Bool.eq_false_or_eq_true (decide (ef ≤ ((es.getD i EvR.d).at_))) with hb2 | hb2
    · have hp2 := of_decide_eq_true hb2
      refine WL.yes rfl rfl rfl (ltb rfl) rfl hb2 ?_
      refine WL.det (op_fieldAddr (off' := 5) rfl Tryd.runUnderlying43 rfl rfl Tryd.sizeOf41 rfl) rfl rfl rfl ?_
      refine WL.yes rfl rfl rfl (ltb rfl) rfl hb2 ?_
      refine WL.det (op_load1 (i := 5) rfl Tryd.isAgg41 (((r1.ext m2).ext m3).ext m4).rng rfl rfl) rfl rfl rfl ?_
      refine WL.yes rfl rfl rfl (ltb rfl) rfl hb2 ?_
      refine WL.det (op_move rfl) rfl rfl rfl ?_
      refine WL.yes rfl rfl rfl (ltb rfl) rfl hb2 ?_
      refine WL.det (op_indexSl (off' := 0 + i * 6) rfl rfl rfl Tryd.runUnderlying41 Tryd.sizeOf72 (by omega) (by omega) (by omega)) rfl rfl rfl ?_
      refine WL.yes rfl rfl rfl (ltb rfl) rfl hb2 ?_
      refine WL.det (op_fieldAddr (off' := 0 + i * 6) rfl Tryd.runUnderlying72 rfl rfl Tryd.sizeOf2 rfl) rfl rfl rfl ?_
      refine WL.yes rfl rfl rfl (ltb rfl) rfl hb2 ?_
      refine WL.det (op_load1 (i := i * 6) rfl Tryd.isAgg2 ((((rE.ext m1).ext m2).ext m3).ext m4) rfl (cat_get0 (f := EvR.cells) (m := 6) (i := i) (d := EvR.d) (fun _ => rfl) (by have eL : List.length es = nE := lnE; omega) rfl)) rfl rfl rfl ?_
      refine WL.yes rfl rfl rfl (ltb rfl) rfl hb2 ?_
      refine WL.det (op_move rfl) rfl rfl rfl ?_
      refine WL.yes rfl rfl rfl (ltb rfl) rfl hb2 ?_
      refine WL.det (op_lti rfl rfl) rfl rfl rfl ?_
      refine WL.det (op_pick_t rfl hb2 rfl) rfl rfl rfl ?_
      refine WL.end ?_
      refine NE.code ?_
      rcases Bool.eq_false_or_eq_true (decide (((es.getD i EvR.d).at_) < et)) with hb3 | hb3
      · have hp3 := of_decide_eq_true hb3
        refine CE.cond_t rfl hb3 ?_
        refine CE.region ?_
        refine WL.det (op_move rfl) rfl rfl rfl ?_
        refine WL.det (op_fieldAddr (off' := 5) rfl Tryd.runUnderlying43 rfl rfl Tryd.sizeOf41 rfl) rfl rfl rfl ?_
        refine WL.det (op_load1 (i := 5) rfl Tryd.isAgg41 (((r1.ext m2).ext m3).ext m4).rng rfl rfl) rfl rfl rfl ?_
        refine WL.det (op_move rfl) rfl rfl rfl ?_
        refine WL.det (op_indexSl (off' := 0 + i * 6) rfl rfl rfl Tryd.runUnderlying41 Tryd.sizeOf72 (by omega) (by omega) (by omega)) rfl rfl rfl ?_
        refine WL.det (op_loadA (i := i * 6) (cs := [vI ((es.getD i EvR.d).at_), vI ((es.getD i EvR.d).kind), vI ((es.getD i EvR.d).note), vI ((es.getD i EvR.d).ins), vI ((es.getD i EvR.d).key), vF ((es.getD i EvR.d).force)]) rfl Tryd.isAgg72 Tryd.sizeOf72 ((((rE.ext m1).ext m2).ext m3).ext m4) rfl (cat_at (f := EvR.cells) (m := 6) (i := i) (d := EvR.d) (fun _ => rfl) (by have eL : List.length es = nE := lnE; omega)) rfl) rfl rfl rfl ?_
        refine WL.op (op_buildSl (qs := [(0, .agg #[vI ((es.getD i EvR.d).at_), vI ((es.getD i EvR.d).kind), vI ((es.getD i EvR.d).note), vI ((es.getD i EvR.d).ins), vI ((es.getD i EvR.d).key), vF ((es.getD i EvR.d).force)])]) (cells := #[vI ((es.getD i EvR.d).at_), vI ((es.getD i EvR.d).kind), vI ((es.getD i EvR.d).note), vI ((es.getD i EvR.d).ins), vI ((es.getD i EvR.d).key), vF ((es.getD i EvR.d).force)]) rfl Tryd.runUnderlying41 Tryd.sizeOf72 Tryd.zeroValue72 (by decide) (by decide) (by kernel_rfl)) rfl rfl (ltb rfl) ?_
        rintro _ w5 ⟨rfl, r3, m5, z3⟩
        refine WL.op (op_app (i := Tryd.t72) (m := 6) (bt := 48) (news := [vI ((es.getD i EvR.d).at_), vI ((es.getD i EvR.d).kind), vI ((es.getD i EvR.d).note), vI ((es.getD i EvR.d).ins), vI ((es.getD i EvR.d).key), vF ((es.getD i EvR.d).force)]) rfl rfl Tryd.underlying41 rfl rfl rfl rfl rfl (by decide) r3.rng rfl rfl (ow1.ext m5) (lT m4.size m5.size) (by omega) (by decide)) rfl rfl (ltb rfl) ?_
        rintro _ w6 ⟨A1, c1, b1, rfl, ow2, ge1, m6⟩
        refine WL.det (op_assign rfl) rfl rfl rfl ?_
        refine WL.end ?_
        refine NE.blk ?_
        refine NE.code ?_
        refine CE.region ?_
        refine WL.det (op_move rfl) rfl rfl rfl ?_
        refine WL.det (op_add (r := ((i + 1 : Nat) : Int)) rfl rfl (w_i64 (by omega) (by omega))) rfl rfl rfl ?_
        refine WL.det (op_assign rfl) rfl rfl rfl ?_
        refine WL.end ?_
        exact NE.again ((i + 1), (nn + 1), A1, c1, (ys ++ [(es.getD i EvR.d)])) (⟨rfl, rfl, rfl, rfl, rfl, rfl, rfl, trivial⟩) ⟨(by omega), (by first | exact betw_t hy (by omega) (by omega) | exact betw_f hy (by omega)), (by first | exact hly | (rw [List.length_append, hly]; rfl)), (by dsimp only; omega), (Own.congr ow2 (by first | rfl | exact cat_snocE _ _)), ((m4.nt m5).then m6 ((aC (.inr ge1) aN)))⟩ (by first | (dsimp only; omega) | omega)
      · have hp3 := of_decide_eq_false hb3
        refine CE.cond_f rfl hb3 ?_
        refine CE.skip' ?_
        refine NE.blk ?_
        refine NE.code ?_
        refine CE.region ?_
        refine WL.det (op_move rfl) rfl rfl rfl ?_
        refine WL.det (op_add (r := ((i + 1 : Nat) : Int)) rfl rfl (w_i64 (by omega) (by omega))) rfl rfl rfl ?_
        refine WL.det (op_assign rfl) rfl rfl rfl ?_
        refine WL.end ?_
        exact NE.again ((i + 1), nn, A2, cc, ys) (⟨rfl, rfl, rfl, rfl, rfl, rfl, rfl, trivial⟩) ⟨(by omega), (by first | exact betw_t hy (by omega) (by omega) | exact betw_f hy (by omega)), (by first | exact hly | (rw [List.length_append, hly]; rfl)), (by dsimp only; omega), (Own.congr ow1 (by first | rfl | exact cat_snocE _ _)), m4⟩ (by first | (dsimp only; omega) | omega)
    · have hp2 := of_decide_eq_false hb2
      refine WL.no rfl rfl rfl (ltb rfl) rfl hb2 rfl (ltb rfl) ?_
      refine WL.no rfl rfl rfl (ltb rfl) rfl hb2 rfl (ltb rfl) ?_
      refine WL.no rfl rfl rfl (ltb rfl) rfl hb2 rfl (ltb rfl) ?_
      refine WL.no rfl rfl rfl (ltb rfl) rfl hb2 rfl (ltb rfl) ?_
      refine WL.no rfl rfl rfl (ltb rfl) rfl hb2 rfl (ltb rfl) ?_
      refine WL.no rfl rfl rfl (ltb rfl) rfl hb2 rfl (ltb rfl) ?_
      refine WL.no rfl rfl rfl (ltb rfl) rfl hb2 rfl (ltb rfl) ?_
      refine WL.no rfl rfl rfl (ltb rfl) rfl hb2 rfl (ltb rfl) ?_
      refine WL.det (op_pick_f rfl hb2 rfl) rfl rfl rfl ?_
      refine WL.end ?_
      refine NE.code ?_
      refine CE.cond_f rfl rfl ?_
      refine CE.skip' ?_
      refine NE.blk ?_
      refine NE.code ?_
      refine CE.region ?_
      refine WL.det (op_move rfl) rfl rfl rfl ?_
      refine WL.det (op_add (r := ((i + 1 : Nat) : Int)) rfl rfl (w_i64 (by omega) (by omega))) rfl rfl rfl ?_
      refine WL.det (op_assign rfl) rfl rfl rfl ?_
      refine WL.end ?_
      exact NE.again ((i + 1), nn, A2, cc, ys) (⟨rfl, rfl, rfl, rfl, rfl, rfl, rfl, trivial⟩) ⟨(by omega), (by first | exact betw_t hy (by omega) (by omega) | exact betw_f hy (by omega)), (by first | exact hly | (rw [List.length_append, hly]; rfl)), (by dsimp only; omega), (Own.congr ow1 (by first | rfl | exact cat_snocE _ _)), m4⟩ (by first | (dsimp only; omega) | omega)
  · have hp1 := of_decide_eq_false hb1
    refine CE.cond_f rfl hb1 ?_
    refine CE.exit' ?_
    refine XE.exit_then ?_
    refine XE.exit_then ?_
    refine XE.exit_here ?_
    refine NE.code ?_
    refine CE.seq ?_
    refine CE.region ?_
    refine WL.det (op_move rfl) rfl rfl rfl ?_
    refine WL.det (op_assign rfl) rfl rfl rfl ?_
    refine WL.det (op_assign rfl) rfl rfl rfl ?_
    refine WL.end ?_
    refine NE.code ?_
    refine CE.ret' ?_
    have ei : nE = i := by omega
    subst ei
    have eys : (betw es ef et nE) = ys := hy.symm
    subst eys
    have enn : (betw es ef et nE).length = nn := hly
    subst enn
    obtain ⟨b2, hA1, r4, hq1⟩ := Own.out ow1 (((r1.ext m2).ext m3).ext m4)
    refine XE.leaveT Tryd.results24 (res_tmp rfl (res_tmp rfl res_nil)) ?_
    refine ⟨b2, cc, A2, rfl, hA1, r4, (own_ge hq1 lR (lT (lT m1.size m2.size) m3.size)), (((((Mod.refl [] w).nt m1).nt m2).nt m3).nt m4)⟩

set_option maxRecDepth 100000 in
set_option maxHeartbeats 2000000 in
theorem c_sBetw_inv (ra : Nat) (ba : Nat) (oc : Nat) (nD : Nat) (bD : Nat) (esD : List Nat) (nI : Nat) (bI : Nat) (esI : List InR) (nE : Nat) (bE : Nat) (es : List EvR) (ef : Int) (et : Int) (lnD : esD.length = nD) (lnI : esI.length = nI) (lnE : es.length = nE) (hnD : nD ≤ 1048576) (hnI : nI ≤ 1048576) (hnE : nE ≤ 1048576) (hS : ∀ i, (esI.getD i InR.d).name.size ≤ 9223372036854775807) (hW : ∀ i, EvW (es.getD i EvR.d)) (hv : vScS ra ba oc esD nD esI nI es nE = false) (w : World) (rD : Rng w bD 0 (fl esD)) (rI : Rng w bI 0 (cat InR.cells esI)) (rE : Rng w bE 0 (cat EvR.cells es)) : Cl Tryd.prog 24 #[.agg #[vF ra, vF ba, vF oc, vS bD 0 nD nD, vS bI 0 nI nI, vS bE 0 nE nE], vI ef, vI et] w fun v w' => ∃ (b' : Nat), v = .tuple #[vS b' 0 0 0, vI 1] ∧ Row w' b' 0 [] ∧ w.heap.size ≤ b' ∧ Mod [] w w' := by
  refine Cl.of Tryd.func24 Tryd.ntmps24 rfl rfl (ρ := [(0, .agg #[vF ra, vF ba, vF oc, vS bD 0 nD nD, vS bI 0 nI nI, vS bE 0 nE nE]), (1, vI ef), (2, vI et)]) rfl ?_
  refine CE.seq ?_
  refine CE.region ?_
  refine WL.op (op_box (cs := [vF ra, vF ba, vF oc, vS bD 0 nD nD, vS bI 0 nI nI, vS bE 0 nE nE]) rfl rfl) rfl rfl (ltb rfl) ?_
  rintro _ w1 ⟨rfl, r1, m1, z1⟩
  refine WL.det (op_assign rfl) rfl rfl rfl ?_
  refine WL.det (op_assign rfl) rfl rfl rfl ?_
  refine WL.end ?_
  refine NE.code ?_
  refine CE.seq ?_
  refine CE.seq ?_
  refine CE.region ?_
  refine WL.call (oc_call (vs := [vP w.heap.size 0]) (cap := []) rfl rfl rfl Tryd.call39 (c_l08Ok ra ba oc nD bD esD nI bI esI nE bE es w.heap.size lnD lnI lnE (by omega) (by omega) (by omega) (by assumption) (by assumption) w1 r1.rng (rD.ext m1) (rI.ext m1) (rE.ext m1))) rfl rfl (ltb rfl) ?_
  rintro _ w2 ⟨rfl, m2⟩
  refine WL.det (op_not rfl) rfl rfl rfl ?_
  refine WL.end ?_
  refine NE.code ?_
  refine CE.cond_t rfl (bnot_f hv) ?_
  refine CE.seq ?_
  refine CE.region ?_
  refine WL.op (op_emptySl rfl Tryd.runUnderlying41 Tryd.sizeOf72) rfl rfl (ltb rfl) ?_
  rintro _ w3 ⟨rfl, r2, m3, z2⟩
  refine WL.det (op_assign rfl) rfl rfl rfl ?_
  refine WL.det (op_assign rfl) rfl rfl rfl ?_
  refine WL.end ?_
  refine NE.code ?_
  refine CE.ret' ?_
  refine XE.ret_then ?_
  refine XE.leaveT Tryd.results24 (res_tmp rfl (res_tmp rfl res_nil)) ?_
  refine ⟨w2.heap.size, rfl, r2, (lT (lT m1.size m2.size) lR), ((((Mod.refl [] w).nt m1).nt m2).nt m3)⟩

set_option maxRecDepth 100000 in
set_option maxHeartbeats 2000000 in
theorem c_iBetw (ra : Nat) (ba : Nat) (oc : Nat) (nD : Nat) (bD : Nat) (esD : List Nat) (nI : Nat) (bI : Nat) (esI : List InR) (nE : Nat) (bE : Nat) (es : List EvR) (ef : Int) (et : Int) (lnD : esD.length = nD) (lnI : esI.length = nI) (lnE : es.length = nE) (hnD : nD ≤ 1048576) (hnI : nI ≤ 1048576) (hnE : nE ≤ 1048576) (hS : ∀ i, (esI.getD i InR.d).name.size ≤ 9223372036854775807) (hW : ∀ i, EvW (es.getD i EvR.d)) (hv : vScS ra ba oc esD nD esI nI es nE = true) (w : World) (rD : Rng w bD 0 (fl esD)) (rI : Rng w bI 0 (cat InR.cells esI)) (rE : Rng w bE 0 (cat EvR.cells es)) : Cl Tryd.prog 25 #[.agg #[vF ra, vF ba, vF oc, vS bD 0 nD nD, vS bI 0 nI nI, vS bE 0 nE nE], vI ef, vI et] w fun v w' => ∃ (b' : Nat) (c' : Nat) (A' : Option Addr), v = .tuple #[.slice A' ((betw es ef et nE).length) c', vI 0] ∧ (0 < (betw es ef et nE).length → A' = some ⟨b', 0, none⟩) ∧ Row w' b' 0 (cat EvR.cells (betw es ef et nE)) ∧ w.heap.size ≤ b' ∧ Mod [] w w' := by
  refine Cl.of Tryd.func25 Tryd.ntmps25 rfl rfl (ρ := [(0, .agg #[vF ra, vF ba, vF oc, vS bD 0 nD nD, vS bI 0 nI nI, vS bE 0 nE nE]), (1, vI ef), (2, vI et)]) rfl ?_
  refine CE.seq ?_
  refine CE.region ?_
  refine WL.op (op_box (cs := [vF ra, vF ba, vF oc, vS bD 0 nD nD, vS bI 0 nI nI, vS bE 0 nE nE]) rfl rfl) rfl rfl (ltb rfl) ?_
  rintro _ w1 ⟨rfl, r1, m1, z1⟩
  refine WL.det (op_assign rfl) rfl rfl rfl ?_
  refine WL.det (op_assign rfl) rfl rfl rfl ?_
  refine WL.end ?_
  refine NE.code ?_
  refine CE.seq ?_
  refine CE.seq ?_
  refine CE.region ?_
  refine WL.det (op_loadA (i := 0) (cs := [vF ra, vF ba, vF oc, vS bD 0 nD nD, vS bI 0 nI nI, vS bE 0 nE nE]) rfl Tryd.isAgg43 Tryd.sizeOf43 r1.rng rfl rfl rfl) rfl rfl rfl ?_
  refine WL.call (oc_call (vs := [.agg #[vF ra, vF ba, vF oc, vS bD 0 nD nD, vS bI 0 nI nI, vS bE 0 nE nE]]) (cap := []) rfl rfl rfl Tryd.call16 (c_iValidS ra ba oc nD bD esD nI bI esI nE bE es lnD lnI lnE (by omega) (by omega) (by omega) (by assumption) (by assumption) w1 (rD.ext m1) (rI.ext m1) (rE.ext m1))) rfl rfl (ltb rfl) ?_
  rintro _ w2 ⟨rfl, m2⟩
  refine WL.det (op_not rfl) rfl rfl rfl ?_
  refine WL.end ?_
  refine NE.code ?_
  refine CE.cond_f rfl (bnot_t hv) ?_
  refine CE.skip' ?_
  refine NE.code ?_
  refine CE.seq ?_
  refine CE.region ?_
  refine WL.det (op_assign rfl) rfl rfl rfl ?_
  refine WL.end ?_
  refine NE.code ?_
  refine CE.seq ?_
  refine CE.seq ?_
  refine CE.region ?_
  refine WL.det (op_fieldAddr (off' := 5) rfl Tryd.runUnderlying43 rfl rfl Tryd.sizeOf41 rfl) rfl rfl rfl ?_
  refine WL.det (op_load1 (i := 5) rfl Tryd.isAgg41 (r1.ext m2).rng rfl rfl) rfl rfl rfl ?_
  refine WL.det (op_len rfl Tryd.runUnderlying41) rfl rfl rfl ?_
  refine WL.det (op_move rfl) rfl rfl rfl ?_
  refine WL.end ?_
  refine NE.code ?_
  refine CE.block ?_
  refine CE.loop (fun (z : Nat × Nat × Option Addr × Nat × List EvR) => [(17, vI ((z.1 : Nat) : Int)), (8, .slice z.2.2.1 z.2.1 z.2.2.2.1), (1, vI ef), (2, vI et), (6, .slice none 0 0), (7, vI 0), (15, vS bE 0 nE nE), (16, vI ((nE : Nat) : Int))]) (fun (z : Nat × Nat × Option Addr × Nat × List EvR) => fun W => (z.1 ≤ nE) ∧ (z.2.2.2.2 = betw es ef et z.1) ∧ (z.2.2.2.2.length = z.2.1) ∧ (z.2.1 ≤ z.1) ∧ Own 72 6 w2.heap.size W z.2.2.1 z.2.1 z.2.2.2.1 (cat EvR.cells z.2.2.2.2) ∧ Mod [] w2 W) (fun (z : Nat × Nat × Option Addr × Nat × List EvR) => nE - z.1) (0, 0, none, 0, []) (⟨rfl, rfl, rfl, rfl, rfl, rfl, rfl, rfl, trivial⟩) ⟨(by omega), (by rfl), (by rfl), (by exact Nat.le_refl _), (Own.congr Own.nil (rfl)), Mod.refl _ _⟩ ?_
  rintro ⟨i, nn, A2, cc, ys⟩ w3 ⟨hi, hy, hly, hnn, ow1, m3⟩
  replace hi : i ≤ nE := hi
  replace hy : ys = betw es ef et i := hy
  replace hly : ys.length = nn := hly
  replace hnn : nn ≤ i := hnn
  replace ow1 : Own 72 6 w2.heap.size w3 A2 nn cc (cat EvR.cells ys) := ow1
  show CE _ _ _ _ [(17, vI ((i : Nat) : Int)), (8, .slice A2 nn cc), (1, vI ef), (2, vI et), (6, .slice none 0 0), (7, vI 0), (15, vS bE 0 nE nE), (16, vI ((nE : Nat) : Int))] _
  refine CE.seq ?_
  refine CE.region ?_
  refine WL.det (op_lti rfl rfl) rfl rfl rfl ?_
  refine WL.end ?_
  refine NE.code ?_
  refine CE.seq ?_
  rcases Bool.eq_false_or_eq_true (decide (((i : Nat) : Int) < ((nE : Nat) : Int))) with hb1 | hb1
  · have hp1 := of_decide_eq_true hb1
    refine CE.cond_t rfl hb1 ?_
    refine CE.skip' ?_
    refine NE.code ?_
    refine CE.seq ?_
    refine CE.block ?_
    refine CE.seq ?_
    refine CE.region ?_
    refine WL.det (op_indexSl (off' := 0 + i * 6) rfl rfl rfl Tryd.runUnderlying41 Tryd.sizeOf72 (by omega) (by omega) (by omega)) rfl rfl rfl ?_
    refine WL.det (op_loadA (i := i * 6) (cs := [vI ((es.getD i EvR.d).at_), vI ((es.getD i EvR.d).kind), vI ((es.getD i EvR.d).note), vI ((es.getD i EvR.d).ins), vI ((es.getD i EvR.d).key), vF ((es.getD i EvR.d).force)]) rfl Tryd.isAgg72 Tryd.sizeOf72 (((rE.ext m1).ext m2).ext m3) rfl (cat_at (f := EvR.cells) (m := 6) (i := i) (d := EvR.d) (fun _ => rfl) (by have eL : List.length es = nE := lnE; omega)) rfl) rfl rfl rfl ?_
    refine WL.op (op_alloc (cs := [vI 0, vI 0, vI 0, vI 0, vI 0, vF 0]) Tryd.zeroValue72 rfl) rfl rfl (ltb rfl) ?_
    rintro _ w4 ⟨rfl, r2, m4, z2⟩
    refine WL.op0 (op_store (i := 0) (cs := [vI ((es.getD i EvR.d).at_), vI ((es.getD i EvR.d).kind), vI ((es.getD i EvR.d).note), vI ((es.getD i EvR.d).ins), vI ((es.getD i EvR.d).key), vF ((es.getD i EvR.d).force)]) rfl rfl rfl Tryd.sizeOf72 rfl r2 rfl (lB rfl) rfl) rfl rfl ?_
    rintro _ w5 ⟨r3, m5, z3⟩
    have r4 : Row w5 w3.heap.size 0 [vI ((es.getD i EvR.d).at_), vI ((es.getD i EvR.d).kind), vI ((es.getD i EvR.d).note), vI ((es.getD i EvR.d).ins), vI ((es.getD i EvR.d).key), vF ((es.getD i EvR.d).force)] := Row.congr r3 rfl
    refine WL.end ?_
    refine NE.code ?_
    refine CE.seq ?_
    refine CE.region ?_
    refine WL.det (op_fieldAddr (off' := 0) rfl Tryd.runUnderlying72 rfl rfl Tryd.sizeOf2 rfl) rfl rfl rfl ?_
    refine WL.det (op_load1 (i := 0) rfl Tryd.isAgg2 r4.rng rfl rfl) rfl rfl rfl ?_
    refine WL.det (op_move rfl) rfl rfl rfl ?_
    refine WL.det (op_gei rfl rfl) rfl rfl rfl ?_
    refine WL.det (op_move rfl) rfl rfl rfl ?_
    rcases Bool.eq_false_or_eq_true (decide (ef ≤ ((es.getD i EvR.d).at_))) with hb2 | hb2
    · have hp2 := of_decide_eq_true hb2
      refine WL.yes rfl rfl rfl (ltb rfl) rfl hb2 ?_
      refine WL.det (op_fieldAddr (off' := 0) rfl Tryd.runUnderlying72 rfl rfl Tryd.sizeOf2 rfl) rfl rfl rfl ?_
      refine WL.yes rfl rfl rfl (ltb rfl) rfl hb2 ?_
      refine WL.det (op_load1 (i := 0) rfl Tryd.isAgg2 r4.rng rfl rfl) rfl rfl rfl ?_
      refine WL.yes rfl rfl rfl (ltb rfl) rfl hb2 ?_
      refine WL.det (op_move rfl) rfl rfl rfl ?_
      refine WL.yes rfl rfl rfl (ltb rfl) rfl hb2 ?_
      refine WL.det (op_lti rfl rfl) rfl rfl rfl ?_
      refine WL.det (op_pick_t rfl hb2 rfl) rfl rfl rfl ?_
      refine WL.end ?_
      refine NE.code ?_
      rcases Bool.eq_false_or_eq_true (decide (((es.getD i EvR.d).at_) < et)) with hb3 | hb3
      · have hp3 := of_decide_eq_true hb3
        refine CE.cond_t rfl hb3 ?_
        refine CE.region ?_
        refine WL.det (op_move rfl) rfl rfl rfl ?_
        refine WL.det (op_loadA (i := 0) (cs := [vI ((es.getD i EvR.d).at_), vI ((es.getD i EvR.d).kind), vI ((es.getD i EvR.d).note), vI ((es.getD i EvR.d).ins), vI ((es.getD i EvR.d).key), vF ((es.getD i EvR.d).force)]) rfl Tryd.isAgg72 Tryd.sizeOf72 r4.rng rfl rfl rfl) rfl rfl rfl ?_
        refine WL.op (op_buildSl (qs := [(0, .agg #[vI ((es.getD i EvR.d).at_), vI ((es.getD i EvR.d).kind), vI ((es.getD i EvR.d).note), vI ((es.getD i EvR.d).ins), vI ((es.getD i EvR.d).key), vF ((es.getD i EvR.d).force)])]) (cells := #[vI ((es.getD i EvR.d).at_), vI ((es.getD i EvR.d).kind), vI ((es.getD i EvR.d).note), vI ((es.getD i EvR.d).ins), vI ((es.getD i EvR.d).key), vF ((es.getD i EvR.d).force)]) rfl Tryd.runUnderlying41 Tryd.sizeOf72 Tryd.zeroValue72 (by decide) (by decide) (by kernel_rfl)) rfl rfl (ltb rfl) ?_
        rintro _ w6 ⟨rfl, r5, m6, z4⟩
        refine WL.op (op_app (i := Tryd.t72) (m := 6) (bt := 48) (news := [vI ((es.getD i EvR.d).at_), vI ((es.getD i EvR.d).kind), vI ((es.getD i EvR.d).note), vI ((es.getD i EvR.d).ins), vI ((es.getD i EvR.d).key), vF ((es.getD i EvR.d).force)]) rfl rfl Tryd.underlying41 rfl rfl rfl rfl rfl (by decide) r5.rng rfl rfl ((Own.mod2 ow1 (ow1.ext m4) m5 (aoC2 (.inr lR) aoN2)).ext m6) (lT (lT (lT m3.size m4.size) m5.size) m6.size) (by omega) (by decide)) rfl rfl (ltb rfl) ?_
        rintro _ w7 ⟨A1, c1, b1, rfl, ow2, ge1, m7⟩
        refine WL.det (op_assign rfl) rfl rfl rfl ?_
        refine WL.end ?_
        refine NE.blk ?_
        refine NE.code ?_
        refine CE.region ?_
        refine WL.det (op_add (r := ((i + 1 : Nat) : Int)) rfl rfl (w_i64 (by omega) (by omega))) rfl rfl rfl ?_
        refine WL.det (op_move rfl) rfl rfl rfl ?_
        refine WL.end ?_
        exact NE.again ((i + 1), (nn + 1), A1, c1, (ys ++ [(es.getD i EvR.d)])) (⟨rfl, rfl, rfl, rfl, rfl, rfl, rfl, rfl, trivial⟩) ⟨(by omega), (by first | exact betw_t hy (by omega) (by omega) | exact betw_f hy (by omega)), (by first | exact hly | (rw [List.length_append, hly]; rfl)), (by dsimp only; omega), (Own.congr ow2 (by first | rfl | exact cat_snocE _ _)), ((((m3.nt m4).then m5 ((aC (.inr (lT m3.size lR)) aN))).nt m6).then m7 ((aC (.inr ge1) aN)))⟩ (by first | (dsimp only; omega) | omega)
      · have hp3 := of_decide_eq_false hb3
        refine CE.cond_f rfl hb3 ?_
        refine CE.skip' ?_
        refine NE.blk ?_
        refine NE.code ?_
        refine CE.region ?_
        refine WL.det (op_add (r := ((i + 1 : Nat) : Int)) rfl rfl (w_i64 (by omega) (by omega))) rfl rfl rfl ?_
        refine WL.det (op_move rfl) rfl rfl rfl ?_
        refine WL.end ?_
        exact NE.again ((i + 1), nn, A2, cc, ys) (⟨rfl, rfl, rfl, rfl, rfl, rfl, rfl, rfl, trivial⟩) ⟨(by omega), (by first | exact betw_t hy (by omega) (by omega) | exact betw_f hy (by omega)), (by first | exact hly | (rw [List.length_append, hly]; rfl)), (by dsimp only; omega), (Own.congr (Own.mod2 ow1 (ow1.ext m4) m5 (aoC2 (.inr lR) aoN2)) (by first | rfl | exact cat_snocE _ _)), ((m3.nt m4).then m5 ((aC (.inr (lT m3.size lR)) aN)))⟩ (by first | (dsimp only; omega) | omega)
    · have hp2 := of_decide_eq_false hb2
      refine WL.no rfl rfl rfl (ltb rfl) rfl hb2 rfl (ltb rfl) ?_
      refine WL.no rfl rfl rfl (ltb rfl) rfl hb2 rfl (ltb rfl) ?_
      refine WL.no rfl rfl rfl (ltb rfl) rfl hb2 rfl (ltb rfl) ?_
      refine WL.no rfl rfl rfl (ltb rfl) rfl hb2 rfl (ltb rfl) ?_
      refine WL.det (op_pick_f rfl hb2 rfl) rfl rfl rfl ?_
      refine WL.end ?_
      refine NE.code ?_
      refine CE.cond_f rfl rfl ?_
      refine CE.skip' ?_
      refine NE.blk ?_
      refine NE.code ?_
      refine CE.region ?_
      refine WL.det (op_add (r := ((i + 1 : Nat) : Int)) rfl rfl (w_i64 (by omega) (by omega))) rfl rfl rfl ?_
      refine WL.det (op_move rfl) rfl rfl rfl ?_
      refine WL.end ?_
      exact NE.again ((i + 1), nn, A2, cc, ys) (⟨rfl, rfl, rfl, rfl, rfl, rfl, rfl, rfl, trivial⟩) ⟨(by omega), (by first | exact betw_t hy (by omega) (by omega) | exact betw_f hy (by omega)), (by first | exact hly | (rw [List.length_append, hly]; rfl)), (by dsimp only; omega), (Own.congr (Own.mod2 ow1 (ow1.ext m4) m5 (aoC2 (.inr lR) aoN2)) (by first | rfl | exact cat_snocE _ _)), ((m3.nt m4).then m5 ((aC (.inr (lT m3.size lR)) aN)))⟩ (by first | (dsimp only; omega) | omega)
  · have hp1 := of_decide_eq_false hb1
    refine CE.cond_f rfl hb1 ?_
    refine CE.exit' ?_
    refine XE.exit_then ?_
    refine XE.exit_then ?_
    refine XE.exit_here ?_
    refine NE.code ?_
    refine CE.seq ?_
    refine CE.region ?_
    refine WL.det (op_move rfl) rfl rfl rfl ?_
    refine WL.det (op_assign rfl) rfl rfl rfl ?_
    refine WL.det (op_assign rfl) rfl rfl rfl ?_
    refine WL.end ?_
    refine NE.code ?_
    refine CE.ret' ?_
    have ei : nE = i := by omega
    subst ei
    have eys : (betw es ef et nE) = ys := hy.symm
    subst eys
    have enn : (betw es ef et nE).length = nn := hly
    subst enn
    obtain ⟨b2, hA1, r6, hq1⟩ := Own.out ow1 ((r1.ext m2).ext m3)
    refine XE.leaveT Tryd.results25 (res_tmp rfl (res_tmp rfl res_nil)) ?_
    refine ⟨b2, cc, A2, rfl, hA1, r6, (own_ge hq1 lR (lT m1.size m2.size)), ((((Mod.refl [] w).nt m1).nt m2).nt m3)⟩

set_option maxRecDepth 100000 in
set_option maxHeartbeats 2000000 in
theorem c_iBetw_inv (ra : Nat) (ba : Nat) (oc : Nat) (nD : Nat) (bD : Nat) (esD : List Nat) (nI : Nat) (bI : Nat) (esI : List InR) (nE : Nat) (bE : Nat) (es : List EvR) (ef : Int) (et : Int) (lnD : esD.length = nD) (lnI : esI.length = nI) (lnE : es.length = nE) (hnD : nD ≤ 1048576) (hnI : nI ≤ 1048576) (hnE : nE ≤ 1048576) (hS : ∀ i, (esI.getD i InR.d).name.size ≤ 9223372036854775807) (hW : ∀ i, EvW (es.getD i EvR.d)) (hv : vScS ra ba oc esD nD esI nI es nE = false) (w : World) (rD : Rng w bD 0 (fl esD)) (rI : Rng w bI 0 (cat InR.cells esI)) (rE : Rng w bE 0 (cat EvR.cells es)) : Cl Tryd.prog 25 #[.agg #[vF ra, vF ba, vF oc, vS bD 0 nD nD, vS bI 0 nI nI, vS bE 0 nE nE], vI ef, vI et] w fun v w' => v = .tuple #[.slice none 0 0, vI 1] ∧ Mod [] w w' := by
  refine Cl.of Tryd.func25 Tryd.ntmps25 rfl rfl (ρ := [(0, .agg #[vF ra, vF ba, vF oc, vS bD 0 nD nD, vS bI 0 nI nI, vS bE 0 nE nE]), (1, vI ef), (2, vI et)]) rfl ?_
  refine CE.seq ?_
  refine CE.region ?_
  refine WL.op (op_box (cs := [vF ra, vF ba, vF oc, vS bD 0 nD nD, vS bI 0 nI nI, vS bE 0 nE nE]) rfl rfl) rfl rfl (ltb rfl) ?_
  rintro _ w1 ⟨rfl, r1, m1, z1⟩
  refine WL.det (op_assign rfl) rfl rfl rfl ?_
  refine WL.det (op_assign rfl) rfl rfl rfl ?_
  refine WL.end ?_
  refine NE.code ?_
  refine CE.seq ?_
  refine CE.seq ?_
  refine CE.region ?_
  refine WL.det (op_loadA (i := 0) (cs := [vF ra, vF ba, vF oc, vS bD 0 nD nD, vS bI 0 nI nI, vS bE 0 nE nE]) rfl Tryd.isAgg43 Tryd.sizeOf43 r1.rng rfl rfl rfl) rfl rfl rfl ?_
  refine WL.call (oc_call (vs := [.agg #[vF ra, vF ba, vF oc, vS bD 0 nD nD, vS bI 0 nI nI, vS bE 0 nE nE]]) (cap := []) rfl rfl rfl Tryd.call16 (c_iValidS ra ba oc nD bD esD nI bI esI nE bE es lnD lnI lnE (by omega) (by omega) (by omega) (by assumption) (by assumption) w1 (rD.ext m1) (rI.ext m1) (rE.ext m1))) rfl rfl (ltb rfl) ?_
  rintro _ w2 ⟨rfl, m2⟩
  refine WL.det (op_not rfl) rfl rfl rfl ?_
  refine WL.end ?_
  refine NE.code ?_
  refine CE.cond_t rfl (bnot_f hv) ?_
  refine CE.seq ?_
  refine CE.region ?_
  refine WL.det (op_assign rfl) rfl rfl rfl ?_
  refine WL.det (op_assign rfl) rfl rfl rfl ?_
  refine WL.end ?_
  refine NE.code ?_
  refine CE.ret' ?_
  refine XE.ret_then ?_
  refine XE.leaveT Tryd.results25 (res_tmp rfl (res_tmp rfl res_nil)) ?_
  refine ⟨rfl, (((Mod.refl [] w).nt m1).nt m2)⟩

end Go.Proofs.YtdopidalhkcefaaDoor
