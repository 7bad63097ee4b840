/- Lists of samples that are read from texts. -/
import Derived.Test.YtpjjnopjpgnlaaaDoorJ2
import Derived.Test.YtpjjnopjpgnlaaaDoorE33
set_option linter.unusedVariables false
set_option linter.unusedSimpArgs false
namespace Go.Proofs.YtpjjnopjpgnlaaaDoor

theorem strs_drop (es : List StrR) (k : Nat) : (cat StrR.cells es).drop k = cat StrR.cells (es.drop k) := by
  rw [strs_cells, strs_cells, List.map_drop]
theorem fl_drop9 (xs : List Nat) (k : Nat) : (fl xs).drop k = fl (xs.drop k) := by
  unfold fl; rw [List.map_drop]
theorem drop_len {α : Type} {es : List α} {n : Nat} (h : es.length = n) (k : Nat) : (es.drop k).length = n - k := by rw [List.length_drop, h]
theorem w32_drop {xs : List Nat} (h : W32 xs) (k : Nat) : W32 (xs.drop k) := fun x hx => h x (List.mem_of_mem_drop hx)

set_option maxRecDepth 100000 in
set_option maxHeartbeats 2000000 in
theorem c_nums (n : Nat) (c : Nat) (A : Option Addr) (b : Nat) (o : Nat) (es : List StrR) (ln : es.length = n) (hA : 0 < n → A = some ⟨b, o, none⟩) (hn : n ≤ 1048577) (hS : ∀ i, (es.getD i StrR.d).s.size ≤ 1048576) (hv : allO es = true) (h3 : 3 ≤ n) (w : World) (r : Rng w b o (cat StrR.cells es)) : Cl Tryd.prog 10 #[.slice A n c] w fun v w' => ∃ (b' : Nat) (c' : Nat), v = .tuple #[vS b' 0 n c', .bool true] ∧ (n ≤ c') ∧ Row w' b' 0 (fl (rdL es)) ∧ w.heap.size ≤ b' ∧ Mod [] w w' := by
  refine Cl.of Tryd.func10 Tryd.ntmps10 rfl rfl (ρ := [(0, .slice A n c)]) rfl ?_
  refine CE.seq ?_
  refine CE.region ?_
  refine WL.det (op_assign rfl) rfl rfl rfl ?_
  refine WL.det (op_assign rfl) rfl rfl rfl ?_
  refine WL.end ?_
  refine NE.code ?_
  refine CE.seq ?_
  refine CE.region ?_
  refine WL.op (op_emptySl rfl Tryd.runUnderlying23 Tryd.sizeOf22) rfl rfl (ltb rfl) ?_
  rintro _ w1 ⟨rfl, r1, m1, z1⟩
  refine WL.det (op_assign rfl) rfl rfl rfl ?_
  refine WL.end ?_
  refine NE.code ?_
  refine CE.seq ?_
  refine CE.seq ?_
  refine CE.region ?_
  refine WL.det (op_assign rfl) rfl rfl rfl ?_
  refine WL.end ?_
  refine NE.code ?_
  refine CE.block ?_
  refine CE.loop (fun (z : Nat × Option Addr × Nat) => [(5, vI ((z.1 : Nat) : Int)), (4, .slice z.2.1 z.1 z.2.2), (0, .slice A n c), (2, .slice none 0 0), (3, .bool false)]) (fun (z : Nat × Option Addr × Nat) => fun W => (z.1 ≤ n) ∧ (allO (es.take z.1) = true) ∧ Own 22 1 w1.heap.size W z.2.1 z.1 z.2.2 (fl (rdL (es.take z.1))) ∧ Mod [] w1 W) (fun (z : Nat × Option Addr × Nat) => n - z.1) (0, (some ⟨w.heap.size, 0, none⟩), 0) (⟨rfl, rfl, rfl, rfl, rfl, trivial⟩) ⟨(by omega), (by rfl), (Own.congr Own.emp (rfl)), Mod.refl _ _⟩ ?_
  rintro ⟨i, A2, cc⟩ w2 ⟨hi, hu, ow1, m2⟩
  replace hi : i ≤ n := hi
  replace hu : allO (es.take i) = true := hu
  replace ow1 : Own 22 1 w1.heap.size w2 A2 i cc (fl (rdL (es.take i))) := ow1
  show CE _ _ _ _ [(5, vI ((i : Nat) : Int)), (4, .slice A2 i cc), (0, .slice A n c), (2, .slice none 0 0), (3, .bool false)] _
  refine CE.seq ?_
  refine CE.seq ?_
  refine CE.region ?_
  refine WL.det (op_move rfl) rfl rfl rfl ?_
  refine WL.det (op_move rfl) rfl rfl rfl ?_
  refine WL.det (op_len rfl Tryd.runUnderlying31) rfl rfl rfl ?_
  refine WL.det (op_lti rfl rfl) rfl rfl rfl ?_
  refine WL.end ?_
  refine NE.code ?_
  rcases Bool.eq_false_or_eq_true (decide (((i : Nat) : Int) < ((n : Nat) : Int))) with hb1 | hb1
  · have hp1 := of_decide_eq_true hb1
    refine CE.cond_t rfl hb1 ?_
    refine CE.skip' ?_
    refine NE.code ?_
    refine CE.seq ?_
    refine CE.block ?_
    refine CE.seq ?_
    refine CE.region ?_
    refine WL.det (op_move rfl) rfl rfl rfl ?_
    refine WL.det (op_move rfl) rfl rfl rfl ?_
    refine WL.det (op_indexSl (off' := o + i * 1) rfl (hA (by omega)) rfl Tryd.runUnderlying31 Tryd.sizeOf9 (by omega) (by omega) (by omega)) rfl rfl rfl ?_
    refine WL.det (op_load1 (i := i * 1) rfl Tryd.isAgg9 ((r.ext m1).ext m2) rfl (cat_get0 (f := StrR.cells) (m := 1) (i := i) (d := StrR.d) (fun _ => rfl) (by have eL : List.length es = n := ln; omega) rfl)) rfl rfl rfl ?_
    refine WL.call (oc_call (vs := [.string ((es.getD i StrR.d).s)]) (cap := []) rfl rfl rfl Tryd.call19 (c_l01Read ((es.getD i StrR.d).s) (by first | assumption | omega | exact hS _) (by first | assumption | exact allO_get hv ln (by omega)) w2)) rfl rfl (ltb rfl) ?_
    rintro _ w3 ⟨rfl, m3⟩
    refine WL.det (op_move rfl) rfl rfl rfl ?_
    refine WL.det (op_extract rfl rfl) rfl rfl rfl ?_
    refine WL.det (op_extract rfl rfl) rfl rfl rfl ?_
    refine WL.det (op_assign rfl) rfl rfl rfl ?_
    refine WL.det (op_assign rfl) rfl rfl rfl ?_
    refine WL.end ?_
    refine NE.code ?_
    refine CE.seq ?_
    refine CE.seq ?_
    refine CE.region ?_
    refine WL.det (op_move rfl) rfl rfl rfl ?_
    refine WL.det (op_not rfl) rfl rfl rfl ?_
    refine WL.end ?_
    refine NE.code ?_
    refine CE.cond_f rfl rfl ?_
    refine CE.skip' ?_
    refine NE.code ?_
    refine CE.region ?_
    refine WL.det (op_move rfl) rfl rfl rfl ?_
    refine WL.det (op_move rfl) rfl rfl rfl ?_
    refine WL.op (op_buildSl (qs := [(0, vF ((rd (tl ((es.getD i StrR.d).s))).getD 0))]) (cells := #[vF ((rd (tl ((es.getD i StrR.d).s))).getD 0)]) rfl Tryd.runUnderlying23 Tryd.sizeOf22 Tryd.zeroValue22 (by decide) (by decide) (by kernel_rfl)) rfl rfl (ltb rfl) ?_
    rintro _ w4 ⟨rfl, r2, m4, z2⟩
    refine WL.op (op_app (i := Tryd.t22) (m := 1) (bt := 4) (news := [vF ((rd (tl ((es.getD i StrR.d).s))).getD 0)]) rfl rfl Tryd.underlying23 rfl rfl rfl rfl rfl (by decide) r2.rng rfl rfl ((ow1.ext m3).ext m4) (lT (lT m2.size m3.size) m4.size) (by omega) (by decide)) rfl rfl (ltb rfl) ?_
    rintro _ w5 ⟨A1, c1, b1, rfl, ow2, ge1, m5⟩
    refine WL.det (op_assign rfl) rfl rfl rfl ?_
    refine WL.end ?_
    refine NE.blk ?_
    refine NE.code ?_
    refine CE.region ?_
    refine WL.det (op_move rfl) rfl rfl rfl ?_
    refine WL.det (op_add (r := ((i + 1 : Nat) : Int)) rfl rfl (w_i64 (by omega) (by omega))) rfl rfl rfl ?_
    refine WL.det (op_assign rfl) rfl rfl rfl ?_
    refine WL.end ?_
    exact NE.again ((i + 1), A1, c1) (⟨rfl, rfl, rfl, rfl, rfl, trivial⟩) ⟨(by omega), (by exact allO_take hu ln (by omega) (by first | assumption | exact allO_get hv ln (by omega))), (Own.congr ow2 ((rdL_step ln (by omega)))), (((m2.nt m3).nt m4).then m5 ((aC (.inr ge1) aN)))⟩ (by first | (dsimp only; omega) | omega)
  · have hp1 := of_decide_eq_false hb1
    refine CE.cond_f rfl hb1 ?_
    refine CE.exit' ?_
    refine XE.exit_then ?_
    refine XE.exit_then ?_
    refine XE.exit_here ?_
    refine NE.code ?_
    refine CE.seq ?_
    refine CE.region ?_
    refine WL.det (op_move rfl) rfl rfl rfl ?_
    refine WL.det (op_assign rfl) rfl rfl rfl ?_
    refine WL.det (op_assign rfl) rfl rfl rfl ?_
    refine WL.end ?_
    refine NE.code ?_
    refine CE.ret' ?_
    have ei : n = i := by omega
    subst ei
    have hc1 := Own.cap ow1
    obtain ⟨b2, hA9, r3, hq1⟩ := Own.outp ow1 (by omega)
    rw [hA9]
    refine XE.leaveT Tryd.results10 (res_tmp rfl (res_tmp rfl res_nil)) ?_
    refine ⟨b2, cc, rfl, ?_, (Row.congr r3 ?_), (lT m1.size hq1), (((Mod.refl [] w).nt m1).nt m2)⟩
    all_goals first | omega | (rw [List.take_of_length_le (by omega)]; done) | rfl

set_option maxRecDepth 100000 in
set_option maxHeartbeats 2000000 in
theorem c_nums_few (n : Nat) (c : Nat) (A : Option Addr) (b : Nat) (o : Nat) (es : List StrR) (ln : es.length = n) (hA : 0 < n → A = some ⟨b, o, none⟩) (hn : n ≤ 1048577) (hS : ∀ i, (es.getD i StrR.d).s.size ≤ 1048576) (hv : allO es = true) (h3 : n < 3) (w : World) (r : Rng w b o (cat StrR.cells es)) : Cl Tryd.prog 10 #[.slice A n c] w fun v w' => ∃ (c' : Nat) (A' : Option Addr), v = .tuple #[.slice A' n c', .bool true] ∧ Mod [] w w' := by
  refine Cl.of Tryd.func10 Tryd.ntmps10 rfl rfl (ρ := [(0, .slice A n c)]) rfl ?_
  refine CE.seq ?_
  refine CE.region ?_
  refine WL.det (op_assign rfl) rfl rfl rfl ?_
  refine WL.det (op_assign rfl) rfl rfl rfl ?_
  refine WL.end ?_
  refine NE.code ?_
  refine CE.seq ?_
  refine CE.region ?_
  refine WL.op (op_emptySl rfl Tryd.runUnderlying23 Tryd.sizeOf22) rfl rfl (ltb rfl) ?_
  rintro _ w1 ⟨rfl, r1, m1, z1⟩
  refine WL.det (op_assign rfl) rfl rfl rfl ?_
  refine WL.end ?_
  refine NE.code ?_
  refine CE.seq ?_
  refine CE.seq ?_
  refine CE.region ?_
  refine WL.det (op_assign rfl) rfl rfl rfl ?_
  refine WL.end ?_
  refine NE.code ?_
  refine CE.block ?_
  refine CE.loop (fun (z : Nat × Option Addr × Nat) => [(5, vI ((z.1 : Nat) : Int)), (4, .slice z.2.1 z.1 z.2.2), (0, .slice A n c), (2, .slice none 0 0), (3, .bool false)]) (fun (z : Nat × Option Addr × Nat) => fun W => (z.1 ≤ n) ∧ (allO (es.take z.1) = true) ∧ Own 22 1 w1.heap.size W z.2.1 z.1 z.2.2 (fl (rdL (es.take z.1))) ∧ Mod [] w1 W) (fun (z : Nat × Option Addr × Nat) => n - z.1) (0, (some ⟨w.heap.size, 0, none⟩), 0) (⟨rfl, rfl, rfl, rfl, rfl, trivial⟩) ⟨(by omega), (by rfl), (Own.congr Own.emp (rfl)), Mod.refl _ _⟩ ?_
  rintro ⟨i, A2, cc⟩ w2 ⟨hi, hu, ow1, m2⟩
  replace hi : i ≤ n := hi
  replace hu : allO (es.take i) = true := hu
  replace ow1 : Own 22 1 w1.heap.size w2 A2 i cc (fl (rdL (es.take i))) := ow1
  show CE _ _ _ _ [(5, vI ((i : Nat) : Int)), (4, .slice A2 i cc), (0, .slice A n c), (2, .slice none 0 0), (3, .bool false)] _
  refine CE.seq ?_
  refine CE.seq ?_
  refine CE.region ?_
  refine WL.det (op_move rfl) rfl rfl rfl ?_
  refine WL.det (op_move rfl) rfl rfl rfl ?_
  refine WL.det (op_len rfl Tryd.runUnderlying31) rfl rfl rfl ?_
  refine WL.det (op_lti rfl rfl) rfl rfl rfl ?_
  refine WL.end ?_
  refine NE.code ?_
  rcases Bool.eq_false_or_eq_true (decide (((i : Nat) : Int) < ((n : Nat) : Int))) with hb1 | hb1
  · have hp1 := of_decide_eq_true hb1
    refine CE.cond_t rfl hb1 ?_
    refine CE.skip' ?_
    refine NE.code ?_
    refine CE.seq ?_
    refine CE.block ?_
    refine CE.seq ?_
    refine CE.region ?_
    refine WL.det (op_move rfl) rfl rfl rfl ?_
    refine WL.det (op_move rfl) rfl rfl rfl ?_
    refine WL.det (op_indexSl (off' := o + i * 1) rfl (hA (by omega)) rfl Tryd.runUnderlying31 Tryd.sizeOf9 (by omega) (by omega) (by omega)) rfl rfl rfl ?_
    refine WL.det (op_load1 (i := i * 1) rfl Tryd.isAgg9 ((r.ext m1).ext m2) rfl (cat_get0 (f := StrR.cells) (m := 1) (i := i) (d := StrR.d) (fun _ => rfl) (by have eL : List.length es = n := ln; omega) rfl)) rfl rfl rfl ?_
    refine WL.call (oc_call (vs := [.string ((es.getD i StrR.d).s)]) (cap := []) rfl rfl rfl Tryd.call19 (c_l01Read ((es.getD i StrR.d).s) (by first | assumption | omega | exact hS _) (by first | assumption | exact allO_get hv ln (by omega)) w2)) rfl rfl (ltb rfl) ?_
    rintro _ w3 ⟨rfl, m3⟩
    refine WL.det (op_move rfl) rfl rfl rfl ?_
    refine WL.det (op_extract rfl rfl) rfl rfl rfl ?_
    refine WL.det (op_extract rfl rfl) rfl rfl rfl ?_
    refine WL.det (op_assign rfl) rfl rfl rfl ?_
    refine WL.det (op_assign rfl) rfl rfl rfl ?_
    refine WL.end ?_
    refine NE.code ?_
    refine CE.seq ?_
    refine CE.seq ?_
    refine CE.region ?_
    refine WL.det (op_move rfl) rfl rfl rfl ?_
    refine WL.det (op_not rfl) rfl rfl rfl ?_
    refine WL.end ?_
    refine NE.code ?_
    refine CE.cond_f rfl rfl ?_
    refine CE.skip' ?_
    refine NE.code ?_
    refine CE.region ?_
    refine WL.det (op_move rfl) rfl rfl rfl ?_
    refine WL.det (op_move rfl) rfl rfl rfl ?_
    refine WL.op (op_buildSl (qs := [(0, vF ((rd (tl ((es.getD i StrR.d).s))).getD 0))]) (cells := #[vF ((rd (tl ((es.getD i StrR.d).s))).getD 0)]) rfl Tryd.runUnderlying23 Tryd.sizeOf22 Tryd.zeroValue22 (by decide) (by decide) (by kernel_rfl)) rfl rfl (ltb rfl) ?_
    rintro _ w4 ⟨rfl, r2, m4, z2⟩
    refine WL.op (op_app (i := Tryd.t22) (m := 1) (bt := 4) (news := [vF ((rd (tl ((es.getD i StrR.d).s))).getD 0)]) rfl rfl Tryd.underlying23 rfl rfl rfl rfl rfl (by decide) r2.rng rfl rfl ((ow1.ext m3).ext m4) (lT (lT m2.size m3.size) m4.size) (by omega) (by decide)) rfl rfl (ltb rfl) ?_
    rintro _ w5 ⟨A1, c1, b1, rfl, ow2, ge1, m5⟩
    refine WL.det (op_assign rfl) rfl rfl rfl ?_
    refine WL.end ?_
    refine NE.blk ?_
    refine NE.code ?_
    refine CE.region ?_
    refine WL.det (op_move rfl) rfl rfl rfl ?_
    refine WL.det (op_add (r := ((i + 1 : Nat) : Int)) rfl rfl (w_i64 (by omega) (by omega))) rfl rfl rfl ?_
    refine WL.det (op_assign rfl) rfl rfl rfl ?_
    refine WL.end ?_
    exact NE.again ((i + 1), A1, c1) (⟨rfl, rfl, rfl, rfl, rfl, trivial⟩) ⟨(by omega), (by exact allO_take hu ln (by omega) (by first | assumption | exact allO_get hv ln (by omega))), (Own.congr ow2 ((rdL_step ln (by omega)))), (((m2.nt m3).nt m4).then m5 ((aC (.inr ge1) aN)))⟩ (by first | (dsimp only; omega) | omega)
  · have hp1 := of_decide_eq_false hb1
    refine CE.cond_f rfl hb1 ?_
    refine CE.exit' ?_
    refine XE.exit_then ?_
    refine XE.exit_then ?_
    refine XE.exit_here ?_
    refine NE.code ?_
    refine CE.seq ?_
    refine CE.region ?_
    refine WL.det (op_move rfl) rfl rfl rfl ?_
    refine WL.det (op_assign rfl) rfl rfl rfl ?_
    refine WL.det (op_assign rfl) rfl rfl rfl ?_
    refine WL.end ?_
    refine NE.code ?_
    refine CE.ret' ?_
    have ei : n = i := by omega
    subst ei
    refine XE.leaveT Tryd.results10 (res_tmp rfl (res_tmp rfl res_nil)) ?_
    refine ⟨cc, A2, rfl, (((Mod.refl [] w).nt m1).nt m2)⟩

set_option maxRecDepth 100000 in
set_option maxHeartbeats 2000000 in
theorem c_nums_no (n : Nat) (c : Nat) (A : Option Addr) (b : Nat) (o : Nat) (es : List StrR) (ln : es.length = n) (hA : 0 < n → A = some ⟨b, o, none⟩) (hn : n ≤ 1048577) (hS : ∀ i, (es.getD i StrR.d).s.size ≤ 1048576) (hv : allO es = false) (w : World) (r : Rng w b o (cat StrR.cells es)) : Cl Tryd.prog 10 #[.slice A n c] w fun v w' => ∃ (sv : Value), v = .tuple #[sv, .bool false] ∧ Mod [] w w' := by
  refine Cl.of Tryd.func10 Tryd.ntmps10 rfl rfl (ρ := [(0, .slice A n c)]) rfl ?_
  refine CE.seq ?_
  refine CE.region ?_
  refine WL.det (op_assign rfl) rfl rfl rfl ?_
  refine WL.det (op_assign rfl) rfl rfl rfl ?_
  refine WL.end ?_
  refine NE.code ?_
  refine CE.seq ?_
  refine CE.region ?_
  refine WL.op (op_emptySl rfl Tryd.runUnderlying23 Tryd.sizeOf22) rfl rfl (ltb rfl) ?_
  rintro _ w1 ⟨rfl, r1, m1, z1⟩
  refine WL.det (op_assign rfl) rfl rfl rfl ?_
  refine WL.end ?_
  refine NE.code ?_
  refine CE.seq ?_
  refine CE.seq ?_
  refine CE.region ?_
  refine WL.det (op_assign rfl) rfl rfl rfl ?_
  refine WL.end ?_
  refine NE.code ?_
  refine CE.block ?_
  refine CE.loop (fun (z : Nat × Option Addr × Nat) => [(5, vI ((z.1 : Nat) : Int)), (4, .slice z.2.1 z.1 z.2.2), (0, .slice A n c), (2, .slice none 0 0), (3, .bool false)]) (fun (z : Nat × Option Addr × Nat) => fun W => (z.1 ≤ n) ∧ (allO (es.take z.1) = true) ∧ Own 22 1 w1.heap.size W z.2.1 z.1 z.2.2 (fl (rdL (es.take z.1))) ∧ Mod [] w1 W) (fun (z : Nat × Option Addr × Nat) => n - z.1) (0, (some ⟨w.heap.size, 0, none⟩), 0) (⟨rfl, rfl, rfl, rfl, rfl, trivial⟩) ⟨(by omega), (by rfl), (Own.congr Own.emp (rfl)), Mod.refl _ _⟩ ?_
  rintro ⟨i, A2, cc⟩ w2 ⟨hi, hu, ow1, m2⟩
  replace hi : i ≤ n := hi
  replace hu : allO (es.take i) = true := hu
  replace ow1 : Own 22 1 w1.heap.size w2 A2 i cc (fl (rdL (es.take i))) := ow1
  show CE _ _ _ _ [(5, vI ((i : Nat) : Int)), (4, .slice A2 i cc), (0, .slice A n c), (2, .slice none 0 0), (3, .bool false)] _
  refine CE.seq ?_
  refine CE.seq ?_
  refine CE.region ?_
  refine WL.det (op_move rfl) rfl rfl rfl ?_
  refine WL.det (op_move rfl) rfl rfl rfl ?_
  refine WL.det (op_len rfl Tryd.runUnderlying31) rfl rfl rfl ?_
  refine WL.det (op_lti rfl rfl) rfl rfl rfl ?_
  refine WL.end ?_
  refine NE.code ?_
  rcases Bool.eq_false_or_eq_true (decide (((i : Nat) : Int) < ((n : Nat) : Int))) with hb1 | hb1
  · have hp1 := of_decide_eq_true hb1
    refine CE.cond_t rfl hb1 ?_
    refine CE.skip' ?_
    refine NE.code ?_
    refine CE.seq ?_
    refine CE.block ?_
    refine CE.seq ?_
    refine CE.region ?_
    refine WL.det (op_move rfl) rfl rfl rfl ?_
    refine WL.det (op_move rfl) rfl rfl rfl ?_
    refine WL.det (op_indexSl (off' := o + i * 1) rfl (hA (by omega)) rfl Tryd.runUnderlying31 Tryd.sizeOf9 (by omega) (by omega) (by omega)) rfl rfl rfl ?_
    refine WL.det (op_load1 (i := i * 1) rfl Tryd.isAgg9 ((r.ext m1).ext m2) rfl (cat_get0 (f := StrR.cells) (m := 1) (i := i) (d := StrR.d) (fun _ => rfl) (by have eL : List.length es = n := ln; omega) rfl)) rfl rfl rfl ?_
    rcases Bool.eq_false_or_eq_true ((rd (tl ((es.getD i StrR.d).s))).isSome) with hb2 | hb2
    · refine WL.call (oc_call (vs := [.string ((es.getD i StrR.d).s)]) (cap := []) rfl rfl rfl Tryd.call19 (c_l01Read ((es.getD i StrR.d).s) (by first | assumption | omega | exact hS _) (by first | assumption | exact allO_get hv ln (by omega)) w2)) rfl rfl (ltb rfl) ?_
      rintro _ w3 ⟨rfl, m3⟩
      refine WL.det (op_move rfl) rfl rfl rfl ?_
      refine WL.det (op_extract rfl rfl) rfl rfl rfl ?_
      refine WL.det (op_extract rfl rfl) rfl rfl rfl ?_
      refine WL.det (op_assign rfl) rfl rfl rfl ?_
      refine WL.det (op_assign rfl) rfl rfl rfl ?_
      refine WL.end ?_
      refine NE.code ?_
      refine CE.seq ?_
      refine CE.seq ?_
      refine CE.region ?_
      refine WL.det (op_move rfl) rfl rfl rfl ?_
      refine WL.det (op_not rfl) rfl rfl rfl ?_
      refine WL.end ?_
      refine NE.code ?_
      refine CE.cond_f rfl rfl ?_
      refine CE.skip' ?_
      refine NE.code ?_
      refine CE.region ?_
      refine WL.det (op_move rfl) rfl rfl rfl ?_
      refine WL.det (op_move rfl) rfl rfl rfl ?_
      refine WL.op (op_buildSl (qs := [(0, vF ((rd (tl ((es.getD i StrR.d).s))).getD 0))]) (cells := #[vF ((rd (tl ((es.getD i StrR.d).s))).getD 0)]) rfl Tryd.runUnderlying23 Tryd.sizeOf22 Tryd.zeroValue22 (by decide) (by decide) (by kernel_rfl)) rfl rfl (ltb rfl) ?_
      rintro _ w4 ⟨rfl, r2, m4, z2⟩
      refine WL.op (op_app (i := Tryd.t22) (m := 1) (bt := 4) (news := [vF ((rd (tl ((es.getD i StrR.d).s))).getD 0)]) rfl rfl Tryd.underlying23 rfl rfl rfl rfl rfl (by decide) r2.rng rfl rfl ((ow1.ext m3).ext m4) (lT (lT m2.size m3.size) m4.size) (by omega) (by decide)) rfl rfl (ltb rfl) ?_
      rintro _ w5 ⟨A1, c1, b1, rfl, ow2, ge1, m5⟩
      refine WL.det (op_assign rfl) rfl rfl rfl ?_
      refine WL.end ?_
      refine NE.blk ?_
      refine NE.code ?_
      refine CE.region ?_
      refine WL.det (op_move rfl) rfl rfl rfl ?_
      refine WL.det (op_add (r := ((i + 1 : Nat) : Int)) rfl rfl (w_i64 (by omega) (by omega))) rfl rfl rfl ?_
      refine WL.det (op_assign rfl) rfl rfl rfl ?_
      refine WL.end ?_
      exact NE.again ((i + 1), A1, c1) (⟨rfl, rfl, rfl, rfl, rfl, trivial⟩) ⟨(by omega), (by exact allO_take hu ln (by omega) (by first | assumption | exact allO_get hv ln (by omega))), (Own.congr ow2 ((rdL_step ln (by omega)))), (((m2.nt m3).nt m4).then m5 ((aC (.inr ge1) aN)))⟩ (by first | (dsimp only; omega) | omega)
    · refine WL.call (oc_call (vs := [.string ((es.getD i StrR.d).s)]) (cap := []) rfl rfl rfl Tryd.call19 (c_l01Read_no ((es.getD i StrR.d).s) (by first | assumption | omega | exact hS _) (by assumption) w2)) rfl rfl (ltb rfl) ?_
      rintro _ w6 ⟨z3, rfl, m6⟩
      refine WL.det (op_move rfl) rfl rfl rfl ?_
      refine WL.det (op_extract rfl rfl) rfl rfl rfl ?_
      refine WL.det (op_extract rfl rfl) rfl rfl rfl ?_
      refine WL.det (op_assign rfl) rfl rfl rfl ?_
      refine WL.det (op_assign rfl) rfl rfl rfl ?_
      refine WL.end ?_
      refine NE.code ?_
      refine CE.seq ?_
      refine CE.seq ?_
      refine CE.region ?_
      refine WL.det (op_move rfl) rfl rfl rfl ?_
      refine WL.det (op_not rfl) rfl rfl rfl ?_
      refine WL.end ?_
      refine NE.code ?_
      refine CE.cond_t rfl rfl ?_
      refine CE.seq ?_
      refine CE.region ?_
      refine WL.det (op_move rfl) rfl rfl rfl ?_
      refine WL.det (op_assign rfl) rfl rfl rfl ?_
      refine WL.det (op_assign rfl) rfl rfl rfl ?_
      refine WL.end ?_
      refine NE.code ?_
      refine CE.ret' ?_
      refine XE.ret_then ?_
      refine XE.ret_blk ?_
      refine XE.ret_then ?_
      refine XE.ret_then ?_
      refine XE.ret_blk ?_
      refine XE.ret_then ?_
      refine XE.leaveT Tryd.results10 (res_tmp rfl (res_tmp rfl res_nil)) ?_
      refine ⟨(.slice A2 i cc), rfl, ((((Mod.refl [] w).nt m1).nt m2).nt m6)⟩
  · have hp1 := of_decide_eq_false hb1
    refine CE.cond_f rfl hb1 ?_
    refine CE.exit' ?_
    refine XE.exit_then ?_
    refine XE.exit_then ?_
    refine XE.exit_here ?_
    refine NE.code ?_
    refine CE.seq ?_
    refine CE.region ?_
    refine WL.det (op_move rfl) rfl rfl rfl ?_
    refine WL.det (op_assign rfl) rfl rfl rfl ?_
    refine WL.det (op_assign rfl) rfl rfl rfl ?_
    refine WL.end ?_
    refine NE.code ?_
    refine CE.ret' ?_
    refine XE.leaveT Tryd.results10 (res_tmp rfl (res_tmp rfl res_nil)) ?_
    refine ⟨(.slice A2 i cc), ?_, (((Mod.refl [] w).nt m1).nt m2)⟩
    all_goals first | rfl | (exfalso; have e9 : i = n := (by omega); subst e9; rw [List.take_of_length_le (by omega), hv] at hu; cases hu)

set_option maxRecDepth 100000 in
set_option maxHeartbeats 2000000 in
theorem c_smps (n : Nat) (c : Nat) (A : Option Addr) (b : Nat) (o : Nat) (es : List StrR) (ln : es.length = n) (hA : 0 < n → A = some ⟨b, o, none⟩) (hn : n ≤ 1048577) (hS : ∀ i, (es.getD i StrR.d).s.size ≤ 1048576) (hv : allO es = true) (h3 : 3 ≤ n) (w : World) (r : Rng w b o (cat StrR.cells es)) (T2 : LibR w LC 0 []) (T : LibT w LB 0 []) : Cl Tryd.prog 13 #[.slice A n c] w fun v w' => ∃ (b' : Nat) (c' : Nat), v = .tuple #[vS b' 0 n c', .bool true] ∧ (n ≤ c') ∧ Row w' b' 0 (fl (rdL es)) ∧ w.heap.size ≤ b' ∧ Mod [] w w' := by
  refine Cl.of Tryd.func13 Tryd.ntmps13 rfl rfl (ρ := [(0, .slice A n c)]) rfl ?_
  refine CE.seq ?_
  refine CE.region ?_
  refine WL.det (op_assign rfl) rfl rfl rfl ?_
  refine WL.det (op_assign rfl) rfl rfl rfl ?_
  refine WL.end ?_
  refine NE.code ?_
  refine CE.seq ?_
  refine CE.region ?_
  refine WL.det (op_assign rfl) rfl rfl rfl ?_
  refine WL.end ?_
  refine NE.code ?_
  refine CE.seq ?_
  refine CE.seq ?_
  refine CE.region ?_
  refine WL.det (op_move rfl) rfl rfl rfl ?_
  refine WL.det (op_len rfl Tryd.runUnderlying31) rfl rfl rfl ?_
  refine WL.det (op_move rfl) rfl rfl rfl ?_
  refine WL.end ?_
  refine NE.code ?_
  refine CE.block ?_
  refine CE.loop (fun (z : Nat × Option Addr × Nat) => [(11, vI ((z.1 : Nat) : Int)), (4, .slice z.2.1 z.1 z.2.2), (2, .slice none 0 0), (3, .bool false), (9, .slice A n c), (10, vI ((n : Nat) : Int))]) (fun (z : Nat × Option Addr × Nat) => fun W => (z.1 ≤ n) ∧ (allO (es.take z.1) = true) ∧ Own 22 1 w.heap.size W z.2.1 z.1 z.2.2 (fl (rdL (es.take z.1))) ∧ Mod [] w W) (fun (z : Nat × Option Addr × Nat) => n - z.1) (0, none, 0) (⟨rfl, rfl, rfl, rfl, rfl, rfl, trivial⟩) ⟨(by omega), (by rfl), (Own.congr Own.nil (rfl)), Mod.refl _ _⟩ ?_
  rintro ⟨i, A2, cc⟩ w1 ⟨hi, hu, ow1, m1⟩
  replace hi : i ≤ n := hi
  replace hu : allO (es.take i) = true := hu
  replace ow1 : Own 22 1 w.heap.size w1 A2 i cc (fl (rdL (es.take i))) := ow1
  show CE _ _ _ _ [(11, vI ((i : Nat) : Int)), (4, .slice A2 i cc), (2, .slice none 0 0), (3, .bool false), (9, .slice A n c), (10, vI ((n : Nat) : Int))] _
  refine CE.seq ?_
  refine CE.region ?_
  refine WL.det (op_lti rfl rfl) rfl rfl rfl ?_
  refine WL.end ?_
  refine NE.code ?_
  refine CE.seq ?_
  rcases Bool.eq_false_or_eq_true (decide (((i : Nat) : Int) < ((n : Nat) : Int))) with hb1 | hb1
  · have hp1 := of_decide_eq_true hb1
    refine CE.cond_t rfl hb1 ?_
    refine CE.skip' ?_
    refine NE.code ?_
    refine CE.seq ?_
    refine CE.block ?_
    refine CE.seq ?_
    refine CE.region ?_
    refine WL.det (op_indexSl (off' := o + i * 1) rfl (hA (by omega)) rfl Tryd.runUnderlying31 Tryd.sizeOf9 (by omega) (by omega) (by omega)) rfl rfl rfl ?_
    refine WL.det (op_load1 (i := i * 1) rfl Tryd.isAgg9 (r.ext m1) rfl (cat_get0 (f := StrR.cells) (m := 1) (i := i) (d := StrR.d) (fun _ => rfl) (by have eL : List.length es = n := ln; omega) rfl)) rfl rfl rfl ?_
    refine WL.det (op_assign rfl) rfl rfl rfl ?_
    refine WL.end ?_
    refine NE.code ?_
    refine CE.seq ?_
    refine CE.region ?_
    refine WL.det (op_move rfl) rfl rfl rfl ?_
    refine WL.call (oc_call (vs := [.string ((es.getD i StrR.d).s)]) (cap := []) rfl rfl rfl Tryd.call23 (c_readBits ((es.getD i StrR.d).s) (by first | assumption | omega | exact hS _) (by first | assumption | exact allO_get hv ln (by omega)) w1 (T2.ext m1) (T.ext m1))) rfl rfl (ltb rfl) ?_
    rintro _ w2 ⟨rfl, m2⟩
    refine WL.det (op_move rfl) rfl rfl rfl ?_
    refine WL.det (op_extract rfl rfl) rfl rfl rfl ?_
    refine WL.det (op_extract rfl rfl) rfl rfl rfl ?_
    refine WL.det (op_assign rfl) rfl rfl rfl ?_
    refine WL.det (op_assign rfl) rfl rfl rfl ?_
    refine WL.end ?_
    refine NE.code ?_
    refine CE.seq ?_
    refine CE.seq ?_
    refine CE.region ?_
    refine WL.det (op_move rfl) rfl rfl rfl ?_
    refine WL.det (op_not rfl) rfl rfl rfl ?_
    refine WL.end ?_
    refine NE.code ?_
    refine CE.cond_f rfl rfl ?_
    refine CE.skip' ?_
    refine NE.code ?_
    refine CE.region ?_
    refine WL.det (op_move rfl) rfl rfl rfl ?_
    refine WL.det (op_move rfl) rfl rfl rfl ?_
    refine WL.op (op_buildSl (qs := [(0, vF ((rd (tl ((es.getD i StrR.d).s))).getD 0))]) (cells := #[vF ((rd (tl ((es.getD i StrR.d).s))).getD 0)]) rfl Tryd.runUnderlying23 Tryd.sizeOf22 Tryd.zeroValue22 (by decide) (by decide) (by kernel_rfl)) rfl rfl (ltb rfl) ?_
    rintro _ w3 ⟨rfl, r1, m3, z1⟩
    refine WL.op (op_app (i := Tryd.t22) (m := 1) (bt := 4) (news := [vF ((rd (tl ((es.getD i StrR.d).s))).getD 0)]) rfl rfl Tryd.underlying23 rfl rfl rfl rfl rfl (by decide) r1.rng rfl rfl ((ow1.ext m2).ext m3) (lT (lT m1.size m2.size) m3.size) (by omega) (by decide)) rfl rfl (ltb rfl) ?_
    rintro _ w4 ⟨A1, c1, b1, rfl, ow2, ge1, m4⟩
    refine WL.det (op_assign rfl) rfl rfl rfl ?_
    refine WL.end ?_
    refine NE.blk ?_
    refine NE.code ?_
    refine CE.region ?_
    refine WL.det (op_add (r := ((i + 1 : Nat) : Int)) rfl rfl (w_i64 (by omega) (by omega))) rfl rfl rfl ?_
    refine WL.det (op_move rfl) rfl rfl rfl ?_
    refine WL.end ?_
    exact NE.again ((i + 1), A1, c1) (⟨rfl, rfl, rfl, rfl, rfl, rfl, trivial⟩) ⟨(by omega), (by exact allO_take hu ln (by omega) (by first | assumption | exact allO_get hv ln (by omega))), (Own.congr ow2 ((rdL_step ln (by omega)))), (((m1.nt m2).nt m3).then m4 ((aC (.inr ge1) aN)))⟩ (by first | (dsimp only; omega) | omega)
  · have hp1 := of_decide_eq_false hb1
    refine CE.cond_f rfl hb1 ?_
    refine CE.exit' ?_
    refine XE.exit_then ?_
    refine XE.exit_then ?_
    refine XE.exit_here ?_
    refine NE.code ?_
    refine CE.seq ?_
    refine CE.region ?_
    refine WL.det (op_move rfl) rfl rfl rfl ?_
    refine WL.det (op_assign rfl) rfl rfl rfl ?_
    refine WL.det (op_assign rfl) rfl rfl rfl ?_
    refine WL.end ?_
    refine NE.code ?_
    refine CE.ret' ?_
    have ei : n = i := by omega
    subst ei
    have hc1 := Own.cap ow1
    obtain ⟨b2, hA9, r2, hq1⟩ := Own.outp ow1 (by omega)
    rw [hA9]
    refine XE.leaveT Tryd.results13 (res_tmp rfl (res_tmp rfl res_nil)) ?_
    refine ⟨b2, cc, rfl, ?_, (Row.congr r2 ?_), hq1, ((Mod.refl [] w).nt m1)⟩
    all_goals first | omega | (rw [List.take_of_length_le (by omega)]; done) | rfl

set_option maxRecDepth 100000 in
set_option maxHeartbeats 2000000 in
theorem c_smps_few (n : Nat) (c : Nat) (A : Option Addr) (b : Nat) (o : Nat) (es : List StrR) (ln : es.length = n) (hA : 0 < n → A = some ⟨b, o, none⟩) (hn : n ≤ 1048577) (hS : ∀ i, (es.getD i StrR.d).s.size ≤ 1048576) (hv : allO es = true) (h3 : n < 3) (w : World) (r : Rng w b o (cat StrR.cells es)) (T2 : LibR w LC 0 []) (T : LibT w LB 0 []) : Cl Tryd.prog 13 #[.slice A n c] w fun v w' => ∃ (c' : Nat) (A' : Option Addr), v = .tuple #[.slice A' n c', .bool true] ∧ Mod [] w w' := by
  refine Cl.of Tryd.func13 Tryd.ntmps13 rfl rfl (ρ := [(0, .slice A n c)]) rfl ?_
  refine CE.seq ?_
  refine CE.region ?_
  refine WL.det (op_assign rfl) rfl rfl rfl ?_
  refine WL.det (op_assign rfl) rfl rfl rfl ?_
  refine WL.end ?_
  refine NE.code ?_
  refine CE.seq ?_
  refine CE.region ?_
  refine WL.det (op_assign rfl) rfl rfl rfl ?_
  refine WL.end ?_
  refine NE.code ?_
  refine CE.seq ?_
  refine CE.seq ?_
  refine CE.region ?_
  refine WL.det (op_move rfl) rfl rfl rfl ?_
  refine WL.det (op_len rfl Tryd.runUnderlying31) rfl rfl rfl ?_
  refine WL.det (op_move rfl) rfl rfl rfl ?_
  refine WL.end ?_
  refine NE.code ?_
  refine CE.block ?_
  refine CE.loop (fun (z : Nat × Option Addr × Nat) => [(11, vI ((z.1 : Nat) : Int)), (4, .slice z.2.1 z.1 z.2.2), (2, .slice none 0 0), (3, .bool false), (9, .slice A n c), (10, vI ((n : Nat) : Int))]) (fun (z : Nat × Option Addr × Nat) => fun W => (z.1 ≤ n) ∧ (allO (es.take z.1) = true) ∧ Own 22 1 w.heap.size W z.2.1 z.1 z.2.2 (fl (rdL (es.take z.1))) ∧ Mod [] w W) (fun (z : Nat × Option Addr × Nat) => n - z.1) (0, none, 0) (⟨rfl, rfl, rfl, rfl, rfl, rfl, trivial⟩) ⟨(by omega), (by rfl), (Own.congr Own.nil (rfl)), Mod.refl _ _⟩ ?_
  rintro ⟨i, A2, cc⟩ w1 ⟨hi, hu, ow1, m1⟩
  replace hi : i ≤ n := hi
  replace hu : allO (es.take i) = true := hu
  replace ow1 : Own 22 1 w.heap.size w1 A2 i cc (fl (rdL (es.take i))) := ow1
  show CE _ _ _ _ [(11, vI ((i : Nat) : Int)), (4, .slice A2 i cc), (2, .slice none 0 0), (3, .bool false), (9, .slice A n c), (10, vI ((n : Nat) : Int))] _
  refine CE.seq ?_
  refine CE.region ?_
  refine WL.det (op_lti rfl rfl) rfl rfl rfl ?_
  refine WL.end ?_
  refine NE.code ?_
  refine CE.seq ?_
  rcases Bool.eq_false_or_eq_true (decide (((i : Nat) : Int) < ((n : Nat) : Int))) with hb1 | hb1
  · have hp1 := of_decide_eq_true hb1
    refine CE.cond_t rfl hb1 ?_
    refine CE.skip' ?_
    refine NE.code ?_
    refine CE.seq ?_
    refine CE.block ?_
    refine CE.seq ?_
    refine CE.region ?_
    refine WL.det (op_indexSl (off' := o + i * 1) rfl (hA (by omega)) rfl Tryd.runUnderlying31 Tryd.sizeOf9 (by omega) (by omega) (by omega)) rfl rfl rfl ?_
    refine WL.det (op_load1 (i := i * 1) rfl Tryd.isAgg9 (r.ext m1) rfl (cat_get0 (f := StrR.cells) (m := 1) (i := i) (d := StrR.d) (fun _ => rfl) (by have eL : List.length es = n := ln; omega) rfl)) rfl rfl rfl ?_
    refine WL.det (op_assign rfl) rfl rfl rfl ?_
    refine WL.end ?_
    refine NE.code ?_
    refine CE.seq ?_
    refine CE.region ?_
    refine WL.det (op_move rfl) rfl rfl rfl ?_
    refine WL.call (oc_call (vs := [.string ((es.getD i StrR.d).s)]) (cap := []) rfl rfl rfl Tryd.call23 (c_readBits ((es.getD i StrR.d).s) (by first | assumption | omega | exact hS _) (by first | assumption | exact allO_get hv ln (by omega)) w1 (T2.ext m1) (T.ext m1))) rfl rfl (ltb rfl) ?_
    rintro _ w2 ⟨rfl, m2⟩
    refine WL.det (op_move rfl) rfl rfl rfl ?_
    refine WL.det (op_extract rfl rfl) rfl rfl rfl ?_
    refine WL.det (op_extract rfl rfl) rfl rfl rfl ?_
    refine WL.det (op_assign rfl) rfl rfl rfl ?_
    refine WL.det (op_assign rfl) rfl rfl rfl ?_
    refine WL.end ?_
    refine NE.code ?_
    refine CE.seq ?_
    refine CE.seq ?_
    refine CE.region ?_
    refine WL.det (op_move rfl) rfl rfl rfl ?_
    refine WL.det (op_not rfl) rfl rfl rfl ?_
    refine WL.end ?_
    refine NE.code ?_
    refine CE.cond_f rfl rfl ?_
    refine CE.skip' ?_
    refine NE.code ?_
    refine CE.region ?_
    refine WL.det (op_move rfl) rfl rfl rfl ?_
    refine WL.det (op_move rfl) rfl rfl rfl ?_
    refine WL.op (op_buildSl (qs := [(0, vF ((rd (tl ((es.getD i StrR.d).s))).getD 0))]) (cells := #[vF ((rd (tl ((es.getD i StrR.d).s))).getD 0)]) rfl Tryd.runUnderlying23 Tryd.sizeOf22 Tryd.zeroValue22 (by decide) (by decide) (by kernel_rfl)) rfl rfl (ltb rfl) ?_
    rintro _ w3 ⟨rfl, r1, m3, z1⟩
    refine WL.op (op_app (i := Tryd.t22) (m := 1) (bt := 4) (news := [vF ((rd (tl ((es.getD i StrR.d).s))).getD 0)]) rfl rfl Tryd.underlying23 rfl rfl rfl rfl rfl (by decide) r1.rng rfl rfl ((ow1.ext m2).ext m3) (lT (lT m1.size m2.size) m3.size) (by omega) (by decide)) rfl rfl (ltb rfl) ?_
    rintro _ w4 ⟨A1, c1, b1, rfl, ow2, ge1, m4⟩
    refine WL.det (op_assign rfl) rfl rfl rfl ?_
    refine WL.end ?_
    refine NE.blk ?_
    refine NE.code ?_
    refine CE.region ?_
    refine WL.det (op_add (r := ((i + 1 : Nat) : Int)) rfl rfl (w_i64 (by omega) (by omega))) rfl rfl rfl ?_
    refine WL.det (op_move rfl) rfl rfl rfl ?_
    refine WL.end ?_
    exact NE.again ((i + 1), A1, c1) (⟨rfl, rfl, rfl, rfl, rfl, rfl, trivial⟩) ⟨(by omega), (by exact allO_take hu ln (by omega) (by first | assumption | exact allO_get hv ln (by omega))), (Own.congr ow2 ((rdL_step ln (by omega)))), (((m1.nt m2).nt m3).then m4 ((aC (.inr ge1) aN)))⟩ (by first | (dsimp only; omega) | omega)
  · have hp1 := of_decide_eq_false hb1
    refine CE.cond_f rfl hb1 ?_
    refine CE.exit' ?_
    refine XE.exit_then ?_
    refine XE.exit_then ?_
    refine XE.exit_here ?_
    refine NE.code ?_
    refine CE.seq ?_
    refine CE.region ?_
    refine WL.det (op_move rfl) rfl rfl rfl ?_
    refine WL.det (op_assign rfl) rfl rfl rfl ?_
    refine WL.det (op_assign rfl) rfl rfl rfl ?_
    refine WL.end ?_
    refine NE.code ?_
    refine CE.ret' ?_
    have ei : n = i := by omega
    subst ei
    refine XE.leaveT Tryd.results13 (res_tmp rfl (res_tmp rfl res_nil)) ?_
    refine ⟨cc, A2, rfl, ((Mod.refl [] w).nt m1)⟩

set_option maxRecDepth 100000 in
set_option maxHeartbeats 2000000 in
theorem c_smps_no (n : Nat) (c : Nat) (A : Option Addr) (b : Nat) (o : Nat) (es : List StrR) (ln : es.length = n) (hA : 0 < n → A = some ⟨b, o, none⟩) (hn : n ≤ 1048577) (hS : ∀ i, (es.getD i StrR.d).s.size ≤ 1048576) (hv : allO es = false) (w : World) (r : Rng w b o (cat StrR.cells es)) (T2 : LibR w LC 0 []) (T : LibT w LB 0 []) : Cl Tryd.prog 13 #[.slice A n c] w fun v w' => ∃ (sv : Value), v = .tuple #[sv, .bool false] ∧ Mod [] w w' := by
  refine Cl.of Tryd.func13 Tryd.ntmps13 rfl rfl (ρ := [(0, .slice A n c)]) rfl ?_
  refine CE.seq ?_
  refine CE.region ?_
  refine WL.det (op_assign rfl) rfl rfl rfl ?_
  refine WL.det (op_assign rfl) rfl rfl rfl ?_
  refine WL.end ?_
  refine NE.code ?_
  refine CE.seq ?_
  refine CE.region ?_
  refine WL.det (op_assign rfl) rfl rfl rfl ?_
  refine WL.end ?_
  refine NE.code ?_
  refine CE.seq ?_
  refine CE.seq ?_
  refine CE.region ?_
  refine WL.det (op_move rfl) rfl rfl rfl ?_
  refine WL.det (op_len rfl Tryd.runUnderlying31) rfl rfl rfl ?_
  refine WL.det (op_move rfl) rfl rfl rfl ?_
  refine WL.end ?_
  refine NE.code ?_
  refine CE.block ?_
  refine CE.loop (fun (z : Nat × Option Addr × Nat) => [(11, vI ((z.1 : Nat) : Int)), (4, .slice z.2.1 z.1 z.2.2), (2, .slice none 0 0), (3, .bool false), (9, .slice A n c), (10, vI ((n : Nat) : Int))]) (fun (z : Nat × Option Addr × Nat) => fun W => (z.1 ≤ n) ∧ (allO (es.take z.1) = true) ∧ Own 22 1 w.heap.size W z.2.1 z.1 z.2.2 (fl (rdL (es.take z.1))) ∧ Mod [] w W) (fun (z : Nat × Option Addr × Nat) => n - z.1) (0, none, 0) (⟨rfl, rfl, rfl, rfl, rfl, rfl, trivial⟩) ⟨(by omega), (by rfl), (Own.congr Own.nil (rfl)), Mod.refl _ _⟩ ?_
  rintro ⟨i, A2, cc⟩ w1 ⟨hi, hu, ow1, m1⟩
  replace hi : i ≤ n := hi
  replace hu : allO (es.take i) = true := hu
  replace ow1 : Own 22 1 w.heap.size w1 A2 i cc (fl (rdL (es.take i))) := ow1
  show CE _ _ _ _ [(11, vI ((i : Nat) : Int)), (4, .slice A2 i cc), (2, .slice none 0 0), (3, .bool false), (9, .slice A n c), (10, vI ((n : Nat) : Int))] _
  refine CE.seq ?_
  refine CE.region ?_
  refine WL.det (op_lti rfl rfl) rfl rfl rfl ?_
  refine WL.end ?_
  refine NE.code ?_
  refine CE.seq ?_
  rcases Bool.eq_false_or_eq_true (decide (((i : Nat) : Int) < ((n : Nat) : Int))) with hb1 | hb1
  · have hp1 := of_decide_eq_true hb1
    refine CE.cond_t rfl hb1 ?_
    refine CE.skip' ?_
    refine NE.code ?_
    refine CE.seq ?_
    refine CE.block ?_
    refine CE.seq ?_
    refine CE.region ?_
    refine WL.det (op_indexSl (off' := o + i * 1) rfl (hA (by omega)) rfl Tryd.runUnderlying31 Tryd.sizeOf9 (by omega) (by omega) (by omega)) rfl rfl rfl ?_
    refine WL.det (op_load1 (i := i * 1) rfl Tryd.isAgg9 (r.ext m1) rfl (cat_get0 (f := StrR.cells) (m := 1) (i := i) (d := StrR.d) (fun _ => rfl) (by have eL : List.length es = n := ln; omega) rfl)) rfl rfl rfl ?_
    refine WL.det (op_assign rfl) rfl rfl rfl ?_
    refine WL.end ?_
    refine NE.code ?_
    refine CE.seq ?_
    refine CE.region ?_
    refine WL.det (op_move rfl) rfl rfl rfl ?_
    rcases Bool.eq_false_or_eq_true ((rd (tl ((es.getD i StrR.d).s))).isSome) with hb2 | hb2
    · refine WL.call (oc_call (vs := [.string ((es.getD i StrR.d).s)]) (cap := []) rfl rfl rfl Tryd.call23 (c_readBits ((es.getD i StrR.d).s) (by first | assumption | omega | exact hS _) (by first | assumption | exact allO_get hv ln (by omega)) w1 (T2.ext m1) (T.ext m1))) rfl rfl (ltb rfl) ?_
      rintro _ w2 ⟨rfl, m2⟩
      refine WL.det (op_move rfl) rfl rfl rfl ?_
      refine WL.det (op_extract rfl rfl) rfl rfl rfl ?_
      refine WL.det (op_extract rfl rfl) rfl rfl rfl ?_
      refine WL.det (op_assign rfl) rfl rfl rfl ?_
      refine WL.det (op_assign rfl) rfl rfl rfl ?_
      refine WL.end ?_
      refine NE.code ?_
      refine CE.seq ?_
      refine CE.seq ?_
      refine CE.region ?_
      refine WL.det (op_move rfl) rfl rfl rfl ?_
      refine WL.det (op_not rfl) rfl rfl rfl ?_
      refine WL.end ?_
      refine NE.code ?_
      refine CE.cond_f rfl rfl ?_
      refine CE.skip' ?_
      refine NE.code ?_
      refine CE.region ?_
      refine WL.det (op_move rfl) rfl rfl rfl ?_
      refine WL.det (op_move rfl) rfl rfl rfl ?_
      refine WL.op (op_buildSl (qs := [(0, vF ((rd (tl ((es.getD i StrR.d).s))).getD 0))]) (cells := #[vF ((rd (tl ((es.getD i StrR.d).s))).getD 0)]) rfl Tryd.runUnderlying23 Tryd.sizeOf22 Tryd.zeroValue22 (by decide) (by decide) (by kernel_rfl)) rfl rfl (ltb rfl) ?_
      rintro _ w3 ⟨rfl, r1, m3, z1⟩
      refine WL.op (op_app (i := Tryd.t22) (m := 1) (bt := 4) (news := [vF ((rd (tl ((es.getD i StrR.d).s))).getD 0)]) rfl rfl Tryd.underlying23 rfl rfl rfl rfl rfl (by decide) r1.rng rfl rfl ((ow1.ext m2).ext m3) (lT (lT m1.size m2.size) m3.size) (by omega) (by decide)) rfl rfl (ltb rfl) ?_
      rintro _ w4 ⟨A1, c1, b1, rfl, ow2, ge1, m4⟩
      refine WL.det (op_assign rfl) rfl rfl rfl ?_
      refine WL.end ?_
      refine NE.blk ?_
      refine NE.code ?_
      refine CE.region ?_
      refine WL.det (op_add (r := ((i + 1 : Nat) : Int)) rfl rfl (w_i64 (by omega) (by omega))) rfl rfl rfl ?_
      refine WL.det (op_move rfl) rfl rfl rfl ?_
      refine WL.end ?_
      exact NE.again ((i + 1), A1, c1) (⟨rfl, rfl, rfl, rfl, rfl, rfl, trivial⟩) ⟨(by omega), (by exact allO_take hu ln (by omega) (by first | assumption | exact allO_get hv ln (by omega))), (Own.congr ow2 ((rdL_step ln (by omega)))), (((m1.nt m2).nt m3).then m4 ((aC (.inr ge1) aN)))⟩ (by first | (dsimp only; omega) | omega)
    · refine WL.call (oc_call (vs := [.string ((es.getD i StrR.d).s)]) (cap := []) rfl rfl rfl Tryd.call23 (c_readBits_no ((es.getD i StrR.d).s) (by first | assumption | omega | exact hS _) (by assumption) w1 (T2.ext m1) (T.ext m1))) rfl rfl (ltb rfl) ?_
      rintro _ w5 ⟨z2, rfl, m5⟩
      refine WL.det (op_move rfl) rfl rfl rfl ?_
      refine WL.det (op_extract rfl rfl) rfl rfl rfl ?_
      refine WL.det (op_extract rfl rfl) rfl rfl rfl ?_
      refine WL.det (op_assign rfl) rfl rfl rfl ?_
      refine WL.det (op_assign rfl) rfl rfl rfl ?_
      refine WL.end ?_
      refine NE.code ?_
      refine CE.seq ?_
      refine CE.seq ?_
      refine CE.region ?_
      refine WL.det (op_move rfl) rfl rfl rfl ?_
      refine WL.det (op_not rfl) rfl rfl rfl ?_
      refine WL.end ?_
      refine NE.code ?_
      refine CE.cond_t rfl rfl ?_
      refine CE.seq ?_
      refine CE.region ?_
      refine WL.det (op_assign rfl) rfl rfl rfl ?_
      refine WL.det (op_assign rfl) rfl rfl rfl ?_
      refine WL.end ?_
      refine NE.code ?_
      refine CE.ret' ?_
      refine XE.ret_then ?_
      refine XE.ret_blk ?_
      refine XE.ret_then ?_
      refine XE.ret_then ?_
      refine XE.ret_blk ?_
      refine XE.ret_then ?_
      refine XE.leaveT Tryd.results13 (res_tmp rfl (res_tmp rfl res_nil)) ?_
      refine ⟨(.slice none 0 0), rfl, (((Mod.refl [] w).nt m1).nt m5)⟩
  · have hp1 := of_decide_eq_false hb1
    refine CE.cond_f rfl hb1 ?_
    refine CE.exit' ?_
    refine XE.exit_then ?_
    refine XE.exit_then ?_
    refine XE.exit_here ?_
    refine NE.code ?_
    refine CE.seq ?_
    refine CE.region ?_
    refine WL.det (op_move rfl) rfl rfl rfl ?_
    refine WL.det (op_assign rfl) rfl rfl rfl ?_
    refine WL.det (op_assign rfl) rfl rfl rfl ?_
    refine WL.end ?_
    refine NE.code ?_
    refine CE.ret' ?_
    refine XE.leaveT Tryd.results13 (res_tmp rfl (res_tmp rfl res_nil)) ?_
    refine ⟨(.slice A2 i cc), ?_, ((Mod.refl [] w).nt m1)⟩
    all_goals first | rfl | (exfalso; have e9 : i = n := (by omega); subst e9; rw [List.take_of_length_le (by omega), hv] at hu; cases hu)

theorem c_nums_t (n : Nat) (c : Nat) (A : Option Addr) (b : Nat) (o : Nat) (es : List StrR) (ln : es.length = n) (hA : 0 < n → A = some ⟨b, o, none⟩) (hn : n ≤ 1048577) (hS : ∀ i, (es.getD i StrR.d).s.size ≤ 1048576) (hv : allO es = true) (h3 : 3 ≤ n) (w : World) (r : Rng w b o (cat StrR.cells es)) : Cl Tryd.prog 10 #[.slice A n c] w fun v w' => ∃ (b' : Nat) (c' : Nat), v = .tuple #[vS b' 0 n c', .bool true] ∧ (n ≤ c') ∧ Row w' b' 0 (fl (rdL es)) ∧ Row w' b' (0 + 2) (fl ((rdL es).drop 2)) ∧ w.heap.size ≤ b' ∧ Mod [] w w' := by
  refine Cl.mono (c_nums n c A b o es ln hA hn hS hv h3 w r) ?_
  rintro v w' ⟨b', c', rfl, hc, r9, ge, m⟩
  exact ⟨b', c', rfl, hc, r9, Row.congr (Row.drop r9 2) (fl_drop9 _ _), ge, m⟩
theorem c_smps_t (n : Nat) (c : Nat) (A : Option Addr) (b : Nat) (o : Nat) (es : List StrR) (ln : es.length = n) (hA : 0 < n → A = some ⟨b, o, none⟩) (hn : n ≤ 1048577) (hS : ∀ i, (es.getD i StrR.d).s.size ≤ 1048576) (hv : allO es = true) (h3 : 3 ≤ n) (w : World) (r : Rng w b o (cat StrR.cells es)) (T2 : LibR w LC 0 []) (T : LibT w LB 0 []) : Cl Tryd.prog 13 #[.slice A n c] w fun v w' => ∃ (b' : Nat) (c' : Nat), v = .tuple #[vS b' 0 n c', .bool true] ∧ (n ≤ c') ∧ Row w' b' 0 (fl (rdL es)) ∧ Row w' b' (0 + 2) (fl ((rdL es).drop 2)) ∧ w.heap.size ≤ b' ∧ Mod [] w w' := by
  refine Cl.mono (c_smps n c A b o es ln hA hn hS hv h3 w r T2 T) ?_
  rintro v w' ⟨b', c', rfl, hc, r9, ge, m⟩
  exact ⟨b', c', rfl, hc, r9, Row.congr (Row.drop r9 2) (fl_drop9 _ _), ge, m⟩
end Go.Proofs.YtpjjnopjpgnlaaaDoor
