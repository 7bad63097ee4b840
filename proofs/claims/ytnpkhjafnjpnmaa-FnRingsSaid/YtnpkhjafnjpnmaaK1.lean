/- What the functions on scores compute: sizes and copies. -/
import Derived.Test.YtnpkhjafnjpnmaaB2
import Derived.Test.YtnpkhjafnjpnmaaE12
set_option linter.unusedVariables false
set_option linter.unusedSimpArgs false
namespace Go.Proofs.Ytnpkhjafnjpnmaa

structure EvR where
  at_ : Int
  kind : Int
  note : Int
  ins : Int
  key : Int
  force : Nat
def EvR.cells (e : EvR) : List Value := [vI e.at_, vI e.kind, vI e.note, vI e.ins, vI e.key, vF e.force]
def EvR.d : EvR := ⟨0, 0, 0, 0, 0, 0⟩
structure InR where
  name : ByteArray
  kind : Int
  a : Nat
  b : Nat
  c : Nat
def InR.cells (e : InR) : List Value := [.string e.name, vI e.kind, vF e.a, vF e.b, vF e.c]
def InR.d : InR := ⟨ByteArray.empty, 0, 0, 0, 0⟩
def evSame (x y : EvR) : Bool := (x.at_ == y.at_) && (x.kind == y.kind) && (x.note == y.note) && (x.ins == y.ins) && (x.key == y.key) && (cn .f32 x.force == cn .f32 y.force)
def inSame (x y : InR) : Bool := sEq x.name y.name && (x.kind == y.kind) && (cn .f32 x.a == cn .f32 y.a) && (cn .f32 x.b == cn .f32 y.b) && (cn .f32 x.c == cn .f32 y.c)
def sameW (x y : Nat) : Bool := cn .f32 x == cn .f32 y
theorem natBeq (x y : Nat) : ((x : Int) == (y : Int)) = (x == y) := by rw [Bool.eq_iff_iff]; simp; omega
def allR {α : Type} (s : α → α → Bool) (d : α) (es fs : List α) (n : Nat) : Bool := (List.range n).all fun i => s (es.getD i d) (fs.getD i d)
theorem allR_step {α : Type} {s : α → α → Bool} {d : α} {es fs : List α} {n : Nat} (h : allR s d es fs n = true) (h2 : s (es.getD n d) (fs.getD n d) = true) : allR s d es fs (n + 1) = true := by
  unfold allR at *
  rw [List.range_succ, List.all_append, h]; simpa using h2
def sameL {α : Type} (s : α → α → Bool) (d : α) (es : List α) (n : Nat) (fs : List α) (m : Nat) : Bool := decide (n = m) && allR s d es fs n
section
variable {α : Type} {s : α → α → Bool} {d : α} {es fs : List α} {n m i : Nat}
theorem sameL_ne (h : n ≠ m) : sameL s d es n fs m = false := by simp [sameL, h]
theorem sameL_out (hi : i < n) (h : s (es.getD i d) (fs.getD i d) = false) : sameL s d es n fs m = false := by
  have : allR s d es fs n = false := by unfold allR; rw [List.all_eq_false]; exact ⟨i, by simpa using hi, by simpa using h⟩
  simp [sameL, this]
theorem sameL_all (hn : n = m) (hu : allR s d es fs i = true) (hi : i = n) : sameL s d es n fs m = true := by subst hi; subst hn; simp [sameL, hu]
end
theorem ev_o0 {x y : EvR} (h : (x.at_ != y.at_) = true) : evSame x y = false := by
  have h' : (x.at_ == y.at_) = false := by simpa using h
  simp [evSame, h']
theorem ev_o1 {x y : EvR} (h : (x.kind != y.kind) = true) : evSame x y = false := by
  have h' : (x.kind == y.kind) = false := by simpa using h
  simp [evSame, h']
theorem ev_o2 {x y : EvR} (h : (x.note != y.note) = true) : evSame x y = false := by
  have h' : (x.note == y.note) = false := by simpa using h
  simp [evSame, h']
theorem ev_o3 {x y : EvR} (h : (x.ins != y.ins) = true) : evSame x y = false := by
  have h' : (x.ins == y.ins) = false := by simpa using h
  simp [evSame, h']
theorem ev_o4 {x y : EvR} (h : (x.key != y.key) = true) : evSame x y = false := by
  have h' : (x.key == y.key) = false := by simpa using h
  simp [evSame, h']
theorem ev_o5 {x y : EvR} (h : (cn .f32 x.force == cn .f32 y.force) = false) : evSame x y = false := by simp only [evSame, h, Bool.and_false]
def tuSame (ba oc : Nat) (xs : List Nat) (n : Nat) (ba' oc' : Nat) (ys : List Nat) (m : Nat) : Bool := (cn .f32 ba == cn .f32 ba') && (cn .f32 oc == cn .f32 oc') && sameL sameW 0 xs n ys m
/-- the lengths of the first names together -/
def nmSum (es : List InR) : Nat → Nat
  | 0 => 0
  | i + 1 => nmSum es i + (es.getD i InR.d).name.size
theorem nmSum_succ (es : List InR) (i : Nat) : nmSum es (i + 1) = nmSum es i + (es.getD i InR.d).name.size := rfl
theorem nmSum_le (es : List InR) {i n : Nat} (h : i ≤ n) : nmSum es i ≤ nmSum es n := by
  induction n with
  | zero => obtain rfl : i = 0 := by omega
            exact Nat.le_refl _
  | succ n ih =>
    rcases Nat.lt_or_ge n i with c | c
    · obtain rfl : i = n + 1 := by omega
      exact Nat.le_refl _
    · exact Nat.le_trans (ih c) (Nat.le_add_right _ _)

set_option maxRecDepth 100000 in
set_option maxHeartbeats 2000000 in
theorem c_SameSample (a : Nat) (x : Nat) (b : Nat) (y : Nat) (ha : cn .f32 a = cn .f32 x) (hb : cn .f32 b = cn .f32 y) (w : World) : Cl Try.prog 21 #[vF a, vF b] w fun v w' => v = .bool (cn .f32 x == cn .f32 y) ∧ w = w' := by
  refine Cl.of Try.func21 Try.ntmps21 rfl rfl (ρ := [(0, vF a), (1, vF b)]) rfl ?_
  refine CE.seq ?_
  refine CE.region ?_
  refine WL.det (op_assign rfl) rfl rfl rfl ?_
  refine WL.end ?_
  refine NE.code ?_
  refine CE.seq ?_
  refine CE.region ?_
  refine WL.det (op_move rfl) rfl rfl rfl ?_
  refine WL.call (oc_call (vs := [vF a]) (cap := []) rfl rfl rfl Try.call62 (c_bitsOf a x ha w)) rfl rfl (ltb rfl) ?_
  rintro _ _ ⟨rfl, rfl⟩
  refine WL.det (op_move rfl) rfl rfl rfl ?_
  refine WL.call (oc_call (vs := [vF b]) (cap := []) rfl rfl rfl Try.call62 (c_bitsOf b y hb w)) rfl rfl (ltb rfl) ?_
  rintro _ _ ⟨rfl, rfl⟩
  refine WL.det (op_eqi rfl rfl) rfl rfl rfl ?_
  refine WL.det (op_assign rfl) rfl rfl rfl ?_
  refine WL.end ?_
  refine NE.code ?_
  refine CE.ret' ?_
  refine XE.leave1 Try.results21 rfl ?_
  refine ⟨?_, rfl⟩
  all_goals exact congrArg Value.bool (natBeq _ _)

set_option maxRecDepth 100000 in
set_option maxHeartbeats 2000000 in
theorem c_eqfF (n : Nat) (c : Nat) (A : Option Addr) (b : Nat) (o : Nat) (es : List Nat) (n' : Nat) (c' : Nat) (A' : Option Addr) (b' : Nat) (o' : Nat) (es' : List Nat) (ln : es.length = n) (hA : 0 < n → A = some ⟨b, o, none⟩) (ln' : es'.length = n') (hA' : 0 < n' → A' = some ⟨b', o', none⟩) (hnn : n ≤ 1048576) (hnn' : n' ≤ 1048576) (w : World) (r : Rng w b o (fl es)) (r' : Rng w b' o' (fl es')) : Cl Try.prog 98 #[.slice A n c, .slice A' n' c', .func (.func 21) #[] #[]] w fun v w' => v = .bool (sameL sameW 0 es n es' n') ∧ Mod [] w w' := by
  refine Cl.of Try.func98 Try.ntmps98 rfl rfl (ρ := [(0, .slice A n c), (1, .slice A' n' c'), (2, .func (.func 21) #[] #[])]) rfl ?_
  refine CE.seq ?_
  refine CE.region ?_
  refine WL.det (op_assign rfl) rfl rfl rfl ?_
  refine WL.end ?_
  refine NE.code ?_
  refine CE.seq ?_
  refine CE.seq ?_
  refine CE.region ?_
  refine WL.det (op_move rfl) rfl rfl rfl ?_
  refine WL.det (op_len rfl Try.runUnderlying38) rfl rfl rfl ?_
  refine WL.det (op_move rfl) rfl rfl rfl ?_
  refine WL.det (op_len rfl Try.runUnderlying38) rfl rfl rfl ?_
  refine WL.det (op_nei rfl rfl) rfl rfl rfl ?_
  refine WL.end ?_
  refine NE.code ?_
  rcases Bool.eq_false_or_eq_true ((((n : Nat) : Int) != ((n' : Nat) : Int))) with hb1 | hb1
  · have hp1 := hb1; try simp only [Bool.and_eq_true, Bool.or_eq_true, Bool.not_eq_true', Bool.not_eq_false', Bool.and_eq_false_iff, Bool.or_eq_false_iff, decide_eq_true_eq, decide_eq_false_iff_not, beq_iff_eq, bne_iff_ne, beq_eq_false_iff_ne, bne_eq_false_iff_eq, ne_eq, Bool.false_eq_true, not_false_eq_true, not_true_eq_false, vIn_t, vIn_f] at hp1
    refine CE.cond_t rfl hb1 ?_
    refine CE.seq ?_
    refine CE.region ?_
    refine WL.det (op_assign rfl) rfl rfl rfl ?_
    refine WL.end ?_
    refine NE.code ?_
    refine CE.ret' ?_
    refine XE.ret_then ?_
    refine XE.leave1 Try.results98 rfl ?_
    refine ⟨?_, (Mod.refl [] w)⟩
    all_goals first | exact congrArg Value.bool (sameL_ne (by omega)).symm | exact congrArg Value.bool (sameL_out (i := i) (by omega) (by first | assumption | simp_all [evSame, inSame])).symm | exact congrArg Value.bool (sameL_all (by omega) hu (by omega)).symm
  · have hp1 := hb1; try simp only [Bool.and_eq_true, Bool.or_eq_true, Bool.not_eq_true', Bool.not_eq_false', Bool.and_eq_false_iff, Bool.or_eq_false_iff, decide_eq_true_eq, decide_eq_false_iff_not, beq_iff_eq, bne_iff_ne, beq_eq_false_iff_ne, bne_eq_false_iff_eq, ne_eq, Bool.false_eq_true, not_false_eq_true, not_true_eq_false, vIn_t, vIn_f] at hp1
    refine CE.cond_f rfl hb1 ?_
    refine CE.skip' ?_
    refine NE.code ?_
    refine CE.seq ?_
    refine CE.seq ?_
    refine CE.region ?_
    refine WL.det (op_move rfl) rfl rfl rfl ?_
    refine WL.det (op_len rfl Try.runUnderlying38) rfl rfl rfl ?_
    refine WL.det (op_move rfl) rfl rfl rfl ?_
    refine WL.end ?_
    refine NE.code ?_
    refine CE.block ?_
    refine CE.loop (fun (i : Nat) => [(17, vI ((i : Nat) : Int)), (1, .slice A' n' c'), (2, .func (.func 21) #[] #[]), (6, .bool false), (15, .slice A n c), (16, vI ((n : Nat) : Int))]) (fun (i : Nat) => fun W => (i ≤ n) ∧ (allR sameW 0 es es' i = true) ∧ Mod [] w W) (fun (i : Nat) => n - i) 0 (⟨rfl, rfl, rfl, rfl, rfl, rfl, trivial⟩) ⟨(by omega), (by rfl), Mod.refl _ _⟩ ?_
    rintro i w1 ⟨hi, hu, m1⟩
    show CE _ _ _ _ [(17, vI ((i : Nat) : Int)), (1, .slice A' n' c'), (2, .func (.func 21) #[] #[]), (6, .bool false), (15, .slice A n c), (16, vI ((n : Nat) : Int))] _
    refine CE.seq ?_
    refine CE.region ?_
    refine WL.det (op_lti rfl rfl) rfl rfl rfl ?_
    refine WL.end ?_
    refine NE.code ?_
    refine CE.seq ?_
    rcases Bool.eq_false_or_eq_true (decide (((i : Nat) : Int) < ((n : Nat) : Int))) with hb2 | hb2
    · have hp2 := hb2; try simp only [Bool.and_eq_true, Bool.or_eq_true, Bool.not_eq_true', Bool.not_eq_false', Bool.and_eq_false_iff, Bool.or_eq_false_iff, decide_eq_true_eq, decide_eq_false_iff_not, beq_iff_eq, bne_iff_ne, beq_eq_false_iff_ne, bne_eq_false_iff_eq, ne_eq, Bool.false_eq_true, not_false_eq_true, not_true_eq_false, vIn_t, vIn_f] at hp2
      refine CE.cond_t rfl hb2 ?_
      refine CE.skip' ?_
      refine NE.code ?_
      refine CE.seq ?_
      refine CE.block ?_
      refine CE.seq ?_
      refine CE.region ?_
      refine WL.det (op_move rfl) rfl rfl rfl ?_
      refine WL.det (op_indexSl (off' := o + i) rfl (hA (by omega)) rfl Try.runUnderlying38 Try.sizeOf24 (by omega) (by omega) (by omega)) rfl rfl rfl ?_
      refine WL.det (op_load1 (i := i) rfl Try.isAgg24 (r.ext m1) rfl (fl_get (by have eL : List.length es = n := ln; omega))) rfl rfl rfl ?_
      refine WL.det (op_assign rfl) rfl rfl rfl ?_
      refine WL.det (op_assign rfl) rfl rfl rfl ?_
      refine WL.end ?_
      refine NE.code ?_
      refine CE.seq ?_
      refine CE.region ?_
      refine WL.det (op_move rfl) rfl rfl rfl ?_
      refine WL.det (op_move rfl) rfl rfl rfl ?_
      refine WL.det (op_indexSl (off' := o' + i) rfl (hA' (by omega)) rfl Try.runUnderlying38 Try.sizeOf24 (by omega) (by omega) (by omega)) rfl rfl rfl ?_
      refine WL.det (op_load1 (i := i) rfl Try.isAgg24 (r'.ext m1) rfl (fl_get (by have eL : List.length es' = n' := ln'; omega))) rfl rfl rfl ?_
      refine WL.det (op_assign rfl) rfl rfl rfl ?_
      refine WL.end ?_
      refine NE.code ?_
      refine CE.seq ?_
      refine CE.region ?_
      refine WL.det (op_move rfl) rfl rfl rfl ?_
      refine WL.det (op_move rfl) rfl rfl rfl ?_
      refine WL.det (op_move rfl) rfl rfl rfl ?_
      refine WL.call (oc_call (vs := [vF (es.getD i 0), vF (es'.getD i 0)]) (cap := []) rfl rfl rfl Try.call21 (c_SameSample (es.getD i 0) (es.getD i 0) (es'.getD i 0) (es'.getD i 0) rfl rfl w1)) rfl rfl (ltb rfl) ?_
      rintro _ _ ⟨rfl, rfl⟩
      refine WL.det (op_not rfl) rfl rfl rfl ?_
      refine WL.end ?_
      refine NE.code ?_
      rcases Bool.eq_false_or_eq_true (cn .f32 (es.getD i 0) == cn .f32 (es'.getD i 0)) with hb3 | hb3
      · have hp3 := hb3; try simp only [Bool.and_eq_true, Bool.or_eq_true, Bool.not_eq_true', Bool.not_eq_false', Bool.and_eq_false_iff, Bool.or_eq_false_iff, decide_eq_true_eq, decide_eq_false_iff_not, beq_iff_eq, bne_iff_ne, beq_eq_false_iff_ne, bne_eq_false_iff_eq, ne_eq, Bool.false_eq_true, not_false_eq_true, not_true_eq_false, vIn_t, vIn_f] at hp3
        refine CE.cond_f rfl (bnot_t hb3) ?_
        refine CE.skip' ?_
        refine NE.blk ?_
        refine NE.code ?_
        refine CE.region ?_
        refine WL.det (op_add (r := ((i + 1 : Nat) : Int)) rfl rfl (w_i64 (by omega) (by omega))) rfl rfl rfl ?_
        refine WL.det (op_move rfl) rfl rfl rfl ?_
        refine WL.end ?_
        exact NE.again (i + 1) (⟨rfl, rfl, rfl, rfl, rfl, rfl, trivial⟩) ⟨(by omega), (by exact allR_step hu (by assumption)), m1⟩ (by first | (dsimp only; omega) | omega)
      · have hp3 := hb3; try simp only [Bool.and_eq_true, Bool.or_eq_true, Bool.not_eq_true', Bool.not_eq_false', Bool.and_eq_false_iff, Bool.or_eq_false_iff, decide_eq_true_eq, decide_eq_false_iff_not, beq_iff_eq, bne_iff_ne, beq_eq_false_iff_ne, bne_eq_false_iff_eq, ne_eq, Bool.false_eq_true, not_false_eq_true, not_true_eq_false, vIn_t, vIn_f] at hp3
        refine CE.cond_t rfl (bnot_f hb3) ?_
        refine CE.seq ?_
        refine CE.region ?_
        refine WL.det (op_assign rfl) rfl rfl rfl ?_
        refine WL.end ?_
        refine NE.code ?_
        refine CE.ret' ?_
        refine XE.ret_blk ?_
        refine XE.ret_then ?_
        refine XE.ret_then ?_
        refine XE.ret_blk ?_
        refine XE.ret_then ?_
        refine XE.leave1 Try.results98 rfl ?_
        refine ⟨?_, ((Mod.refl [] w).nt m1)⟩
        all_goals first | exact congrArg Value.bool (sameL_ne (by omega)).symm | exact congrArg Value.bool (sameL_out (i := i) (by omega) (by first | assumption | simp_all [evSame, inSame])).symm | exact congrArg Value.bool (sameL_all (by omega) hu (by omega)).symm
    · have hp2 := hb2; try simp only [Bool.and_eq_true, Bool.or_eq_true, Bool.not_eq_true', Bool.not_eq_false', Bool.and_eq_false_iff, Bool.or_eq_false_iff, decide_eq_true_eq, decide_eq_false_iff_not, beq_iff_eq, bne_iff_ne, beq_eq_false_iff_ne, bne_eq_false_iff_eq, ne_eq, Bool.false_eq_true, not_false_eq_true, not_true_eq_false, vIn_t, vIn_f] at hp2
      refine CE.cond_f rfl hb2 ?_
      refine CE.exit' ?_
      refine XE.exit_then ?_
      refine XE.exit_then ?_
      refine XE.exit_here ?_
      refine NE.code ?_
      refine CE.seq ?_
      refine CE.region ?_
      refine WL.det (op_assign rfl) rfl rfl rfl ?_
      refine WL.end ?_
      refine NE.code ?_
      refine CE.ret' ?_
      refine XE.leave1 Try.results98 rfl ?_
      refine ⟨?_, ((Mod.refl [] w).nt m1)⟩
      all_goals first | exact congrArg Value.bool (sameL_ne (by omega)).symm | exact congrArg Value.bool (sameL_out (i := i) (by omega) (by first | assumption | simp_all [evSame, inSame])).symm | exact congrArg Value.bool (sameL_all (by omega) hu (by omega)).symm

set_option maxRecDepth 100000 in
set_option maxHeartbeats 2000000 in
theorem c_sameSamples (n : Nat) (c : Nat) (A : Option Addr) (b : Nat) (o : Nat) (es : List Nat) (n' : Nat) (c' : Nat) (A' : Option Addr) (b' : Nat) (o' : Nat) (es' : List Nat) (ln : es.length = n) (hA : 0 < n → A = some ⟨b, o, none⟩) (ln' : es'.length = n') (hA' : 0 < n' → A' = some ⟨b', o', none⟩) (hnn : n ≤ 1048576) (hnn' : n' ≤ 1048576) (w : World) (r : Rng w b o (fl es)) (r' : Rng w b' o' (fl es')) : Cl Try.prog 66 #[.slice A n c, .slice A' n' c'] w fun v w' => v = .bool (sameL sameW 0 es n es' n') ∧ Mod [] w w' := by
  refine Cl.of Try.func66 Try.ntmps66 rfl rfl (ρ := [(0, .slice A n c), (1, .slice A' n' c')]) rfl ?_
  refine CE.seq ?_
  refine CE.region ?_
  refine WL.det (op_assign rfl) rfl rfl rfl ?_
  refine WL.end ?_
  refine NE.code ?_
  refine CE.seq ?_
  refine CE.region ?_
  refine WL.det (op_move rfl) rfl rfl rfl ?_
  refine WL.det (op_move rfl) rfl rfl rfl ?_
  refine WL.call (oc_call (vs := [.slice A n c, .slice A' n' c', .func (.func 21) #[] #[]]) (cap := []) rfl rfl rfl Try.call98 (c_eqfF n c A b o es n' c' A' b' o' es' ln hA ln' hA' (by omega) (by omega) w r r')) rfl rfl (ltb rfl) ?_
  rintro _ w1 ⟨rfl, m1⟩
  refine WL.det (op_assign rfl) rfl rfl rfl ?_
  refine WL.end ?_
  refine NE.code ?_
  refine CE.ret' ?_
  refine XE.leave1 Try.results66 rfl ?_
  refine ⟨rfl, ((Mod.refl [] w).nt m1)⟩

end Go.Proofs.Ytnpkhjafnjpnmaa
