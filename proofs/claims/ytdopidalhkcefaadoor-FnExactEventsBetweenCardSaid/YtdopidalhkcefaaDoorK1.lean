/- What the functions on scores compute: sizes and copies. -/
import Derived.Test.YtdopidalhkcefaaDoorB2
import Derived.Test.YtdopidalhkcefaaDoorE12
set_option linter.unusedVariables false
set_option linter.unusedSimpArgs false
namespace Go.Proofs.YtdopidalhkcefaaDoor

structure EvR where
  at_ : Int
  kind : Int
  note : Int
  ins : Int
  key : Int
  force : Nat
def EvR.cells (e : EvR) : List Value := [vI e.at_, vI e.kind, vI e.note, vI e.ins, vI e.key, vF e.force]
def EvR.d : EvR := ⟨0, 0, 0, 0, 0, 0⟩
structure InR where
  name : ByteArray
  kind : Int
  a : Nat
  b : Nat
  c : Nat
def InR.cells (e : InR) : List Value := [.string e.name, vI e.kind, vF e.a, vF e.b, vF e.c]
def InR.d : InR := ⟨ByteArray.empty, 0, 0, 0, 0⟩
def evSame (x y : EvR) : Bool := (x.at_ == y.at_) && (x.kind == y.kind) && (x.note == y.note) && (x.ins == y.ins) && (x.key == y.key) && (cn .f32 x.force == cn .f32 y.force)
def inSame (x y : InR) : Bool := sEq x.name y.name && (x.kind == y.kind) && (cn .f32 x.a == cn .f32 y.a) && (cn .f32 x.b == cn .f32 y.b) && (cn .f32 x.c == cn .f32 y.c)
def sameW (x y : Nat) : Bool := cn .f32 x == cn .f32 y
theorem natBeq (x y : Nat) : ((x : Int) == (y : Int)) = (x == y) := by rw [Bool.eq_iff_iff]; simp; omega
def allR {α : Type} (s : α → α → Bool) (d : α) (es fs : List α) (n : Nat) : Bool := (List.range n).all fun i => s (es.getD i d) (fs.getD i d)
theorem allR_step {α : Type} {s : α → α → Bool} {d : α} {es fs : List α} {n : Nat} (h : allR s d es fs n = true) (h2 : s (es.getD n d) (fs.getD n d) = true) : allR s d es fs (n + 1) = true := by
  unfold allR at *
  rw [List.range_succ, List.all_append, h]; simpa using h2
def sameL {α : Type} (s : α → α → Bool) (d : α) (es : List α) (n : Nat) (fs : List α) (m : Nat) : Bool := decide (n = m) && allR s d es fs n
section
variable {α : Type} {s : α → α → Bool} {d : α} {es fs : List α} {n m i : Nat}
theorem sameL_ne (h : n ≠ m) : sameL s d es n fs m = false := by simp [sameL, h]
theorem sameL_out (hi : i < n) (h : s (es.getD i d) (fs.getD i d) = false) : sameL s d es n fs m = false := by
  have : allR s d es fs n = false := by unfold allR; rw [List.all_eq_false]; exact ⟨i, by simpa using hi, by simpa using h⟩
  simp [sameL, this]
theorem sameL_all (hn : n = m) (hu : allR s d es fs i = true) (hi : i = n) : sameL s d es n fs m = true := by subst hi; subst hn; simp [sameL, hu]
end
theorem ev_o0 {x y : EvR} (h : (x.at_ != y.at_) = true) : evSame x y = false := by
  have h' : (x.at_ == y.at_) = false := by simpa using h
  simp [evSame, h']
theorem ev_o1 {x y : EvR} (h : (x.kind != y.kind) = true) : evSame x y = false := by
  have h' : (x.kind == y.kind) = false := by simpa using h
  simp [evSame, h']
theorem ev_o2 {x y : EvR} (h : (x.note != y.note) = true) : evSame x y = false := by
  have h' : (x.note == y.note) = false := by simpa using h
  simp [evSame, h']
theorem ev_o3 {x y : EvR} (h : (x.ins != y.ins) = true) : evSame x y = false := by
  have h' : (x.ins == y.ins) = false := by simpa using h
  simp [evSame, h']
theorem ev_o4 {x y : EvR} (h : (x.key != y.key) = true) : evSame x y = false := by
  have h' : (x.key == y.key) = false := by simpa using h
  simp [evSame, h']
theorem ev_o5 {x y : EvR} (h : (cn .f32 x.force == cn .f32 y.force) = false) : evSame x y = false := by simp only [evSame, h, Bool.and_false]
def tuSame (ba oc : Nat) (xs : List Nat) (n : Nat) (ba' oc' : Nat) (ys : List Nat) (m : Nat) : Bool := (cn .f32 ba == cn .f32 ba') && (cn .f32 oc == cn .f32 oc') && sameL sameW 0 xs n ys m
/-- the lengths of the first names together -/
def nmSum (es : List InR) : Nat → Nat
  | 0 => 0
  | i + 1 => nmSum es i + (es.getD i InR.d).name.size
theorem nmSum_succ (es : List InR) (i : Nat) : nmSum es (i + 1) = nmSum es i + (es.getD i InR.d).name.size := rfl
theorem nmSum_le (es : List InR) {i n : Nat} (h : i ≤ n) : nmSum es i ≤ nmSum es n := by
  induction n with
  | zero => obtain rfl : i = 0 := by omega
            exact Nat.le_refl _
  | succ n ih =>
    rcases Nat.lt_or_ge n i with c | c
    · obtain rfl : i = n + 1 := by omega
      exact Nat.le_refl _
    · exact Nat.le_trans (ih c) (Nat.le_add_right _ _)

set_option maxRecDepth 100000 in
set_option maxHeartbeats 2000000 in
theorem c_toEvent (at_ : Int) (ki : Int) (no : Int) (In : Int) (ke : Int) (fo : Nat) (w : World) : Cl Tryd.prog 67 #[.agg #[vI at_, vI ki, vI no, vI In, vI ke, vF fo]] w fun v w' => v = .agg #[vI at_, vI ki, vI no, vI In, vI ke, vF fo] ∧ Mod [] w w' := by
  refine Cl.of Tryd.func67 Tryd.ntmps67 rfl rfl (ρ := [(0, .agg #[vI at_, vI ki, vI no, vI In, vI ke, vF fo])]) rfl ?_
  refine CE.seq ?_
  refine CE.region ?_
  refine WL.op (op_box (cs := [vI at_, vI ki, vI no, vI In, vI ke, vF fo]) rfl rfl) rfl rfl (ltb rfl) ?_
  rintro _ w1 ⟨rfl, r1, m1, z1⟩
  refine WL.op (op_alloc (cs := [vI 0, vI 0, vI 0, vI 0, vI 0, vF 0]) Tryd.zeroValue72 rfl) rfl rfl (ltb rfl) ?_
  rintro _ w2 ⟨rfl, r2, m2, z2⟩
  refine WL.end ?_
  refine NE.code ?_
  refine CE.seq ?_
  refine CE.region ?_
  refine WL.op (op_alloc (cs := [vI 0, vI 0, vI 0, vI 0, vI 0, vF 0]) Tryd.zeroValue72 rfl) rfl rfl (ltb rfl) ?_
  rintro _ w3 ⟨rfl, r3, m3, z3⟩
  refine WL.end ?_
  refine NE.code ?_
  refine CE.seq ?_
  refine CE.region ?_
  refine WL.det (op_fieldAddr (off' := 0) rfl Tryd.runUnderlying96 rfl rfl Tryd.sizeOf2 rfl) rfl rfl rfl ?_
  refine WL.det (op_load1 (i := 0) rfl Tryd.isAgg2 ((r1.ext m2).ext m3).rng rfl rfl) rfl rfl rfl ?_
  refine WL.det (op_fieldAddr (off' := 0) rfl Tryd.runUnderlying72 rfl rfl Tryd.sizeOf2 rfl) rfl rfl rfl ?_
  refine WL.op0 (op_store (i := 0) (cs := [vI at_]) rfl rfl rfl Tryd.sizeOf2 rfl r3 rfl (lB rfl) rfl) rfl rfl ?_
  rintro _ w4 ⟨r4, m4, z4⟩
  have r5 : Row w4 w2.heap.size 0 [vI at_, vI 0, vI 0, vI 0, vI 0, vF 0] := Row.congr r4 rfl
  refine WL.end ?_
  refine NE.code ?_
  refine CE.seq ?_
  refine CE.region ?_
  refine WL.det (op_fieldAddr (off' := 1) rfl Tryd.runUnderlying96 rfl rfl Tryd.sizeOf2 rfl) rfl rfl rfl ?_
  refine WL.det (op_load1 (i := 1) rfl Tryd.isAgg2 (((r1.ext m2).ext m3).mod m4 (nC (lE (lL (lL r1.lt m2.size) lR)) nN)).rng rfl rfl) rfl rfl rfl ?_
  refine WL.det (op_fieldAddr (off' := 1) rfl Tryd.runUnderlying72 rfl rfl Tryd.sizeOf2 rfl) rfl rfl rfl ?_
  refine WL.op0 (op_store (i := 1) (cs := [vI ki]) rfl rfl rfl Tryd.sizeOf2 rfl r5 rfl (lB rfl) rfl) rfl rfl ?_
  rintro _ w5 ⟨r6, m5, z5⟩
  have r7 : Row w5 w2.heap.size 0 [vI at_, vI ki, vI 0, vI 0, vI 0, vF 0] := Row.congr r6 rfl
  refine WL.end ?_
  refine NE.code ?_
  refine CE.seq ?_
  refine CE.region ?_
  refine WL.det (op_fieldAddr (off' := 2) rfl Tryd.runUnderlying96 rfl rfl Tryd.sizeOf2 rfl) rfl rfl rfl ?_
  refine WL.det (op_load1 (i := 2) rfl Tryd.isAgg2 ((((r1.ext m2).ext m3).mod m4 (nC (lE (lL (lL r1.lt m2.size) lR)) nN)).mod m5 (nC (lE (lL (lL r1.lt m2.size) lR)) nN)).rng rfl rfl) rfl rfl rfl ?_
  refine WL.det (op_fieldAddr (off' := 2) rfl Tryd.runUnderlying72 rfl rfl Tryd.sizeOf2 rfl) rfl rfl rfl ?_
  refine WL.op0 (op_store (i := 2) (cs := [vI no]) rfl rfl rfl Tryd.sizeOf2 rfl r7 rfl (lB rfl) rfl) rfl rfl ?_
  rintro _ w6 ⟨r8, m6, z6⟩
  have r9 : Row w6 w2.heap.size 0 [vI at_, vI ki, vI no, vI 0, vI 0, vF 0] := Row.congr r8 rfl
  refine WL.end ?_
  refine NE.code ?_
  refine CE.seq ?_
  refine CE.region ?_
  refine WL.det (op_fieldAddr (off' := 3) rfl Tryd.runUnderlying96 rfl rfl Tryd.sizeOf2 rfl) rfl rfl rfl ?_
  refine WL.det (op_load1 (i := 3) rfl Tryd.isAgg2 (((((r1.ext m2).ext m3).mod m4 (nC (lE (lL (lL r1.lt m2.size) lR)) nN)).mod m5 (nC (lE (lL (lL r1.lt m2.size) lR)) nN)).mod m6 (nC (lE (lL (lL r1.lt m2.size) lR)) nN)).rng rfl rfl) rfl rfl rfl ?_
  refine WL.det (op_fieldAddr (off' := 3) rfl Tryd.runUnderlying72 rfl rfl Tryd.sizeOf2 rfl) rfl rfl rfl ?_
  refine WL.op0 (op_store (i := 3) (cs := [vI In]) rfl rfl rfl Tryd.sizeOf2 rfl r9 rfl (lB rfl) rfl) rfl rfl ?_
  rintro _ w7 ⟨r10, m7, z7⟩
  have r11 : Row w7 w2.heap.size 0 [vI at_, vI ki, vI no, vI In, vI 0, vF 0] := Row.congr r10 rfl
  refine WL.end ?_
  refine NE.code ?_
  refine CE.seq ?_
  refine CE.region ?_
  refine WL.det (op_fieldAddr (off' := 4) rfl Tryd.runUnderlying96 rfl rfl Tryd.sizeOf2 rfl) rfl rfl rfl ?_
  refine WL.det (op_load1 (i := 4) rfl Tryd.isAgg2 ((((((r1.ext m2).ext m3).mod m4 (nC (lE (lL (lL r1.lt m2.size) lR)) nN)).mod m5 (nC (lE (lL (lL r1.lt m2.size) lR)) nN)).mod m6 (nC (lE (lL (lL r1.lt m2.size) lR)) nN)).mod m7 (nC (lE (lL (lL r1.lt m2.size) lR)) nN)).rng rfl rfl) rfl rfl rfl ?_
  refine WL.det (op_fieldAddr (off' := 4) rfl Tryd.runUnderlying72 rfl rfl Tryd.sizeOf2 rfl) rfl rfl rfl ?_
  refine WL.op0 (op_store (i := 4) (cs := [vI ke]) rfl rfl rfl Tryd.sizeOf2 rfl r11 rfl (lB rfl) rfl) rfl rfl ?_
  rintro _ w8 ⟨r12, m8, z8⟩
  have r13 : Row w8 w2.heap.size 0 [vI at_, vI ki, vI no, vI In, vI ke, vF 0] := Row.congr r12 rfl
  refine WL.end ?_
  refine NE.code ?_
  refine CE.seq ?_
  refine CE.region ?_
  refine WL.det (op_fieldAddr (off' := 5) rfl Tryd.runUnderlying96 rfl rfl Tryd.sizeOf22 rfl) rfl rfl rfl ?_
  refine WL.det (op_load1 (i := 5) rfl Tryd.isAgg22 (((((((r1.ext m2).ext m3).mod m4 (nC (lE (lL (lL r1.lt m2.size) lR)) nN)).mod m5 (nC (lE (lL (lL r1.lt m2.size) lR)) nN)).mod m6 (nC (lE (lL (lL r1.lt m2.size) lR)) nN)).mod m7 (nC (lE (lL (lL r1.lt m2.size) lR)) nN)).mod m8 (nC (lE (lL (lL r1.lt m2.size) lR)) nN)).rng rfl rfl) rfl rfl rfl ?_
  refine WL.det (op_fieldAddr (off' := 5) rfl Tryd.runUnderlying72 rfl rfl Tryd.sizeOf22 rfl) rfl rfl rfl ?_
  refine WL.op0 (op_store (i := 5) (cs := [vF fo]) rfl rfl rfl Tryd.sizeOf22 rfl r13 rfl (lB rfl) rfl) rfl rfl ?_
  rintro _ w9 ⟨r14, m9, z9⟩
  have r15 : Row w9 w2.heap.size 0 [vI at_, vI ki, vI no, vI In, vI ke, vF fo] := Row.congr r14 rfl
  refine WL.end ?_
  refine NE.code ?_
  refine CE.seq ?_
  refine CE.region ?_
  refine WL.det (op_loadA (i := 0) (cs := [vI at_, vI ki, vI no, vI In, vI ke, vF fo]) rfl Tryd.isAgg72 Tryd.sizeOf72 r15.rng rfl rfl rfl) rfl rfl rfl ?_
  refine WL.op0 (op_store (i := 0) (cs := [vI at_, vI ki, vI no, vI In, vI ke, vF fo]) rfl rfl rfl Tryd.sizeOf72 rfl (((((((r2.ext m3).mod m4 (nC (lE (lL r2.lt lR)) nN)).mod m5 (nC (lE (lL r2.lt lR)) nN)).mod m6 (nC (lE (lL r2.lt lR)) nN)).mod m7 (nC (lE (lL r2.lt lR)) nN)).mod m8 (nC (lE (lL r2.lt lR)) nN)).mod m9 (nC (lE (lL r2.lt lR)) nN)) rfl (lB rfl) rfl) rfl rfl ?_
  rintro _ w10 ⟨r16, m10, z10⟩
  have r17 : Row w10 w1.heap.size 0 [vI at_, vI ki, vI no, vI In, vI ke, vF fo] := Row.congr r16 rfl
  refine WL.end ?_
  refine NE.code ?_
  refine CE.ret' ?_
  refine XE.leaveC Tryd.results67 (res_agg (cs := [vI at_, vI ki, vI no, vI In, vI ke, vF fo]) rfl Tryd.isAgg72 Tryd.sizeOf72 r17.rng rfl res_nil) ?_
  refine ⟨rfl, (((((((((((Mod.refl [] w).nt m1).nt m2).nt m3).then m4 ((aC (.inr (lT (lT m1.size m2.size) lR)) aN))).then m5 ((aC (.inr (lT (lT m1.size m2.size) lR)) aN))).then m6 ((aC (.inr (lT (lT m1.size m2.size) lR)) aN))).then m7 ((aC (.inr (lT (lT m1.size m2.size) lR)) aN))).then m8 ((aC (.inr (lT (lT m1.size m2.size) lR)) aN))).then m9 ((aC (.inr (lT (lT m1.size m2.size) lR)) aN))).then m10 ((aC (.inr (lT m1.size lR)) aN)))⟩

set_option maxRecDepth 100000 in
set_option maxHeartbeats 2000000 in
theorem c_eqEvent (at_ : Int) (ki : Int) (no : Int) (In : Int) (ke : Int) (fo : Nat) (foe : Nat) (fo' : Nat) (hfo : cn .f32 fo = cn .f32 foe) (hfo' : cn .f32 fo' = cn .f32 foe) (w : World) : Cl Tryd.prog 56 #[.agg #[vI at_, vI ki, vI no, vI In, vI ke, vF fo], .agg #[vI at_, vI ki, vI no, vI In, vI ke, vF fo']] w fun v w' => v = .bool true ∧ Mod [] w w' := by
  refine Cl.of Tryd.func56 Tryd.ntmps56 rfl rfl (ρ := [(0, .agg #[vI at_, vI ki, vI no, vI In, vI ke, vF fo]), (1, .agg #[vI at_, vI ki, vI no, vI In, vI ke, vF fo'])]) rfl ?_
  refine CE.seq ?_
  refine CE.region ?_
  refine WL.op (op_box (cs := [vI at_, vI ki, vI no, vI In, vI ke, vF fo]) rfl rfl) rfl rfl (ltb rfl) ?_
  rintro _ w1 ⟨rfl, r1, m1, z1⟩
  refine WL.op (op_box (cs := [vI at_, vI ki, vI no, vI In, vI ke, vF fo']) rfl rfl) rfl rfl (ltb rfl) ?_
  rintro _ w2 ⟨rfl, r2, m2, z2⟩
  refine WL.det (op_assign rfl) rfl rfl rfl ?_
  refine WL.end ?_
  refine NE.code ?_
  refine CE.seq ?_
  refine CE.seq ?_
  refine CE.region ?_
  refine WL.det (op_fieldAddr (off' := 0) rfl Tryd.runUnderlying72 rfl rfl Tryd.sizeOf2 rfl) rfl rfl rfl ?_
  refine WL.det (op_load1 (i := 0) rfl Tryd.isAgg2 (r1.ext m2).rng rfl rfl) rfl rfl rfl ?_
  refine WL.det (op_fieldAddr (off' := 0) rfl Tryd.runUnderlying72 rfl rfl Tryd.sizeOf2 rfl) rfl rfl rfl ?_
  refine WL.det (op_load1 (i := 0) rfl Tryd.isAgg2 r2.rng rfl rfl) rfl rfl rfl ?_
  refine WL.det (op_nei_f rfl rfl rfl) rfl rfl rfl ?_
  refine WL.end ?_
  refine NE.code ?_
  refine CE.cond_f rfl rfl ?_
  refine CE.skip' ?_
  refine NE.code ?_
  refine CE.seq ?_
  refine CE.seq ?_
  refine CE.region ?_
  refine WL.det (op_fieldAddr (off' := 1) rfl Tryd.runUnderlying72 rfl rfl Tryd.sizeOf2 rfl) rfl rfl rfl ?_
  refine WL.det (op_load1 (i := 1) rfl Tryd.isAgg2 (r1.ext m2).rng rfl rfl) rfl rfl rfl ?_
  refine WL.det (op_fieldAddr (off' := 1) rfl Tryd.runUnderlying72 rfl rfl Tryd.sizeOf2 rfl) rfl rfl rfl ?_
  refine WL.det (op_load1 (i := 1) rfl Tryd.isAgg2 r2.rng rfl rfl) rfl rfl rfl ?_
  refine WL.det (op_nei_f rfl rfl rfl) rfl rfl rfl ?_
  refine WL.end ?_
  refine NE.code ?_
  refine CE.cond_f rfl rfl ?_
  refine CE.skip' ?_
  refine NE.code ?_
  refine CE.seq ?_
  refine CE.seq ?_
  refine CE.region ?_
  refine WL.det (op_fieldAddr (off' := 2) rfl Tryd.runUnderlying72 rfl rfl Tryd.sizeOf2 rfl) rfl rfl rfl ?_
  refine WL.det (op_load1 (i := 2) rfl Tryd.isAgg2 (r1.ext m2).rng rfl rfl) rfl rfl rfl ?_
  refine WL.det (op_fieldAddr (off' := 2) rfl Tryd.runUnderlying72 rfl rfl Tryd.sizeOf2 rfl) rfl rfl rfl ?_
  refine WL.det (op_load1 (i := 2) rfl Tryd.isAgg2 r2.rng rfl rfl) rfl rfl rfl ?_
  refine WL.det (op_nei_f rfl rfl rfl) rfl rfl rfl ?_
  refine WL.end ?_
  refine NE.code ?_
  refine CE.cond_f rfl rfl ?_
  refine CE.skip' ?_
  refine NE.code ?_
  refine CE.seq ?_
  refine CE.seq ?_
  refine CE.region ?_
  refine WL.det (op_fieldAddr (off' := 3) rfl Tryd.runUnderlying72 rfl rfl Tryd.sizeOf2 rfl) rfl rfl rfl ?_
  refine WL.det (op_load1 (i := 3) rfl Tryd.isAgg2 (r1.ext m2).rng rfl rfl) rfl rfl rfl ?_
  refine WL.det (op_fieldAddr (off' := 3) rfl Tryd.runUnderlying72 rfl rfl Tryd.sizeOf2 rfl) rfl rfl rfl ?_
  refine WL.det (op_load1 (i := 3) rfl Tryd.isAgg2 r2.rng rfl rfl) rfl rfl rfl ?_
  refine WL.det (op_nei_f rfl rfl rfl) rfl rfl rfl ?_
  refine WL.end ?_
  refine NE.code ?_
  refine CE.cond_f rfl rfl ?_
  refine CE.skip' ?_
  refine NE.code ?_
  refine CE.seq ?_
  refine CE.seq ?_
  refine CE.region ?_
  refine WL.det (op_fieldAddr (off' := 4) rfl Tryd.runUnderlying72 rfl rfl Tryd.sizeOf2 rfl) rfl rfl rfl ?_
  refine WL.det (op_load1 (i := 4) rfl Tryd.isAgg2 (r1.ext m2).rng rfl rfl) rfl rfl rfl ?_
  refine WL.det (op_fieldAddr (off' := 4) rfl Tryd.runUnderlying72 rfl rfl Tryd.sizeOf2 rfl) rfl rfl rfl ?_
  refine WL.det (op_load1 (i := 4) rfl Tryd.isAgg2 r2.rng rfl rfl) rfl rfl rfl ?_
  refine WL.det (op_nei_f rfl rfl rfl) rfl rfl rfl ?_
  refine WL.end ?_
  refine NE.code ?_
  refine CE.cond_f rfl rfl ?_
  refine CE.skip' ?_
  refine NE.code ?_
  refine CE.seq ?_
  refine CE.seq ?_
  refine CE.region ?_
  refine WL.det (op_fieldAddr (off' := 5) rfl Tryd.runUnderlying72 rfl rfl Tryd.sizeOf22 rfl) rfl rfl rfl ?_
  refine WL.det (op_load1 (i := 5) rfl Tryd.isAgg22 (r1.ext m2).rng rfl rfl) rfl rfl rfl ?_
  refine WL.op (op_widen (e := (wide foe)) rfl hfo Tryd.runUnderlying22 Tryd.runUnderlying83 rfl) rfl rfl (ltb rfl) ?_
  rintro _ w3 ⟨⟨f1, rfl, hf1, lf1⟩, m3⟩
  refine WL.det (op_fieldAddr (off' := 5) rfl Tryd.runUnderlying72 rfl rfl Tryd.sizeOf22 rfl) rfl rfl rfl ?_
  refine WL.det (op_load1 (i := 5) rfl Tryd.isAgg22 (r2.ext m3).rng rfl rfl) rfl rfl rfl ?_
  refine WL.op (op_widen (e := (wide foe)) rfl hfo' Tryd.runUnderlying22 Tryd.runUnderlying83 rfl) rfl rfl (ltb rfl) ?_
  rintro _ w4 ⟨⟨f2, rfl, hf2, lf2⟩, m4⟩
  refine WL.call (oc_call (vs := [.float .f64 f1, .float .f64 f2]) (cap := []) rfl rfl rfl Tryd.call52 (c_sameFloat f1 (wide foe) f2 (wide foe) hf1 hf2 w4)) rfl rfl (ltb rfl) ?_
  rintro _ w5 ⟨rfl, m5⟩
  refine WL.det (op_not rfl) rfl rfl rfl ?_
  refine WL.end ?_
  refine NE.code ?_
  refine CE.cond_f rfl (bnot_t (sameF_self _)) ?_
  refine CE.skip' ?_
  refine NE.code ?_
  refine CE.seq ?_
  refine CE.region ?_
  refine WL.det (op_assign rfl) rfl rfl rfl ?_
  refine WL.end ?_
  refine NE.code ?_
  refine CE.ret' ?_
  refine XE.leave1 Tryd.results56 rfl ?_
  refine ⟨rfl, ((((((Mod.refl [] w).nt m1).nt m2).nt m3).nt m4).nt m5)⟩

set_option maxRecDepth 100000 in
set_option maxHeartbeats 2000000 in
theorem c_toInstrument (na : ByteArray) (ki : Int) (a : Nat) (b : Nat) (c : Nat) (w : World) : Cl Tryd.prog 11 #[.agg #[.string na, vI ki, vF a, vF b, vF c]] w fun v w' => v = .agg #[.string na, vI ki, vF a, vF b, vF c] ∧ Mod [] w w' := by
  refine Cl.of Tryd.func11 Tryd.ntmps11 rfl rfl (ρ := [(0, .agg #[.string na, vI ki, vF a, vF b, vF c])]) rfl ?_
  refine CE.seq ?_
  refine CE.region ?_
  refine WL.op (op_box (cs := [.string na, vI ki, vF a, vF b, vF c]) rfl rfl) rfl rfl (ltb rfl) ?_
  rintro _ w1 ⟨rfl, r1, m1, z1⟩
  refine WL.op (op_alloc (cs := [.string ByteArray.empty, vI 0, vF 0, vF 0, vF 0]) Tryd.zeroValue27 rfl) rfl rfl (ltb rfl) ?_
  rintro _ w2 ⟨rfl, r2, m2, z2⟩
  refine WL.end ?_
  refine NE.code ?_
  refine CE.seq ?_
  refine CE.region ?_
  refine WL.op (op_alloc (cs := [.string ByteArray.empty, vI 0, vF 0, vF 0, vF 0]) Tryd.zeroValue27 rfl) rfl rfl (ltb rfl) ?_
  rintro _ w3 ⟨rfl, r3, m3, z3⟩
  refine WL.end ?_
  refine NE.code ?_
  refine CE.seq ?_
  refine CE.region ?_
  refine WL.det (op_fieldAddr (off' := 0) rfl Tryd.runUnderlying24 rfl rfl Tryd.sizeOf9 rfl) rfl rfl rfl ?_
  refine WL.det (op_load1 (i := 0) rfl Tryd.isAgg9 ((r1.ext m2).ext m3).rng rfl rfl) rfl rfl rfl ?_
  refine WL.det (op_fieldAddr (off' := 0) rfl Tryd.runUnderlying27 rfl rfl Tryd.sizeOf9 rfl) rfl rfl rfl ?_
  refine WL.op0 (op_store (i := 0) (cs := [.string na]) rfl rfl rfl Tryd.sizeOf9 rfl r3 rfl (lB rfl) rfl) rfl rfl ?_
  rintro _ w4 ⟨r4, m4, z4⟩
  have r5 : Row w4 w2.heap.size 0 [.string na, vI 0, vF 0, vF 0, vF 0] := Row.congr r4 rfl
  refine WL.end ?_
  refine NE.code ?_
  refine CE.seq ?_
  refine CE.region ?_
  refine WL.det (op_fieldAddr (off' := 1) rfl Tryd.runUnderlying24 rfl rfl Tryd.sizeOf2 rfl) rfl rfl rfl ?_
  refine WL.det (op_load1 (i := 1) rfl Tryd.isAgg2 (((r1.ext m2).ext m3).mod m4 (nC (lE (lL (lL r1.lt m2.size) lR)) nN)).rng rfl rfl) rfl rfl rfl ?_
  refine WL.det (op_fieldAddr (off' := 1) rfl Tryd.runUnderlying27 rfl rfl Tryd.sizeOf2 rfl) rfl rfl rfl ?_
  refine WL.op0 (op_store (i := 1) (cs := [vI ki]) rfl rfl rfl Tryd.sizeOf2 rfl r5 rfl (lB rfl) rfl) rfl rfl ?_
  rintro _ w5 ⟨r6, m5, z5⟩
  have r7 : Row w5 w2.heap.size 0 [.string na, vI ki, vF 0, vF 0, vF 0] := Row.congr r6 rfl
  refine WL.end ?_
  refine NE.code ?_
  refine CE.seq ?_
  refine CE.region ?_
  refine WL.det (op_fieldAddr (off' := 2) rfl Tryd.runUnderlying24 rfl rfl Tryd.sizeOf22 rfl) rfl rfl rfl ?_
  refine WL.det (op_load1 (i := 2) rfl Tryd.isAgg22 ((((r1.ext m2).ext m3).mod m4 (nC (lE (lL (lL r1.lt m2.size) lR)) nN)).mod m5 (nC (lE (lL (lL r1.lt m2.size) lR)) nN)).rng rfl rfl) rfl rfl rfl ?_
  refine WL.det (op_fieldAddr (off' := 2) rfl Tryd.runUnderlying27 rfl rfl Tryd.sizeOf22 rfl) rfl rfl rfl ?_
  refine WL.op0 (op_store (i := 2) (cs := [vF a]) rfl rfl rfl Tryd.sizeOf22 rfl r7 rfl (lB rfl) rfl) rfl rfl ?_
  rintro _ w6 ⟨r8, m6, z6⟩
  have r9 : Row w6 w2.heap.size 0 [.string na, vI ki, vF a, vF 0, vF 0] := Row.congr r8 rfl
  refine WL.end ?_
  refine NE.code ?_
  refine CE.seq ?_
  refine CE.region ?_
  refine WL.det (op_fieldAddr (off' := 3) rfl Tryd.runUnderlying24 rfl rfl Tryd.sizeOf22 rfl) rfl rfl rfl ?_
  refine WL.det (op_load1 (i := 3) rfl Tryd.isAgg22 (((((r1.ext m2).ext m3).mod m4 (nC (lE (lL (lL r1.lt m2.size) lR)) nN)).mod m5 (nC (lE (lL (lL r1.lt m2.size) lR)) nN)).mod m6 (nC (lE (lL (lL r1.lt m2.size) lR)) nN)).rng rfl rfl) rfl rfl rfl ?_
  refine WL.det (op_fieldAddr (off' := 3) rfl Tryd.runUnderlying27 rfl rfl Tryd.sizeOf22 rfl) rfl rfl rfl ?_
  refine WL.op0 (op_store (i := 3) (cs := [vF b]) rfl rfl rfl Tryd.sizeOf22 rfl r9 rfl (lB rfl) rfl) rfl rfl ?_
  rintro _ w7 ⟨r10, m7, z7⟩
  have r11 : Row w7 w2.heap.size 0 [.string na, vI ki, vF a, vF b, vF 0] := Row.congr r10 rfl
  refine WL.end ?_
  refine NE.code ?_
  refine CE.seq ?_
  refine CE.region ?_
  refine WL.det (op_fieldAddr (off' := 4) rfl Tryd.runUnderlying24 rfl rfl Tryd.sizeOf22 rfl) rfl rfl rfl ?_
  refine WL.det (op_load1 (i := 4) rfl Tryd.isAgg22 ((((((r1.ext m2).ext m3).mod m4 (nC (lE (lL (lL r1.lt m2.size) lR)) nN)).mod m5 (nC (lE (lL (lL r1.lt m2.size) lR)) nN)).mod m6 (nC (lE (lL (lL r1.lt m2.size) lR)) nN)).mod m7 (nC (lE (lL (lL r1.lt m2.size) lR)) nN)).rng rfl rfl) rfl rfl rfl ?_
  refine WL.det (op_fieldAddr (off' := 4) rfl Tryd.runUnderlying27 rfl rfl Tryd.sizeOf22 rfl) rfl rfl rfl ?_
  refine WL.op0 (op_store (i := 4) (cs := [vF c]) rfl rfl rfl Tryd.sizeOf22 rfl r11 rfl (lB rfl) rfl) rfl rfl ?_
  rintro _ w8 ⟨r12, m8, z8⟩
  have r13 : Row w8 w2.heap.size 0 [.string na, vI ki, vF a, vF b, vF c] := Row.congr r12 rfl
  refine WL.end ?_
  refine NE.code ?_
  refine CE.seq ?_
  refine CE.region ?_
  refine WL.det (op_loadA (i := 0) (cs := [.string na, vI ki, vF a, vF b, vF c]) rfl Tryd.isAgg27 Tryd.sizeOf27 r13.rng rfl rfl rfl) rfl rfl rfl ?_
  refine WL.op0 (op_store (i := 0) (cs := [.string na, vI ki, vF a, vF b, vF c]) rfl rfl rfl Tryd.sizeOf27 rfl ((((((r2.ext m3).mod m4 (nC (lE (lL r2.lt lR)) nN)).mod m5 (nC (lE (lL r2.lt lR)) nN)).mod m6 (nC (lE (lL r2.lt lR)) nN)).mod m7 (nC (lE (lL r2.lt lR)) nN)).mod m8 (nC (lE (lL r2.lt lR)) nN)) rfl (lB rfl) rfl) rfl rfl ?_
  rintro _ w9 ⟨r14, m9, z9⟩
  have r15 : Row w9 w1.heap.size 0 [.string na, vI ki, vF a, vF b, vF c] := Row.congr r14 rfl
  refine WL.end ?_
  refine NE.code ?_
  refine CE.ret' ?_
  refine XE.leaveC Tryd.results11 (res_agg (cs := [.string na, vI ki, vF a, vF b, vF c]) rfl Tryd.isAgg27 Tryd.sizeOf27 r15.rng rfl res_nil) ?_
  refine ⟨rfl, ((((((((((Mod.refl [] w).nt m1).nt m2).nt m3).then m4 ((aC (.inr (lT (lT m1.size m2.size) lR)) aN))).then m5 ((aC (.inr (lT (lT m1.size m2.size) lR)) aN))).then m6 ((aC (.inr (lT (lT m1.size m2.size) lR)) aN))).then m7 ((aC (.inr (lT (lT m1.size m2.size) lR)) aN))).then m8 ((aC (.inr (lT (lT m1.size m2.size) lR)) aN))).then m9 ((aC (.inr (lT m1.size lR)) aN)))⟩

set_option maxRecDepth 100000 in
set_option maxHeartbeats 2000000 in
theorem c_eqInstrument (na : ByteArray) (ki : Int) (a : Nat) (ae : Nat) (b : Nat) (be : Nat) (c : Nat) (ce : Nat) (a' : Nat) (b' : Nat) (c' : Nat) (ha : cn .f32 a = cn .f32 ae) (ha' : cn .f32 a' = cn .f32 ae) (hb : cn .f32 b = cn .f32 be) (hb' : cn .f32 b' = cn .f32 be) (hc : cn .f32 c = cn .f32 ce) (hc' : cn .f32 c' = cn .f32 ce) (w : World) : Cl Tryd.prog 77 #[.agg #[.string na, vI ki, vF a, vF b, vF c], .agg #[.string na, vI ki, vF a', vF b', vF c']] w fun v w' => v = .bool true ∧ Mod [] w w' := by
  refine Cl.of Tryd.func77 Tryd.ntmps77 rfl rfl (ρ := [(0, .agg #[.string na, vI ki, vF a, vF b, vF c]), (1, .agg #[.string na, vI ki, vF a', vF b', vF c'])]) rfl ?_
  refine CE.seq ?_
  refine CE.region ?_
  refine WL.op (op_box (cs := [.string na, vI ki, vF a, vF b, vF c]) rfl rfl) rfl rfl (ltb rfl) ?_
  rintro _ w1 ⟨rfl, r1, m1, z1⟩
  refine WL.op (op_box (cs := [.string na, vI ki, vF a', vF b', vF c']) rfl rfl) rfl rfl (ltb rfl) ?_
  rintro _ w2 ⟨rfl, r2, m2, z2⟩
  refine WL.det (op_assign rfl) rfl rfl rfl ?_
  refine WL.end ?_
  refine NE.code ?_
  refine CE.seq ?_
  refine CE.seq ?_
  refine CE.region ?_
  refine WL.det (op_fieldAddr (off' := 0) rfl Tryd.runUnderlying27 rfl rfl Tryd.sizeOf9 rfl) rfl rfl rfl ?_
  refine WL.det (op_load1 (i := 0) rfl Tryd.isAgg9 (r1.ext m2).rng rfl rfl) rfl rfl rfl ?_
  refine WL.det (op_fieldAddr (off' := 0) rfl Tryd.runUnderlying27 rfl rfl Tryd.sizeOf9 rfl) rfl rfl rfl ?_
  refine WL.det (op_load1 (i := 0) rfl Tryd.isAgg9 r2.rng rfl rfl) rfl rfl rfl ?_
  refine WL.det (op_nes rfl rfl) rfl rfl rfl ?_
  refine WL.end ?_
  refine NE.code ?_
  refine CE.cond_f rfl (bnot_t (sEq_self _)) ?_
  refine CE.skip' ?_
  refine NE.code ?_
  refine CE.seq ?_
  refine CE.seq ?_
  refine CE.region ?_
  refine WL.det (op_fieldAddr (off' := 1) rfl Tryd.runUnderlying27 rfl rfl Tryd.sizeOf2 rfl) rfl rfl rfl ?_
  refine WL.det (op_load1 (i := 1) rfl Tryd.isAgg2 (r1.ext m2).rng rfl rfl) rfl rfl rfl ?_
  refine WL.det (op_fieldAddr (off' := 1) rfl Tryd.runUnderlying27 rfl rfl Tryd.sizeOf2 rfl) rfl rfl rfl ?_
  refine WL.det (op_load1 (i := 1) rfl Tryd.isAgg2 r2.rng rfl rfl) rfl rfl rfl ?_
  refine WL.det (op_nei_f rfl rfl rfl) rfl rfl rfl ?_
  refine WL.end ?_
  refine NE.code ?_
  refine CE.cond_f rfl rfl ?_
  refine CE.skip' ?_
  refine NE.code ?_
  refine CE.seq ?_
  refine CE.seq ?_
  refine CE.region ?_
  refine WL.det (op_fieldAddr (off' := 2) rfl Tryd.runUnderlying27 rfl rfl Tryd.sizeOf22 rfl) rfl rfl rfl ?_
  refine WL.det (op_load1 (i := 2) rfl Tryd.isAgg22 (r1.ext m2).rng rfl rfl) rfl rfl rfl ?_
  refine WL.op (op_widen (e := (wide ae)) rfl ha Tryd.runUnderlying22 Tryd.runUnderlying83 rfl) rfl rfl (ltb rfl) ?_
  rintro _ w3 ⟨⟨f1, rfl, hf1, lf1⟩, m3⟩
  refine WL.det (op_fieldAddr (off' := 2) rfl Tryd.runUnderlying27 rfl rfl Tryd.sizeOf22 rfl) rfl rfl rfl ?_
  refine WL.det (op_load1 (i := 2) rfl Tryd.isAgg22 (r2.ext m3).rng rfl rfl) rfl rfl rfl ?_
  refine WL.op (op_widen (e := (wide ae)) rfl ha' Tryd.runUnderlying22 Tryd.runUnderlying83 rfl) rfl rfl (ltb rfl) ?_
  rintro _ w4 ⟨⟨f2, rfl, hf2, lf2⟩, m4⟩
  refine WL.call (oc_call (vs := [.float .f64 f1, .float .f64 f2]) (cap := []) rfl rfl rfl Tryd.call52 (c_sameFloat f1 (wide ae) f2 (wide ae) hf1 hf2 w4)) rfl rfl (ltb rfl) ?_
  rintro _ w5 ⟨rfl, m5⟩
  refine WL.det (op_not rfl) rfl rfl rfl ?_
  refine WL.end ?_
  refine NE.code ?_
  refine CE.cond_f rfl (bnot_t (sameF_self _)) ?_
  refine CE.skip' ?_
  refine NE.code ?_
  refine CE.seq ?_
  refine CE.seq ?_
  refine CE.region ?_
  refine WL.det (op_fieldAddr (off' := 3) rfl Tryd.runUnderlying27 rfl rfl Tryd.sizeOf22 rfl) rfl rfl rfl ?_
  refine WL.det (op_load1 (i := 3) rfl Tryd.isAgg22 ((((r1.ext m2).ext m3).ext m4).ext m5).rng rfl rfl) rfl rfl rfl ?_
  refine WL.op (op_widen (e := (wide be)) rfl hb Tryd.runUnderlying22 Tryd.runUnderlying83 rfl) rfl rfl (ltb rfl) ?_
  rintro _ w6 ⟨⟨f3, rfl, hf3, lf3⟩, m6⟩
  refine WL.det (op_fieldAddr (off' := 3) rfl Tryd.runUnderlying27 rfl rfl Tryd.sizeOf22 rfl) rfl rfl rfl ?_
  refine WL.det (op_load1 (i := 3) rfl Tryd.isAgg22 ((((r2.ext m3).ext m4).ext m5).ext m6).rng rfl rfl) rfl rfl rfl ?_
  refine WL.op (op_widen (e := (wide be)) rfl hb' Tryd.runUnderlying22 Tryd.runUnderlying83 rfl) rfl rfl (ltb rfl) ?_
  rintro _ w7 ⟨⟨f4, rfl, hf4, lf4⟩, m7⟩
  refine WL.call (oc_call (vs := [.float .f64 f3, .float .f64 f4]) (cap := []) rfl rfl rfl Tryd.call52 (c_sameFloat f3 (wide be) f4 (wide be) hf3 hf4 w7)) rfl rfl (ltb rfl) ?_
  rintro _ w8 ⟨rfl, m8⟩
  refine WL.det (op_not rfl) rfl rfl rfl ?_
  refine WL.end ?_
  refine NE.code ?_
  refine CE.cond_f rfl (bnot_t (sameF_self _)) ?_
  refine CE.skip' ?_
  refine NE.code ?_
  refine CE.seq ?_
  refine CE.seq ?_
  refine CE.region ?_
  refine WL.det (op_fieldAddr (off' := 4) rfl Tryd.runUnderlying27 rfl rfl Tryd.sizeOf22 rfl) rfl rfl rfl ?_
  refine WL.det (op_load1 (i := 4) rfl Tryd.isAgg22 (((((((r1.ext m2).ext m3).ext m4).ext m5).ext m6).ext m7).ext m8).rng rfl rfl) rfl rfl rfl ?_
  refine WL.op (op_widen (e := (wide ce)) rfl hc Tryd.runUnderlying22 Tryd.runUnderlying83 rfl) rfl rfl (ltb rfl) ?_
  rintro _ w9 ⟨⟨f5, rfl, hf5, lf5⟩, m9⟩
  refine WL.det (op_fieldAddr (off' := 4) rfl Tryd.runUnderlying27 rfl rfl Tryd.sizeOf22 rfl) rfl rfl rfl ?_
  refine WL.det (op_load1 (i := 4) rfl Tryd.isAgg22 (((((((r2.ext m3).ext m4).ext m5).ext m6).ext m7).ext m8).ext m9).rng rfl rfl) rfl rfl rfl ?_
  refine WL.op (op_widen (e := (wide ce)) rfl hc' Tryd.runUnderlying22 Tryd.runUnderlying83 rfl) rfl rfl (ltb rfl) ?_
  rintro _ w10 ⟨⟨f6, rfl, hf6, lf6⟩, m10⟩
  refine WL.call (oc_call (vs := [.float .f64 f5, .float .f64 f6]) (cap := []) rfl rfl rfl Tryd.call52 (c_sameFloat f5 (wide ce) f6 (wide ce) hf5 hf6 w10)) rfl rfl (ltb rfl) ?_
  rintro _ w11 ⟨rfl, m11⟩
  refine WL.det (op_not rfl) rfl rfl rfl ?_
  refine WL.end ?_
  refine NE.code ?_
  refine CE.cond_f rfl (bnot_t (sameF_self _)) ?_
  refine CE.skip' ?_
  refine NE.code ?_
  refine CE.seq ?_
  refine CE.region ?_
  refine WL.det (op_assign rfl) rfl rfl rfl ?_
  refine WL.end ?_
  refine NE.code ?_
  refine CE.ret' ?_
  refine XE.leave1 Tryd.results77 rfl ?_
  refine ⟨rfl, ((((((((((((Mod.refl [] w).nt m1).nt m2).nt m3).nt m4).nt m5).nt m6).nt m7).nt m8).nt m9).nt m10).nt m11)⟩

set_option maxRecDepth 100000 in
set_option maxHeartbeats 2000000 in
theorem c_szTuning (l : Nat) (ba : Nat) (oc : Nat) (nD : Nat) (cD : Nat) (AD : Option Addr) (hl : nD ≤ l) (hm : l ≤ 1048576) (w : World) : Cl Tryd.prog 36 #[.agg #[vF ba, vF oc, .slice AD nD cD], vI ((l : Nat) : Int)] w fun v w' => v = vI ((l - nD : Nat) : Int) ∧ Mod [] w w' := by
  refine Cl.of Tryd.func36 Tryd.ntmps36 rfl rfl (ρ := [(0, .agg #[vF ba, vF oc, .slice AD nD cD]), (1, vI ((l : Nat) : Int))]) rfl ?_
  refine CE.seq ?_
  refine CE.region ?_
  refine WL.op (op_box (cs := [vF ba, vF oc, .slice AD nD cD]) rfl rfl) rfl rfl (ltb rfl) ?_
  rintro _ w1 ⟨rfl, r1, m1, z1⟩
  refine WL.det (op_assign rfl) rfl rfl rfl ?_
  refine WL.end ?_
  refine NE.code ?_
  refine CE.seq ?_
  refine CE.region ?_
  refine WL.det (op_fieldAddr (off' := 2) rfl Tryd.runUnderlying32 rfl rfl Tryd.sizeOf30 rfl) rfl rfl rfl ?_
  refine WL.det (op_load1 (i := 2) rfl Tryd.isAgg30 r1.rng rfl rfl) rfl rfl rfl ?_
  refine WL.det (op_move rfl) rfl rfl rfl ?_
  refine WL.call (oc_call (vs := [.slice AD nD cD, vI ((l : Nat) : Int)]) (cap := []) rfl rfl rfl Tryd.call63 (c_sz32 l nD cD AD (by omega) (by omega) w1)) rfl rfl (ltb rfl) ?_
  rintro _ _ ⟨rfl, rfl⟩
  refine WL.det (op_assign rfl) rfl rfl rfl ?_
  refine WL.end ?_
  refine NE.code ?_
  refine CE.seq ?_
  refine CE.seq ?_
  refine CE.region ?_
  refine WL.det (op_move rfl) rfl rfl rfl ?_
  refine WL.det (op_lti_f rfl rfl (by omega)) rfl rfl rfl ?_
  refine WL.end ?_
  refine NE.code ?_
  refine CE.cond_f rfl rfl ?_
  refine CE.skip' ?_
  refine NE.code ?_
  refine CE.seq ?_
  refine CE.region ?_
  refine WL.det (op_move rfl) rfl rfl rfl ?_
  refine WL.det (op_assign rfl) rfl rfl rfl ?_
  refine WL.end ?_
  refine NE.code ?_
  refine CE.ret' ?_
  refine XE.leave1 Tryd.results36 rfl ?_
  refine ⟨rfl, ((Mod.refl [] w).nt m1)⟩

set_option maxRecDepth 100000 in
set_option maxHeartbeats 2000000 in
theorem c_szTuning_over (l : Nat) (ba : Nat) (oc : Nat) (nD : Nat) (cD : Nat) (AD : Option Addr) (hl : l < nD) (hm : l ≤ 1048576) (hnD : nD ≤ 9223372036854775807) (w : World) : Cl Tryd.prog 36 #[.agg #[vF ba, vF oc, .slice AD nD cD], vI ((l : Nat) : Int)] w fun v w' => v = vI (-1) ∧ Mod [] w w' := by
  refine Cl.of Tryd.func36 Tryd.ntmps36 rfl rfl (ρ := [(0, .agg #[vF ba, vF oc, .slice AD nD cD]), (1, vI ((l : Nat) : Int))]) rfl ?_
  refine CE.seq ?_
  refine CE.region ?_
  refine WL.op (op_box (cs := [vF ba, vF oc, .slice AD nD cD]) rfl rfl) rfl rfl (ltb rfl) ?_
  rintro _ w1 ⟨rfl, r1, m1, z1⟩
  refine WL.det (op_assign rfl) rfl rfl rfl ?_
  refine WL.end ?_
  refine NE.code ?_
  refine CE.seq ?_
  refine CE.region ?_
  refine WL.det (op_fieldAddr (off' := 2) rfl Tryd.runUnderlying32 rfl rfl Tryd.sizeOf30 rfl) rfl rfl rfl ?_
  refine WL.det (op_load1 (i := 2) rfl Tryd.isAgg30 r1.rng rfl rfl) rfl rfl rfl ?_
  refine WL.det (op_move rfl) rfl rfl rfl ?_
  rcases Bool.eq_false_or_eq_true (decide (l < nD)) with hb1 | hb1
  · have hp1 := of_decide_eq_true hb1
    refine WL.call (oc_call (vs := [.slice AD nD cD, vI ((l : Nat) : Int)]) (cap := []) rfl rfl rfl Tryd.call63 (c_sz32_over l nD cD AD (by omega) (by omega) (by omega) w1)) rfl rfl (ltb rfl) ?_
    rintro _ _ ⟨rfl, rfl⟩
    refine WL.det (op_assign rfl) rfl rfl rfl ?_
    refine WL.end ?_
    refine NE.code ?_
    refine CE.seq ?_
    refine CE.seq ?_
    refine CE.region ?_
    refine WL.det (op_move rfl) rfl rfl rfl ?_
    refine WL.det (op_lti rfl rfl) rfl rfl rfl ?_
    refine WL.end ?_
    refine NE.code ?_
    refine CE.cond_t rfl rfl ?_
    refine CE.seq ?_
    refine CE.region ?_
    refine WL.det (op_assign rfl) rfl rfl rfl ?_
    refine WL.end ?_
    refine NE.code ?_
    refine CE.ret' ?_
    refine XE.ret_then ?_
    refine XE.leave1 Tryd.results36 rfl ?_
    refine ⟨rfl, ((Mod.refl [] w).nt m1)⟩
  · have hp1 := of_decide_eq_false hb1
    refine WL.call (oc_call (vs := [.slice AD nD cD, vI ((l : Nat) : Int)]) (cap := []) rfl rfl rfl Tryd.call63 (c_sz32 l nD cD AD (by omega) (by omega) w1)) rfl rfl (ltb rfl) ?_
    rintro _ _ ⟨rfl, rfl⟩
    refine WL.det (op_assign rfl) rfl rfl rfl ?_
    refine WL.end ?_
    refine NE.code ?_
    refine CE.seq ?_
    refine CE.seq ?_
    refine CE.region ?_
    refine WL.det (op_move rfl) rfl rfl rfl ?_
    refine WL.det (op_lti_f rfl rfl (by omega)) rfl rfl rfl ?_
    refine WL.end ?_
    refine NE.code ?_
    refine CE.cond_f rfl rfl ?_
    refine CE.skip' ?_
    refine NE.code ?_
    refine CE.seq ?_
    refine CE.region ?_
    refine WL.det (op_move rfl) rfl rfl rfl ?_
    refine WL.det (op_assign rfl) rfl rfl rfl ?_
    refine WL.end ?_
    refine NE.code ?_
    refine CE.ret' ?_
    refine XE.leave1 Tryd.results36 rfl ?_
    refine ⟨?_, ((Mod.refl [] w).nt m1)⟩
    all_goals (exfalso; omega)

set_option maxRecDepth 100000 in
set_option maxHeartbeats 2000000 in
theorem c_toTuning (ba : Nat) (oc : Nat) (nD : Nat) (cD : Nat) (AD : Option Addr) (bD : Nat) (oD : Nat) (xD : List Nat) (lnD : xD.length = nD) (hAD : 0 < nD → AD = some ⟨bD, oD, none⟩) (hnnD : nD ≤ 1048576) (w : World) (rD : Rng w bD oD (fl xD)) : Cl Tryd.prog 40 #[.agg #[vF ba, vF oc, .slice AD nD cD]] w fun v w' => ∃ (bD' : Nat), v = .agg #[vF ba, vF oc, vS bD' 0 nD nD] ∧ Row w' bD' 0 (fl xD) ∧ w.heap.size ≤ bD' ∧ Mod [] w w' := by
  refine Cl.of Tryd.func40 Tryd.ntmps40 rfl rfl (ρ := [(0, .agg #[vF ba, vF oc, .slice AD nD cD])]) rfl ?_
  refine CE.seq ?_
  refine CE.region ?_
  refine WL.op (op_box (cs := [vF ba, vF oc, .slice AD nD cD]) rfl rfl) rfl rfl (ltb rfl) ?_
  rintro _ w1 ⟨rfl, r1, m1, z1⟩
  refine WL.op (op_alloc (cs := [vF 0, vF 0, .slice none 0 0]) Tryd.zeroValue39 rfl) rfl rfl (ltb rfl) ?_
  rintro _ w2 ⟨rfl, r2, m2, z2⟩
  refine WL.end ?_
  refine NE.code ?_
  refine CE.seq ?_
  refine CE.region ?_
  refine WL.op (op_alloc (cs := [vF 0, vF 0, .slice none 0 0]) Tryd.zeroValue39 rfl) rfl rfl (ltb rfl) ?_
  rintro _ w3 ⟨rfl, r3, m3, z3⟩
  refine WL.end ?_
  refine NE.code ?_
  refine CE.seq ?_
  refine CE.region ?_
  refine WL.det (op_fieldAddr (off' := 0) rfl Tryd.runUnderlying32 rfl rfl Tryd.sizeOf22 rfl) rfl rfl rfl ?_
  refine WL.det (op_load1 (i := 0) rfl Tryd.isAgg22 ((r1.ext m2).ext m3).rng rfl rfl) rfl rfl rfl ?_
  refine WL.det (op_fieldAddr (off' := 0) rfl Tryd.runUnderlying39 rfl rfl Tryd.sizeOf22 rfl) rfl rfl rfl ?_
  refine WL.op0 (op_store (i := 0) (cs := [vF ba]) rfl rfl rfl Tryd.sizeOf22 rfl r3 rfl (lB rfl) rfl) rfl rfl ?_
  rintro _ w4 ⟨r4, m4, z4⟩
  have r5 : Row w4 w2.heap.size 0 [vF ba, vF 0, .slice none 0 0] := Row.congr r4 rfl
  refine WL.end ?_
  refine NE.code ?_
  refine CE.seq ?_
  refine CE.region ?_
  refine WL.det (op_fieldAddr (off' := 1) rfl Tryd.runUnderlying32 rfl rfl Tryd.sizeOf22 rfl) rfl rfl rfl ?_
  refine WL.det (op_load1 (i := 1) rfl Tryd.isAgg22 (((r1.ext m2).ext m3).mod m4 (nC (lE (lL (lL r1.lt m2.size) lR)) nN)).rng rfl rfl) rfl rfl rfl ?_
  refine WL.det (op_fieldAddr (off' := 1) rfl Tryd.runUnderlying39 rfl rfl Tryd.sizeOf22 rfl) rfl rfl rfl ?_
  refine WL.op0 (op_store (i := 1) (cs := [vF oc]) rfl rfl rfl Tryd.sizeOf22 rfl r5 rfl (lB rfl) rfl) rfl rfl ?_
  rintro _ w5 ⟨r6, m5, z5⟩
  have r7 : Row w5 w2.heap.size 0 [vF ba, vF oc, .slice none 0 0] := Row.congr r6 rfl
  refine WL.end ?_
  refine NE.code ?_
  refine CE.seq ?_
  refine CE.region ?_
  refine WL.det (op_fieldAddr (off' := 2) rfl Tryd.runUnderlying32 rfl rfl Tryd.sizeOf30 rfl) rfl rfl rfl ?_
  refine WL.det (op_load1 (i := 2) rfl Tryd.isAgg30 ((((r1.ext m2).ext m3).mod m4 (nC (lE (lL (lL r1.lt m2.size) lR)) nN)).mod m5 (nC (lE (lL (lL r1.lt m2.size) lR)) nN)).rng rfl rfl) rfl rfl rfl ?_
  refine WL.call (oc_call (vs := [.slice AD nD cD]) (cap := []) rfl rfl rfl Tryd.call66 (c_to32 nD cD AD bD oD xD lnD hAD (by omega) w5 (Rng.youngS rD (Rng.youngS rD (((rD.ext m1).ext m2).ext m3) m4 (allge_cons (lT (lT m1.size m2.size) lR) allge_nil)) m5 (allge_cons (lT (lT m1.size m2.size) lR) allge_nil)))) rfl rfl (ltb rfl) ?_
  rintro _ w6 ⟨b'1, rfl, r8, ge1, m6⟩
  refine WL.det (op_fieldAddr (off' := 2) rfl Tryd.runUnderlying39 rfl rfl Tryd.sizeOf30 rfl) rfl rfl rfl ?_
  refine WL.op0 (op_store (i := 2) (cs := [vS b'1 0 nD nD]) rfl rfl rfl Tryd.sizeOf30 rfl (r7.ext m6) rfl (lB rfl) rfl) rfl rfl ?_
  rintro _ w7 ⟨r9, m7, z6⟩
  have r10 : Row w7 w2.heap.size 0 [vF ba, vF oc, vS b'1 0 nD nD] := Row.congr r9 rfl
  refine WL.end ?_
  refine NE.code ?_
  refine CE.seq ?_
  refine CE.region ?_
  refine WL.det (op_loadA (i := 0) (cs := [vF ba, vF oc, vS b'1 0 nD nD]) rfl Tryd.isAgg39 Tryd.sizeOf39 r10.rng rfl rfl rfl) rfl rfl rfl ?_
  refine WL.op0 (op_store (i := 0) (cs := [vF ba, vF oc, vS b'1 0 nD nD]) rfl rfl rfl Tryd.sizeOf39 rfl (((((r2.ext m3).mod m4 (nC (lE (lL r2.lt lR)) nN)).mod m5 (nC (lE (lL r2.lt lR)) nN)).ext m6).mod m7 (nC (lE (lL r2.lt lR)) nN)) rfl (lB rfl) rfl) rfl rfl ?_
  rintro _ w8 ⟨r11, m8, z7⟩
  have r12 : Row w8 w1.heap.size 0 [vF ba, vF oc, vS b'1 0 nD nD] := Row.congr r11 rfl
  refine WL.end ?_
  refine NE.code ?_
  refine CE.ret' ?_
  refine XE.leaveC Tryd.results40 (res_agg (cs := [vF ba, vF oc, vS b'1 0 nD nD]) rfl Tryd.isAgg39 Tryd.sizeOf39 r12.rng rfl res_nil) ?_
  refine ⟨b'1, rfl, ((r8.mod m7 (nC (lG (lL (lL r3.lt (lT m4.size m5.size)) ge1)) nN)).mod m8 (nC (lG (lL (lL r2.lt (lT (lT m3.size m4.size) m5.size)) ge1)) nN)), (lT (lT (lT (lT (lT m1.size m2.size) m3.size) m4.size) m5.size) ge1), (((((((((Mod.refl [] w).nt m1).nt m2).nt m3).then m4 ((aC (.inr (lT (lT m1.size m2.size) lR)) aN))).then m5 ((aC (.inr (lT (lT m1.size m2.size) lR)) aN))).nt m6).then m7 ((aC (.inr (lT (lT m1.size m2.size) lR)) aN))).then m8 ((aC (.inr (lT m1.size lR)) aN)))⟩

set_option maxRecDepth 100000 in
set_option maxHeartbeats 2000000 in
theorem c_eqTuning (ba : Nat) (bae : Nat) (oc : Nat) (oce : Nat) (nD : Nat) (cD : Nat) (AD : Option Addr) (bD : Nat) (oD : Nat) (xD : List Nat) (ba' : Nat) (oc' : Nat) (cD' : Nat) (AD' : Option Addr) (bD' : Nat) (oD' : Nat) (lnD : xD.length = nD) (hAD : 0 < nD → AD = some ⟨bD, oD, none⟩) (hba : cn .f32 ba = cn .f32 bae) (hba' : cn .f32 ba' = cn .f32 bae) (hoc : cn .f32 oc = cn .f32 oce) (hoc' : cn .f32 oc' = cn .f32 oce) (hAD' : 0 < nD → AD' = some ⟨bD', oD', none⟩) (hbnD : nD ≤ 9223372036854775807) (w : World) (rD : Rng w bD oD (fl xD)) (rD' : Rng w bD' oD' (fl xD)) : Cl Tryd.prog 53 #[.agg #[vF ba, vF oc, .slice AD nD cD], .agg #[vF ba', vF oc', .slice AD' nD cD']] w fun v w' => v = .bool true ∧ Mod [] w w' := by
  refine Cl.of Tryd.func53 Tryd.ntmps53 rfl rfl (ρ := [(0, .agg #[vF ba, vF oc, .slice AD nD cD]), (1, .agg #[vF ba', vF oc', .slice AD' nD cD'])]) rfl ?_
  refine CE.seq ?_
  refine CE.region ?_
  refine WL.op (op_box (cs := [vF ba, vF oc, .slice AD nD cD]) rfl rfl) rfl rfl (ltb rfl) ?_
  rintro _ w1 ⟨rfl, r1, m1, z1⟩
  refine WL.op (op_box (cs := [vF ba', vF oc', .slice AD' nD cD']) rfl rfl) rfl rfl (ltb rfl) ?_
  rintro _ w2 ⟨rfl, r2, m2, z2⟩
  refine WL.det (op_assign rfl) rfl rfl rfl ?_
  refine WL.end ?_
  refine NE.code ?_
  refine CE.seq ?_
  refine CE.seq ?_
  refine CE.region ?_
  refine WL.det (op_fieldAddr (off' := 0) rfl Tryd.runUnderlying39 rfl rfl Tryd.sizeOf22 rfl) rfl rfl rfl ?_
  refine WL.det (op_load1 (i := 0) rfl Tryd.isAgg22 (r1.ext m2).rng rfl rfl) rfl rfl rfl ?_
  refine WL.op (op_widen (e := (wide bae)) rfl hba Tryd.runUnderlying22 Tryd.runUnderlying83 rfl) rfl rfl (ltb rfl) ?_
  rintro _ w3 ⟨⟨f1, rfl, hf1, lf1⟩, m3⟩
  refine WL.det (op_fieldAddr (off' := 0) rfl Tryd.runUnderlying39 rfl rfl Tryd.sizeOf22 rfl) rfl rfl rfl ?_
  refine WL.det (op_load1 (i := 0) rfl Tryd.isAgg22 (r2.ext m3).rng rfl rfl) rfl rfl rfl ?_
  refine WL.op (op_widen (e := (wide bae)) rfl hba' Tryd.runUnderlying22 Tryd.runUnderlying83 rfl) rfl rfl (ltb rfl) ?_
  rintro _ w4 ⟨⟨f2, rfl, hf2, lf2⟩, m4⟩
  refine WL.call (oc_call (vs := [.float .f64 f1, .float .f64 f2]) (cap := []) rfl rfl rfl Tryd.call52 (c_sameFloat f1 (wide bae) f2 (wide bae) hf1 hf2 w4)) rfl rfl (ltb rfl) ?_
  rintro _ w5 ⟨rfl, m5⟩
  refine WL.det (op_not rfl) rfl rfl rfl ?_
  refine WL.end ?_
  refine NE.code ?_
  refine CE.cond_f rfl (bnot_t (sameF_self _)) ?_
  refine CE.skip' ?_
  refine NE.code ?_
  refine CE.seq ?_
  refine CE.seq ?_
  refine CE.region ?_
  refine WL.det (op_fieldAddr (off' := 1) rfl Tryd.runUnderlying39 rfl rfl Tryd.sizeOf22 rfl) rfl rfl rfl ?_
  refine WL.det (op_load1 (i := 1) rfl Tryd.isAgg22 ((((r1.ext m2).ext m3).ext m4).ext m5).rng rfl rfl) rfl rfl rfl ?_
  refine WL.op (op_widen (e := (wide oce)) rfl hoc Tryd.runUnderlying22 Tryd.runUnderlying83 rfl) rfl rfl (ltb rfl) ?_
  rintro _ w6 ⟨⟨f3, rfl, hf3, lf3⟩, m6⟩
  refine WL.det (op_fieldAddr (off' := 1) rfl Tryd.runUnderlying39 rfl rfl Tryd.sizeOf22 rfl) rfl rfl rfl ?_
  refine WL.det (op_load1 (i := 1) rfl Tryd.isAgg22 ((((r2.ext m3).ext m4).ext m5).ext m6).rng rfl rfl) rfl rfl rfl ?_
  refine WL.op (op_widen (e := (wide oce)) rfl hoc' Tryd.runUnderlying22 Tryd.runUnderlying83 rfl) rfl rfl (ltb rfl) ?_
  rintro _ w7 ⟨⟨f4, rfl, hf4, lf4⟩, m7⟩
  refine WL.call (oc_call (vs := [.float .f64 f3, .float .f64 f4]) (cap := []) rfl rfl rfl Tryd.call52 (c_sameFloat f3 (wide oce) f4 (wide oce) hf3 hf4 w7)) rfl rfl (ltb rfl) ?_
  rintro _ w8 ⟨rfl, m8⟩
  refine WL.det (op_not rfl) rfl rfl rfl ?_
  refine WL.end ?_
  refine NE.code ?_
  refine CE.cond_f rfl (bnot_t (sameF_self _)) ?_
  refine CE.skip' ?_
  refine NE.code ?_
  refine CE.seq ?_
  refine CE.seq ?_
  refine CE.region ?_
  refine WL.det (op_fieldAddr (off' := 2) rfl Tryd.runUnderlying39 rfl rfl Tryd.sizeOf30 rfl) rfl rfl rfl ?_
  refine WL.det (op_load1 (i := 2) rfl Tryd.isAgg30 (((((((r1.ext m2).ext m3).ext m4).ext m5).ext m6).ext m7).ext m8).rng rfl rfl) rfl rfl rfl ?_
  refine WL.det (op_fieldAddr (off' := 2) rfl Tryd.runUnderlying39 rfl rfl Tryd.sizeOf30 rfl) rfl rfl rfl ?_
  refine WL.det (op_load1 (i := 2) rfl Tryd.isAgg30 ((((((r2.ext m3).ext m4).ext m5).ext m6).ext m7).ext m8).rng rfl rfl) rfl rfl rfl ?_
  refine WL.call (oc_call (vs := [.slice AD nD cD, .slice AD' nD cD']) (cap := []) rfl rfl rfl Tryd.call76 (c_eq32_same nD cD AD bD oD xD cD' AD' bD' oD' lnD hAD hAD' (by omega) w8 ((((((((rD.ext m1).ext m2).ext m3).ext m4).ext m5).ext m6).ext m7).ext m8) ((((((((rD'.ext m1).ext m2).ext m3).ext m4).ext m5).ext m6).ext m7).ext m8))) rfl rfl (ltb rfl) ?_
  rintro _ w9 ⟨rfl, m9⟩
  refine WL.det (op_not rfl) rfl rfl rfl ?_
  refine WL.end ?_
  refine NE.code ?_
  refine CE.cond_f rfl rfl ?_
  refine CE.skip' ?_
  refine NE.code ?_
  refine CE.seq ?_
  refine CE.region ?_
  refine WL.det (op_assign rfl) rfl rfl rfl ?_
  refine WL.end ?_
  refine NE.code ?_
  refine CE.ret' ?_
  refine XE.leave1 Tryd.results53 rfl ?_
  refine ⟨rfl, ((((((((((Mod.refl [] w).nt m1).nt m2).nt m3).nt m4).nt m5).nt m6).nt m7).nt m8).nt m9)⟩

set_option maxRecDepth 100000 in
set_option maxHeartbeats 2000000 in
theorem c_markTuning (ba : Nat) (oc : Nat) (nD : Nat) (cD : Nat) (bD : Nat) (xD : List Nat) (k : Nat) (lnD : xD.length = nD) (hnnD : nD ≤ 1048576) (hk : k ≤ 1048576) (w : World) (rD : Row w bD 0 (fl xD)) : Cl Tryd.prog 57 #[.agg #[vF ba, vF oc, vS bD 0 nD cD], vI ((k : Nat) : Int)] w fun v w' => v = vI ((k + nD : Nat) : Int) ∧ Row w' bD 0 (fl (marks xD k nD)) ∧ Mod [bD] w w' := by
  refine Cl.of Tryd.func57 Tryd.ntmps57 rfl rfl (ρ := [(0, .agg #[vF ba, vF oc, vS bD 0 nD cD]), (1, vI ((k : Nat) : Int))]) rfl ?_
  refine CE.seq ?_
  refine CE.region ?_
  refine WL.op (op_box (cs := [vF ba, vF oc, vS bD 0 nD cD]) rfl rfl) rfl rfl (ltb rfl) ?_
  rintro _ w1 ⟨rfl, r1, m1, z1⟩
  refine WL.det (op_assign rfl) rfl rfl rfl ?_
  refine WL.end ?_
  refine NE.code ?_
  refine CE.seq ?_
  refine CE.region ?_
  refine WL.det (op_fieldAddr (off' := 2) rfl Tryd.runUnderlying39 rfl rfl Tryd.sizeOf30 rfl) rfl rfl rfl ?_
  refine WL.det (op_load1 (i := 2) rfl Tryd.isAgg30 r1.rng rfl rfl) rfl rfl rfl ?_
  refine WL.det (op_move rfl) rfl rfl rfl ?_
  refine WL.call (oc_call (vs := [vS bD 0 nD cD, vI ((k : Nat) : Int)]) (cap := []) rfl rfl rfl Tryd.call78 (c_mark32 nD cD (some ⟨bD, 0, none⟩) bD 0 xD k lnD (fun _ => rfl) (by first | assumption | omega) (by first | assumption | omega) w1 (rD.ext m1))) rfl rfl (ltb rfl) ?_
  rintro _ w2 ⟨rfl, r2, m2⟩
  refine WL.det (op_assign rfl) rfl rfl rfl ?_
  refine WL.end ?_
  refine NE.code ?_
  refine CE.seq ?_
  refine CE.region ?_
  refine WL.det (op_move rfl) rfl rfl rfl ?_
  refine WL.det (op_assign rfl) rfl rfl rfl ?_
  refine WL.end ?_
  refine NE.code ?_
  refine CE.ret' ?_
  refine XE.leave1 Tryd.results57 rfl ?_
  refine ⟨rfl, r2, (((Mod.refl [bD] w).nt m1).then m2 ((aC (.inl (by simp)) aN)))⟩

set_option maxRecDepth 100000 in
set_option maxHeartbeats 2000000 in
theorem c_markTuning_nil (ba : Nat) (oc : Nat) (k : Nat) (hk : k ≤ 1048576) (w : World) : Cl Tryd.prog 57 #[.agg #[vF ba, vF oc, .slice none 0 0], vI ((k : Nat) : Int)] w fun v w' => v = vI ((k : Nat) : Int) ∧ Mod [] w w' := by
  refine Cl.of Tryd.func57 Tryd.ntmps57 rfl rfl (ρ := [(0, .agg #[vF ba, vF oc, .slice none 0 0]), (1, vI ((k : Nat) : Int))]) rfl ?_
  refine CE.seq ?_
  refine CE.region ?_
  refine WL.op (op_box (cs := [vF ba, vF oc, .slice none 0 0]) rfl rfl) rfl rfl (ltb rfl) ?_
  rintro _ w1 ⟨rfl, r1, m1, z1⟩
  refine WL.det (op_assign rfl) rfl rfl rfl ?_
  refine WL.end ?_
  refine NE.code ?_
  refine CE.seq ?_
  refine CE.region ?_
  refine WL.det (op_fieldAddr (off' := 2) rfl Tryd.runUnderlying39 rfl rfl Tryd.sizeOf30 rfl) rfl rfl rfl ?_
  refine WL.det (op_load1 (i := 2) rfl Tryd.isAgg30 r1.rng rfl rfl) rfl rfl rfl ?_
  refine WL.det (op_move rfl) rfl rfl rfl ?_
  refine WL.call (oc_call (vs := [.slice none 0 0, vI ((k : Nat) : Int)]) (cap := []) rfl rfl rfl Tryd.call78 (c_mark32_nil k w1)) rfl rfl (ltb rfl) ?_
  rintro _ _ ⟨rfl, rfl⟩
  refine WL.det (op_assign rfl) rfl rfl rfl ?_
  refine WL.end ?_
  refine NE.code ?_
  refine CE.seq ?_
  refine CE.region ?_
  refine WL.det (op_move rfl) rfl rfl rfl ?_
  refine WL.det (op_assign rfl) rfl rfl rfl ?_
  refine WL.end ?_
  refine NE.code ?_
  refine CE.ret' ?_
  refine XE.leave1 Tryd.results57 rfl ?_
  refine ⟨rfl, ((Mod.refl [] w).nt m1)⟩

set_option maxRecDepth 100000 in
set_option maxHeartbeats 2000000 in
theorem c_szInstrument (nm : ByteArray) (kd : Int) (fa : Nat) (fb : Nat) (fc : Nat) (l : Int) (h0 : 0 ≤ l) (hm : l ≤ 1048576) (hs : nm.size ≤ 9223372036854775807) (hw : decide ((l - ((nm.size : Nat) : Int)) < (0 : Int)) = false) (w : World) : Cl Tryd.prog 9 #[.agg #[.string nm, vI kd, vF fa, vF fb, vF fc], vI l] w fun v w' => v = vI (l - ((nm.size : Nat) : Int)) ∧ Mod [] w w' := by
  refine Cl.of Tryd.func9 Tryd.ntmps9 rfl rfl (ρ := [(0, .agg #[.string nm, vI kd, vF fa, vF fb, vF fc]), (1, vI l)]) rfl ?_
  refine CE.seq ?_
  refine CE.region ?_
  refine WL.op (op_box (cs := [.string nm, vI kd, vF fa, vF fb, vF fc]) rfl rfl) rfl rfl (ltb rfl) ?_
  rintro _ w1 ⟨rfl, r1, m1, z1⟩
  refine WL.det (op_assign rfl) rfl rfl rfl ?_
  refine WL.end ?_
  refine NE.code ?_
  refine CE.seq ?_
  refine CE.region ?_
  refine WL.det (op_move rfl) rfl rfl rfl ?_
  refine WL.det (op_fieldAddr (off' := 0) rfl Tryd.runUnderlying24 rfl rfl Tryd.sizeOf9 rfl) rfl rfl rfl ?_
  refine WL.det (op_load1 (i := 0) rfl Tryd.isAgg9 r1.rng rfl rfl) rfl rfl rfl ?_
  refine WL.det (op_lens rfl Tryd.runUnderlying9) rfl rfl rfl ?_
  refine WL.det (op_sub (r := (l - ((nm.size : Nat) : Int))) rfl rfl (w_i64 (by omega) (by omega))) rfl rfl rfl ?_
  refine WL.det (op_assign rfl) rfl rfl rfl ?_
  refine WL.end ?_
  refine NE.code ?_
  refine CE.seq ?_
  refine CE.seq ?_
  refine CE.region ?_
  refine WL.det (op_move rfl) rfl rfl rfl ?_
  refine WL.det (op_lti rfl rfl) rfl rfl rfl ?_
  refine WL.end ?_
  refine NE.code ?_
  refine CE.cond_f rfl hw ?_
  refine CE.skip' ?_
  refine NE.code ?_
  refine CE.seq ?_
  refine CE.region ?_
  refine WL.det (op_move rfl) rfl rfl rfl ?_
  refine WL.det (op_assign rfl) rfl rfl rfl ?_
  refine WL.end ?_
  refine NE.code ?_
  refine CE.ret' ?_
  refine XE.leave1 Tryd.results9 rfl ?_
  refine ⟨rfl, ((Mod.refl [] w).nt m1)⟩

set_option maxRecDepth 100000 in
set_option maxHeartbeats 2000000 in
theorem c_szInstrument_over (nm : ByteArray) (kd : Int) (fa : Nat) (fb : Nat) (fc : Nat) (l : Int) (h0 : 0 ≤ l) (hm : l ≤ 1048576) (hs : nm.size ≤ 9223372036854775807) (hw : decide ((l - ((nm.size : Nat) : Int)) < (0 : Int)) = true) (w : World) : Cl Tryd.prog 9 #[.agg #[.string nm, vI kd, vF fa, vF fb, vF fc], vI l] w fun v w' => v = vI (-1) ∧ Mod [] w w' := by
  refine Cl.of Tryd.func9 Tryd.ntmps9 rfl rfl (ρ := [(0, .agg #[.string nm, vI kd, vF fa, vF fb, vF fc]), (1, vI l)]) rfl ?_
  refine CE.seq ?_
  refine CE.region ?_
  refine WL.op (op_box (cs := [.string nm, vI kd, vF fa, vF fb, vF fc]) rfl rfl) rfl rfl (ltb rfl) ?_
  rintro _ w1 ⟨rfl, r1, m1, z1⟩
  refine WL.det (op_assign rfl) rfl rfl rfl ?_
  refine WL.end ?_
  refine NE.code ?_
  refine CE.seq ?_
  refine CE.region ?_
  refine WL.det (op_move rfl) rfl rfl rfl ?_
  refine WL.det (op_fieldAddr (off' := 0) rfl Tryd.runUnderlying24 rfl rfl Tryd.sizeOf9 rfl) rfl rfl rfl ?_
  refine WL.det (op_load1 (i := 0) rfl Tryd.isAgg9 r1.rng rfl rfl) rfl rfl rfl ?_
  refine WL.det (op_lens rfl Tryd.runUnderlying9) rfl rfl rfl ?_
  refine WL.det (op_sub (r := (l - ((nm.size : Nat) : Int))) rfl rfl (w_i64 (by omega) (by omega))) rfl rfl rfl ?_
  refine WL.det (op_assign rfl) rfl rfl rfl ?_
  refine WL.end ?_
  refine NE.code ?_
  refine CE.seq ?_
  refine CE.seq ?_
  refine CE.region ?_
  refine WL.det (op_move rfl) rfl rfl rfl ?_
  refine WL.det (op_lti rfl rfl) rfl rfl rfl ?_
  refine WL.end ?_
  refine NE.code ?_
  refine CE.cond_t rfl hw ?_
  refine CE.seq ?_
  refine CE.region ?_
  refine WL.det (op_assign rfl) rfl rfl rfl ?_
  refine WL.end ?_
  refine NE.code ?_
  refine CE.ret' ?_
  refine XE.ret_then ?_
  refine XE.leave1 Tryd.results9 rfl ?_
  refine ⟨rfl, ((Mod.refl [] w).nt m1)⟩

set_option maxRecDepth 100000 in
set_option maxHeartbeats 2000000 in
theorem c_szInstrumentS (n : Nat) (c : Nat) (A : Option Addr) (b : Nat) (o : Nat) (es : List InR) (l : Int) (ln : es.length = n) (hA : 0 < n → A = some ⟨b, o, none⟩) (hS : ∀ i, (es.getD i InR.d).name.size ≤ 9223372036854775807) (h0 : 0 ≤ l) (hm : l ≤ 1048576) (hn : n ≤ 9223372036854775807) (hw : decide (l < ((n : Nat) : Int) + ((nmSum es n : Nat) : Int)) = false) (w : World) (r : Rng w b o (cat InR.cells es)) : Cl Tryd.prog 37 #[.slice A n c, vI l] w fun v w' => v = vI (l - ((n : Nat) : Int) - ((nmSum es n : Nat) : Int)) ∧ Mod [] w w' := by
  have hw2 := of_decide_eq_false hw
  refine Cl.of Tryd.func37 Tryd.ntmps37 rfl rfl (ρ := [(0, .slice A n c), (1, vI l)]) rfl ?_
  refine CE.seq ?_
  refine CE.region ?_
  refine WL.det (op_assign rfl) rfl rfl rfl ?_
  refine WL.end ?_
  refine NE.code ?_
  refine CE.seq ?_
  refine CE.region ?_
  refine WL.det (op_move rfl) rfl rfl rfl ?_
  refine WL.det (op_move rfl) rfl rfl rfl ?_
  refine WL.det (op_len rfl Tryd.runUnderlying33) rfl rfl rfl ?_
  refine WL.det (op_sub (r := (l - ((n : Nat) : Int))) rfl rfl (w_i64 (by omega) (by omega))) rfl rfl rfl ?_
  refine WL.det (op_assign rfl) rfl rfl rfl ?_
  refine WL.end ?_
  refine NE.code ?_
  refine CE.seq ?_
  refine CE.seq ?_
  refine CE.region ?_
  refine WL.det (op_move rfl) rfl rfl rfl ?_
  refine WL.det (op_lti rfl rfl) rfl rfl rfl ?_
  refine WL.end ?_
  refine NE.code ?_
  refine CE.cond_f rfl (decide_eq_false (by omega)) ?_
  refine CE.skip' ?_
  refine NE.code ?_
  refine CE.seq ?_
  refine CE.seq ?_
  refine CE.region ?_
  refine WL.det (op_assign rfl) rfl rfl rfl ?_
  refine WL.end ?_
  refine NE.code ?_
  refine CE.block ?_
  refine CE.loop (fun (z : Nat × Int) => [(5, vI ((z.1 : Nat) : Int)), (1, vI z.2), (0, .slice A n c), (4, vI 0)]) (fun (z : Nat × Int) => fun W => (z.1 ≤ n) ∧ (z.2 = l - ((n : Nat) : Int) - ((nmSum es z.1 : Nat) : Int)) ∧ (0 ≤ z.2) ∧ Mod [] w W) (fun (z : Nat × Int) => n - z.1) (0, (l - ((n : Nat) : Int))) (⟨rfl, rfl, rfl, rfl, trivial⟩) ⟨(by omega), (by show _ = _ - _ - ((0 : Nat) : Int); omega), (by omega), Mod.refl _ _⟩ ?_
  rintro ⟨i, lv⟩ w1 ⟨hi, hlv, h1v, m1⟩
  replace hi : i ≤ n := hi
  replace hlv : lv = l - ((n : Nat) : Int) - ((nmSum es i : Nat) : Int) := hlv
  replace h1v : 0 ≤ lv := h1v
  show CE _ _ _ _ [(5, vI ((i : Nat) : Int)), (1, vI lv), (0, .slice A n c), (4, vI 0)] _
  refine CE.seq ?_
  refine CE.seq ?_
  refine CE.region ?_
  refine WL.det (op_move rfl) rfl rfl rfl ?_
  refine WL.det (op_move rfl) rfl rfl rfl ?_
  refine WL.det (op_len rfl Tryd.runUnderlying33) rfl rfl rfl ?_
  refine WL.det (op_lti rfl rfl) rfl rfl rfl ?_
  refine WL.end ?_
  refine NE.code ?_
  rcases Bool.eq_false_or_eq_true (decide (((i : Nat) : Int) < ((n : Nat) : Int))) with hb1 | hb1
  · have hp1 := of_decide_eq_true hb1
    refine CE.cond_t rfl hb1 ?_
    refine CE.skip' ?_
    refine NE.code ?_
    refine CE.seq ?_
    refine CE.block ?_
    refine CE.seq ?_
    refine CE.region ?_
    refine WL.det (op_move rfl) rfl rfl rfl ?_
    refine WL.det (op_move rfl) rfl rfl rfl ?_
    refine WL.det (op_indexSl (off' := o + i * 5) rfl (hA (by omega)) rfl Tryd.runUnderlying33 Tryd.sizeOf24 (by omega) (by omega) (by omega)) rfl rfl rfl ?_
    refine WL.det (op_loadA (i := i * 5) (cs := [.string ((es.getD i InR.d).name), vI ((es.getD i InR.d).kind), vF ((es.getD i InR.d).a), vF ((es.getD i InR.d).b), vF ((es.getD i InR.d).c)]) rfl Tryd.isAgg24 Tryd.sizeOf24 (r.ext m1) rfl (cat_at (f := InR.cells) (m := 5) (i := i) (d := InR.d) (fun _ => rfl) (by have eL : List.length es = n := ln; omega)) rfl) rfl rfl rfl ?_
    refine WL.det (op_move rfl) rfl rfl rfl ?_
    refine WL.call (oc_call (vs := [.agg #[.string ((es.getD i InR.d).name), vI ((es.getD i InR.d).kind), vF ((es.getD i InR.d).a), vF ((es.getD i InR.d).b), vF ((es.getD i InR.d).c)], vI lv]) (cap := []) rfl rfl rfl Tryd.call9 (c_szInstrument ((es.getD i InR.d).name) ((es.getD i InR.d).kind) ((es.getD i InR.d).a) ((es.getD i InR.d).b) ((es.getD i InR.d).c) lv (by omega) (by omega) (by first | assumption | exact hS _) (by first | assumption | (refine decide_eq_false ?_; have q1 := nmSum_le es (show i + 1 ≤ n by omega); have q2 := nmSum_succ es i; omega)) w1)) rfl rfl (ltb rfl) ?_
    rintro _ w2 ⟨rfl, m2⟩
    refine WL.det (op_assign rfl) rfl rfl rfl ?_
    refine WL.end ?_
    refine NE.code ?_
    refine CE.seq ?_
    refine CE.region ?_
    refine WL.det (op_move rfl) rfl rfl rfl ?_
    refine WL.det (op_lti rfl rfl) rfl rfl rfl ?_
    refine WL.end ?_
    refine NE.code ?_
    refine CE.cond_f rfl (decide_eq_false (by have q1 := nmSum_le es (show i + 1 ≤ n by omega); have q2 := nmSum_succ es i; omega)) ?_
    refine CE.skip' ?_
    refine NE.blk ?_
    refine NE.code ?_
    refine CE.region ?_
    refine WL.det (op_move rfl) rfl rfl rfl ?_
    refine WL.det (op_add (r := ((i + 1 : Nat) : Int)) rfl rfl (w_i64 (by omega) (by omega))) rfl rfl rfl ?_
    refine WL.det (op_assign rfl) rfl rfl rfl ?_
    refine WL.end ?_
    exact NE.again ((i + 1), (lv - ((((es.getD i InR.d).name).size : Nat) : Int))) (⟨rfl, rfl, rfl, rfl, trivial⟩) ⟨(by omega), (by rw [nmSum_succ]; omega), (by first | omega | (have q1 := nmSum_le es (show i + 1 ≤ n by omega); have q2 := nmSum_succ es i; omega)), (m1.nt m2)⟩ (by first | (dsimp only; omega) | omega)
  · have hp1 := of_decide_eq_false hb1
    refine CE.cond_f rfl hb1 ?_
    refine CE.exit' ?_
    refine XE.exit_then ?_
    refine XE.exit_then ?_
    refine XE.exit_here ?_
    refine NE.code ?_
    refine CE.seq ?_
    refine CE.region ?_
    refine WL.det (op_move rfl) rfl rfl rfl ?_
    refine WL.det (op_assign rfl) rfl rfl rfl ?_
    refine WL.end ?_
    refine NE.code ?_
    refine CE.ret' ?_
    refine XE.leave1 Tryd.results37 rfl ?_
    refine ⟨?_, ((Mod.refl [] w).nt m1)⟩
    all_goals first | (exfalso; have e : i = n := (by omega); subst e; omega) | (have e : i = n := (by omega); subst e; exact congrArg (Value.int .i64) (by omega))

set_option maxRecDepth 100000 in
set_option maxHeartbeats 2000000 in
theorem c_szInstrumentS_over (n : Nat) (c : Nat) (A : Option Addr) (b : Nat) (o : Nat) (es : List InR) (l : Int) (ln : es.length = n) (hA : 0 < n → A = some ⟨b, o, none⟩) (hS : ∀ i, (es.getD i InR.d).name.size ≤ 9223372036854775807) (h0 : 0 ≤ l) (hm : l ≤ 1048576) (hn : n ≤ 9223372036854775807) (hw : decide (l < ((n : Nat) : Int) + ((nmSum es n : Nat) : Int)) = true) (w : World) (r : Rng w b o (cat InR.cells es)) : Cl Tryd.prog 37 #[.slice A n c, vI l] w fun v w' => v = vI (-1) ∧ Mod [] w w' := by
  have hw2 := of_decide_eq_true hw
  refine Cl.of Tryd.func37 Tryd.ntmps37 rfl rfl (ρ := [(0, .slice A n c), (1, vI l)]) rfl ?_
  refine CE.seq ?_
  refine CE.region ?_
  refine WL.det (op_assign rfl) rfl rfl rfl ?_
  refine WL.end ?_
  refine NE.code ?_
  refine CE.seq ?_
  refine CE.region ?_
  refine WL.det (op_move rfl) rfl rfl rfl ?_
  refine WL.det (op_move rfl) rfl rfl rfl ?_
  refine WL.det (op_len rfl Tryd.runUnderlying33) rfl rfl rfl ?_
  refine WL.det (op_sub (r := (l - ((n : Nat) : Int))) rfl rfl (w_i64 (by omega) (by omega))) rfl rfl rfl ?_
  refine WL.det (op_assign rfl) rfl rfl rfl ?_
  refine WL.end ?_
  refine NE.code ?_
  refine CE.seq ?_
  refine CE.seq ?_
  refine CE.region ?_
  refine WL.det (op_move rfl) rfl rfl rfl ?_
  refine WL.det (op_lti rfl rfl) rfl rfl rfl ?_
  refine WL.end ?_
  refine NE.code ?_
  rcases Bool.eq_false_or_eq_true (decide ((l - ((n : Nat) : Int)) < (0 : Int))) with hb1 | hb1
  · have hp1 := of_decide_eq_true hb1
    refine CE.cond_t rfl hb1 ?_
    refine CE.seq ?_
    refine CE.region ?_
    refine WL.det (op_assign rfl) rfl rfl rfl ?_
    refine WL.end ?_
    refine NE.code ?_
    refine CE.ret' ?_
    refine XE.ret_then ?_
    refine XE.leave1 Tryd.results37 rfl ?_
    refine ⟨rfl, (Mod.refl [] w)⟩
  · have hp1 := of_decide_eq_false hb1
    refine CE.cond_f rfl hb1 ?_
    refine CE.skip' ?_
    refine NE.code ?_
    refine CE.seq ?_
    refine CE.seq ?_
    refine CE.region ?_
    refine WL.det (op_assign rfl) rfl rfl rfl ?_
    refine WL.end ?_
    refine NE.code ?_
    refine CE.block ?_
    refine CE.loop (fun (z : Nat × Int) => [(5, vI ((z.1 : Nat) : Int)), (1, vI z.2), (0, .slice A n c), (4, vI 0)]) (fun (z : Nat × Int) => fun W => (z.1 ≤ n) ∧ (z.2 = l - ((n : Nat) : Int) - ((nmSum es z.1 : Nat) : Int)) ∧ (0 ≤ z.2) ∧ Mod [] w W) (fun (z : Nat × Int) => n - z.1) (0, (l - ((n : Nat) : Int))) (⟨rfl, rfl, rfl, rfl, trivial⟩) ⟨(by omega), (by show _ = _ - _ - ((0 : Nat) : Int); omega), (by omega), Mod.refl _ _⟩ ?_
    rintro ⟨i, lv⟩ w1 ⟨hi, hlv, h1v, m1⟩
    replace hi : i ≤ n := hi
    replace hlv : lv = l - ((n : Nat) : Int) - ((nmSum es i : Nat) : Int) := hlv
    replace h1v : 0 ≤ lv := h1v
    show CE _ _ _ _ [(5, vI ((i : Nat) : Int)), (1, vI lv), (0, .slice A n c), (4, vI 0)] _
    refine CE.seq ?_
    refine CE.seq ?_
    refine CE.region ?_
    refine WL.det (op_move rfl) rfl rfl rfl ?_
    refine WL.det (op_move rfl) rfl rfl rfl ?_
    refine WL.det (op_len rfl Tryd.runUnderlying33) rfl rfl rfl ?_
    refine WL.det (op_lti rfl rfl) rfl rfl rfl ?_
    refine WL.end ?_
    refine NE.code ?_
    rcases Bool.eq_false_or_eq_true (decide (((i : Nat) : Int) < ((n : Nat) : Int))) with hb2 | hb2
    · have hp2 := of_decide_eq_true hb2
      refine CE.cond_t rfl hb2 ?_
      refine CE.skip' ?_
      refine NE.code ?_
      refine CE.seq ?_
      refine CE.block ?_
      refine CE.seq ?_
      refine CE.region ?_
      refine WL.det (op_move rfl) rfl rfl rfl ?_
      refine WL.det (op_move rfl) rfl rfl rfl ?_
      refine WL.det (op_indexSl (off' := o + i * 5) rfl (hA (by omega)) rfl Tryd.runUnderlying33 Tryd.sizeOf24 (by omega) (by omega) (by omega)) rfl rfl rfl ?_
      refine WL.det (op_loadA (i := i * 5) (cs := [.string ((es.getD i InR.d).name), vI ((es.getD i InR.d).kind), vF ((es.getD i InR.d).a), vF ((es.getD i InR.d).b), vF ((es.getD i InR.d).c)]) rfl Tryd.isAgg24 Tryd.sizeOf24 (r.ext m1) rfl (cat_at (f := InR.cells) (m := 5) (i := i) (d := InR.d) (fun _ => rfl) (by have eL : List.length es = n := ln; omega)) rfl) rfl rfl rfl ?_
      refine WL.det (op_move rfl) rfl rfl rfl ?_
      rcases Bool.eq_false_or_eq_true (decide ((lv - ((((es.getD i InR.d).name).size : Nat) : Int)) < (0 : Int))) with hb3 | hb3
      · have hp3 := of_decide_eq_true hb3
        refine WL.call (oc_call (vs := [.agg #[.string ((es.getD i InR.d).name), vI ((es.getD i InR.d).kind), vF ((es.getD i InR.d).a), vF ((es.getD i InR.d).b), vF ((es.getD i InR.d).c)], vI lv]) (cap := []) rfl rfl rfl Tryd.call9 (c_szInstrument_over ((es.getD i InR.d).name) ((es.getD i InR.d).kind) ((es.getD i InR.d).a) ((es.getD i InR.d).b) ((es.getD i InR.d).c) lv (by omega) (by omega) (by first | assumption | exact hS _) (by first | assumption | (refine decide_eq_false ?_; have q1 := nmSum_le es (show i + 1 ≤ n by omega); have q2 := nmSum_succ es i; omega)) w1)) rfl rfl (ltb rfl) ?_
        rintro _ w2 ⟨rfl, m2⟩
        refine WL.det (op_assign rfl) rfl rfl rfl ?_
        refine WL.end ?_
        refine NE.code ?_
        refine CE.seq ?_
        refine CE.region ?_
        refine WL.det (op_move rfl) rfl rfl rfl ?_
        refine WL.det (op_lti rfl rfl) rfl rfl rfl ?_
        refine WL.end ?_
        refine NE.code ?_
        refine CE.cond_t rfl rfl ?_
        refine CE.seq ?_
        refine CE.region ?_
        refine WL.det (op_assign rfl) rfl rfl rfl ?_
        refine WL.end ?_
        refine NE.code ?_
        refine CE.ret' ?_
        refine XE.ret_blk ?_
        refine XE.ret_then ?_
        refine XE.ret_then ?_
        refine XE.ret_blk ?_
        refine XE.ret_then ?_
        refine XE.leave1 Tryd.results37 rfl ?_
        refine ⟨rfl, (((Mod.refl [] w).nt m1).nt m2)⟩
      · have hp3 := of_decide_eq_false hb3
        refine WL.call (oc_call (vs := [.agg #[.string ((es.getD i InR.d).name), vI ((es.getD i InR.d).kind), vF ((es.getD i InR.d).a), vF ((es.getD i InR.d).b), vF ((es.getD i InR.d).c)], vI lv]) (cap := []) rfl rfl rfl Tryd.call9 (c_szInstrument ((es.getD i InR.d).name) ((es.getD i InR.d).kind) ((es.getD i InR.d).a) ((es.getD i InR.d).b) ((es.getD i InR.d).c) lv (by omega) (by omega) (by first | assumption | exact hS _) (by first | assumption | (refine decide_eq_false ?_; have q1 := nmSum_le es (show i + 1 ≤ n by omega); have q2 := nmSum_succ es i; omega)) w1)) rfl rfl (ltb rfl) ?_
        rintro _ w3 ⟨rfl, m3⟩
        refine WL.det (op_assign rfl) rfl rfl rfl ?_
        refine WL.end ?_
        refine NE.code ?_
        refine CE.seq ?_
        refine CE.region ?_
        refine WL.det (op_move rfl) rfl rfl rfl ?_
        refine WL.det (op_lti rfl rfl) rfl rfl rfl ?_
        refine WL.end ?_
        refine NE.code ?_
        refine CE.cond_f rfl hb3 ?_
        refine CE.skip' ?_
        refine NE.blk ?_
        refine NE.code ?_
        refine CE.region ?_
        refine WL.det (op_move rfl) rfl rfl rfl ?_
        refine WL.det (op_add (r := ((i + 1 : Nat) : Int)) rfl rfl (w_i64 (by omega) (by omega))) rfl rfl rfl ?_
        refine WL.det (op_assign rfl) rfl rfl rfl ?_
        refine WL.end ?_
        exact NE.again ((i + 1), (lv - ((((es.getD i InR.d).name).size : Nat) : Int))) (⟨rfl, rfl, rfl, rfl, trivial⟩) ⟨(by omega), (by rw [nmSum_succ]; omega), (by first | omega | (have q1 := nmSum_le es (show i + 1 ≤ n by omega); have q2 := nmSum_succ es i; omega)), (m1.nt m3)⟩ (by first | (dsimp only; omega) | omega)
    · have hp2 := of_decide_eq_false hb2
      refine CE.cond_f rfl hb2 ?_
      refine CE.exit' ?_
      refine XE.exit_then ?_
      refine XE.exit_then ?_
      refine XE.exit_here ?_
      refine NE.code ?_
      refine CE.seq ?_
      refine CE.region ?_
      refine WL.det (op_move rfl) rfl rfl rfl ?_
      refine WL.det (op_assign rfl) rfl rfl rfl ?_
      refine WL.end ?_
      refine NE.code ?_
      refine CE.ret' ?_
      refine XE.leave1 Tryd.results37 rfl ?_
      refine ⟨?_, ((Mod.refl [] w).nt m1)⟩
      all_goals first | (exfalso; have e : i = n := (by omega); subst e; omega) | (have e : i = n := (by omega); subst e; exact congrArg (Value.int .i64) (by omega))

set_option maxRecDepth 100000 in
set_option maxHeartbeats 2000000 in
theorem c_szEventS (n : Nat) (c : Nat) (A : Option Addr) (l : Int) (h0 : 0 ≤ l) (hm : l ≤ 1048576) (hn : n ≤ 9223372036854775807) (hw : decide ((l - ((n : Nat) : Int)) < (0 : Int)) = false) (w : World) : Cl Tryd.prog 38 #[.slice A n c, vI l] w fun v w' => v = vI (l - ((n : Nat) : Int)) ∧ Mod [] w w' := by
  refine Cl.of Tryd.func38 Tryd.ntmps38 rfl rfl (ρ := [(0, .slice A n c), (1, vI l)]) rfl ?_
  refine CE.seq ?_
  refine CE.region ?_
  refine WL.det (op_assign rfl) rfl rfl rfl ?_
  refine WL.end ?_
  refine NE.code ?_
  refine CE.seq ?_
  refine CE.region ?_
  refine WL.det (op_move rfl) rfl rfl rfl ?_
  refine WL.det (op_move rfl) rfl rfl rfl ?_
  refine WL.det (op_len rfl Tryd.runUnderlying34) rfl rfl rfl ?_
  refine WL.det (op_sub (r := (l - ((n : Nat) : Int))) rfl rfl (w_i64 (by omega) (by omega))) rfl rfl rfl ?_
  refine WL.det (op_assign rfl) rfl rfl rfl ?_
  refine WL.end ?_
  refine NE.code ?_
  refine CE.seq ?_
  refine CE.seq ?_
  refine CE.region ?_
  refine WL.det (op_move rfl) rfl rfl rfl ?_
  refine WL.det (op_lti rfl rfl) rfl rfl rfl ?_
  refine WL.end ?_
  refine NE.code ?_
  refine CE.cond_f rfl hw ?_
  refine CE.skip' ?_
  refine NE.code ?_
  refine CE.seq ?_
  refine CE.region ?_
  refine WL.det (op_move rfl) rfl rfl rfl ?_
  refine WL.det (op_assign rfl) rfl rfl rfl ?_
  refine WL.end ?_
  refine NE.code ?_
  refine CE.ret' ?_
  refine XE.leave1 Tryd.results38 rfl ?_
  refine ⟨rfl, (Mod.refl [] w)⟩

set_option maxRecDepth 100000 in
set_option maxHeartbeats 2000000 in
theorem c_szEventS_over (n : Nat) (c : Nat) (A : Option Addr) (l : Int) (h0 : 0 ≤ l) (hm : l ≤ 1048576) (hn : n ≤ 9223372036854775807) (hw : decide ((l - ((n : Nat) : Int)) < (0 : Int)) = true) (w : World) : Cl Tryd.prog 38 #[.slice A n c, vI l] w fun v w' => v = vI (-1) ∧ Mod [] w w' := by
  refine Cl.of Tryd.func38 Tryd.ntmps38 rfl rfl (ρ := [(0, .slice A n c), (1, vI l)]) rfl ?_
  refine CE.seq ?_
  refine CE.region ?_
  refine WL.det (op_assign rfl) rfl rfl rfl ?_
  refine WL.end ?_
  refine NE.code ?_
  refine CE.seq ?_
  refine CE.region ?_
  refine WL.det (op_move rfl) rfl rfl rfl ?_
  refine WL.det (op_move rfl) rfl rfl rfl ?_
  refine WL.det (op_len rfl Tryd.runUnderlying34) rfl rfl rfl ?_
  refine WL.det (op_sub (r := (l - ((n : Nat) : Int))) rfl rfl (w_i64 (by omega) (by omega))) rfl rfl rfl ?_
  refine WL.det (op_assign rfl) rfl rfl rfl ?_
  refine WL.end ?_
  refine NE.code ?_
  refine CE.seq ?_
  refine CE.seq ?_
  refine CE.region ?_
  refine WL.det (op_move rfl) rfl rfl rfl ?_
  refine WL.det (op_lti rfl rfl) rfl rfl rfl ?_
  refine WL.end ?_
  refine NE.code ?_
  refine CE.cond_t rfl hw ?_
  refine CE.seq ?_
  refine CE.region ?_
  refine WL.det (op_assign rfl) rfl rfl rfl ?_
  refine WL.end ?_
  refine NE.code ?_
  refine CE.ret' ?_
  refine XE.ret_then ?_
  refine XE.leave1 Tryd.results38 rfl ?_
  refine ⟨rfl, (Mod.refl [] w)⟩

set_option maxRecDepth 100000 in
set_option maxHeartbeats 2000000 in
theorem c_szScore (ra : Nat) (ba : Nat) (oc : Nat) (nD : Nat) (cD : Nat) (AD : Option Addr) (bD : Nat) (oD : Nat) (esD : List Nat) (nI : Nat) (cI : Nat) (AI : Option Addr) (bI : Nat) (oI : Nat) (esI : List InR) (nE : Nat) (cE : Nat) (AE : Option Addr) (bE : Nat) (oE : Nat) (esE : List EvR) (l : Nat) (lnD : esD.length = nD) (hAD : 0 < nD → AD = some ⟨bD, oD, none⟩) (lnI : esI.length = nI) (hAI : 0 < nI → AI = some ⟨bI, oI, none⟩) (lnE : esE.length = nE) (hAE : 0 < nE → AE = some ⟨bE, oE, none⟩) (hnD : nD ≤ 9223372036854775807) (hnI : nI ≤ 9223372036854775807) (hnE : nE ≤ 9223372036854775807) (hS : ∀ i, (esI.getD i InR.d).name.size ≤ 9223372036854775807) (hm : l ≤ 1048576) (hl : (nD + nI + nmSum esI nI + nE) ≤ l) (w : World) (rD : Rng w bD oD (fl esD)) (rI : Rng w bI oI (cat InR.cells esI)) (rE : Rng w bE oE (cat EvR.cells esE)) : Cl Tryd.prog 13 #[.agg #[vF ra, vF ba, vF oc, .slice AD nD cD, .slice AI nI cI, .slice AE nE cE], vI ((l : Nat) : Int)] w fun v w' => v = vI ((l - (nD + nI + nmSum esI nI + nE) : Nat) : Int) ∧ Mod [] w w' := by
  refine Cl.of Tryd.func13 Tryd.ntmps13 rfl rfl (ρ := [(0, .agg #[vF ra, vF ba, vF oc, .slice AD nD cD, .slice AI nI cI, .slice AE nE cE]), (1, vI ((l : Nat) : Int))]) rfl ?_
  refine CE.seq ?_
  refine CE.region ?_
  refine WL.op (op_box (cs := [vF ra, vF ba, vF oc, .slice AD nD cD, .slice AI nI cI, .slice AE nE cE]) rfl rfl) rfl rfl (ltb rfl) ?_
  rintro _ w1 ⟨rfl, r1, m1, z1⟩
  refine WL.det (op_assign rfl) rfl rfl rfl ?_
  refine WL.end ?_
  refine NE.code ?_
  refine CE.seq ?_
  refine CE.region ?_
  refine WL.det (op_fieldAddr (off' := 1) rfl Tryd.runUnderlying36 rfl rfl Tryd.sizeOf32 rfl) rfl rfl rfl ?_
  refine WL.det (op_loadA (i := 1) (cs := [vF ba, vF oc, .slice AD nD cD]) rfl Tryd.isAgg32 Tryd.sizeOf32 r1.rng rfl rfl rfl) rfl rfl rfl ?_
  refine WL.det (op_move rfl) rfl rfl rfl ?_
  refine WL.call (oc_call (vs := [.agg #[vF ba, vF oc, .slice AD nD cD], vI ((l : Nat) : Int)]) (cap := []) rfl rfl rfl Tryd.call36 (c_szTuning l ba oc nD cD AD (by omega) (by omega) w1)) rfl rfl (ltb rfl) ?_
  rintro _ w2 ⟨rfl, m2⟩
  refine WL.det (op_assign rfl) rfl rfl rfl ?_
  refine WL.end ?_
  refine NE.code ?_
  refine CE.seq ?_
  refine CE.seq ?_
  refine CE.region ?_
  refine WL.det (op_move rfl) rfl rfl rfl ?_
  refine WL.det (op_lti_f rfl rfl (by omega)) rfl rfl rfl ?_
  refine WL.end ?_
  refine NE.code ?_
  refine CE.cond_f rfl rfl ?_
  refine CE.skip' ?_
  refine NE.code ?_
  refine CE.seq ?_
  refine CE.region ?_
  refine WL.det (op_fieldAddr (off' := 4) rfl Tryd.runUnderlying36 rfl rfl Tryd.sizeOf33 rfl) rfl rfl rfl ?_
  refine WL.det (op_load1 (i := 4) rfl Tryd.isAgg33 (r1.ext m2).rng rfl rfl) rfl rfl rfl ?_
  refine WL.det (op_move rfl) rfl rfl rfl ?_
  refine WL.call (oc_call (vs := [.slice AI nI cI, vI ((l - nD : Nat) : Int)]) (cap := []) rfl rfl rfl Tryd.call37 (c_szInstrumentS nI cI AI bI oI esI ((l - nD : Nat) : Int) lnI hAI (by first | assumption | exact hS) (by omega) (by omega) (by omega) (by first | assumption | exact decide_eq_false (by omega) | exact decide_eq_true (by omega)) w2 ((rI.ext m1).ext m2))) rfl rfl (ltb rfl) ?_
  rintro _ w3 ⟨rfl, m3⟩
  refine WL.det (op_assign rfl) rfl rfl rfl ?_
  refine WL.end ?_
  refine NE.code ?_
  refine CE.seq ?_
  refine CE.seq ?_
  refine CE.region ?_
  refine WL.det (op_move rfl) rfl rfl rfl ?_
  refine WL.det (op_lti rfl rfl) rfl rfl rfl ?_
  refine WL.end ?_
  refine NE.code ?_
  refine CE.cond_f rfl (decide_eq_false (by omega)) ?_
  refine CE.skip' ?_
  refine NE.code ?_
  refine CE.seq ?_
  refine CE.region ?_
  refine WL.det (op_fieldAddr (off' := 5) rfl Tryd.runUnderlying36 rfl rfl Tryd.sizeOf34 rfl) rfl rfl rfl ?_
  refine WL.det (op_load1 (i := 5) rfl Tryd.isAgg34 ((r1.ext m2).ext m3).rng rfl rfl) rfl rfl rfl ?_
  refine WL.det (op_move rfl) rfl rfl rfl ?_
  refine WL.call (oc_call (vs := [.slice AE nE cE, vI (((l - nD : Nat) : Int) - ((nI : Nat) : Int) - ((nmSum esI nI : Nat) : Int))]) (cap := []) rfl rfl rfl Tryd.call38 (c_szEventS nE cE AE (((l - nD : Nat) : Int) - ((nI : Nat) : Int) - ((nmSum esI nI : Nat) : Int)) (by omega) (by omega) (by omega) (by first | assumption | exact decide_eq_false (by omega) | exact decide_eq_true (by omega)) w3)) rfl rfl (ltb rfl) ?_
  rintro _ w4 ⟨rfl, m4⟩
  refine WL.det (op_assign rfl) rfl rfl rfl ?_
  refine WL.end ?_
  refine NE.code ?_
  refine CE.seq ?_
  refine CE.seq ?_
  refine CE.region ?_
  refine WL.det (op_move rfl) rfl rfl rfl ?_
  refine WL.det (op_lti rfl rfl) rfl rfl rfl ?_
  refine WL.end ?_
  refine NE.code ?_
  refine CE.cond_f rfl (decide_eq_false (by omega)) ?_
  refine CE.skip' ?_
  refine NE.code ?_
  refine CE.seq ?_
  refine CE.region ?_
  refine WL.det (op_move rfl) rfl rfl rfl ?_
  refine WL.det (op_assign rfl) rfl rfl rfl ?_
  refine WL.end ?_
  refine NE.code ?_
  refine CE.ret' ?_
  refine XE.leave1 Tryd.results13 rfl ?_
  refine ⟨?_, (((((Mod.refl [] w).nt m1).nt m2).nt m3).nt m4)⟩
  all_goals first | exact congrArg (Value.int .i64) (by omega) | (exfalso; omega)

set_option maxRecDepth 100000 in
set_option maxHeartbeats 2000000 in
theorem c_szScore_over (ra : Nat) (ba : Nat) (oc : Nat) (nD : Nat) (cD : Nat) (AD : Option Addr) (bD : Nat) (oD : Nat) (esD : List Nat) (nI : Nat) (cI : Nat) (AI : Option Addr) (bI : Nat) (oI : Nat) (esI : List InR) (nE : Nat) (cE : Nat) (AE : Option Addr) (bE : Nat) (oE : Nat) (esE : List EvR) (l : Nat) (lnD : esD.length = nD) (hAD : 0 < nD → AD = some ⟨bD, oD, none⟩) (lnI : esI.length = nI) (hAI : 0 < nI → AI = some ⟨bI, oI, none⟩) (lnE : esE.length = nE) (hAE : 0 < nE → AE = some ⟨bE, oE, none⟩) (hnD : nD ≤ 9223372036854775807) (hnI : nI ≤ 9223372036854775807) (hnE : nE ≤ 9223372036854775807) (hS : ∀ i, (esI.getD i InR.d).name.size ≤ 9223372036854775807) (hm : l ≤ 1048576) (hl : l < (nD + nI + nmSum esI nI + nE)) (w : World) (rD : Rng w bD oD (fl esD)) (rI : Rng w bI oI (cat InR.cells esI)) (rE : Rng w bE oE (cat EvR.cells esE)) : Cl Tryd.prog 13 #[.agg #[vF ra, vF ba, vF oc, .slice AD nD cD, .slice AI nI cI, .slice AE nE cE], vI ((l : Nat) : Int)] w fun v w' => v = vI (-1) ∧ Mod [] w w' := by
  refine Cl.of Tryd.func13 Tryd.ntmps13 rfl rfl (ρ := [(0, .agg #[vF ra, vF ba, vF oc, .slice AD nD cD, .slice AI nI cI, .slice AE nE cE]), (1, vI ((l : Nat) : Int))]) rfl ?_
  refine CE.seq ?_
  refine CE.region ?_
  refine WL.op (op_box (cs := [vF ra, vF ba, vF oc, .slice AD nD cD, .slice AI nI cI, .slice AE nE cE]) rfl rfl) rfl rfl (ltb rfl) ?_
  rintro _ w1 ⟨rfl, r1, m1, z1⟩
  refine WL.det (op_assign rfl) rfl rfl rfl ?_
  refine WL.end ?_
  refine NE.code ?_
  refine CE.seq ?_
  refine CE.region ?_
  refine WL.det (op_fieldAddr (off' := 1) rfl Tryd.runUnderlying36 rfl rfl Tryd.sizeOf32 rfl) rfl rfl rfl ?_
  refine WL.det (op_loadA (i := 1) (cs := [vF ba, vF oc, .slice AD nD cD]) rfl Tryd.isAgg32 Tryd.sizeOf32 r1.rng rfl rfl rfl) rfl rfl rfl ?_
  refine WL.det (op_move rfl) rfl rfl rfl ?_
  rcases Bool.eq_false_or_eq_true (decide (l < nD)) with hb1 | hb1
  · have hp1 := of_decide_eq_true hb1
    refine WL.call (oc_call (vs := [.agg #[vF ba, vF oc, .slice AD nD cD], vI ((l : Nat) : Int)]) (cap := []) rfl rfl rfl Tryd.call36 (c_szTuning_over l ba oc nD cD AD (by omega) (by omega) (by omega) w1)) rfl rfl (ltb rfl) ?_
    rintro _ w2 ⟨rfl, m2⟩
    refine WL.det (op_assign rfl) rfl rfl rfl ?_
    refine WL.end ?_
    refine NE.code ?_
    refine CE.seq ?_
    refine CE.seq ?_
    refine CE.region ?_
    refine WL.det (op_move rfl) rfl rfl rfl ?_
    refine WL.det (op_lti rfl rfl) rfl rfl rfl ?_
    refine WL.end ?_
    refine NE.code ?_
    refine CE.cond_t rfl rfl ?_
    refine CE.seq ?_
    refine CE.region ?_
    refine WL.det (op_assign rfl) rfl rfl rfl ?_
    refine WL.end ?_
    refine NE.code ?_
    refine CE.ret' ?_
    refine XE.ret_then ?_
    refine XE.leave1 Tryd.results13 rfl ?_
    refine ⟨rfl, (((Mod.refl [] w).nt m1).nt m2)⟩
  · have hp1 := of_decide_eq_false hb1
    refine WL.call (oc_call (vs := [.agg #[vF ba, vF oc, .slice AD nD cD], vI ((l : Nat) : Int)]) (cap := []) rfl rfl rfl Tryd.call36 (c_szTuning l ba oc nD cD AD (by omega) (by omega) w1)) rfl rfl (ltb rfl) ?_
    rintro _ w3 ⟨rfl, m3⟩
    refine WL.det (op_assign rfl) rfl rfl rfl ?_
    refine WL.end ?_
    refine NE.code ?_
    refine CE.seq ?_
    refine CE.seq ?_
    refine CE.region ?_
    refine WL.det (op_move rfl) rfl rfl rfl ?_
    refine WL.det (op_lti_f rfl rfl (by omega)) rfl rfl rfl ?_
    refine WL.end ?_
    refine NE.code ?_
    refine CE.cond_f rfl rfl ?_
    refine CE.skip' ?_
    refine NE.code ?_
    refine CE.seq ?_
    refine CE.region ?_
    refine WL.det (op_fieldAddr (off' := 4) rfl Tryd.runUnderlying36 rfl rfl Tryd.sizeOf33 rfl) rfl rfl rfl ?_
    refine WL.det (op_load1 (i := 4) rfl Tryd.isAgg33 (r1.ext m3).rng rfl rfl) rfl rfl rfl ?_
    refine WL.det (op_move rfl) rfl rfl rfl ?_
    rcases Bool.eq_false_or_eq_true (decide (((l - nD : Nat) : Int) < ((nI : Nat) : Int) + ((nmSum esI nI : Nat) : Int))) with hb2 | hb2
    · have hp2 := of_decide_eq_true hb2
      refine WL.call (oc_call (vs := [.slice AI nI cI, vI ((l - nD : Nat) : Int)]) (cap := []) rfl rfl rfl Tryd.call37 (c_szInstrumentS_over nI cI AI bI oI esI ((l - nD : Nat) : Int) lnI hAI (by first | assumption | exact hS) (by omega) (by omega) (by omega) (by first | assumption | exact decide_eq_false (by omega) | exact decide_eq_true (by omega)) w3 ((rI.ext m1).ext m3))) rfl rfl (ltb rfl) ?_
      rintro _ w4 ⟨rfl, m4⟩
      refine WL.det (op_assign rfl) rfl rfl rfl ?_
      refine WL.end ?_
      refine NE.code ?_
      refine CE.seq ?_
      refine CE.seq ?_
      refine CE.region ?_
      refine WL.det (op_move rfl) rfl rfl rfl ?_
      refine WL.det (op_lti rfl rfl) rfl rfl rfl ?_
      refine WL.end ?_
      refine NE.code ?_
      refine CE.cond_t rfl rfl ?_
      refine CE.seq ?_
      refine CE.region ?_
      refine WL.det (op_assign rfl) rfl rfl rfl ?_
      refine WL.end ?_
      refine NE.code ?_
      refine CE.ret' ?_
      refine XE.ret_then ?_
      refine XE.leave1 Tryd.results13 rfl ?_
      refine ⟨rfl, ((((Mod.refl [] w).nt m1).nt m3).nt m4)⟩
    · have hp2 := of_decide_eq_false hb2
      refine WL.call (oc_call (vs := [.slice AI nI cI, vI ((l - nD : Nat) : Int)]) (cap := []) rfl rfl rfl Tryd.call37 (c_szInstrumentS nI cI AI bI oI esI ((l - nD : Nat) : Int) lnI hAI (by first | assumption | exact hS) (by omega) (by omega) (by omega) (by first | assumption | exact decide_eq_false (by omega) | exact decide_eq_true (by omega)) w3 ((rI.ext m1).ext m3))) rfl rfl (ltb rfl) ?_
      rintro _ w5 ⟨rfl, m5⟩
      refine WL.det (op_assign rfl) rfl rfl rfl ?_
      refine WL.end ?_
      refine NE.code ?_
      refine CE.seq ?_
      refine CE.seq ?_
      refine CE.region ?_
      refine WL.det (op_move rfl) rfl rfl rfl ?_
      refine WL.det (op_lti rfl rfl) rfl rfl rfl ?_
      refine WL.end ?_
      refine NE.code ?_
      rcases Bool.eq_false_or_eq_true (decide ((((l - nD : Nat) : Int) - ((nI : Nat) : Int) - ((nmSum esI nI : Nat) : Int)) < (0 : Int))) with hb3 | hb3
      · have hp3 := of_decide_eq_true hb3
        refine CE.cond_t rfl hb3 ?_
        refine CE.seq ?_
        refine CE.region ?_
        refine WL.det (op_assign rfl) rfl rfl rfl ?_
        refine WL.end ?_
        refine NE.code ?_
        refine CE.ret' ?_
        refine XE.ret_then ?_
        refine XE.leave1 Tryd.results13 rfl ?_
        refine ⟨rfl, ((((Mod.refl [] w).nt m1).nt m3).nt m5)⟩
      · have hp3 := of_decide_eq_false hb3
        refine CE.cond_f rfl hb3 ?_
        refine CE.skip' ?_
        refine NE.code ?_
        refine CE.seq ?_
        refine CE.region ?_
        refine WL.det (op_fieldAddr (off' := 5) rfl Tryd.runUnderlying36 rfl rfl Tryd.sizeOf34 rfl) rfl rfl rfl ?_
        refine WL.det (op_load1 (i := 5) rfl Tryd.isAgg34 ((r1.ext m3).ext m5).rng rfl rfl) rfl rfl rfl ?_
        refine WL.det (op_move rfl) rfl rfl rfl ?_
        rcases Bool.eq_false_or_eq_true (decide (((((l - nD : Nat) : Int) - ((nI : Nat) : Int) - ((nmSum esI nI : Nat) : Int)) - ((nE : Nat) : Int)) < (0 : Int))) with hb4 | hb4
        · have hp4 := of_decide_eq_true hb4
          refine WL.call (oc_call (vs := [.slice AE nE cE, vI (((l - nD : Nat) : Int) - ((nI : Nat) : Int) - ((nmSum esI nI : Nat) : Int))]) (cap := []) rfl rfl rfl Tryd.call38 (c_szEventS_over nE cE AE (((l - nD : Nat) : Int) - ((nI : Nat) : Int) - ((nmSum esI nI : Nat) : Int)) (by omega) (by omega) (by omega) (by first | assumption | exact decide_eq_false (by omega) | exact decide_eq_true (by omega)) w5)) rfl rfl (ltb rfl) ?_
          rintro _ w6 ⟨rfl, m6⟩
          refine WL.det (op_assign rfl) rfl rfl rfl ?_
          refine WL.end ?_
          refine NE.code ?_
          refine CE.seq ?_
          refine CE.seq ?_
          refine CE.region ?_
          refine WL.det (op_move rfl) rfl rfl rfl ?_
          refine WL.det (op_lti rfl rfl) rfl rfl rfl ?_
          refine WL.end ?_
          refine NE.code ?_
          refine CE.cond_t rfl rfl ?_
          refine CE.seq ?_
          refine CE.region ?_
          refine WL.det (op_assign rfl) rfl rfl rfl ?_
          refine WL.end ?_
          refine NE.code ?_
          refine CE.ret' ?_
          refine XE.ret_then ?_
          refine XE.leave1 Tryd.results13 rfl ?_
          refine ⟨rfl, (((((Mod.refl [] w).nt m1).nt m3).nt m5).nt m6)⟩
        · have hp4 := of_decide_eq_false hb4
          refine WL.call (oc_call (vs := [.slice AE nE cE, vI (((l - nD : Nat) : Int) - ((nI : Nat) : Int) - ((nmSum esI nI : Nat) : Int))]) (cap := []) rfl rfl rfl Tryd.call38 (c_szEventS nE cE AE (((l - nD : Nat) : Int) - ((nI : Nat) : Int) - ((nmSum esI nI : Nat) : Int)) (by omega) (by omega) (by omega) (by first | assumption | exact decide_eq_false (by omega) | exact decide_eq_true (by omega)) w5)) rfl rfl (ltb rfl) ?_
          rintro _ w7 ⟨rfl, m7⟩
          refine WL.det (op_assign rfl) rfl rfl rfl ?_
          refine WL.end ?_
          refine NE.code ?_
          refine CE.seq ?_
          refine CE.seq ?_
          refine CE.region ?_
          refine WL.det (op_move rfl) rfl rfl rfl ?_
          refine WL.det (op_lti rfl rfl) rfl rfl rfl ?_
          refine WL.end ?_
          refine NE.code ?_
          refine CE.cond_f rfl hb4 ?_
          refine CE.skip' ?_
          refine NE.code ?_
          refine CE.seq ?_
          refine CE.region ?_
          refine WL.det (op_move rfl) rfl rfl rfl ?_
          refine WL.det (op_assign rfl) rfl rfl rfl ?_
          refine WL.end ?_
          refine NE.code ?_
          refine CE.ret' ?_
          refine XE.leave1 Tryd.results13 rfl ?_
          refine ⟨?_, (((((Mod.refl [] w).nt m1).nt m3).nt m5).nt m7)⟩
          all_goals (exfalso; omega)

set_option maxRecDepth 100000 in
set_option maxHeartbeats 2000000 in
theorem c_toInstrumentS (n : Nat) (c : Nat) (A : Option Addr) (b : Nat) (o : Nat) (es : List InR) (ln : es.length = n) (hA : 0 < n → A = some ⟨b, o, none⟩) (hnn : n ≤ 1048576) (w : World) (r : Rng w b o (cat InR.cells es)) : Cl Tryd.prog 41 #[.slice A n c] w fun v w' => ∃ (b' : Nat), v = vS b' 0 n n ∧ Row w' b' 0 (cat InR.cells es) ∧ w.heap.size ≤ b' ∧ Mod [] w w' := by
  refine Cl.of Tryd.func41 Tryd.ntmps41 rfl rfl (ρ := [(0, .slice A n c)]) rfl ?_
  refine CE.seq ?_
  refine CE.region ?_
  refine WL.det (op_assign rfl) rfl rfl rfl ?_
  refine WL.end ?_
  refine NE.code ?_
  refine CE.seq ?_
  refine CE.region ?_
  refine WL.det (op_move rfl) rfl rfl rfl ?_
  refine WL.det (op_len rfl Tryd.runUnderlying33) rfl rfl rfl ?_
  refine WL.op (op_makeR (f := InR.cells) (d := InR.d) (i := Tryd.t27) (m := n) (sz := 5) (bt := 40) rfl rfl rfl rfl Tryd.underlying40 rfl rfl rfl rfl (by decide) rfl rfl (by decide) (by omega)) rfl rfl (ltb rfl) ?_
  rintro _ w1 ⟨rfl, r1, m1, z1⟩
  refine WL.det (op_assign rfl) rfl rfl rfl ?_
  refine WL.end ?_
  refine NE.code ?_
  refine CE.seq ?_
  refine CE.seq ?_
  refine CE.region ?_
  refine WL.det (op_assign rfl) rfl rfl rfl ?_
  refine WL.end ?_
  refine NE.code ?_
  refine CE.block ?_
  refine CE.loop (fun (i : Nat) => [(4, vI ((i : Nat) : Int)), (0, .slice A n c), (2, .slice none 0 0), (3, vS w.heap.size 0 n n)]) (fun (i : Nat) => fun W => (i ≤ n) ∧ Row W w.heap.size 0 (cat InR.cells (fillR InR.d es i)) ∧ Mod [w.heap.size] w1 W) (fun (i : Nat) => n - i) 0 (⟨rfl, rfl, rfl, rfl, trivial⟩) ⟨(by omega), (Row.congr r1 (fillR_zero ln)), Mod.refl _ _⟩ ?_
  rintro i w2 ⟨hi, r2, m2⟩
  show CE _ _ _ _ [(4, vI ((i : Nat) : Int)), (0, .slice A n c), (2, .slice none 0 0), (3, vS w.heap.size 0 n n)] _
  refine CE.seq ?_
  refine CE.seq ?_
  refine CE.region ?_
  refine WL.det (op_move rfl) rfl rfl rfl ?_
  refine WL.det (op_move rfl) rfl rfl rfl ?_
  refine WL.det (op_len rfl Tryd.runUnderlying33) rfl rfl rfl ?_
  refine WL.det (op_lti rfl rfl) rfl rfl rfl ?_
  refine WL.end ?_
  refine NE.code ?_
  rcases Bool.eq_false_or_eq_true (decide (((i : Nat) : Int) < ((n : Nat) : Int))) with hb1 | hb1
  · have hp1 := of_decide_eq_true hb1
    refine CE.cond_t rfl hb1 ?_
    refine CE.skip' ?_
    refine NE.code ?_
    refine CE.seq ?_
    refine CE.block ?_
    refine CE.region ?_
    refine WL.det (op_move rfl) rfl rfl rfl ?_
    refine WL.det (op_move rfl) rfl rfl rfl ?_
    refine WL.det (op_move rfl) rfl rfl rfl ?_
    refine WL.det (op_move rfl) rfl rfl rfl ?_
    refine WL.det (op_indexSl (off' := o + i * 5) rfl (hA (by omega)) rfl Tryd.runUnderlying33 Tryd.sizeOf24 (by omega) (by omega) (by omega)) rfl rfl rfl ?_
    refine WL.det (op_loadA (i := i * 5) (cs := [.string ((es.getD i InR.d).name), vI ((es.getD i InR.d).kind), vF ((es.getD i InR.d).a), vF ((es.getD i InR.d).b), vF ((es.getD i InR.d).c)]) rfl Tryd.isAgg24 Tryd.sizeOf24 (Rng.youngS r (r.ext m1) m2 (allge_cons lR allge_nil)) rfl (cat_at (f := InR.cells) (m := 5) (i := i) (d := InR.d) (fun _ => rfl) (by have eL : List.length es = n := ln; omega)) rfl) rfl rfl rfl ?_
    refine WL.call (oc_call (vs := [.agg #[.string ((es.getD i InR.d).name), vI ((es.getD i InR.d).kind), vF ((es.getD i InR.d).a), vF ((es.getD i InR.d).b), vF ((es.getD i InR.d).c)]]) (cap := []) rfl rfl rfl Tryd.call11 (c_toInstrument ((es.getD i InR.d).name) ((es.getD i InR.d).kind) ((es.getD i InR.d).a) ((es.getD i InR.d).b) ((es.getD i InR.d).c) w2)) rfl rfl (ltb rfl) ?_
    rintro _ w3 ⟨rfl, m3⟩
    refine WL.det (op_indexSl (off' := 0 + i * 5) rfl rfl rfl Tryd.runUnderlying40 Tryd.sizeOf27 (by omega) (by omega) (by omega)) rfl rfl rfl ?_
    refine WL.op0 (op_store (i := i * 5) (cs := [.string ((es.getD i InR.d).name), vI ((es.getD i InR.d).kind), vF ((es.getD i InR.d).a), vF ((es.getD i InR.d).b), vF ((es.getD i InR.d).c)]) rfl rfl rfl Tryd.sizeOf27 rfl (r2.ext m3) rfl (cat_fit (fun _ => rfl) (fillR_len ln (by omega)) (by omega)) rfl) rfl rfl ?_
    rintro _ w4 ⟨r3, m4, z2⟩
    have r4 : Row w4 w.heap.size 0 (cat InR.cells ((fillR InR.d es i).set i (es.getD i InR.d))) := Row.congr r3 (cat_set (f := InR.cells) (fun _ => rfl) (fillR_len ln (by omega)) (by omega) (es.getD i InR.d))
    refine WL.end ?_
    refine NE.blk ?_
    refine NE.code ?_
    refine CE.region ?_
    refine WL.det (op_move rfl) rfl rfl rfl ?_
    refine WL.det (op_add (r := ((i + 1 : Nat) : Int)) rfl rfl (w_i64 (by omega) (by omega))) rfl rfl rfl ?_
    refine WL.det (op_assign rfl) rfl rfl rfl ?_
    refine WL.end ?_
    exact NE.again (i + 1) (⟨rfl, rfl, rfl, rfl, trivial⟩) ⟨(by omega), (Row.congr r4 (fillR_set ln (by omega))), ((m2.nt m3).then m4 ((aC (.inl (by simp)) aN)))⟩ (by first | (dsimp only; omega) | omega)
  · have hp1 := of_decide_eq_false hb1
    refine CE.cond_f rfl hb1 ?_
    refine CE.exit' ?_
    refine XE.exit_then ?_
    refine XE.exit_then ?_
    refine XE.exit_here ?_
    refine NE.code ?_
    refine CE.seq ?_
    refine CE.region ?_
    refine WL.det (op_move rfl) rfl rfl rfl ?_
    refine WL.det (op_assign rfl) rfl rfl rfl ?_
    refine WL.end ?_
    refine NE.code ?_
    refine CE.ret' ?_
    refine XE.leave1 Tryd.results41 rfl ?_
    refine ⟨w.heap.size, rfl, (Row.congr r2 ?_), lR, (((Mod.refl [] w).nt m1).then m2 ((aC (.inr lR) aN)))⟩
    exact fillR_done ln (by omega)

set_option maxRecDepth 100000 in
set_option maxHeartbeats 2000000 in
theorem c_eqInstrumentS_same (n : Nat) (c : Nat) (A : Option Addr) (b : Nat) (o : Nat) (es : List InR) (c' : Nat) (A' : Option Addr) (b' : Nat) (o' : Nat) (ln : es.length = n) (hA : 0 < n → A = some ⟨b, o, none⟩) (hA' : 0 < n → A' = some ⟨b', o', none⟩) (hn : n ≤ 9223372036854775807) (w : World) (r : Rng w b o (cat InR.cells es)) (r' : Rng w b' o' (cat InR.cells es)) : Cl Tryd.prog 54 #[.slice A n c, .slice A' n c'] w fun v w' => v = .bool true ∧ Mod [] w w' := by
  refine Cl.of Tryd.func54 Tryd.ntmps54 rfl rfl (ρ := [(0, .slice A n c), (1, .slice A' n c')]) rfl ?_
  refine CE.seq ?_
  refine CE.region ?_
  refine WL.det (op_assign rfl) rfl rfl rfl ?_
  refine WL.end ?_
  refine NE.code ?_
  refine CE.seq ?_
  refine CE.seq ?_
  refine CE.region ?_
  refine WL.det (op_move rfl) rfl rfl rfl ?_
  refine WL.det (op_len rfl Tryd.runUnderlying40) rfl rfl rfl ?_
  refine WL.det (op_move rfl) rfl rfl rfl ?_
  refine WL.det (op_len rfl Tryd.runUnderlying40) rfl rfl rfl ?_
  refine WL.det (op_nei_f rfl rfl rfl) rfl rfl rfl ?_
  refine WL.end ?_
  refine NE.code ?_
  refine CE.cond_f rfl rfl ?_
  refine CE.skip' ?_
  refine NE.code ?_
  refine CE.seq ?_
  refine CE.seq ?_
  refine CE.region ?_
  refine WL.det (op_assign rfl) rfl rfl rfl ?_
  refine WL.end ?_
  refine NE.code ?_
  refine CE.block ?_
  refine CE.loop (fun (i : Nat) => [(5, vI ((i : Nat) : Int)), (0, .slice A n c), (1, .slice A' n c'), (4, .bool false)]) (fun (i : Nat) => fun W => (i ≤ n) ∧ Mod [] w W) (fun (i : Nat) => n - i) 0 (⟨rfl, rfl, rfl, rfl, trivial⟩) ⟨(by omega), Mod.refl _ _⟩ ?_
  rintro i w1 ⟨hi, m1⟩
  show CE _ _ _ _ [(5, vI ((i : Nat) : Int)), (0, .slice A n c), (1, .slice A' n c'), (4, .bool false)] _
  refine CE.seq ?_
  refine CE.seq ?_
  refine CE.region ?_
  refine WL.det (op_move rfl) rfl rfl rfl ?_
  refine WL.det (op_move rfl) rfl rfl rfl ?_
  refine WL.det (op_len rfl Tryd.runUnderlying40) rfl rfl rfl ?_
  refine WL.det (op_lti rfl rfl) rfl rfl rfl ?_
  refine WL.end ?_
  refine NE.code ?_
  rcases Bool.eq_false_or_eq_true (decide (((i : Nat) : Int) < ((n : Nat) : Int))) with hb1 | hb1
  · have hp1 := of_decide_eq_true hb1
    refine CE.cond_t rfl hb1 ?_
    refine CE.skip' ?_
    refine NE.code ?_
    refine CE.seq ?_
    refine CE.block ?_
    refine CE.seq ?_
    refine CE.draw (fun _ => none) [0, 1, 2, 3, 4, 5, 6, 7] [8, 9] [] (by kernel_rfl) (by kernel_rfl) ?_
    have md1 : Mod [] w1 w1.drew := (Mod.refl _ _).drew
    generalize w1.drew = w2 at md1 ⊢
    refine DR.det (i := 0) rfl rfl (by kernel_rfl) (.free rfl) rfl rfl (fun wD mD => op_move rfl) ?_
    refine DR.det (i := 1) rfl rfl (by kernel_rfl) (.free rfl) rfl rfl (fun wD mD => op_move rfl) ?_
    refine DR.det (i := 2) rfl rfl (by kernel_rfl) (.free rfl) rfl rfl (fun wD mD => op_indexSl (off' := o + i * 5) rfl (hA (by omega)) rfl Tryd.runUnderlying40 Tryd.sizeOf27 (by omega) (by omega) (by omega)) ?_
    refine DR.det (i := 3) rfl rfl (by kernel_rfl) (.free rfl) rfl rfl (fun wD mD => op_loadA (i := i * 5) (cs := [.string ((es.getD i InR.d).name), vI ((es.getD i InR.d).kind), vF ((es.getD i InR.d).a), vF ((es.getD i InR.d).b), vF ((es.getD i InR.d).c)]) rfl Tryd.isAgg27 Tryd.sizeOf27 (((r.ext m1).ext md1).ext mD) rfl (cat_at (f := InR.cells) (m := 5) (i := i) (d := InR.d) (fun _ => rfl) (by have eL : List.length es = n := ln; omega)) rfl) ?_
    refine DR.det (i := 4) rfl rfl (by kernel_rfl) (.free rfl) rfl rfl (fun wD mD => op_move rfl) ?_
    refine DR.det (i := 5) rfl rfl (by kernel_rfl) (.free rfl) rfl rfl (fun wD mD => op_move rfl) ?_
    refine DR.det (i := 6) rfl rfl (by kernel_rfl) (.free rfl) rfl rfl (fun wD mD => op_indexSl (off' := o' + i * 5) rfl (hA' (by omega)) rfl Tryd.runUnderlying40 Tryd.sizeOf27 (by omega) (by omega) (by omega)) ?_
    refine DR.det (i := 7) rfl rfl (by kernel_rfl) (.free rfl) rfl rfl (fun wD mD => op_loadA (i := i * 5) (cs := [.string ((es.getD i InR.d).name), vI ((es.getD i InR.d).kind), vF ((es.getD i InR.d).a), vF ((es.getD i InR.d).b), vF ((es.getD i InR.d).c)]) rfl Tryd.isAgg27 Tryd.sizeOf27 (((r'.ext m1).ext md1).ext mD) rfl (cat_at (f := InR.cells) (m := 5) (i := i) (d := InR.d) (fun _ => rfl) (by have eL : List.length es = n := ln; omega)) rfl) ?_
    refine DR.done rfl ?_
    intro w3 m2
    refine WO.call rfl (.free rfl) rfl (ltb rfl) (oc_call (vs := [.agg #[.string ((es.getD i InR.d).name), vI ((es.getD i InR.d).kind), vF ((es.getD i InR.d).a), vF ((es.getD i InR.d).b), vF ((es.getD i InR.d).c)], .agg #[.string ((es.getD i InR.d).name), vI ((es.getD i InR.d).kind), vF ((es.getD i InR.d).a), vF ((es.getD i InR.d).b), vF ((es.getD i InR.d).c)]]) (cap := []) rfl rfl rfl Tryd.call77 (c_eqInstrument ((es.getD i InR.d).name) ((es.getD i InR.d).kind) ((es.getD i InR.d).a) ((es.getD i InR.d).a) ((es.getD i InR.d).b) ((es.getD i InR.d).b) ((es.getD i InR.d).c) ((es.getD i InR.d).c) ((es.getD i InR.d).a) ((es.getD i InR.d).b) ((es.getD i InR.d).c) rfl rfl rfl rfl rfl rfl w3)) ?_
    rintro _ w4 ⟨rfl, m3⟩
    refine WO.det (op_not rfl) rfl (.free rfl) rfl rfl ?_
    refine WO.end ?_
    refine NE.code ?_
    refine CE.cond_f rfl rfl ?_
    refine CE.skip' ?_
    refine NE.blk ?_
    refine NE.code ?_
    refine CE.region ?_
    refine WL.det (op_move rfl) rfl rfl rfl ?_
    refine WL.det (op_add (r := ((i + 1 : Nat) : Int)) rfl rfl (w_i64 (by omega) (by omega))) rfl rfl rfl ?_
    refine WL.det (op_assign rfl) rfl rfl rfl ?_
    refine WL.end ?_
    exact NE.again (i + 1) (⟨rfl, rfl, rfl, rfl, trivial⟩) ⟨(by omega), (((m1.nt md1).nt m2).nt m3)⟩ (by first | (dsimp only; omega) | omega)
  · have hp1 := of_decide_eq_false hb1
    refine CE.cond_f rfl hb1 ?_
    refine CE.exit' ?_
    refine XE.exit_then ?_
    refine XE.exit_then ?_
    refine XE.exit_here ?_
    refine NE.code ?_
    refine CE.seq ?_
    refine CE.region ?_
    refine WL.det (op_assign rfl) rfl rfl rfl ?_
    refine WL.end ?_
    refine NE.code ?_
    refine CE.ret' ?_
    refine XE.leave1 Tryd.results54 rfl ?_
    refine ⟨rfl, ((Mod.refl [] w).nt m1)⟩

set_option maxRecDepth 100000 in
set_option maxHeartbeats 2000000 in
theorem c_toEventS (n : Nat) (c : Nat) (A : Option Addr) (b : Nat) (o : Nat) (es : List EvR) (ln : es.length = n) (hA : 0 < n → A = some ⟨b, o, none⟩) (hnn : n ≤ 1048576) (w : World) (r : Rng w b o (cat EvR.cells es)) : Cl Tryd.prog 42 #[.slice A n c] w fun v w' => ∃ (b' : Nat), v = vS b' 0 n n ∧ Row w' b' 0 (cat EvR.cells es) ∧ w.heap.size ≤ b' ∧ Mod [] w w' := by
  refine Cl.of Tryd.func42 Tryd.ntmps42 rfl rfl (ρ := [(0, .slice A n c)]) rfl ?_
  refine CE.seq ?_
  refine CE.region ?_
  refine WL.det (op_assign rfl) rfl rfl rfl ?_
  refine WL.end ?_
  refine NE.code ?_
  refine CE.seq ?_
  refine CE.region ?_
  refine WL.det (op_move rfl) rfl rfl rfl ?_
  refine WL.det (op_len rfl Tryd.runUnderlying34) rfl rfl rfl ?_
  refine WL.op (op_makeR (f := EvR.cells) (d := EvR.d) (i := Tryd.t72) (m := n) (sz := 6) (bt := 48) rfl rfl rfl rfl Tryd.underlying41 rfl rfl rfl rfl (by decide) rfl rfl (by decide) (by omega)) rfl rfl (ltb rfl) ?_
  rintro _ w1 ⟨rfl, r1, m1, z1⟩
  refine WL.det (op_assign rfl) rfl rfl rfl ?_
  refine WL.end ?_
  refine NE.code ?_
  refine CE.seq ?_
  refine CE.seq ?_
  refine CE.region ?_
  refine WL.det (op_assign rfl) rfl rfl rfl ?_
  refine WL.end ?_
  refine NE.code ?_
  refine CE.block ?_
  refine CE.loop (fun (i : Nat) => [(4, vI ((i : Nat) : Int)), (0, .slice A n c), (2, .slice none 0 0), (3, vS w.heap.size 0 n n)]) (fun (i : Nat) => fun W => (i ≤ n) ∧ Row W w.heap.size 0 (cat EvR.cells (fillR EvR.d es i)) ∧ Mod [w.heap.size] w1 W) (fun (i : Nat) => n - i) 0 (⟨rfl, rfl, rfl, rfl, trivial⟩) ⟨(by omega), (Row.congr r1 (fillR_zero ln)), Mod.refl _ _⟩ ?_
  rintro i w2 ⟨hi, r2, m2⟩
  show CE _ _ _ _ [(4, vI ((i : Nat) : Int)), (0, .slice A n c), (2, .slice none 0 0), (3, vS w.heap.size 0 n n)] _
  refine CE.seq ?_
  refine CE.seq ?_
  refine CE.region ?_
  refine WL.det (op_move rfl) rfl rfl rfl ?_
  refine WL.det (op_move rfl) rfl rfl rfl ?_
  refine WL.det (op_len rfl Tryd.runUnderlying34) rfl rfl rfl ?_
  refine WL.det (op_lti rfl rfl) rfl rfl rfl ?_
  refine WL.end ?_
  refine NE.code ?_
  rcases Bool.eq_false_or_eq_true (decide (((i : Nat) : Int) < ((n : Nat) : Int))) with hb1 | hb1
  · have hp1 := of_decide_eq_true hb1
    refine CE.cond_t rfl hb1 ?_
    refine CE.skip' ?_
    refine NE.code ?_
    refine CE.seq ?_
    refine CE.block ?_
    refine CE.region ?_
    refine WL.det (op_move rfl) rfl rfl rfl ?_
    refine WL.det (op_move rfl) rfl rfl rfl ?_
    refine WL.det (op_move rfl) rfl rfl rfl ?_
    refine WL.det (op_move rfl) rfl rfl rfl ?_
    refine WL.det (op_indexSl (off' := o + i * 6) rfl (hA (by omega)) rfl Tryd.runUnderlying34 Tryd.sizeOf96 (by omega) (by omega) (by omega)) rfl rfl rfl ?_
    refine WL.det (op_loadA (i := i * 6) (cs := [vI ((es.getD i EvR.d).at_), vI ((es.getD i EvR.d).kind), vI ((es.getD i EvR.d).note), vI ((es.getD i EvR.d).ins), vI ((es.getD i EvR.d).key), vF ((es.getD i EvR.d).force)]) rfl Tryd.isAgg96 Tryd.sizeOf96 (Rng.youngS r (r.ext m1) m2 (allge_cons lR allge_nil)) rfl (cat_at (f := EvR.cells) (m := 6) (i := i) (d := EvR.d) (fun _ => rfl) (by have eL : List.length es = n := ln; omega)) rfl) rfl rfl rfl ?_
    refine WL.call (oc_call (vs := [.agg #[vI ((es.getD i EvR.d).at_), vI ((es.getD i EvR.d).kind), vI ((es.getD i EvR.d).note), vI ((es.getD i EvR.d).ins), vI ((es.getD i EvR.d).key), vF ((es.getD i EvR.d).force)]]) (cap := []) rfl rfl rfl Tryd.call67 (c_toEvent ((es.getD i EvR.d).at_) ((es.getD i EvR.d).kind) ((es.getD i EvR.d).note) ((es.getD i EvR.d).ins) ((es.getD i EvR.d).key) ((es.getD i EvR.d).force) w2)) rfl rfl (ltb rfl) ?_
    rintro _ w3 ⟨rfl, m3⟩
    refine WL.det (op_indexSl (off' := 0 + i * 6) rfl rfl rfl Tryd.runUnderlying41 Tryd.sizeOf72 (by omega) (by omega) (by omega)) rfl rfl rfl ?_
    refine WL.op0 (op_store (i := i * 6) (cs := [vI ((es.getD i EvR.d).at_), vI ((es.getD i EvR.d).kind), vI ((es.getD i EvR.d).note), vI ((es.getD i EvR.d).ins), vI ((es.getD i EvR.d).key), vF ((es.getD i EvR.d).force)]) rfl rfl rfl Tryd.sizeOf72 rfl (r2.ext m3) rfl (cat_fit (fun _ => rfl) (fillR_len ln (by omega)) (by omega)) rfl) rfl rfl ?_
    rintro _ w4 ⟨r3, m4, z2⟩
    have r4 : Row w4 w.heap.size 0 (cat EvR.cells ((fillR EvR.d es i).set i (es.getD i EvR.d))) := Row.congr r3 (cat_set (f := EvR.cells) (fun _ => rfl) (fillR_len ln (by omega)) (by omega) (es.getD i EvR.d))
    refine WL.end ?_
    refine NE.blk ?_
    refine NE.code ?_
    refine CE.region ?_
    refine WL.det (op_move rfl) rfl rfl rfl ?_
    refine WL.det (op_add (r := ((i + 1 : Nat) : Int)) rfl rfl (w_i64 (by omega) (by omega))) rfl rfl rfl ?_
    refine WL.det (op_assign rfl) rfl rfl rfl ?_
    refine WL.end ?_
    exact NE.again (i + 1) (⟨rfl, rfl, rfl, rfl, trivial⟩) ⟨(by omega), (Row.congr r4 (fillR_set ln (by omega))), ((m2.nt m3).then m4 ((aC (.inl (by simp)) aN)))⟩ (by first | (dsimp only; omega) | omega)
  · have hp1 := of_decide_eq_false hb1
    refine CE.cond_f rfl hb1 ?_
    refine CE.exit' ?_
    refine XE.exit_then ?_
    refine XE.exit_then ?_
    refine XE.exit_here ?_
    refine NE.code ?_
    refine CE.seq ?_
    refine CE.region ?_
    refine WL.det (op_move rfl) rfl rfl rfl ?_
    refine WL.det (op_assign rfl) rfl rfl rfl ?_
    refine WL.end ?_
    refine NE.code ?_
    refine CE.ret' ?_
    refine XE.leave1 Tryd.results42 rfl ?_
    refine ⟨w.heap.size, rfl, (Row.congr r2 ?_), lR, (((Mod.refl [] w).nt m1).then m2 ((aC (.inr lR) aN)))⟩
    exact fillR_done ln (by omega)

set_option maxRecDepth 100000 in
set_option maxHeartbeats 2000000 in
theorem c_eqEventS_same (n : Nat) (c : Nat) (A : Option Addr) (b : Nat) (o : Nat) (es : List EvR) (c' : Nat) (A' : Option Addr) (b' : Nat) (o' : Nat) (ln : es.length = n) (hA : 0 < n → A = some ⟨b, o, none⟩) (hA' : 0 < n → A' = some ⟨b', o', none⟩) (hn : n ≤ 9223372036854775807) (w : World) (r : Rng w b o (cat EvR.cells es)) (r' : Rng w b' o' (cat EvR.cells es)) : Cl Tryd.prog 26 #[.slice A n c, .slice A' n c'] w fun v w' => v = .bool true ∧ Mod [] w w' := by
  refine Cl.of Tryd.func26 Tryd.ntmps26 rfl rfl (ρ := [(0, .slice A n c), (1, .slice A' n c')]) rfl ?_
  refine CE.seq ?_
  refine CE.region ?_
  refine WL.det (op_assign rfl) rfl rfl rfl ?_
  refine WL.end ?_
  refine NE.code ?_
  refine CE.seq ?_
  refine CE.seq ?_
  refine CE.region ?_
  refine WL.det (op_move rfl) rfl rfl rfl ?_
  refine WL.det (op_len rfl Tryd.runUnderlying41) rfl rfl rfl ?_
  refine WL.det (op_move rfl) rfl rfl rfl ?_
  refine WL.det (op_len rfl Tryd.runUnderlying41) rfl rfl rfl ?_
  refine WL.det (op_nei_f rfl rfl rfl) rfl rfl rfl ?_
  refine WL.end ?_
  refine NE.code ?_
  refine CE.cond_f rfl rfl ?_
  refine CE.skip' ?_
  refine NE.code ?_
  refine CE.seq ?_
  refine CE.seq ?_
  refine CE.region ?_
  refine WL.det (op_assign rfl) rfl rfl rfl ?_
  refine WL.end ?_
  refine NE.code ?_
  refine CE.block ?_
  refine CE.loop (fun (i : Nat) => [(5, vI ((i : Nat) : Int)), (0, .slice A n c), (1, .slice A' n c'), (4, .bool false)]) (fun (i : Nat) => fun W => (i ≤ n) ∧ Mod [] w W) (fun (i : Nat) => n - i) 0 (⟨rfl, rfl, rfl, rfl, trivial⟩) ⟨(by omega), Mod.refl _ _⟩ ?_
  rintro i w1 ⟨hi, m1⟩
  show CE _ _ _ _ [(5, vI ((i : Nat) : Int)), (0, .slice A n c), (1, .slice A' n c'), (4, .bool false)] _
  refine CE.seq ?_
  refine CE.seq ?_
  refine CE.region ?_
  refine WL.det (op_move rfl) rfl rfl rfl ?_
  refine WL.det (op_move rfl) rfl rfl rfl ?_
  refine WL.det (op_len rfl Tryd.runUnderlying41) rfl rfl rfl ?_
  refine WL.det (op_lti rfl rfl) rfl rfl rfl ?_
  refine WL.end ?_
  refine NE.code ?_
  rcases Bool.eq_false_or_eq_true (decide (((i : Nat) : Int) < ((n : Nat) : Int))) with hb1 | hb1
  · have hp1 := of_decide_eq_true hb1
    refine CE.cond_t rfl hb1 ?_
    refine CE.skip' ?_
    refine NE.code ?_
    refine CE.seq ?_
    refine CE.block ?_
    refine CE.seq ?_
    refine CE.draw (fun _ => none) [0, 1, 2, 3, 4, 5, 6, 7] [8, 9] [] (by kernel_rfl) (by kernel_rfl) ?_
    have md1 : Mod [] w1 w1.drew := (Mod.refl _ _).drew
    generalize w1.drew = w2 at md1 ⊢
    refine DR.det (i := 0) rfl rfl (by kernel_rfl) (.free rfl) rfl rfl (fun wD mD => op_move rfl) ?_
    refine DR.det (i := 1) rfl rfl (by kernel_rfl) (.free rfl) rfl rfl (fun wD mD => op_move rfl) ?_
    refine DR.det (i := 2) rfl rfl (by kernel_rfl) (.free rfl) rfl rfl (fun wD mD => op_indexSl (off' := o + i * 6) rfl (hA (by omega)) rfl Tryd.runUnderlying41 Tryd.sizeOf72 (by omega) (by omega) (by omega)) ?_
    refine DR.det (i := 3) rfl rfl (by kernel_rfl) (.free rfl) rfl rfl (fun wD mD => op_loadA (i := i * 6) (cs := [vI ((es.getD i EvR.d).at_), vI ((es.getD i EvR.d).kind), vI ((es.getD i EvR.d).note), vI ((es.getD i EvR.d).ins), vI ((es.getD i EvR.d).key), vF ((es.getD i EvR.d).force)]) rfl Tryd.isAgg72 Tryd.sizeOf72 (((r.ext m1).ext md1).ext mD) rfl (cat_at (f := EvR.cells) (m := 6) (i := i) (d := EvR.d) (fun _ => rfl) (by have eL : List.length es = n := ln; omega)) rfl) ?_
    refine DR.det (i := 4) rfl rfl (by kernel_rfl) (.free rfl) rfl rfl (fun wD mD => op_move rfl) ?_
    refine DR.det (i := 5) rfl rfl (by kernel_rfl) (.free rfl) rfl rfl (fun wD mD => op_move rfl) ?_
    refine DR.det (i := 6) rfl rfl (by kernel_rfl) (.free rfl) rfl rfl (fun wD mD => op_indexSl (off' := o' + i * 6) rfl (hA' (by omega)) rfl Tryd.runUnderlying41 Tryd.sizeOf72 (by omega) (by omega) (by omega)) ?_
    refine DR.det (i := 7) rfl rfl (by kernel_rfl) (.free rfl) rfl rfl (fun wD mD => op_loadA (i := i * 6) (cs := [vI ((es.getD i EvR.d).at_), vI ((es.getD i EvR.d).kind), vI ((es.getD i EvR.d).note), vI ((es.getD i EvR.d).ins), vI ((es.getD i EvR.d).key), vF ((es.getD i EvR.d).force)]) rfl Tryd.isAgg72 Tryd.sizeOf72 (((r'.ext m1).ext md1).ext mD) rfl (cat_at (f := EvR.cells) (m := 6) (i := i) (d := EvR.d) (fun _ => rfl) (by have eL : List.length es = n := ln; omega)) rfl) ?_
    refine DR.done rfl ?_
    intro w3 m2
    refine WO.call rfl (.free rfl) rfl (ltb rfl) (oc_call (vs := [.agg #[vI ((es.getD i EvR.d).at_), vI ((es.getD i EvR.d).kind), vI ((es.getD i EvR.d).note), vI ((es.getD i EvR.d).ins), vI ((es.getD i EvR.d).key), vF ((es.getD i EvR.d).force)], .agg #[vI ((es.getD i EvR.d).at_), vI ((es.getD i EvR.d).kind), vI ((es.getD i EvR.d).note), vI ((es.getD i EvR.d).ins), vI ((es.getD i EvR.d).key), vF ((es.getD i EvR.d).force)]]) (cap := []) rfl rfl rfl Tryd.call56 (c_eqEvent ((es.getD i EvR.d).at_) ((es.getD i EvR.d).kind) ((es.getD i EvR.d).note) ((es.getD i EvR.d).ins) ((es.getD i EvR.d).key) ((es.getD i EvR.d).force) ((es.getD i EvR.d).force) ((es.getD i EvR.d).force) rfl rfl w3)) ?_
    rintro _ w4 ⟨rfl, m3⟩
    refine WO.det (op_not rfl) rfl (.free rfl) rfl rfl ?_
    refine WO.end ?_
    refine NE.code ?_
    refine CE.cond_f rfl rfl ?_
    refine CE.skip' ?_
    refine NE.blk ?_
    refine NE.code ?_
    refine CE.region ?_
    refine WL.det (op_move rfl) rfl rfl rfl ?_
    refine WL.det (op_add (r := ((i + 1 : Nat) : Int)) rfl rfl (w_i64 (by omega) (by omega))) rfl rfl rfl ?_
    refine WL.det (op_assign rfl) rfl rfl rfl ?_
    refine WL.end ?_
    exact NE.again (i + 1) (⟨rfl, rfl, rfl, rfl, trivial⟩) ⟨(by omega), (((m1.nt md1).nt m2).nt m3)⟩ (by first | (dsimp only; omega) | omega)
  · have hp1 := of_decide_eq_false hb1
    refine CE.cond_f rfl hb1 ?_
    refine CE.exit' ?_
    refine XE.exit_then ?_
    refine XE.exit_then ?_
    refine XE.exit_here ?_
    refine NE.code ?_
    refine CE.seq ?_
    refine CE.region ?_
    refine WL.det (op_assign rfl) rfl rfl rfl ?_
    refine WL.end ?_
    refine NE.code ?_
    refine CE.ret' ?_
    refine XE.leave1 Tryd.results26 rfl ?_
    refine ⟨rfl, ((Mod.refl [] w).nt m1)⟩

set_option maxRecDepth 100000 in
set_option maxHeartbeats 2000000 in
theorem c_toScore (ra : Nat) (ba : Nat) (oc : Nat) (nD : Nat) (cD : Nat) (AD : Option Addr) (bD : Nat) (oD : Nat) (esD : List Nat) (nI : Nat) (cI : Nat) (AI : Option Addr) (bI : Nat) (oI : Nat) (esI : List InR) (nE : Nat) (cE : Nat) (AE : Option Addr) (bE : Nat) (oE : Nat) (esE : List EvR) (lnD : esD.length = nD) (hAD : 0 < nD → AD = some ⟨bD, oD, none⟩) (hnD : nD ≤ 1048576) (lnI : esI.length = nI) (hAI : 0 < nI → AI = some ⟨bI, oI, none⟩) (hnI : nI ≤ 1048576) (lnE : esE.length = nE) (hAE : 0 < nE → AE = some ⟨bE, oE, none⟩) (hnE : nE ≤ 1048576) (w : World) (rD : Rng w bD oD (fl esD)) (rI : Rng w bI oI (cat InR.cells esI)) (rE : Rng w bE oE (cat EvR.cells esE)) : Cl Tryd.prog 15 #[.agg #[vF ra, vF ba, vF oc, .slice AD nD cD, .slice AI nI cI, .slice AE nE cE]] w fun v w' => ∃ (bD' : Nat) (bI' : Nat) (bE' : Nat), v = .agg #[vF ra, vF ba, vF oc, vS bD' 0 nD nD, vS bI' 0 nI nI, vS bE' 0 nE nE] ∧ Row w' bD' 0 (fl esD) ∧ Row w' bI' 0 (cat InR.cells esI) ∧ Row w' bE' 0 (cat EvR.cells esE) ∧ w.heap.size ≤ bD' ∧ w.heap.size ≤ bI' ∧ w.heap.size ≤ bE' ∧ bD' ≠ bI' ∧ bD' ≠ bE' ∧ bI' ≠ bE' ∧ Mod [] w w' := by
  refine Cl.of Tryd.func15 Tryd.ntmps15 rfl rfl (ρ := [(0, .agg #[vF ra, vF ba, vF oc, .slice AD nD cD, .slice AI nI cI, .slice AE nE cE])]) rfl ?_
  refine CE.seq ?_
  refine CE.region ?_
  refine WL.op (op_box (cs := [vF ra, vF ba, vF oc, .slice AD nD cD, .slice AI nI cI, .slice AE nE cE]) rfl rfl) rfl rfl (ltb rfl) ?_
  rintro _ w1 ⟨rfl, r1, m1, z1⟩
  refine WL.op (op_alloc (cs := [vF 0, vF 0, vF 0, .slice none 0 0, .slice none 0 0, .slice none 0 0]) Tryd.zeroValue43 rfl) rfl rfl (ltb rfl) ?_
  rintro _ w2 ⟨rfl, r2, m2, z2⟩
  refine WL.end ?_
  refine NE.code ?_
  refine CE.seq ?_
  refine CE.region ?_
  refine WL.op (op_alloc (cs := [vF 0, vF 0, vF 0, .slice none 0 0, .slice none 0 0, .slice none 0 0]) Tryd.zeroValue43 rfl) rfl rfl (ltb rfl) ?_
  rintro _ w3 ⟨rfl, r3, m3, z3⟩
  refine WL.end ?_
  refine NE.code ?_
  refine CE.seq ?_
  refine CE.region ?_
  refine WL.det (op_fieldAddr (off' := 0) rfl Tryd.runUnderlying36 rfl rfl Tryd.sizeOf22 rfl) rfl rfl rfl ?_
  refine WL.det (op_load1 (i := 0) rfl Tryd.isAgg22 ((r1.ext m2).ext m3).rng rfl rfl) rfl rfl rfl ?_
  refine WL.det (op_fieldAddr (off' := 0) rfl Tryd.runUnderlying43 rfl rfl Tryd.sizeOf22 rfl) rfl rfl rfl ?_
  refine WL.op0 (op_store (i := 0) (cs := [vF ra]) rfl rfl rfl Tryd.sizeOf22 rfl r3 rfl (lB rfl) rfl) rfl rfl ?_
  rintro _ w4 ⟨r4, m4, z4⟩
  have r5 : Row w4 w2.heap.size 0 [vF ra, vF 0, vF 0, .slice none 0 0, .slice none 0 0, .slice none 0 0] := Row.congr r4 rfl
  refine WL.end ?_
  refine NE.code ?_
  refine CE.seq ?_
  refine CE.region ?_
  refine WL.det (op_fieldAddr (off' := 1) rfl Tryd.runUnderlying36 rfl rfl Tryd.sizeOf32 rfl) rfl rfl rfl ?_
  refine WL.det (op_loadA (i := 1) (cs := [vF ba, vF oc, .slice AD nD cD]) rfl Tryd.isAgg32 Tryd.sizeOf32 (((r1.ext m2).ext m3).mod m4 (nC (lE (lL (lL r1.lt m2.size) lR)) nN)).rng rfl rfl rfl) rfl rfl rfl ?_
  refine WL.call (oc_call (vs := [.agg #[vF ba, vF oc, .slice AD nD cD]]) (cap := []) rfl rfl rfl Tryd.call40 (c_toTuning ba oc nD cD AD bD oD esD lnD hAD (by omega) w4 (Rng.youngS rD (((rD.ext m1).ext m2).ext m3) m4 (allge_cons (lT (lT m1.size m2.size) lR) allge_nil)))) rfl rfl (ltb rfl) ?_
  rintro _ w5 ⟨bD'1, rfl, r6, ge1, m5⟩
  refine WL.det (op_fieldAddr (off' := 1) rfl Tryd.runUnderlying43 rfl rfl Tryd.sizeOf39 rfl) rfl rfl rfl ?_
  refine WL.op0 (op_store (i := 1) (cs := [vF ba, vF oc, vS bD'1 0 nD nD]) rfl rfl rfl Tryd.sizeOf39 rfl (r5.ext m5) rfl (lB rfl) rfl) rfl rfl ?_
  rintro _ w6 ⟨r7, m6, z5⟩
  have r8 : Row w6 w2.heap.size 0 [vF ra, vF ba, vF oc, vS bD'1 0 nD nD, .slice none 0 0, .slice none 0 0] := Row.congr r7 rfl
  refine WL.end ?_
  refine NE.code ?_
  refine CE.seq ?_
  refine CE.region ?_
  refine WL.det (op_fieldAddr (off' := 4) rfl Tryd.runUnderlying36 rfl rfl Tryd.sizeOf33 rfl) rfl rfl rfl ?_
  refine WL.det (op_load1 (i := 4) rfl Tryd.isAgg33 (((((r1.ext m2).ext m3).mod m4 (nC (lE (lL (lL r1.lt m2.size) lR)) nN)).ext m5).mod m6 (nC (lE (lL (lL r1.lt m2.size) lR)) nN)).rng rfl rfl) rfl rfl rfl ?_
  refine WL.call (oc_call (vs := [.slice AI nI cI]) (cap := []) rfl rfl rfl Tryd.call41 (c_toInstrumentS nI cI AI bI oI esI lnI hAI (by omega) w6 (Rng.youngS rI ((Rng.youngS rI (((rI.ext m1).ext m2).ext m3) m4 (allge_cons (lT (lT m1.size m2.size) lR) allge_nil)).ext m5) m6 (allge_cons (lT (lT m1.size m2.size) lR) allge_nil)))) rfl rfl (ltb rfl) ?_
  rintro _ w7 ⟨b'1, rfl, r9, ge2, m7⟩
  refine WL.det (op_fieldAddr (off' := 4) rfl Tryd.runUnderlying43 rfl rfl Tryd.sizeOf40 rfl) rfl rfl rfl ?_
  refine WL.op0 (op_store (i := 4) (cs := [vS b'1 0 nI nI]) rfl rfl rfl Tryd.sizeOf40 rfl (r8.ext m7) rfl (lB rfl) rfl) rfl rfl ?_
  rintro _ w8 ⟨r10, m8, z6⟩
  have r11 : Row w8 w2.heap.size 0 [vF ra, vF ba, vF oc, vS bD'1 0 nD nD, vS b'1 0 nI nI, .slice none 0 0] := Row.congr r10 rfl
  refine WL.end ?_
  refine NE.code ?_
  refine CE.seq ?_
  refine CE.region ?_
  refine WL.det (op_fieldAddr (off' := 5) rfl Tryd.runUnderlying36 rfl rfl Tryd.sizeOf34 rfl) rfl rfl rfl ?_
  refine WL.det (op_load1 (i := 5) rfl Tryd.isAgg34 (((((((r1.ext m2).ext m3).mod m4 (nC (lE (lL (lL r1.lt m2.size) lR)) nN)).ext m5).mod m6 (nC (lE (lL (lL r1.lt m2.size) lR)) nN)).ext m7).mod m8 (nC (lE (lL (lL r1.lt m2.size) lR)) nN)).rng rfl rfl) rfl rfl rfl ?_
  refine WL.call (oc_call (vs := [.slice AE nE cE]) (cap := []) rfl rfl rfl Tryd.call42 (c_toEventS nE cE AE bE oE esE lnE hAE (by omega) w8 (Rng.youngS rE ((Rng.youngS rE ((Rng.youngS rE (((rE.ext m1).ext m2).ext m3) m4 (allge_cons (lT (lT m1.size m2.size) lR) allge_nil)).ext m5) m6 (allge_cons (lT (lT m1.size m2.size) lR) allge_nil)).ext m7) m8 (allge_cons (lT (lT m1.size m2.size) lR) allge_nil)))) rfl rfl (ltb rfl) ?_
  rintro _ w9 ⟨b'2, rfl, r12, ge3, m9⟩
  refine WL.det (op_fieldAddr (off' := 5) rfl Tryd.runUnderlying43 rfl rfl Tryd.sizeOf41 rfl) rfl rfl rfl ?_
  refine WL.op0 (op_store (i := 5) (cs := [vS b'2 0 nE nE]) rfl rfl rfl Tryd.sizeOf41 rfl (r11.ext m9) rfl (lB rfl) rfl) rfl rfl ?_
  rintro _ w10 ⟨r13, m10, z7⟩
  have r14 : Row w10 w2.heap.size 0 [vF ra, vF ba, vF oc, vS bD'1 0 nD nD, vS b'1 0 nI nI, vS b'2 0 nE nE] := Row.congr r13 rfl
  refine WL.end ?_
  refine NE.code ?_
  refine CE.seq ?_
  refine CE.region ?_
  refine WL.det (op_loadA (i := 0) (cs := [vF ra, vF ba, vF oc, vS bD'1 0 nD nD, vS b'1 0 nI nI, vS b'2 0 nE nE]) rfl Tryd.isAgg43 Tryd.sizeOf43 r14.rng rfl rfl rfl) rfl rfl rfl ?_
  refine WL.op0 (op_store (i := 0) (cs := [vF ra, vF ba, vF oc, vS bD'1 0 nD nD, vS b'1 0 nI nI, vS b'2 0 nE nE]) rfl rfl rfl Tryd.sizeOf43 rfl ((((((((r2.ext m3).mod m4 (nC (lE (lL r2.lt lR)) nN)).ext m5).mod m6 (nC (lE (lL r2.lt lR)) nN)).ext m7).mod m8 (nC (lE (lL r2.lt lR)) nN)).ext m9).mod m10 (nC (lE (lL r2.lt lR)) nN)) rfl (lB rfl) rfl) rfl rfl ?_
  rintro _ w11 ⟨r15, m11, z8⟩
  have r16 : Row w11 w1.heap.size 0 [vF ra, vF ba, vF oc, vS bD'1 0 nD nD, vS b'1 0 nI nI, vS b'2 0 nE nE] := Row.congr r15 rfl
  refine WL.end ?_
  refine NE.code ?_
  refine CE.ret' ?_
  refine XE.leaveC Tryd.results15 (res_agg (cs := [vF ra, vF ba, vF oc, vS bD'1 0 nD nD, vS b'1 0 nI nI, vS b'2 0 nE nE]) rfl Tryd.isAgg43 Tryd.sizeOf43 r16.rng rfl res_nil) ?_
  refine ⟨bD'1, b'1, b'2, rfl, ((((((r6.mod m6 (nC (lG (lL (lL r3.lt m4.size) ge1)) nN)).ext m7).mod m8 (nC (lG (lL (lL r3.lt m4.size) ge1)) nN)).ext m9).mod m10 (nC (lG (lL (lL r3.lt m4.size) ge1)) nN)).mod m11 (nC (lG (lL (lL r2.lt (lT m3.size m4.size)) ge1)) nN)), ((((r9.mod m8 (nC (lG (lL (lL r3.lt (lT (lT m4.size m5.size) m6.size)) ge2)) nN)).ext m9).mod m10 (nC (lG (lL (lL r3.lt (lT (lT m4.size m5.size) m6.size)) ge2)) nN)).mod m11 (nC (lG (lL (lL r2.lt (lT (lT (lT m3.size m4.size) m5.size) m6.size)) ge2)) nN)), ((r12.mod m10 (nC (lG (lL (lL r3.lt (lT (lT (lT (lT m4.size m5.size) m6.size) m7.size) m8.size)) ge3)) nN)).mod m11 (nC (lG (lL (lL r2.lt (lT (lT (lT (lT (lT m3.size m4.size) m5.size) m6.size) m7.size) m8.size)) ge3)) nN)), (lT (lT (lT (lT m1.size m2.size) m3.size) m4.size) ge1), (lT (lT (lT (lT (lT (lT m1.size m2.size) m3.size) m4.size) m5.size) m6.size) ge2), (lT (lT (lT (lT (lT (lT (lT (lT m1.size m2.size) m3.size) m4.size) m5.size) m6.size) m7.size) m8.size) ge3), (lE (lL (lL r6.lt m6.size) ge2)), (lE (lL (lL r6.lt (lT (lT m6.size m7.size) m8.size)) ge3)), (lE (lL (lL r9.lt m8.size) ge3)), ((((((((((((Mod.refl [] w).nt m1).nt m2).nt m3).then m4 ((aC (.inr (lT (lT m1.size m2.size) lR)) aN))).nt m5).then m6 ((aC (.inr (lT (lT m1.size m2.size) lR)) aN))).nt m7).then m8 ((aC (.inr (lT (lT m1.size m2.size) lR)) aN))).nt m9).then m10 ((aC (.inr (lT (lT m1.size m2.size) lR)) aN))).then m11 ((aC (.inr (lT m1.size lR)) aN)))⟩

set_option maxRecDepth 100000 in
set_option maxHeartbeats 2000000 in
theorem c_eqScore (ra : Nat) (ba : Nat) (oc : Nat) (nD : Nat) (cD : Nat) (AD : Option Addr) (bD : Nat) (oD : Nat) (esD : List Nat) (nI : Nat) (cI : Nat) (AI : Option Addr) (bI : Nat) (oI : Nat) (esI : List InR) (nE : Nat) (cE : Nat) (AE : Option Addr) (bE : Nat) (oE : Nat) (esE : List EvR) (cD' : Nat) (AD' : Option Addr) (bD' : Nat) (oD' : Nat) (cI' : Nat) (AI' : Option Addr) (bI' : Nat) (oI' : Nat) (cE' : Nat) (AE' : Option Addr) (bE' : Nat) (oE' : Nat) (lnD : esD.length = nD) (hAD : 0 < nD → AD = some ⟨bD, oD, none⟩) (lnI : esI.length = nI) (hAI : 0 < nI → AI = some ⟨bI, oI, none⟩) (lnE : esE.length = nE) (hAE : 0 < nE → AE = some ⟨bE, oE, none⟩) (hnD : nD ≤ 9223372036854775807) (hnI : nI ≤ 9223372036854775807) (hnE : nE ≤ 9223372036854775807) (hAD' : 0 < nD → AD' = some ⟨bD', oD', none⟩) (hAI' : 0 < nI → AI' = some ⟨bI', oI', none⟩) (hAE' : 0 < nE → AE' = some ⟨bE', oE', none⟩) (w : World) (rD : Rng w bD oD (fl esD)) (rI : Rng w bI oI (cat InR.cells esI)) (rE : Rng w bE oE (cat EvR.cells esE)) (rD' : Rng w bD' oD' (fl esD)) (rI' : Rng w bI' oI' (cat InR.cells esI)) (rE' : Rng w bE' oE' (cat EvR.cells esE)) : Cl Tryd.prog 17 #[.agg #[vF ra, vF ba, vF oc, .slice AD nD cD, .slice AI nI cI, .slice AE nE cE], .agg #[vF ra, vF ba, vF oc, .slice AD' nD cD', .slice AI' nI cI', .slice AE' nE cE']] w fun v w' => v = .bool true ∧ Mod [] w w' := by
  refine Cl.of Tryd.func17 Tryd.ntmps17 rfl rfl (ρ := [(0, .agg #[vF ra, vF ba, vF oc, .slice AD nD cD, .slice AI nI cI, .slice AE nE cE]), (1, .agg #[vF ra, vF ba, vF oc, .slice AD' nD cD', .slice AI' nI cI', .slice AE' nE cE'])]) rfl ?_
  refine CE.seq ?_
  refine CE.region ?_
  refine WL.op (op_box (cs := [vF ra, vF ba, vF oc, .slice AD nD cD, .slice AI nI cI, .slice AE nE cE]) rfl rfl) rfl rfl (ltb rfl) ?_
  rintro _ w1 ⟨rfl, r1, m1, z1⟩
  refine WL.op (op_box (cs := [vF ra, vF ba, vF oc, .slice AD' nD cD', .slice AI' nI cI', .slice AE' nE cE']) rfl rfl) rfl rfl (ltb rfl) ?_
  rintro _ w2 ⟨rfl, r2, m2, z2⟩
  refine WL.det (op_assign rfl) rfl rfl rfl ?_
  refine WL.end ?_
  refine NE.code ?_
  refine CE.seq ?_
  refine CE.seq ?_
  refine CE.region ?_
  refine WL.det (op_fieldAddr (off' := 0) rfl Tryd.runUnderlying43 rfl rfl Tryd.sizeOf22 rfl) rfl rfl rfl ?_
  refine WL.det (op_load1 (i := 0) rfl Tryd.isAgg22 (r1.ext m2).rng rfl rfl) rfl rfl rfl ?_
  refine WL.op (op_widen (e := (wide ra)) rfl rfl Tryd.runUnderlying22 Tryd.runUnderlying83 rfl) rfl rfl (ltb rfl) ?_
  rintro _ w3 ⟨⟨f1, rfl, hf1, lf1⟩, m3⟩
  refine WL.det (op_fieldAddr (off' := 0) rfl Tryd.runUnderlying43 rfl rfl Tryd.sizeOf22 rfl) rfl rfl rfl ?_
  refine WL.det (op_load1 (i := 0) rfl Tryd.isAgg22 (r2.ext m3).rng rfl rfl) rfl rfl rfl ?_
  refine WL.op (op_widen (e := (wide ra)) rfl rfl Tryd.runUnderlying22 Tryd.runUnderlying83 rfl) rfl rfl (ltb rfl) ?_
  rintro _ w4 ⟨⟨f2, rfl, hf2, lf2⟩, m4⟩
  refine WL.call (oc_call (vs := [.float .f64 f1, .float .f64 f2]) (cap := []) rfl rfl rfl Tryd.call52 (c_sameFloat f1 (wide ra) f2 (wide ra) hf1 hf2 w4)) rfl rfl (ltb rfl) ?_
  rintro _ w5 ⟨rfl, m5⟩
  refine WL.det (op_not rfl) rfl rfl rfl ?_
  refine WL.end ?_
  refine NE.code ?_
  refine CE.cond_f rfl (bnot_t (sameF_self _)) ?_
  refine CE.skip' ?_
  refine NE.code ?_
  refine CE.seq ?_
  refine CE.seq ?_
  refine CE.region ?_
  refine WL.det (op_fieldAddr (off' := 1) rfl Tryd.runUnderlying43 rfl rfl Tryd.sizeOf39 rfl) rfl rfl rfl ?_
  refine WL.det (op_loadA (i := 1) (cs := [vF ba, vF oc, .slice AD nD cD]) rfl Tryd.isAgg39 Tryd.sizeOf39 ((((r1.ext m2).ext m3).ext m4).ext m5).rng rfl rfl rfl) rfl rfl rfl ?_
  refine WL.det (op_fieldAddr (off' := 1) rfl Tryd.runUnderlying43 rfl rfl Tryd.sizeOf39 rfl) rfl rfl rfl ?_
  refine WL.det (op_loadA (i := 1) (cs := [vF ba, vF oc, .slice AD' nD cD']) rfl Tryd.isAgg39 Tryd.sizeOf39 (((r2.ext m3).ext m4).ext m5).rng rfl rfl rfl) rfl rfl rfl ?_
  refine WL.call (oc_call (vs := [.agg #[vF ba, vF oc, .slice AD nD cD], .agg #[vF ba, vF oc, .slice AD' nD cD']]) (cap := []) rfl rfl rfl Tryd.call53 (c_eqTuning ba ba oc oc nD cD AD bD oD esD ba oc cD' AD' bD' oD' lnD hAD rfl rfl rfl rfl hAD' (by omega) w5 (((((rD.ext m1).ext m2).ext m3).ext m4).ext m5) (((((rD'.ext m1).ext m2).ext m3).ext m4).ext m5))) rfl rfl (ltb rfl) ?_
  rintro _ w6 ⟨rfl, m6⟩
  refine WL.det (op_not rfl) rfl rfl rfl ?_
  refine WL.end ?_
  refine NE.code ?_
  refine CE.cond_f rfl rfl ?_
  refine CE.skip' ?_
  refine NE.code ?_
  refine CE.seq ?_
  refine CE.seq ?_
  refine CE.region ?_
  refine WL.det (op_fieldAddr (off' := 4) rfl Tryd.runUnderlying43 rfl rfl Tryd.sizeOf40 rfl) rfl rfl rfl ?_
  refine WL.det (op_load1 (i := 4) rfl Tryd.isAgg40 (((((r1.ext m2).ext m3).ext m4).ext m5).ext m6).rng rfl rfl) rfl rfl rfl ?_
  refine WL.det (op_fieldAddr (off' := 4) rfl Tryd.runUnderlying43 rfl rfl Tryd.sizeOf40 rfl) rfl rfl rfl ?_
  refine WL.det (op_load1 (i := 4) rfl Tryd.isAgg40 ((((r2.ext m3).ext m4).ext m5).ext m6).rng rfl rfl) rfl rfl rfl ?_
  refine WL.call (oc_call (vs := [.slice AI nI cI, .slice AI' nI cI']) (cap := []) rfl rfl rfl Tryd.call54 (c_eqInstrumentS_same nI cI AI bI oI esI cI' AI' bI' oI' lnI hAI hAI' (by omega) w6 ((((((rI.ext m1).ext m2).ext m3).ext m4).ext m5).ext m6) ((((((rI'.ext m1).ext m2).ext m3).ext m4).ext m5).ext m6))) rfl rfl (ltb rfl) ?_
  rintro _ w7 ⟨rfl, m7⟩
  refine WL.det (op_not rfl) rfl rfl rfl ?_
  refine WL.end ?_
  refine NE.code ?_
  refine CE.cond_f rfl rfl ?_
  refine CE.skip' ?_
  refine NE.code ?_
  refine CE.seq ?_
  refine CE.seq ?_
  refine CE.region ?_
  refine WL.det (op_fieldAddr (off' := 5) rfl Tryd.runUnderlying43 rfl rfl Tryd.sizeOf41 rfl) rfl rfl rfl ?_
  refine WL.det (op_load1 (i := 5) rfl Tryd.isAgg41 ((((((r1.ext m2).ext m3).ext m4).ext m5).ext m6).ext m7).rng rfl rfl) rfl rfl rfl ?_
  refine WL.det (op_fieldAddr (off' := 5) rfl Tryd.runUnderlying43 rfl rfl Tryd.sizeOf41 rfl) rfl rfl rfl ?_
  refine WL.det (op_load1 (i := 5) rfl Tryd.isAgg41 (((((r2.ext m3).ext m4).ext m5).ext m6).ext m7).rng rfl rfl) rfl rfl rfl ?_
  refine WL.call (oc_call (vs := [.slice AE nE cE, .slice AE' nE cE']) (cap := []) rfl rfl rfl Tryd.call26 (c_eqEventS_same nE cE AE bE oE esE cE' AE' bE' oE' lnE hAE hAE' (by omega) w7 (((((((rE.ext m1).ext m2).ext m3).ext m4).ext m5).ext m6).ext m7) (((((((rE'.ext m1).ext m2).ext m3).ext m4).ext m5).ext m6).ext m7))) rfl rfl (ltb rfl) ?_
  rintro _ w8 ⟨rfl, m8⟩
  refine WL.det (op_not rfl) rfl rfl rfl ?_
  refine WL.end ?_
  refine NE.code ?_
  refine CE.cond_f rfl rfl ?_
  refine CE.skip' ?_
  refine NE.code ?_
  refine CE.seq ?_
  refine CE.region ?_
  refine WL.det (op_assign rfl) rfl rfl rfl ?_
  refine WL.end ?_
  refine NE.code ?_
  refine CE.ret' ?_
  refine XE.leave1 Tryd.results17 rfl ?_
  refine ⟨rfl, (((((((((Mod.refl [] w).nt m1).nt m2).nt m3).nt m4).nt m5).nt m6).nt m7).nt m8)⟩

end Go.Proofs.YtdopidalhkcefaaDoor
