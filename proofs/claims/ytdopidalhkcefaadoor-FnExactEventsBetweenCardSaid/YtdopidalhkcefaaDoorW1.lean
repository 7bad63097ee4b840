/- What orders events; where notes start. -/
import Derived.Test.YtdopidalhkcefaaDoorI1
import Derived.Test.YtdopidalhkcefaaDoorK2
import Derived.Test.YtdopidalhkcefaaDoorE23
import Derived.Test.YtdopidalhkcefaaDoorE30
set_option linter.unusedVariables false
set_option linter.unusedSimpArgs false
namespace Go.Proofs.YtdopidalhkcefaaDoor

structure IntR where
  v : Int
def IntR.cells (e : IntR) : List Value := [vI e.v]
def IntR.d : IntR := ⟨0⟩
def cmpI (a b : Int) : Int := if a < b then -1 else if b < a then 1 else 0
def cmp4 (a b c d x y z u : Int) : Int := if cmpI a x ≠ 0 then cmpI a x else if cmpI b y ≠ 0 then cmpI b y else if cmpI c z ≠ 0 then cmpI c z else if cmpI d u ≠ 0 then cmpI d u else 0
def less4 (a b c d x y z u : Int) : Bool := if a ≠ x then decide (a < x) else if b ≠ y then decide (b < y) else if c ≠ z then decide (c < z) else if d ≠ u then decide (d < u) else false
/-- what orders an event, where its note starts at `o` -/
def lateI (o : Option Lit) (at_ kind : Int) : Int := if kind = 1 then (if o.isSome = true ∧ lkI o < at_ then 0 else 1) else 1
def lateS (s at_ kind : Int) : Int := if kind = 1 then (if s < at_ then 0 else 1) else 1
def stopK (kind : Int) : Int := if kind = 1 then 1 else 0
/-- the times at which notes start, the last one of each -/
def startsF (es : List EvR) : Nat → Int → Option Lit
  | 0 => fun _ => none
  | i + 1 => if (es.getD i EvR.d).kind = 2 then putL (startsF es i) (es.getD i EvR.d).note (.int .i64 (es.getD i EvR.d).at_) else startsF es i
def startsN (es : List EvR) : Nat → Nat
  | 0 => 0
  | i + 1 => if (es.getD i EvR.d).kind = 2 then putN (startsF es i) (es.getD i EvR.d).note (startsN es i) else startsN es i
/-- the notes that have stopped -/
def stopsF (es : List EvR) : Nat → Int → Option Lit
  | 0 => fun _ => none
  | i + 1 => if (es.getD i EvR.d).kind = 1 then putL (stopsF es i) (es.getD i EvR.d).note (.bool true) else stopsF es i
def stopsN (es : List EvR) : Nat → Nat
  | 0 => 0
  | i + 1 => if (es.getD i EvR.d).kind = 1 then putN (stopsF es i) (es.getD i EvR.d).note (stopsN es i) else stopsN es i
/-- the first start of a note -/
def firstF (es : List EvR) (z : Int) : Nat → Option Int
  | 0 => none
  | i + 1 => match firstF es z i with
    | some a => some a
    | none => if (es.getD i EvR.d).kind = 2 ∧ (es.getD i EvR.d).note = z then some (es.getD i EvR.d).at_ else none
def firstI (es : List EvR) (z : Int) (n : Nat) : Int := (firstF es z n).getD (-1)
/-- how many events of a kind a note has -/
def cntK (k : Int) (es : List EvR) (z : Int) : Nat → Nat
  | 0 => 0
  | i + 1 => cntK k es z i + (if (es.getD i EvR.d).kind = k ∧ (es.getD i EvR.d).note = z then 1 else 0)
def evI (at_ kd ins key : Int) (fo : Nat) (m : Int) : Bool := vIn at_ (0 : Int) (100000 : Int) && (if kd = 1 then (ins == (0 : Int)) && (key == (0 : Int)) && (((cn .f32 fo : Nat) : Int) == (0 : Int)) else (kd == (2 : Int)) && vIn ins (0 : Int) (m - (1 : Int)) && vIn key (-100 : Int) (100 : Int) && finF fo)
/-- an event is as it has to be (the reference) -/
def stepS (es : List EvR) (n m : Int) (i : Nat) : Bool := vIn (es.getD i EvR.d).at_ (0 : Int) (100000 : Int) && vIn (es.getD i EvR.d).note (0 : Int) (n - (1 : Int)) &&
  (if (es.getD i EvR.d).kind = 2 then (cntK 1 es (es.getD i EvR.d).note i == 0) && vIn (es.getD i EvR.d).ins (0 : Int) (m - (1 : Int)) && vIn (es.getD i EvR.d).key (-100 : Int) (100 : Int) && finF (es.getD i EvR.d).force && (cntK 2 es (es.getD i EvR.d).note i == 0)
   else ((es.getD i EvR.d).kind == (1 : Int)) && (cntK 2 es (es.getD i EvR.d).note i != 0) && ((es.getD i EvR.d).ins == (0 : Int)) && ((es.getD i EvR.d).key == (0 : Int)) && (cn .f32 (es.getD i EvR.d).force == cn .f32 0) && (cntK 1 es (es.getD i EvR.d).note i == 0))
def evS1 (es : List EvR) (n m : Int) : Nat → Bool
  | 0 => true
  | i + 1 => evS1 es n m i && stepS es n m i
def ordS (es : List EvR) (N i : Nat) : Bool := less4 (es.getD (i - 1) EvR.d).at_ (lateS (firstI es (es.getD (i - 1) EvR.d).note N) (es.getD (i - 1) EvR.d).at_ (es.getD (i - 1) EvR.d).kind) (es.getD (i - 1) EvR.d).note (stopK (es.getD (i - 1) EvR.d).kind) (es.getD i EvR.d).at_ (lateS (firstI es (es.getD i EvR.d).note N) (es.getD i EvR.d).at_ (es.getD i EvR.d).kind) (es.getD i EvR.d).note (stopK (es.getD i EvR.d).kind)
def evS2 (es : List EvR) (N : Nat) : Nat → Bool
  | 0 => true
  | i + 1 => evS2 es N i && (if i = 0 then true else ordS es N i)
def evS (es : List EvR) (N : Nat) (m : Int) : Bool := decide (N = 2 * (N / 2)) && decide (N / 2 ≤ 64) && evS1 es (((N / 2 : Nat) : Int)) m N && evS2 es N N
/-- the same (the program) -/
def ordI (es : List EvR) (N i : Nat) : Int := cmp4 (es.getD (i - 1) EvR.d).at_ (lateI (startsF es N (es.getD (i - 1) EvR.d).note) (es.getD (i - 1) EvR.d).at_ (es.getD (i - 1) EvR.d).kind) (es.getD (i - 1) EvR.d).note (stopK (es.getD (i - 1) EvR.d).kind) (es.getD i EvR.d).at_ (lateI (startsF es N (es.getD i EvR.d).note) (es.getD i EvR.d).at_ (es.getD i EvR.d).kind) (es.getD i EvR.d).note (stopK (es.getD i EvR.d).kind)
def stepI (es : List EvR) (N : Nat) (n m : Int) (i : Nat) : Bool := evI (es.getD i EvR.d).at_ (es.getD i EvR.d).kind (es.getD i EvR.d).ins (es.getD i EvR.d).key (es.getD i EvR.d).force m && vIn (es.getD i EvR.d).note (0 : Int) (n - (1 : Int)) && (if 0 < i then decide (ordI es N i < 0) else true) &&
  (if (es.getD i EvR.d).kind = 1 then (startsF es N (es.getD i EvR.d).note).isSome && decide (lkI (startsF es N (es.getD i EvR.d).note) ≤ (es.getD i EvR.d).at_) && !lkB (stopsF es i (es.getD i EvR.d).note) else true)
def evI1 (es : List EvR) (N : Nat) (n m : Int) : Nat → Bool
  | 0 => true
  | i + 1 => evI1 es N n m i && stepI es N n m i
def evP (es : List EvR) (N : Nat) (m : Int) : Bool := decide (N % 2 = 0) && decide (N ≤ 128) && evI1 es N (((N / 2 : Nat) : Int)) m N && (startsN es N == N / 2) && (stopsN es N == N / 2)
/-- the whole numbers of an event are such -/
structure EvW (e : EvR) : Prop where
  a1 : -9223372036854775808 ≤ e.at_
  a2 : e.at_ ≤ 9223372036854775807
  n1 : -9223372036854775808 ≤ e.note
  n2 : e.note ≤ 9223372036854775807
theorem putN_le {f : Int → Option Lit} {z : Int} {n i : Nat} (h : n ≤ i) : putN f z n ≤ i + 1 := by
  unfold putN
  split <;> omega
theorem startsN_le {es : List EvR} {i : Nat} (h : startsN es i ≤ i) : startsN es (i + 1) ≤ i + 1 := by
  unfold startsN
  split
  · exact putN_le h
  · omega
theorem stopsN_le {es : List EvR} {i : Nat} (h : stopsN es i ≤ i) : stopsN es (i + 1) ≤ i + 1 := by
  unfold stopsN
  split
  · exact putN_le h
  · omega
theorem first_stay {es : List EvR} {z : Int} {a : Int} {i n : Nat} (h : firstF es z i = some a) (hi : i ≤ n) : firstF es z n = some a := by
  induction n with
  | zero =>
    obtain rfl : i = 0 := by omega
    exact h
  | succ n ih =>
    rcases Nat.lt_or_eq_of_le hi with h1 | h1
    · unfold firstF; rw [ih (by omega)]
    · subst h1; exact h
theorem firstI_at {es : List EvR} {z : Int} {i n : Nat} (hi : i < n) (h : firstF es z i = none) (hk : (es.getD i EvR.d).kind = 2 ∧ (es.getD i EvR.d).note = z) : firstI es z n = (es.getD i EvR.d).at_ := by
  have e : firstF es z (i + 1) = some (es.getD i EvR.d).at_ := by
    unfold firstF; rw [h]; exact if_pos hk
  unfold firstI
  rw [first_stay e hi]; rfl
/-- tunings -/
def tunL (ds : List Nat) (oc : Nat) : Nat → Bool
  | 0 => true
  | i + 1 => tunL ds oc i && (fLt .f32 (ds.getD i 0) oc && (if 0 < i then fGt .f32 (ds.getD i 0) (ds.getD (i - 1) 0) else true))
def tunF (ba oc : Nat) (ds : List Nat) (n : Nat) : Bool := (fGe .f32 ba 1065353216 && fLe .f32 ba 1184645120) && (fGe .f32 oc 1065353216 && fLe .f32 oc 1167458304) && vIn ((n : Nat) : Int) (1 : Int) (31 : Int) && (cn .f32 (ds.getD 0 0) == 0) && tunL ds oc n
theorem tunL_out {ds : List Nat} {oc i n : Nat} (hi : i < n) (h : (fLt .f32 (ds.getD i 0) oc && (if 0 < i then fGt .f32 (ds.getD i 0) (ds.getD (i - 1) 0) else true)) = false) : tunL ds oc n = false := by
  induction n with
  | zero => omega
  | succ n ih =>
    unfold tunL
    rcases Nat.lt_or_eq_of_le (Nat.le_of_lt_succ hi) with h1 | h1
    · rw [ih h1]; rfl
    · subst h1; rw [h, Bool.and_false]
/-- instruments -/
def nameN (es : List InR) (nm : ByteArray) : Nat → Bool
  | 0 => false
  | i + 1 => nameN es nm i || sEq (es.getD i InR.d).name nm
def insL (es : List InR) : Nat → Bool
  | 0 => true
  | i + 1 => insL es i && (instF (es.getD i InR.d).name (es.getD i InR.d).kind (es.getD i InR.d).a (es.getD i InR.d).b (es.getD i InR.d).c && !nameN es (es.getD i InR.d).name i)
def insF (es : List InR) (n : Nat) : Bool := decide (n ≤ 6) && insL es n
theorem insL_out {es : List InR} {i n : Nat} (hi : i < n) (h : (instF (es.getD i InR.d).name (es.getD i InR.d).kind (es.getD i InR.d).a (es.getD i InR.d).b (es.getD i InR.d).c && !nameN es (es.getD i InR.d).name i) = false) : insL es n = false := by
  induction n with
  | zero => omega
  | succ n ih =>
    unfold insL
    rcases Nat.lt_or_eq_of_le (Nat.le_of_lt_succ hi) with h1 | h1
    · rw [ih h1]; rfl
    · subst h1; rw [h, Bool.and_false]
theorem nameN_in {es : List InR} {nm : ByteArray} {i n : Nat} (hi : i < n) (h : sEq (es.getD i InR.d).name nm = true) : nameN es nm n = true := by
  induction n with
  | zero => omega
  | succ n ih =>
    unfold nameN
    rcases Nat.lt_or_eq_of_le (Nat.le_of_lt_succ hi) with h1 | h1
    · rw [ih h1]; rfl
    · subst h1; rw [h, Bool.or_true]

set_option maxRecDepth 100000 in
set_option maxHeartbeats 2000000 in
theorem c_isNaNI (a : Int) (w : World) : Cl Tryd.prog 103 #[vI a] w fun v w' => v = .bool false ∧ w = w' := by
  refine Cl.of Tryd.func103 Tryd.ntmps103 rfl rfl (ρ := [(0, vI a)]) rfl ?_
  refine CE.seq ?_
  refine CE.region ?_
  refine WL.det (op_assign rfl) rfl rfl rfl ?_
  refine WL.end ?_
  refine NE.code ?_
  refine CE.seq ?_
  refine CE.region ?_
  refine WL.det (op_move rfl) rfl rfl rfl ?_
  refine WL.det (op_move rfl) rfl rfl rfl ?_
  refine WL.det (op_nei_f rfl rfl rfl) rfl rfl rfl ?_
  refine WL.det (op_assign rfl) rfl rfl rfl ?_
  refine WL.end ?_
  refine NE.code ?_
  refine CE.ret' ?_
  refine XE.leave1 Tryd.results103 rfl ?_
  refine ⟨rfl, rfl⟩

set_option maxRecDepth 100000 in
set_option maxHeartbeats 2000000 in
theorem c_cmpI (a : Int) (b : Int) (w : World) : Cl Tryd.prog 96 #[vI a, vI b] w fun v w' => v = vI (cmpI a b) ∧ Mod [] w w' := by
  refine Cl.of Tryd.func96 Tryd.ntmps96 rfl rfl (ρ := [(0, vI a), (1, vI b)]) rfl ?_
  refine CE.seq ?_
  refine CE.region ?_
  refine WL.det (op_assign rfl) rfl rfl rfl ?_
  refine WL.end ?_
  refine NE.code ?_
  refine CE.seq ?_
  refine CE.region ?_
  refine WL.det (op_move rfl) rfl rfl rfl ?_
  refine WL.call (oc_call (vs := [vI a]) (cap := []) rfl rfl rfl Tryd.call103 (c_isNaNI a w)) rfl rfl (ltb rfl) ?_
  rintro _ _ ⟨rfl, rfl⟩
  refine WL.det (op_assign rfl) rfl rfl rfl ?_
  refine WL.end ?_
  refine NE.code ?_
  refine CE.seq ?_
  refine CE.region ?_
  refine WL.det (op_move rfl) rfl rfl rfl ?_
  refine WL.call (oc_call (vs := [vI b]) (cap := []) rfl rfl rfl Tryd.call103 (c_isNaNI b w)) rfl rfl (ltb rfl) ?_
  rintro _ _ ⟨rfl, rfl⟩
  refine WL.det (op_assign rfl) rfl rfl rfl ?_
  refine WL.end ?_
  refine NE.code ?_
  refine CE.seq ?_
  refine CE.seq ?_
  refine CE.region ?_
  refine WL.det (op_move rfl) rfl rfl rfl ?_
  refine WL.end ?_
  refine NE.code ?_
  refine CE.cond_f rfl rfl ?_
  refine CE.skip' ?_
  refine NE.code ?_
  refine CE.seq ?_
  refine CE.seq ?_
  refine CE.region ?_
  refine WL.det (op_move rfl) rfl rfl rfl ?_
  refine WL.end ?_
  refine NE.code ?_
  refine CE.cond_f rfl rfl ?_
  refine CE.skip' ?_
  refine NE.code ?_
  refine CE.seq ?_
  refine CE.seq ?_
  refine CE.region ?_
  refine WL.det (op_move rfl) rfl rfl rfl ?_
  refine WL.det (op_move rfl) rfl rfl rfl ?_
  refine WL.det (op_lti rfl rfl) rfl rfl rfl ?_
  refine WL.end ?_
  refine NE.code ?_
  rcases Bool.eq_false_or_eq_true (decide (a < b)) with hb1 | hb1
  · have hp1 := of_decide_eq_true hb1
    refine CE.cond_t rfl hb1 ?_
    refine CE.seq ?_
    refine CE.region ?_
    refine WL.det (op_assign rfl) rfl rfl rfl ?_
    refine WL.end ?_
    refine NE.code ?_
    refine CE.ret' ?_
    refine XE.ret_then ?_
    refine XE.leave1 Tryd.results96 rfl ?_
    refine ⟨?_, (Mod.refl [] w)⟩
    all_goals (unfold cmpI; first | rw [if_pos (by assumption)] | rw [if_neg (by omega), if_pos (by omega)] | rw [if_neg (by omega), if_neg (by omega)])
  · have hp1 := of_decide_eq_false hb1
    refine CE.cond_f rfl hb1 ?_
    refine CE.skip' ?_
    refine NE.code ?_
    refine CE.seq ?_
    refine CE.seq ?_
    refine CE.region ?_
    refine WL.det (op_move rfl) rfl rfl rfl ?_
    refine WL.det (op_move rfl) rfl rfl rfl ?_
    refine WL.det (op_gti rfl rfl) rfl rfl rfl ?_
    refine WL.end ?_
    refine NE.code ?_
    rcases Bool.eq_false_or_eq_true (decide (b < a)) with hb2 | hb2
    · have hp2 := of_decide_eq_true hb2
      refine CE.cond_t rfl hb2 ?_
      refine CE.seq ?_
      refine CE.region ?_
      refine WL.det (op_assign rfl) rfl rfl rfl ?_
      refine WL.end ?_
      refine NE.code ?_
      refine CE.ret' ?_
      refine XE.ret_then ?_
      refine XE.leave1 Tryd.results96 rfl ?_
      refine ⟨?_, (Mod.refl [] w)⟩
      all_goals (unfold cmpI; first | rw [if_pos (by assumption)] | rw [if_neg (by omega), if_pos (by omega)] | rw [if_neg (by omega), if_neg (by omega)])
    · have hp2 := of_decide_eq_false hb2
      refine CE.cond_f rfl hb2 ?_
      refine CE.skip' ?_
      refine NE.code ?_
      refine CE.seq ?_
      refine CE.region ?_
      refine WL.det (op_assign rfl) rfl rfl rfl ?_
      refine WL.end ?_
      refine NE.code ?_
      refine CE.ret' ?_
      refine XE.leave1 Tryd.results96 rfl ?_
      refine ⟨?_, (Mod.refl [] w)⟩
      all_goals (unfold cmpI; first | rw [if_pos (by assumption)] | rw [if_neg (by omega), if_pos (by omega)] | rw [if_neg (by omega), if_neg (by omega)])

set_option maxRecDepth 100000 in
set_option maxHeartbeats 2000000 in
theorem c_cmp4 (a0 : Int) (a1 : Int) (a2 : Int) (a3 : Int) (b0 : Int) (b1 : Int) (b2 : Int) (b3 : Int) (c : Nat) (b : Nat) (c' : Nat) (b' : Nat) (w : World) (r : Rng w b 0 [vI a0, vI a1, vI a2, vI a3]) (r' : Rng w b' 0 [vI b0, vI b1, vI b2, vI b3]) : Cl Tryd.prog 74 #[vS b 0 4 c, vS b' 0 4 c'] w fun v w' => v = vI (cmp4 a0 a1 a2 a3 b0 b1 b2 b3) ∧ Mod [] w w' := by
  refine Cl.of Tryd.func74 Tryd.ntmps74 rfl rfl (ρ := [(0, vS b 0 4 c), (1, vS b' 0 4 c')]) rfl ?_
  refine CE.seq ?_
  refine CE.region ?_
  refine WL.det (op_assign rfl) rfl rfl rfl ?_
  refine WL.end ?_
  refine NE.code ?_
  refine CE.seq ?_
  refine CE.seq ?_
  refine CE.region ?_
  refine WL.det (op_move rfl) rfl rfl rfl ?_
  refine WL.det (op_len rfl Tryd.runUnderlying104) rfl rfl rfl ?_
  refine WL.det (op_move rfl) rfl rfl rfl ?_
  refine WL.end ?_
  refine NE.code ?_
  refine CE.block ?_
  refine CE.rounds 5 ?_
  refine RN.one ?_
  refine CE.seq ?_
  refine CE.region ?_
  refine WL.det (op_lti rfl rfl) rfl rfl rfl ?_
  refine WL.end ?_
  refine NE.code ?_
  refine CE.seq ?_
  refine CE.cond_t rfl rfl ?_
  refine CE.skip' ?_
  refine NE.code ?_
  refine CE.seq ?_
  refine CE.block ?_
  refine CE.seq ?_
  refine CE.region ?_
  refine WL.det (op_move rfl) rfl rfl rfl ?_
  refine WL.det (op_indexSl (off' := 0) rfl rfl rfl Tryd.runUnderlying104 Tryd.sizeOf2 (by omega) (by omega) rfl) rfl rfl rfl ?_
  refine WL.det (op_load1 (i := 0) rfl Tryd.isAgg2 r rfl rfl) rfl rfl rfl ?_
  refine WL.det (op_assign rfl) rfl rfl rfl ?_
  refine WL.det (op_assign rfl) rfl rfl rfl ?_
  refine WL.end ?_
  refine NE.code ?_
  refine CE.seq ?_
  refine CE.seq ?_
  refine CE.region ?_
  refine WL.det (op_move rfl) rfl rfl rfl ?_
  refine WL.det (op_move rfl) rfl rfl rfl ?_
  refine WL.det (op_len rfl Tryd.runUnderlying104) rfl rfl rfl ?_
  refine WL.det (op_gei rfl rfl) rfl rfl rfl ?_
  refine WL.end ?_
  refine NE.code ?_
  refine CE.cond_f rfl rfl ?_
  refine CE.skip' ?_
  refine NE.code ?_
  refine CE.seq ?_
  refine CE.region ?_
  refine WL.det (op_move rfl) rfl rfl rfl ?_
  refine WL.det (op_move rfl) rfl rfl rfl ?_
  refine WL.det (op_indexSl (off' := 0) rfl rfl rfl Tryd.runUnderlying104 Tryd.sizeOf2 (by omega) (by omega) rfl) rfl rfl rfl ?_
  refine WL.det (op_load1 (i := 0) rfl Tryd.isAgg2 r' rfl rfl) rfl rfl rfl ?_
  refine WL.det (op_assign rfl) rfl rfl rfl ?_
  refine WL.end ?_
  refine NE.code ?_
  refine CE.seq ?_
  refine CE.region ?_
  refine WL.det (op_move rfl) rfl rfl rfl ?_
  refine WL.det (op_move rfl) rfl rfl rfl ?_
  refine WL.call (oc_call (vs := [vI a0, vI b0]) (cap := []) rfl rfl rfl Tryd.call96 (c_cmpI a0 b0 w)) rfl rfl (ltb rfl) ?_
  rintro _ w1 ⟨rfl, m1⟩
  refine WL.det (op_assign rfl) rfl rfl rfl ?_
  refine WL.end ?_
  refine NE.code ?_
  refine CE.seq ?_
  refine CE.region ?_
  refine WL.det (op_move rfl) rfl rfl rfl ?_
  refine WL.det (op_nei rfl rfl) rfl rfl rfl ?_
  refine WL.end ?_
  refine NE.code ?_
  rcases Bool.eq_false_or_eq_true (((cmpI a0 b0) != (0 : Int))) with hb1 | hb1
  · have hp1 := bne_iff_ne.1 hb1
    refine CE.cond_t rfl hb1 ?_
    refine CE.seq ?_
    refine CE.region ?_
    refine WL.det (op_move rfl) rfl rfl rfl ?_
    refine WL.det (op_assign rfl) rfl rfl rfl ?_
    refine WL.end ?_
    refine NE.code ?_
    refine CE.ret' ?_
    refine XE.ret_blk ?_
    refine XE.ret_then ?_
    refine XE.ret_then ?_
    refine XE.ret_blk ?_
    refine XE.ret_then ?_
    refine XE.leave1 Tryd.results74 rfl ?_
    refine ⟨?_, ((Mod.refl [] w).nt m1)⟩
    all_goals simp_all [cmp4]
  · have hp1 := bne_eq_false_iff_eq.1 hb1
    refine CE.cond_f rfl hb1 ?_
    refine CE.skip' ?_
    refine NE.blk ?_
    refine NE.code ?_
    refine CE.region ?_
    refine WL.det (op_add (r := 1) rfl rfl (by decide)) rfl rfl rfl ?_
    refine WL.det (op_move rfl) rfl rfl rfl ?_
    refine WL.end ?_
    refine NE.round ?_
    refine RN.one ?_
    refine CE.seq ?_
    refine CE.region ?_
    refine WL.det (op_lti rfl rfl) rfl rfl rfl ?_
    refine WL.end ?_
    refine NE.code ?_
    refine CE.seq ?_
    refine CE.cond_t rfl rfl ?_
    refine CE.skip' ?_
    refine NE.code ?_
    refine CE.seq ?_
    refine CE.block ?_
    refine CE.seq ?_
    refine CE.region ?_
    refine WL.det (op_move rfl) rfl rfl rfl ?_
    refine WL.det (op_indexSl (off' := 1) rfl rfl rfl Tryd.runUnderlying104 Tryd.sizeOf2 (by omega) (by omega) rfl) rfl rfl rfl ?_
    refine WL.det (op_load1 (i := 1) rfl Tryd.isAgg2 (r.ext m1) rfl rfl) rfl rfl rfl ?_
    refine WL.det (op_assign rfl) rfl rfl rfl ?_
    refine WL.det (op_assign rfl) rfl rfl rfl ?_
    refine WL.end ?_
    refine NE.code ?_
    refine CE.seq ?_
    refine CE.seq ?_
    refine CE.region ?_
    refine WL.det (op_move rfl) rfl rfl rfl ?_
    refine WL.det (op_move rfl) rfl rfl rfl ?_
    refine WL.det (op_len rfl Tryd.runUnderlying104) rfl rfl rfl ?_
    refine WL.det (op_gei rfl rfl) rfl rfl rfl ?_
    refine WL.end ?_
    refine NE.code ?_
    refine CE.cond_f rfl rfl ?_
    refine CE.skip' ?_
    refine NE.code ?_
    refine CE.seq ?_
    refine CE.region ?_
    refine WL.det (op_move rfl) rfl rfl rfl ?_
    refine WL.det (op_move rfl) rfl rfl rfl ?_
    refine WL.det (op_indexSl (off' := 1) rfl rfl rfl Tryd.runUnderlying104 Tryd.sizeOf2 (by omega) (by omega) rfl) rfl rfl rfl ?_
    refine WL.det (op_load1 (i := 1) rfl Tryd.isAgg2 (r'.ext m1) rfl rfl) rfl rfl rfl ?_
    refine WL.det (op_assign rfl) rfl rfl rfl ?_
    refine WL.end ?_
    refine NE.code ?_
    refine CE.seq ?_
    refine CE.region ?_
    refine WL.det (op_move rfl) rfl rfl rfl ?_
    refine WL.det (op_move rfl) rfl rfl rfl ?_
    refine WL.call (oc_call (vs := [vI a1, vI b1]) (cap := []) rfl rfl rfl Tryd.call96 (c_cmpI a1 b1 w1)) rfl rfl (ltb rfl) ?_
    rintro _ w2 ⟨rfl, m2⟩
    refine WL.det (op_assign rfl) rfl rfl rfl ?_
    refine WL.end ?_
    refine NE.code ?_
    refine CE.seq ?_
    refine CE.region ?_
    refine WL.det (op_move rfl) rfl rfl rfl ?_
    refine WL.det (op_nei rfl rfl) rfl rfl rfl ?_
    refine WL.end ?_
    refine NE.code ?_
    rcases Bool.eq_false_or_eq_true (((cmpI a1 b1) != (0 : Int))) with hb2 | hb2
    · have hp2 := bne_iff_ne.1 hb2
      refine CE.cond_t rfl hb2 ?_
      refine CE.seq ?_
      refine CE.region ?_
      refine WL.det (op_move rfl) rfl rfl rfl ?_
      refine WL.det (op_assign rfl) rfl rfl rfl ?_
      refine WL.end ?_
      refine NE.code ?_
      refine CE.ret' ?_
      refine XE.ret_blk ?_
      refine XE.ret_then ?_
      refine XE.ret_then ?_
      refine XE.ret_blk ?_
      refine XE.ret_then ?_
      refine XE.leave1 Tryd.results74 rfl ?_
      refine ⟨?_, (((Mod.refl [] w).nt m1).nt m2)⟩
      all_goals simp_all [cmp4]
    · have hp2 := bne_eq_false_iff_eq.1 hb2
      refine CE.cond_f rfl hb2 ?_
      refine CE.skip' ?_
      refine NE.blk ?_
      refine NE.code ?_
      refine CE.region ?_
      refine WL.det (op_add (r := 2) rfl rfl (by decide)) rfl rfl rfl ?_
      refine WL.det (op_move rfl) rfl rfl rfl ?_
      refine WL.end ?_
      refine NE.round ?_
      refine RN.one ?_
      refine CE.seq ?_
      refine CE.region ?_
      refine WL.det (op_lti rfl rfl) rfl rfl rfl ?_
      refine WL.end ?_
      refine NE.code ?_
      refine CE.seq ?_
      refine CE.cond_t rfl rfl ?_
      refine CE.skip' ?_
      refine NE.code ?_
      refine CE.seq ?_
      refine CE.block ?_
      refine CE.seq ?_
      refine CE.region ?_
      refine WL.det (op_move rfl) rfl rfl rfl ?_
      refine WL.det (op_indexSl (off' := 2) rfl rfl rfl Tryd.runUnderlying104 Tryd.sizeOf2 (by omega) (by omega) rfl) rfl rfl rfl ?_
      refine WL.det (op_load1 (i := 2) rfl Tryd.isAgg2 ((r.ext m1).ext m2) rfl rfl) rfl rfl rfl ?_
      refine WL.det (op_assign rfl) rfl rfl rfl ?_
      refine WL.det (op_assign rfl) rfl rfl rfl ?_
      refine WL.end ?_
      refine NE.code ?_
      refine CE.seq ?_
      refine CE.seq ?_
      refine CE.region ?_
      refine WL.det (op_move rfl) rfl rfl rfl ?_
      refine WL.det (op_move rfl) rfl rfl rfl ?_
      refine WL.det (op_len rfl Tryd.runUnderlying104) rfl rfl rfl ?_
      refine WL.det (op_gei rfl rfl) rfl rfl rfl ?_
      refine WL.end ?_
      refine NE.code ?_
      refine CE.cond_f rfl rfl ?_
      refine CE.skip' ?_
      refine NE.code ?_
      refine CE.seq ?_
      refine CE.region ?_
      refine WL.det (op_move rfl) rfl rfl rfl ?_
      refine WL.det (op_move rfl) rfl rfl rfl ?_
      refine WL.det (op_indexSl (off' := 2) rfl rfl rfl Tryd.runUnderlying104 Tryd.sizeOf2 (by omega) (by omega) rfl) rfl rfl rfl ?_
      refine WL.det (op_load1 (i := 2) rfl Tryd.isAgg2 ((r'.ext m1).ext m2) rfl rfl) rfl rfl rfl ?_
      refine WL.det (op_assign rfl) rfl rfl rfl ?_
      refine WL.end ?_
      refine NE.code ?_
      refine CE.seq ?_
      refine CE.region ?_
      refine WL.det (op_move rfl) rfl rfl rfl ?_
      refine WL.det (op_move rfl) rfl rfl rfl ?_
      refine WL.call (oc_call (vs := [vI a2, vI b2]) (cap := []) rfl rfl rfl Tryd.call96 (c_cmpI a2 b2 w2)) rfl rfl (ltb rfl) ?_
      rintro _ w3 ⟨rfl, m3⟩
      refine WL.det (op_assign rfl) rfl rfl rfl ?_
      refine WL.end ?_
      refine NE.code ?_
      refine CE.seq ?_
      refine CE.region ?_
      refine WL.det (op_move rfl) rfl rfl rfl ?_
      refine WL.det (op_nei rfl rfl) rfl rfl rfl ?_
      refine WL.end ?_
      refine NE.code ?_
      rcases Bool.eq_false_or_eq_true (((cmpI a2 b2) != (0 : Int))) with hb3 | hb3
      · have hp3 := bne_iff_ne.1 hb3
        refine CE.cond_t rfl hb3 ?_
        refine CE.seq ?_
        refine CE.region ?_
        refine WL.det (op_move rfl) rfl rfl rfl ?_
        refine WL.det (op_assign rfl) rfl rfl rfl ?_
        refine WL.end ?_
        refine NE.code ?_
        refine CE.ret' ?_
        refine XE.ret_blk ?_
        refine XE.ret_then ?_
        refine XE.ret_then ?_
        refine XE.ret_blk ?_
        refine XE.ret_then ?_
        refine XE.leave1 Tryd.results74 rfl ?_
        refine ⟨?_, ((((Mod.refl [] w).nt m1).nt m2).nt m3)⟩
        all_goals simp_all [cmp4]
      · have hp3 := bne_eq_false_iff_eq.1 hb3
        refine CE.cond_f rfl hb3 ?_
        refine CE.skip' ?_
        refine NE.blk ?_
        refine NE.code ?_
        refine CE.region ?_
        refine WL.det (op_add (r := 3) rfl rfl (by decide)) rfl rfl rfl ?_
        refine WL.det (op_move rfl) rfl rfl rfl ?_
        refine WL.end ?_
        refine NE.round ?_
        refine RN.one ?_
        refine CE.seq ?_
        refine CE.region ?_
        refine WL.det (op_lti rfl rfl) rfl rfl rfl ?_
        refine WL.end ?_
        refine NE.code ?_
        refine CE.seq ?_
        refine CE.cond_t rfl rfl ?_
        refine CE.skip' ?_
        refine NE.code ?_
        refine CE.seq ?_
        refine CE.block ?_
        refine CE.seq ?_
        refine CE.region ?_
        refine WL.det (op_move rfl) rfl rfl rfl ?_
        refine WL.det (op_indexSl (off' := 3) rfl rfl rfl Tryd.runUnderlying104 Tryd.sizeOf2 (by omega) (by omega) rfl) rfl rfl rfl ?_
        refine WL.det (op_load1 (i := 3) rfl Tryd.isAgg2 (((r.ext m1).ext m2).ext m3) rfl rfl) rfl rfl rfl ?_
        refine WL.det (op_assign rfl) rfl rfl rfl ?_
        refine WL.det (op_assign rfl) rfl rfl rfl ?_
        refine WL.end ?_
        refine NE.code ?_
        refine CE.seq ?_
        refine CE.seq ?_
        refine CE.region ?_
        refine WL.det (op_move rfl) rfl rfl rfl ?_
        refine WL.det (op_move rfl) rfl rfl rfl ?_
        refine WL.det (op_len rfl Tryd.runUnderlying104) rfl rfl rfl ?_
        refine WL.det (op_gei rfl rfl) rfl rfl rfl ?_
        refine WL.end ?_
        refine NE.code ?_
        refine CE.cond_f rfl rfl ?_
        refine CE.skip' ?_
        refine NE.code ?_
        refine CE.seq ?_
        refine CE.region ?_
        refine WL.det (op_move rfl) rfl rfl rfl ?_
        refine WL.det (op_move rfl) rfl rfl rfl ?_
        refine WL.det (op_indexSl (off' := 3) rfl rfl rfl Tryd.runUnderlying104 Tryd.sizeOf2 (by omega) (by omega) rfl) rfl rfl rfl ?_
        refine WL.det (op_load1 (i := 3) rfl Tryd.isAgg2 (((r'.ext m1).ext m2).ext m3) rfl rfl) rfl rfl rfl ?_
        refine WL.det (op_assign rfl) rfl rfl rfl ?_
        refine WL.end ?_
        refine NE.code ?_
        refine CE.seq ?_
        refine CE.region ?_
        refine WL.det (op_move rfl) rfl rfl rfl ?_
        refine WL.det (op_move rfl) rfl rfl rfl ?_
        refine WL.call (oc_call (vs := [vI a3, vI b3]) (cap := []) rfl rfl rfl Tryd.call96 (c_cmpI a3 b3 w3)) rfl rfl (ltb rfl) ?_
        rintro _ w4 ⟨rfl, m4⟩
        refine WL.det (op_assign rfl) rfl rfl rfl ?_
        refine WL.end ?_
        refine NE.code ?_
        refine CE.seq ?_
        refine CE.region ?_
        refine WL.det (op_move rfl) rfl rfl rfl ?_
        refine WL.det (op_nei rfl rfl) rfl rfl rfl ?_
        refine WL.end ?_
        refine NE.code ?_
        rcases Bool.eq_false_or_eq_true (((cmpI a3 b3) != (0 : Int))) with hb4 | hb4
        · have hp4 := bne_iff_ne.1 hb4
          refine CE.cond_t rfl hb4 ?_
          refine CE.seq ?_
          refine CE.region ?_
          refine WL.det (op_move rfl) rfl rfl rfl ?_
          refine WL.det (op_assign rfl) rfl rfl rfl ?_
          refine WL.end ?_
          refine NE.code ?_
          refine CE.ret' ?_
          refine XE.ret_blk ?_
          refine XE.ret_then ?_
          refine XE.ret_then ?_
          refine XE.ret_blk ?_
          refine XE.ret_then ?_
          refine XE.leave1 Tryd.results74 rfl ?_
          refine ⟨?_, (((((Mod.refl [] w).nt m1).nt m2).nt m3).nt m4)⟩
          all_goals simp_all [cmp4]
        · have hp4 := bne_eq_false_iff_eq.1 hb4
          refine CE.cond_f rfl hb4 ?_
          refine CE.skip' ?_
          refine NE.blk ?_
          refine NE.code ?_
          refine CE.region ?_
          refine WL.det (op_add (r := 4) rfl rfl (by decide)) rfl rfl rfl ?_
          refine WL.det (op_move rfl) rfl rfl rfl ?_
          refine WL.end ?_
          refine NE.round ?_
          refine RN.one ?_
          refine CE.seq ?_
          refine CE.region ?_
          refine WL.det (op_lti rfl rfl) rfl rfl rfl ?_
          refine WL.end ?_
          refine NE.code ?_
          refine CE.seq ?_
          refine CE.cond_f rfl rfl ?_
          refine CE.exit' ?_
          refine XE.exit_then ?_
          refine XE.exit_then ?_
          refine XE.exit_here ?_
          refine NE.code ?_
          refine CE.seq ?_
          refine CE.seq ?_
          refine CE.region ?_
          refine WL.det (op_move rfl) rfl rfl rfl ?_
          refine WL.det (op_len rfl Tryd.runUnderlying104) rfl rfl rfl ?_
          refine WL.det (op_move rfl) rfl rfl rfl ?_
          refine WL.det (op_len rfl Tryd.runUnderlying104) rfl rfl rfl ?_
          refine WL.det (op_lti rfl rfl) rfl rfl rfl ?_
          refine WL.end ?_
          refine NE.code ?_
          refine CE.cond_f rfl rfl ?_
          refine CE.skip' ?_
          refine NE.code ?_
          refine CE.seq ?_
          refine CE.region ?_
          refine WL.det (op_assign rfl) rfl rfl rfl ?_
          refine WL.end ?_
          refine NE.code ?_
          refine CE.ret' ?_
          refine XE.leave1 Tryd.results74 rfl ?_
          refine ⟨?_, (((((Mod.refl [] w).nt m1).nt m2).nt m3).nt m4)⟩
          all_goals simp_all [cmp4]

set_option maxRecDepth 100000 in
set_option maxHeartbeats 2000000 in
theorem c_l08Less (a0 : Int) (a1 : Int) (a2 : Int) (a3 : Int) (b0 : Int) (b1 : Int) (b2 : Int) (b3 : Int) (w : World) : Cl Tryd.prog 92 #[.agg #[vI a0, vI a1, vI a2, vI a3], .agg #[vI b0, vI b1, vI b2, vI b3]] w fun v w' => v = .bool (less4 a0 a1 a2 a3 b0 b1 b2 b3) ∧ Mod [] w w' := by
  refine Cl.of Tryd.func92 Tryd.ntmps92 rfl rfl (ρ := [(0, .agg #[vI a0, vI a1, vI a2, vI a3]), (1, .agg #[vI b0, vI b1, vI b2, vI b3])]) rfl ?_
  refine CE.seq ?_
  refine CE.region ?_
  refine WL.op (op_box (cs := [vI a0, vI a1, vI a2, vI a3]) rfl rfl) rfl rfl (ltb rfl) ?_
  rintro _ w1 ⟨rfl, r1, m1, z1⟩
  refine WL.op (op_box (cs := [vI b0, vI b1, vI b2, vI b3]) rfl rfl) rfl rfl (ltb rfl) ?_
  rintro _ w2 ⟨rfl, r2, m2, z2⟩
  refine WL.det (op_assign rfl) rfl rfl rfl ?_
  refine WL.end ?_
  refine NE.code ?_
  refine CE.seq ?_
  refine CE.seq ?_
  refine CE.region ?_
  refine WL.det (op_assign rfl) rfl rfl rfl ?_
  refine WL.end ?_
  refine NE.code ?_
  refine CE.block ?_
  refine CE.rounds 5 ?_
  refine RN.one ?_
  refine CE.seq ?_
  refine CE.seq ?_
  refine CE.region ?_
  refine WL.det (op_move rfl) rfl rfl rfl ?_
  refine WL.det (op_lti rfl rfl) rfl rfl rfl ?_
  refine WL.end ?_
  refine NE.code ?_
  refine CE.cond_t rfl rfl ?_
  refine CE.skip' ?_
  refine NE.code ?_
  refine CE.seq ?_
  refine CE.block ?_
  refine CE.seq ?_
  refine CE.draw (fun _ => none) [0, 1, 2, 3, 4, 5] [6] [] (by kernel_rfl) (by kernel_rfl) ?_
  have md1 : Mod [] w2 w2.drew := (Mod.refl _ _).drew
  generalize w2.drew = w3 at md1 ⊢
  refine DR.det (i := 0) rfl rfl (by kernel_rfl) (.free rfl) rfl rfl (fun wD mD => op_move rfl) ?_
  refine DR.det (i := 1) rfl rfl (by kernel_rfl) (.free rfl) rfl rfl (fun wD mD => op_indexArr (off' := 0) rfl rfl Tryd.runUnderlying101 Tryd.sizeOf2 (by decide) (by decide) rfl) ?_
  refine DR.det (i := 2) rfl rfl (by kernel_rfl) (.free rfl) rfl rfl (fun wD mD => op_load1 (i := 0) rfl Tryd.isAgg2 (((r1.ext m2).ext md1).ext mD).rng rfl rfl) ?_
  refine DR.det (i := 3) rfl rfl (by kernel_rfl) (.free rfl) rfl rfl (fun wD mD => op_move rfl) ?_
  refine DR.det (i := 4) rfl rfl (by kernel_rfl) (.free rfl) rfl rfl (fun wD mD => op_indexArr (off' := 0) rfl rfl Tryd.runUnderlying101 Tryd.sizeOf2 (by decide) (by decide) rfl) ?_
  refine DR.det (i := 5) rfl rfl (by kernel_rfl) (.free rfl) rfl rfl (fun wD mD => op_load1 (i := 0) rfl Tryd.isAgg2 ((r2.ext md1).ext mD).rng rfl rfl) ?_
  refine DR.done rfl ?_
  intro w4 m3
  refine WO.det (op_nei rfl rfl) rfl (.free rfl) rfl rfl ?_
  refine WO.end ?_
  refine NE.code ?_
  rcases Bool.eq_false_or_eq_true ((a0 != b0)) with hb1 | hb1
  · have hp1 := bne_iff_ne.1 hb1
    refine CE.cond_t rfl hb1 ?_
    refine CE.seq ?_
    refine CE.draw (fun _ => none) [0, 1, 2, 3, 4, 5] [6, 7] [] (by kernel_rfl) (by kernel_rfl) ?_
    have md2 : Mod [] w4 w4.drew := (Mod.refl _ _).drew
    generalize w4.drew = w5 at md2 ⊢
    refine DR.det (i := 0) rfl rfl (by kernel_rfl) (.free rfl) rfl rfl (fun wD mD => op_move rfl) ?_
    refine DR.det (i := 1) rfl rfl (by kernel_rfl) (.free rfl) rfl rfl (fun wD mD => op_indexArr (off' := 0) rfl rfl Tryd.runUnderlying101 Tryd.sizeOf2 (by decide) (by decide) rfl) ?_
    refine DR.det (i := 2) rfl rfl (by kernel_rfl) (.free rfl) rfl rfl (fun wD mD => op_load1 (i := 0) rfl Tryd.isAgg2 (((((r1.ext m2).ext md1).ext m3).ext md2).ext mD).rng rfl rfl) ?_
    refine DR.det (i := 3) rfl rfl (by kernel_rfl) (.free rfl) rfl rfl (fun wD mD => op_move rfl) ?_
    refine DR.det (i := 4) rfl rfl (by kernel_rfl) (.free rfl) rfl rfl (fun wD mD => op_indexArr (off' := 0) rfl rfl Tryd.runUnderlying101 Tryd.sizeOf2 (by decide) (by decide) rfl) ?_
    refine DR.det (i := 5) rfl rfl (by kernel_rfl) (.free rfl) rfl rfl (fun wD mD => op_load1 (i := 0) rfl Tryd.isAgg2 ((((r2.ext md1).ext m3).ext md2).ext mD).rng rfl rfl) ?_
    refine DR.done rfl ?_
    intro w6 m4
    refine WO.det (op_lti rfl rfl) rfl (.free rfl) rfl rfl ?_
    refine WO.det (op_assign rfl) rfl (.free rfl) rfl rfl ?_
    refine WO.end ?_
    refine NE.code ?_
    refine CE.ret' ?_
    refine XE.ret_blk ?_
    refine XE.ret_then ?_
    refine XE.ret_then ?_
    refine XE.ret_blk ?_
    refine XE.ret_then ?_
    refine XE.leave1 Tryd.results92 rfl ?_
    refine ⟨?_, (((((((Mod.refl [] w).nt m1).nt m2).nt md1).nt m3).nt md2).nt m4)⟩
    all_goals simp_all [less4]
  · have hp1 := bne_eq_false_iff_eq.1 hb1
    refine CE.cond_f rfl hb1 ?_
    refine CE.skip' ?_
    refine NE.blk ?_
    refine NE.code ?_
    refine CE.region ?_
    refine WL.det (op_move rfl) rfl rfl rfl ?_
    refine WL.det (op_add (r := 1) rfl rfl (by decide)) rfl rfl rfl ?_
    refine WL.det (op_assign rfl) rfl rfl rfl ?_
    refine WL.end ?_
    refine NE.round ?_
    refine RN.one ?_
    refine CE.seq ?_
    refine CE.seq ?_
    refine CE.region ?_
    refine WL.det (op_move rfl) rfl rfl rfl ?_
    refine WL.det (op_lti rfl rfl) rfl rfl rfl ?_
    refine WL.end ?_
    refine NE.code ?_
    refine CE.cond_t rfl rfl ?_
    refine CE.skip' ?_
    refine NE.code ?_
    refine CE.seq ?_
    refine CE.block ?_
    refine CE.seq ?_
    refine CE.draw (fun _ => none) [0, 1, 2, 3, 4, 5] [6] [] (by kernel_rfl) (by kernel_rfl) ?_
    have md3 : Mod [] w4 w4.drew := (Mod.refl _ _).drew
    generalize w4.drew = w7 at md3 ⊢
    refine DR.det (i := 0) rfl rfl (by kernel_rfl) (.free rfl) rfl rfl (fun wD mD => op_move rfl) ?_
    refine DR.det (i := 1) rfl rfl (by kernel_rfl) (.free rfl) rfl rfl (fun wD mD => op_indexArr (off' := 1) rfl rfl Tryd.runUnderlying101 Tryd.sizeOf2 (by decide) (by decide) rfl) ?_
    refine DR.det (i := 2) rfl rfl (by kernel_rfl) (.free rfl) rfl rfl (fun wD mD => op_load1 (i := 1) rfl Tryd.isAgg2 (((((r1.ext m2).ext md1).ext m3).ext md3).ext mD).rng rfl rfl) ?_
    refine DR.det (i := 3) rfl rfl (by kernel_rfl) (.free rfl) rfl rfl (fun wD mD => op_move rfl) ?_
    refine DR.det (i := 4) rfl rfl (by kernel_rfl) (.free rfl) rfl rfl (fun wD mD => op_indexArr (off' := 1) rfl rfl Tryd.runUnderlying101 Tryd.sizeOf2 (by decide) (by decide) rfl) ?_
    refine DR.det (i := 5) rfl rfl (by kernel_rfl) (.free rfl) rfl rfl (fun wD mD => op_load1 (i := 1) rfl Tryd.isAgg2 ((((r2.ext md1).ext m3).ext md3).ext mD).rng rfl rfl) ?_
    refine DR.done rfl ?_
    intro w8 m5
    refine WO.det (op_nei rfl rfl) rfl (.free rfl) rfl rfl ?_
    refine WO.end ?_
    refine NE.code ?_
    rcases Bool.eq_false_or_eq_true ((a1 != b1)) with hb2 | hb2
    · have hp2 := bne_iff_ne.1 hb2
      refine CE.cond_t rfl hb2 ?_
      refine CE.seq ?_
      refine CE.draw (fun _ => none) [0, 1, 2, 3, 4, 5] [6, 7] [] (by kernel_rfl) (by kernel_rfl) ?_
      have md4 : Mod [] w8 w8.drew := (Mod.refl _ _).drew
      generalize w8.drew = w9 at md4 ⊢
      refine DR.det (i := 0) rfl rfl (by kernel_rfl) (.free rfl) rfl rfl (fun wD mD => op_move rfl) ?_
      refine DR.det (i := 1) rfl rfl (by kernel_rfl) (.free rfl) rfl rfl (fun wD mD => op_indexArr (off' := 1) rfl rfl Tryd.runUnderlying101 Tryd.sizeOf2 (by decide) (by decide) rfl) ?_
      refine DR.det (i := 2) rfl rfl (by kernel_rfl) (.free rfl) rfl rfl (fun wD mD => op_load1 (i := 1) rfl Tryd.isAgg2 (((((((r1.ext m2).ext md1).ext m3).ext md3).ext m5).ext md4).ext mD).rng rfl rfl) ?_
      refine DR.det (i := 3) rfl rfl (by kernel_rfl) (.free rfl) rfl rfl (fun wD mD => op_move rfl) ?_
      refine DR.det (i := 4) rfl rfl (by kernel_rfl) (.free rfl) rfl rfl (fun wD mD => op_indexArr (off' := 1) rfl rfl Tryd.runUnderlying101 Tryd.sizeOf2 (by decide) (by decide) rfl) ?_
      refine DR.det (i := 5) rfl rfl (by kernel_rfl) (.free rfl) rfl rfl (fun wD mD => op_load1 (i := 1) rfl Tryd.isAgg2 ((((((r2.ext md1).ext m3).ext md3).ext m5).ext md4).ext mD).rng rfl rfl) ?_
      refine DR.done rfl ?_
      intro w10 m6
      refine WO.det (op_lti rfl rfl) rfl (.free rfl) rfl rfl ?_
      refine WO.det (op_assign rfl) rfl (.free rfl) rfl rfl ?_
      refine WO.end ?_
      refine NE.code ?_
      refine CE.ret' ?_
      refine XE.ret_blk ?_
      refine XE.ret_then ?_
      refine XE.ret_then ?_
      refine XE.ret_blk ?_
      refine XE.ret_then ?_
      refine XE.leave1 Tryd.results92 rfl ?_
      refine ⟨?_, (((((((((Mod.refl [] w).nt m1).nt m2).nt md1).nt m3).nt md3).nt m5).nt md4).nt m6)⟩
      all_goals simp_all [less4]
    · have hp2 := bne_eq_false_iff_eq.1 hb2
      refine CE.cond_f rfl hb2 ?_
      refine CE.skip' ?_
      refine NE.blk ?_
      refine NE.code ?_
      refine CE.region ?_
      refine WL.det (op_move rfl) rfl rfl rfl ?_
      refine WL.det (op_add (r := 2) rfl rfl (by decide)) rfl rfl rfl ?_
      refine WL.det (op_assign rfl) rfl rfl rfl ?_
      refine WL.end ?_
      refine NE.round ?_
      refine RN.one ?_
      refine CE.seq ?_
      refine CE.seq ?_
      refine CE.region ?_
      refine WL.det (op_move rfl) rfl rfl rfl ?_
      refine WL.det (op_lti rfl rfl) rfl rfl rfl ?_
      refine WL.end ?_
      refine NE.code ?_
      refine CE.cond_t rfl rfl ?_
      refine CE.skip' ?_
      refine NE.code ?_
      refine CE.seq ?_
      refine CE.block ?_
      refine CE.seq ?_
      refine CE.draw (fun _ => none) [0, 1, 2, 3, 4, 5] [6] [] (by kernel_rfl) (by kernel_rfl) ?_
      have md5 : Mod [] w8 w8.drew := (Mod.refl _ _).drew
      generalize w8.drew = w11 at md5 ⊢
      refine DR.det (i := 0) rfl rfl (by kernel_rfl) (.free rfl) rfl rfl (fun wD mD => op_move rfl) ?_
      refine DR.det (i := 1) rfl rfl (by kernel_rfl) (.free rfl) rfl rfl (fun wD mD => op_indexArr (off' := 2) rfl rfl Tryd.runUnderlying101 Tryd.sizeOf2 (by decide) (by decide) rfl) ?_
      refine DR.det (i := 2) rfl rfl (by kernel_rfl) (.free rfl) rfl rfl (fun wD mD => op_load1 (i := 2) rfl Tryd.isAgg2 (((((((r1.ext m2).ext md1).ext m3).ext md3).ext m5).ext md5).ext mD).rng rfl rfl) ?_
      refine DR.det (i := 3) rfl rfl (by kernel_rfl) (.free rfl) rfl rfl (fun wD mD => op_move rfl) ?_
      refine DR.det (i := 4) rfl rfl (by kernel_rfl) (.free rfl) rfl rfl (fun wD mD => op_indexArr (off' := 2) rfl rfl Tryd.runUnderlying101 Tryd.sizeOf2 (by decide) (by decide) rfl) ?_
      refine DR.det (i := 5) rfl rfl (by kernel_rfl) (.free rfl) rfl rfl (fun wD mD => op_load1 (i := 2) rfl Tryd.isAgg2 ((((((r2.ext md1).ext m3).ext md3).ext m5).ext md5).ext mD).rng rfl rfl) ?_
      refine DR.done rfl ?_
      intro w12 m7
      refine WO.det (op_nei rfl rfl) rfl (.free rfl) rfl rfl ?_
      refine WO.end ?_
      refine NE.code ?_
      rcases Bool.eq_false_or_eq_true ((a2 != b2)) with hb3 | hb3
      · have hp3 := bne_iff_ne.1 hb3
        refine CE.cond_t rfl hb3 ?_
        refine CE.seq ?_
        refine CE.draw (fun _ => none) [0, 1, 2, 3, 4, 5] [6, 7] [] (by kernel_rfl) (by kernel_rfl) ?_
        have md6 : Mod [] w12 w12.drew := (Mod.refl _ _).drew
        generalize w12.drew = w13 at md6 ⊢
        refine DR.det (i := 0) rfl rfl (by kernel_rfl) (.free rfl) rfl rfl (fun wD mD => op_move rfl) ?_
        refine DR.det (i := 1) rfl rfl (by kernel_rfl) (.free rfl) rfl rfl (fun wD mD => op_indexArr (off' := 2) rfl rfl Tryd.runUnderlying101 Tryd.sizeOf2 (by decide) (by decide) rfl) ?_
        refine DR.det (i := 2) rfl rfl (by kernel_rfl) (.free rfl) rfl rfl (fun wD mD => op_load1 (i := 2) rfl Tryd.isAgg2 (((((((((r1.ext m2).ext md1).ext m3).ext md3).ext m5).ext md5).ext m7).ext md6).ext mD).rng rfl rfl) ?_
        refine DR.det (i := 3) rfl rfl (by kernel_rfl) (.free rfl) rfl rfl (fun wD mD => op_move rfl) ?_
        refine DR.det (i := 4) rfl rfl (by kernel_rfl) (.free rfl) rfl rfl (fun wD mD => op_indexArr (off' := 2) rfl rfl Tryd.runUnderlying101 Tryd.sizeOf2 (by decide) (by decide) rfl) ?_
        refine DR.det (i := 5) rfl rfl (by kernel_rfl) (.free rfl) rfl rfl (fun wD mD => op_load1 (i := 2) rfl Tryd.isAgg2 ((((((((r2.ext md1).ext m3).ext md3).ext m5).ext md5).ext m7).ext md6).ext mD).rng rfl rfl) ?_
        refine DR.done rfl ?_
        intro w14 m8
        refine WO.det (op_lti rfl rfl) rfl (.free rfl) rfl rfl ?_
        refine WO.det (op_assign rfl) rfl (.free rfl) rfl rfl ?_
        refine WO.end ?_
        refine NE.code ?_
        refine CE.ret' ?_
        refine XE.ret_blk ?_
        refine XE.ret_then ?_
        refine XE.ret_then ?_
        refine XE.ret_blk ?_
        refine XE.ret_then ?_
        refine XE.leave1 Tryd.results92 rfl ?_
        refine ⟨?_, (((((((((((Mod.refl [] w).nt m1).nt m2).nt md1).nt m3).nt md3).nt m5).nt md5).nt m7).nt md6).nt m8)⟩
        all_goals simp_all [less4]
      · have hp3 := bne_eq_false_iff_eq.1 hb3
        refine CE.cond_f rfl hb3 ?_
        refine CE.skip' ?_
        refine NE.blk ?_
        refine NE.code ?_
        refine CE.region ?_
        refine WL.det (op_move rfl) rfl rfl rfl ?_
        refine WL.det (op_add (r := 3) rfl rfl (by decide)) rfl rfl rfl ?_
        refine WL.det (op_assign rfl) rfl rfl rfl ?_
        refine WL.end ?_
        refine NE.round ?_
        refine RN.one ?_
        refine CE.seq ?_
        refine CE.seq ?_
        refine CE.region ?_
        refine WL.det (op_move rfl) rfl rfl rfl ?_
        refine WL.det (op_lti rfl rfl) rfl rfl rfl ?_
        refine WL.end ?_
        refine NE.code ?_
        refine CE.cond_t rfl rfl ?_
        refine CE.skip' ?_
        refine NE.code ?_
        refine CE.seq ?_
        refine CE.block ?_
        refine CE.seq ?_
        refine CE.draw (fun _ => none) [0, 1, 2, 3, 4, 5] [6] [] (by kernel_rfl) (by kernel_rfl) ?_
        have md7 : Mod [] w12 w12.drew := (Mod.refl _ _).drew
        generalize w12.drew = w15 at md7 ⊢
        refine DR.det (i := 0) rfl rfl (by kernel_rfl) (.free rfl) rfl rfl (fun wD mD => op_move rfl) ?_
        refine DR.det (i := 1) rfl rfl (by kernel_rfl) (.free rfl) rfl rfl (fun wD mD => op_indexArr (off' := 3) rfl rfl Tryd.runUnderlying101 Tryd.sizeOf2 (by decide) (by decide) rfl) ?_
        refine DR.det (i := 2) rfl rfl (by kernel_rfl) (.free rfl) rfl rfl (fun wD mD => op_load1 (i := 3) rfl Tryd.isAgg2 (((((((((r1.ext m2).ext md1).ext m3).ext md3).ext m5).ext md5).ext m7).ext md7).ext mD).rng rfl rfl) ?_
        refine DR.det (i := 3) rfl rfl (by kernel_rfl) (.free rfl) rfl rfl (fun wD mD => op_move rfl) ?_
        refine DR.det (i := 4) rfl rfl (by kernel_rfl) (.free rfl) rfl rfl (fun wD mD => op_indexArr (off' := 3) rfl rfl Tryd.runUnderlying101 Tryd.sizeOf2 (by decide) (by decide) rfl) ?_
        refine DR.det (i := 5) rfl rfl (by kernel_rfl) (.free rfl) rfl rfl (fun wD mD => op_load1 (i := 3) rfl Tryd.isAgg2 ((((((((r2.ext md1).ext m3).ext md3).ext m5).ext md5).ext m7).ext md7).ext mD).rng rfl rfl) ?_
        refine DR.done rfl ?_
        intro w16 m9
        refine WO.det (op_nei rfl rfl) rfl (.free rfl) rfl rfl ?_
        refine WO.end ?_
        refine NE.code ?_
        rcases Bool.eq_false_or_eq_true ((a3 != b3)) with hb4 | hb4
        · have hp4 := bne_iff_ne.1 hb4
          refine CE.cond_t rfl hb4 ?_
          refine CE.seq ?_
          refine CE.draw (fun _ => none) [0, 1, 2, 3, 4, 5] [6, 7] [] (by kernel_rfl) (by kernel_rfl) ?_
          have md8 : Mod [] w16 w16.drew := (Mod.refl _ _).drew
          generalize w16.drew = w17 at md8 ⊢
          refine DR.det (i := 0) rfl rfl (by kernel_rfl) (.free rfl) rfl rfl (fun wD mD => op_move rfl) ?_
          refine DR.det (i := 1) rfl rfl (by kernel_rfl) (.free rfl) rfl rfl (fun wD mD => op_indexArr (off' := 3) rfl rfl Tryd.runUnderlying101 Tryd.sizeOf2 (by decide) (by decide) rfl) ?_
          refine DR.det (i := 2) rfl rfl (by kernel_rfl) (.free rfl) rfl rfl (fun wD mD => op_load1 (i := 3) rfl Tryd.isAgg2 (((((((((((r1.ext m2).ext md1).ext m3).ext md3).ext m5).ext md5).ext m7).ext md7).ext m9).ext md8).ext mD).rng rfl rfl) ?_
          refine DR.det (i := 3) rfl rfl (by kernel_rfl) (.free rfl) rfl rfl (fun wD mD => op_move rfl) ?_
          refine DR.det (i := 4) rfl rfl (by kernel_rfl) (.free rfl) rfl rfl (fun wD mD => op_indexArr (off' := 3) rfl rfl Tryd.runUnderlying101 Tryd.sizeOf2 (by decide) (by decide) rfl) ?_
          refine DR.det (i := 5) rfl rfl (by kernel_rfl) (.free rfl) rfl rfl (fun wD mD => op_load1 (i := 3) rfl Tryd.isAgg2 ((((((((((r2.ext md1).ext m3).ext md3).ext m5).ext md5).ext m7).ext md7).ext m9).ext md8).ext mD).rng rfl rfl) ?_
          refine DR.done rfl ?_
          intro w18 m10
          refine WO.det (op_lti rfl rfl) rfl (.free rfl) rfl rfl ?_
          refine WO.det (op_assign rfl) rfl (.free rfl) rfl rfl ?_
          refine WO.end ?_
          refine NE.code ?_
          refine CE.ret' ?_
          refine XE.ret_blk ?_
          refine XE.ret_then ?_
          refine XE.ret_then ?_
          refine XE.ret_blk ?_
          refine XE.ret_then ?_
          refine XE.leave1 Tryd.results92 rfl ?_
          refine ⟨?_, (((((((((((((Mod.refl [] w).nt m1).nt m2).nt md1).nt m3).nt md3).nt m5).nt md5).nt m7).nt md7).nt m9).nt md8).nt m10)⟩
          all_goals simp_all [less4]
        · have hp4 := bne_eq_false_iff_eq.1 hb4
          refine CE.cond_f rfl hb4 ?_
          refine CE.skip' ?_
          refine NE.blk ?_
          refine NE.code ?_
          refine CE.region ?_
          refine WL.det (op_move rfl) rfl rfl rfl ?_
          refine WL.det (op_add (r := 4) rfl rfl (by decide)) rfl rfl rfl ?_
          refine WL.det (op_assign rfl) rfl rfl rfl ?_
          refine WL.end ?_
          refine NE.round ?_
          refine RN.one ?_
          refine CE.seq ?_
          refine CE.seq ?_
          refine CE.region ?_
          refine WL.det (op_move rfl) rfl rfl rfl ?_
          refine WL.det (op_lti rfl rfl) rfl rfl rfl ?_
          refine WL.end ?_
          refine NE.code ?_
          refine CE.cond_f rfl rfl ?_
          refine CE.exit' ?_
          refine XE.exit_then ?_
          refine XE.exit_then ?_
          refine XE.exit_here ?_
          refine NE.code ?_
          refine CE.seq ?_
          refine CE.region ?_
          refine WL.det (op_assign rfl) rfl rfl rfl ?_
          refine WL.end ?_
          refine NE.code ?_
          refine CE.ret' ?_
          refine XE.leave1 Tryd.results92 rfl ?_
          refine ⟨?_, (((((((((((Mod.refl [] w).nt m1).nt m2).nt md1).nt m3).nt md3).nt m5).nt md5).nt m7).nt md7).nt m9)⟩
          all_goals simp_all [less4]

set_option maxRecDepth 100000 in
set_option maxHeartbeats 2000000 in
theorem c_order (ea : Int) (ek : Int) (en : Int) (ei : Int) (ey : Int) (ef : Nat) (b : Nat) (f : Int → Option Lit) (sz : Nat) (w1 : -9223372036854775808 ≤ en) (w2 : en ≤ 9223372036854775807) (w : World) (r : MapR w b 0 (⟨Tryd.prog, 2, 2, f, sz⟩)) : Cl Tryd.prog 73 #[.agg #[vI ea, vI ek, vI en, vI ei, vI ey, vF ef], .map (some b)] w fun v w' => v = .agg #[vI ea, vI (lateI (f en) ea ek), vI en, vI (stopK ek)] ∧ Mod [] w w' := by
  refine Cl.of Tryd.func73 Tryd.ntmps73 rfl rfl (ρ := [(0, .agg #[vI ea, vI ek, vI en, vI ei, vI ey, vF ef]), (1, .map (some b))]) rfl ?_
  refine CE.seq ?_
  refine CE.region ?_
  refine WL.op (op_box (cs := [vI ea, vI ek, vI en, vI ei, vI ey, vF ef]) rfl rfl) rfl rfl (ltb rfl) ?_
  rintro _ w1 ⟨rfl, r1, m1, z1⟩
  refine WL.op (op_alloc (cs := [vI 0, vI 0, vI 0, vI 0]) Tryd.zeroValue101 rfl) rfl rfl (ltb rfl) ?_
  rintro _ w2 ⟨rfl, r2, m2, z2⟩
  refine WL.end ?_
  refine NE.code ?_
  refine CE.seq ?_
  refine CE.region ?_
  refine WL.det (op_assign rfl) rfl rfl rfl ?_
  refine WL.det (op_assign rfl) rfl rfl rfl ?_
  refine WL.end ?_
  refine NE.code ?_
  refine CE.seq ?_
  refine CE.seq ?_
  refine CE.region ?_
  refine WL.det (op_fieldAddr (off' := 1) rfl Tryd.runUnderlying72 rfl rfl Tryd.sizeOf2 rfl) rfl rfl rfl ?_
  refine WL.det (op_load1 (i := 1) rfl Tryd.isAgg2 (r1.ext m2).rng rfl rfl) rfl rfl rfl ?_
  refine WL.det (op_eqi rfl rfl) rfl rfl rfl ?_
  refine WL.end ?_
  refine NE.code ?_
  rcases Bool.eq_false_or_eq_true ((ek == (1 : Int))) with hb1 | hb1
  · have hp1 := eq_of_beq hb1
    refine CE.cond_t rfl hb1 ?_
    refine CE.seq ?_
    refine CE.region ?_
    refine WL.det (op_assign rfl) rfl rfl rfl ?_
    refine WL.end ?_
    refine NE.code ?_
    refine CE.seq ?_
    refine CE.region ?_
    refine WL.det (op_move rfl) rfl rfl rfl ?_
    refine WL.det (op_fieldAddr (off' := 2) rfl Tryd.runUnderlying72 rfl rfl Tryd.sizeOf2 rfl) rfl rfl rfl ?_
    refine WL.det (op_load1 (i := 2) rfl Tryd.isAgg2 (r1.ext m2).rng rfl rfl) rfl rfl rfl ?_
    refine WL.det (op_mapOkI Tryd.underlying73 Tryd.underlying2 Tryd.underlying2 Tryd.zeroValue2 rfl rfl (wfI (by omega) (by omega)) ((r.ext m1).ext m2)) rfl rfl rfl ?_
    refine WL.det (op_move rfl) rfl rfl rfl ?_
    refine WL.det (op_extract rfl rfl) rfl rfl rfl ?_
    refine WL.det (op_extract rfl rfl) rfl rfl rfl ?_
    refine WL.det (op_assign rfl) rfl rfl rfl ?_
    refine WL.det (op_assign rfl) rfl rfl rfl ?_
    refine WL.end ?_
    refine NE.code ?_
    refine CE.seq ?_
    refine CE.region ?_
    refine WL.det (op_move rfl) rfl rfl rfl ?_
    refine WL.det (op_move rfl) rfl rfl rfl ?_
    rcases Bool.eq_false_or_eq_true ((f en).isSome) with hb2 | hb2
    · refine WL.yes rfl rfl rfl (ltb rfl) rfl hb2 ?_
      refine WL.det (op_move rfl) rfl rfl rfl ?_
      refine WL.yes rfl rfl rfl (ltb rfl) rfl hb2 ?_
      refine WL.det (op_fieldAddr (off' := 0) rfl Tryd.runUnderlying72 rfl rfl Tryd.sizeOf2 rfl) rfl rfl rfl ?_
      refine WL.yes rfl rfl rfl (ltb rfl) rfl hb2 ?_
      refine WL.det (op_load1 (i := 0) rfl Tryd.isAgg2 (r1.ext m2).rng rfl rfl) rfl rfl rfl ?_
      refine WL.yes rfl rfl rfl (ltb rfl) rfl hb2 ?_
      refine WL.det (op_lti rfl rfl) rfl rfl rfl ?_
      refine WL.det (op_pick_t rfl hb2 rfl) rfl rfl rfl ?_
      refine WL.end ?_
      refine NE.code ?_
      rcases Bool.eq_false_or_eq_true (decide ((lkI (f en)) < ea)) with hb3 | hb3
      · have hp3 := of_decide_eq_true hb3
        refine CE.cond_t rfl hb3 ?_
        refine CE.region ?_
        refine WL.det (op_assign rfl) rfl rfl rfl ?_
        refine WL.end ?_
        refine NE.code ?_
        refine CE.seq ?_
        refine CE.region ?_
        refine WL.det (op_fieldAddr (off' := 0) rfl Tryd.runUnderlying72 rfl rfl Tryd.sizeOf2 rfl) rfl rfl rfl ?_
        refine WL.det (op_load1 (i := 0) rfl Tryd.isAgg2 (r1.ext m2).rng rfl rfl) rfl rfl rfl ?_
        refine WL.det (op_move rfl) rfl rfl rfl ?_
        refine WL.det (op_fieldAddr (off' := 2) rfl Tryd.runUnderlying72 rfl rfl Tryd.sizeOf2 rfl) rfl rfl rfl ?_
        refine WL.det (op_load1 (i := 2) rfl Tryd.isAgg2 (r1.ext m2).rng rfl rfl) rfl rfl rfl ?_
        refine WL.det (op_move rfl) rfl rfl rfl ?_
        refine WL.det (op_build (qs := [(0, vI ea), (1, vI 0), (2, vI en), (3, vI 1)]) (cells := #[vI ea, vI 0, vI en, vI 1]) rfl (by kernel_rfl)) rfl rfl rfl ?_
        refine WL.op0 (op_store (i := 0) (cs := [vI ea, vI 0, vI en, vI 1]) rfl rfl rfl Tryd.sizeOf101 rfl r2 rfl (lB rfl) rfl) rfl rfl ?_
        rintro _ w3 ⟨r3, m3, z3⟩
        have r4 : Row w3 w1.heap.size 0 [vI ea, vI 0, vI en, vI 1] := Row.congr r3 rfl
        refine WL.end ?_
        refine NE.code ?_
        refine CE.ret' ?_
        refine XE.leaveC Tryd.results73 (res_agg (cs := [vI ea, vI 0, vI en, vI 1]) rfl Tryd.isAgg101 Tryd.sizeOf101 r4.rng rfl res_nil) ?_
        refine ⟨?_, ((((Mod.refl [] w).nt m1).nt m2).then m3 ((aC (.inr (lT m1.size lR)) aN)))⟩
        all_goals simp_all [lateI, stopK]
      · have hp3 := of_decide_eq_false hb3
        refine CE.cond_f rfl hb3 ?_
        refine CE.skip' ?_
        refine NE.code ?_
        refine CE.seq ?_
        refine CE.region ?_
        refine WL.det (op_fieldAddr (off' := 0) rfl Tryd.runUnderlying72 rfl rfl Tryd.sizeOf2 rfl) rfl rfl rfl ?_
        refine WL.det (op_load1 (i := 0) rfl Tryd.isAgg2 (r1.ext m2).rng rfl rfl) rfl rfl rfl ?_
        refine WL.det (op_move rfl) rfl rfl rfl ?_
        refine WL.det (op_fieldAddr (off' := 2) rfl Tryd.runUnderlying72 rfl rfl Tryd.sizeOf2 rfl) rfl rfl rfl ?_
        refine WL.det (op_load1 (i := 2) rfl Tryd.isAgg2 (r1.ext m2).rng rfl rfl) rfl rfl rfl ?_
        refine WL.det (op_move rfl) rfl rfl rfl ?_
        refine WL.det (op_build (qs := [(0, vI ea), (1, vI 1), (2, vI en), (3, vI 1)]) (cells := #[vI ea, vI 1, vI en, vI 1]) rfl (by kernel_rfl)) rfl rfl rfl ?_
        refine WL.op0 (op_store (i := 0) (cs := [vI ea, vI 1, vI en, vI 1]) rfl rfl rfl Tryd.sizeOf101 rfl r2 rfl (lB rfl) rfl) rfl rfl ?_
        rintro _ w4 ⟨r5, m4, z4⟩
        have r6 : Row w4 w1.heap.size 0 [vI ea, vI 1, vI en, vI 1] := Row.congr r5 rfl
        refine WL.end ?_
        refine NE.code ?_
        refine CE.ret' ?_
        refine XE.leaveC Tryd.results73 (res_agg (cs := [vI ea, vI 1, vI en, vI 1]) rfl Tryd.isAgg101 Tryd.sizeOf101 r6.rng rfl res_nil) ?_
        refine ⟨?_, ((((Mod.refl [] w).nt m1).nt m2).then m4 ((aC (.inr (lT m1.size lR)) aN)))⟩
        all_goals simp_all [lateI, stopK]
    · refine WL.no rfl rfl rfl (ltb rfl) rfl hb2 rfl (ltb rfl) ?_
      refine WL.no rfl rfl rfl (ltb rfl) rfl hb2 rfl (ltb rfl) ?_
      refine WL.no rfl rfl rfl (ltb rfl) rfl hb2 rfl (ltb rfl) ?_
      refine WL.no rfl rfl rfl (ltb rfl) rfl hb2 rfl (ltb rfl) ?_
      refine WL.det (op_pick_f rfl hb2 rfl) rfl rfl rfl ?_
      refine WL.end ?_
      refine NE.code ?_
      refine CE.cond_f rfl rfl ?_
      refine CE.skip' ?_
      refine NE.code ?_
      refine CE.seq ?_
      refine CE.region ?_
      refine WL.det (op_fieldAddr (off' := 0) rfl Tryd.runUnderlying72 rfl rfl Tryd.sizeOf2 rfl) rfl rfl rfl ?_
      refine WL.det (op_load1 (i := 0) rfl Tryd.isAgg2 (r1.ext m2).rng rfl rfl) rfl rfl rfl ?_
      refine WL.det (op_move rfl) rfl rfl rfl ?_
      refine WL.det (op_fieldAddr (off' := 2) rfl Tryd.runUnderlying72 rfl rfl Tryd.sizeOf2 rfl) rfl rfl rfl ?_
      refine WL.det (op_load1 (i := 2) rfl Tryd.isAgg2 (r1.ext m2).rng rfl rfl) rfl rfl rfl ?_
      refine WL.det (op_move rfl) rfl rfl rfl ?_
      refine WL.det (op_build (qs := [(0, vI ea), (1, vI 1), (2, vI en), (3, vI 1)]) (cells := #[vI ea, vI 1, vI en, vI 1]) rfl (by kernel_rfl)) rfl rfl rfl ?_
      refine WL.op0 (op_store (i := 0) (cs := [vI ea, vI 1, vI en, vI 1]) rfl rfl rfl Tryd.sizeOf101 rfl r2 rfl (lB rfl) rfl) rfl rfl ?_
      rintro _ w5 ⟨r7, m5, z5⟩
      have r8 : Row w5 w1.heap.size 0 [vI ea, vI 1, vI en, vI 1] := Row.congr r7 rfl
      refine WL.end ?_
      refine NE.code ?_
      refine CE.ret' ?_
      refine XE.leaveC Tryd.results73 (res_agg (cs := [vI ea, vI 1, vI en, vI 1]) rfl Tryd.isAgg101 Tryd.sizeOf101 r8.rng rfl res_nil) ?_
      refine ⟨?_, ((((Mod.refl [] w).nt m1).nt m2).then m5 ((aC (.inr (lT m1.size lR)) aN)))⟩
      all_goals simp_all [lateI, stopK]
  · have hp1 := ne_of_beq_false hb1
    refine CE.cond_f rfl hb1 ?_
    refine CE.skip' ?_
    refine NE.code ?_
    refine CE.seq ?_
    refine CE.region ?_
    refine WL.det (op_fieldAddr (off' := 0) rfl Tryd.runUnderlying72 rfl rfl Tryd.sizeOf2 rfl) rfl rfl rfl ?_
    refine WL.det (op_load1 (i := 0) rfl Tryd.isAgg2 (r1.ext m2).rng rfl rfl) rfl rfl rfl ?_
    refine WL.det (op_move rfl) rfl rfl rfl ?_
    refine WL.det (op_fieldAddr (off' := 2) rfl Tryd.runUnderlying72 rfl rfl Tryd.sizeOf2 rfl) rfl rfl rfl ?_
    refine WL.det (op_load1 (i := 2) rfl Tryd.isAgg2 (r1.ext m2).rng rfl rfl) rfl rfl rfl ?_
    refine WL.det (op_move rfl) rfl rfl rfl ?_
    refine WL.det (op_build (qs := [(0, vI ea), (1, vI 1), (2, vI en), (3, vI 0)]) (cells := #[vI ea, vI 1, vI en, vI 0]) rfl (by kernel_rfl)) rfl rfl rfl ?_
    refine WL.op0 (op_store (i := 0) (cs := [vI ea, vI 1, vI en, vI 0]) rfl rfl rfl Tryd.sizeOf101 rfl r2 rfl (lB rfl) rfl) rfl rfl ?_
    rintro _ w6 ⟨r9, m6, z6⟩
    have r10 : Row w6 w1.heap.size 0 [vI ea, vI 1, vI en, vI 0] := Row.congr r9 rfl
    refine WL.end ?_
    refine NE.code ?_
    refine CE.ret' ?_
    refine XE.leaveC Tryd.results73 (res_agg (cs := [vI ea, vI 1, vI en, vI 0]) rfl Tryd.isAgg101 Tryd.sizeOf101 r10.rng rfl res_nil) ?_
    refine ⟨?_, ((((Mod.refl [] w).nt m1).nt m2).then m6 ((aC (.inr (lT m1.size lR)) aN)))⟩
    all_goals simp_all [lateI, stopK]

set_option maxRecDepth 100000 in
set_option maxHeartbeats 2000000 in
theorem c_l08Key (ea : Int) (ek : Int) (en : Int) (ei : Int) (ey : Int) (ef : Nat) (p : Nat) (k : Nat) (vs : List Value) (s : Int) (hk : k + 6 ≤ vs.length) (w : World) (q : Rng w p 0 (splice vs k [vI ea, vI ek, vI en, vI ei, vI ey, vF ef])) : Cl Tryd.prog 90 #[vP p k, vI s] w fun v w' => v = .agg #[vI ea, vI (lateS s ea ek), vI en, vI (stopK ek)] ∧ Mod [] w w' := by
  refine Cl.of Tryd.func90 Tryd.ntmps90 rfl rfl (ρ := [(0, vP p k), (1, vI s)]) rfl ?_
  refine CE.seq ?_
  refine CE.region ?_
  refine WL.op (op_alloc (cs := [vI 0, vI 0, vI 0, vI 0]) Tryd.zeroValue101 rfl) rfl rfl (ltb rfl) ?_
  rintro _ w1 ⟨rfl, r1, m1, z1⟩
  refine WL.end ?_
  refine NE.code ?_
  refine CE.seq ?_
  refine CE.draw (fun _ => none) [0, 1, 2, 3, 4, 5, 6, 7, 8, 9] [10] [] (by kernel_rfl) (by kernel_rfl) ?_
  have md1 : Mod [] w1 w1.drew := (Mod.refl _ _).drew
  generalize w1.drew = w2 at md1 ⊢
  refine DR.det (i := 0) rfl rfl (by kernel_rfl) (.free rfl) rfl rfl (fun wD mD => op_move rfl) ?_
  refine DR.det (i := 1) rfl rfl (by kernel_rfl) (.free rfl) rfl rfl (fun wD mD => op_nilCheck rfl) ?_
  refine DR.det (i := 2) rfl rfl (by kernel_rfl) (.free rfl) rfl rfl (fun wD mD => op_fieldAddr (off' := k) rfl Tryd.runUnderlying72 rfl rfl Tryd.sizeOf2 rfl) ?_
  refine DR.det (i := 3) rfl rfl (by kernel_rfl) (.free rfl) rfl rfl (fun wD mD => op_load1 (i := k) rfl Tryd.isAgg2 (((q.ext m1).ext md1).ext mD) (Nat.zero_add _) (sub_get (i := 0) hk rfl)) ?_
  refine DR.det (i := 4) rfl rfl (by kernel_rfl) (.free rfl) rfl rfl (fun wD mD => op_move rfl) ?_
  refine DR.det (i := 5) rfl rfl (by kernel_rfl) (.free rfl) rfl rfl (fun wD mD => op_nilCheck rfl) ?_
  refine DR.det (i := 6) rfl rfl (by kernel_rfl) (.free rfl) rfl rfl (fun wD mD => op_fieldAddr (off' := k + 2) rfl Tryd.runUnderlying72 rfl rfl Tryd.sizeOf2 rfl) ?_
  refine DR.det (i := 7) rfl rfl (by kernel_rfl) (.free rfl) rfl rfl (fun wD mD => op_load1 (i := k + 2) rfl Tryd.isAgg2 (((q.ext m1).ext md1).ext mD) (Nat.zero_add _) (sub_get (i := 2) hk rfl)) ?_
  refine DR.det (i := 8) rfl rfl (by kernel_rfl) (.free rfl) rfl rfl (fun wD mD => op_build (qs := [(0, vI ea), (1, vI 1), (2, vI en), (3, vI 0)]) (cells := #[vI ea, vI 1, vI en, vI 0]) rfl (by kernel_rfl)) ?_
  refine DR.one1 (i := 9) rfl rfl (by kernel_rfl) (.free rfl) rfl (ltb rfl) ?_
  intro w3 m2
  refine Op1.mono (op_alloc (cs := [vI 0, vI 0, vI 0, vI 0]) Tryd.zeroValue101 rfl) ?_
  rintro _ w4 ⟨rfl, r2, m3, z2⟩
  refine ⟨(((Mod.refl [] w2).nt m2).nt m3), ?_⟩
  refine DR.done rfl ?_
  intro w5 m4
  refine WO.op0 rfl (.free rfl) rfl (op_store (i := 0) (cs := [vI ea, vI 1, vI en, vI 0]) rfl rfl rfl Tryd.sizeOf101 rfl (r2.ext m4) rfl (lB rfl) rfl) ?_
  rintro _ w6 ⟨r3, m5, z3⟩
  have r4 : Row w6 w3.heap.size 0 [vI ea, vI 1, vI en, vI 0] := Row.congr r3 rfl
  refine WO.end ?_
  refine NE.code ?_
  refine CE.seq ?_
  refine CE.seq ?_
  refine CE.region ?_
  refine WL.det (op_move rfl) rfl rfl rfl ?_
  refine WL.det (op_nilCheck rfl) rfl rfl rfl ?_
  refine WL.det (op_fieldAddr (off' := k + 1) rfl Tryd.runUnderlying72 rfl rfl Tryd.sizeOf2 rfl) rfl rfl rfl ?_
  refine WL.det (op_load1 (i := k + 1) rfl Tryd.isAgg2 (Rng.youngS q (((((q.ext m1).ext md1).ext m2).ext m3).ext m4) m5 (allge_cons (lT (lT (lT m1.size md1.size) m2.size) lR) allge_nil)) (Nat.zero_add _) (sub_get (i := 1) hk rfl)) rfl rfl rfl ?_
  refine WL.det (op_eqi rfl rfl) rfl rfl rfl ?_
  refine WL.end ?_
  refine NE.code ?_
  rcases Bool.eq_false_or_eq_true ((ek == (1 : Int))) with hb1 | hb1
  · have hp1 := eq_of_beq hb1
    refine CE.cond_t rfl hb1 ?_
    refine CE.seq ?_
    refine CE.region ?_
    refine WL.det (op_indexArr (off' := 3) rfl rfl Tryd.runUnderlying101 Tryd.sizeOf2 (by decide) (by decide) rfl) rfl rfl rfl ?_
    refine WL.op0 (op_store (i := 3) (cs := [vI 1]) rfl rfl rfl Tryd.sizeOf2 rfl r4 rfl (lB rfl) rfl) rfl rfl ?_
    rintro _ w7 ⟨r5, m6, z4⟩
    have r6 : Row w7 w3.heap.size 0 [vI ea, vI 1, vI en, vI 1] := Row.congr r5 rfl
    refine WL.end ?_
    refine NE.code ?_
    refine CE.seq ?_
    refine CE.region ?_
    refine WL.det (op_move rfl) rfl rfl rfl ?_
    refine WL.det (op_move rfl) rfl rfl rfl ?_
    refine WL.det (op_nilCheck rfl) rfl rfl rfl ?_
    refine WL.det (op_fieldAddr (off' := k) rfl Tryd.runUnderlying72 rfl rfl Tryd.sizeOf2 rfl) rfl rfl rfl ?_
    refine WL.det (op_load1 (i := k) rfl Tryd.isAgg2 (Rng.youngS q (Rng.youngS q (((((q.ext m1).ext md1).ext m2).ext m3).ext m4) m5 (allge_cons (lT (lT (lT m1.size md1.size) m2.size) lR) allge_nil)) m6 (allge_cons (lT (lT (lT m1.size md1.size) m2.size) lR) allge_nil)) (Nat.zero_add _) (sub_get (i := 0) hk rfl)) rfl rfl rfl ?_
    refine WL.det (op_lti rfl rfl) rfl rfl rfl ?_
    refine WL.end ?_
    refine NE.code ?_
    rcases Bool.eq_false_or_eq_true (decide (s < ea)) with hb2 | hb2
    · have hp2 := of_decide_eq_true hb2
      refine CE.cond_t rfl hb2 ?_
      refine CE.region ?_
      refine WL.det (op_indexArr (off' := 1) rfl rfl Tryd.runUnderlying101 Tryd.sizeOf2 (by decide) (by decide) rfl) rfl rfl rfl ?_
      refine WL.op0 (op_store (i := 1) (cs := [vI 0]) rfl rfl rfl Tryd.sizeOf2 rfl r6 rfl (lB rfl) rfl) rfl rfl ?_
      rintro _ w8 ⟨r7, m7, z5⟩
      have r8 : Row w8 w3.heap.size 0 [vI ea, vI 0, vI en, vI 1] := Row.congr r7 rfl
      refine WL.end ?_
      refine NE.code ?_
      refine CE.seq ?_
      refine CE.region ?_
      refine WL.det (op_loadA (i := 0) (cs := [vI ea, vI 0, vI en, vI 1]) rfl Tryd.isAgg101 Tryd.sizeOf101 r8.rng rfl rfl rfl) rfl rfl rfl ?_
      refine WL.op0 (op_store (i := 0) (cs := [vI ea, vI 0, vI en, vI 1]) rfl rfl rfl Tryd.sizeOf101 rfl (((((((r1.ext md1).ext m2).ext m3).ext m4).mod m5 (nC (lE (lL (lL r1.lt (lT md1.size m2.size)) lR)) nN)).mod m6 (nC (lE (lL (lL r1.lt (lT md1.size m2.size)) lR)) nN)).mod m7 (nC (lE (lL (lL r1.lt (lT md1.size m2.size)) lR)) nN)) rfl (lB rfl) rfl) rfl rfl ?_
      rintro _ w9 ⟨r9, m8, z6⟩
      have r10 : Row w9 w.heap.size 0 [vI ea, vI 0, vI en, vI 1] := Row.congr r9 rfl
      refine WL.end ?_
      refine NE.code ?_
      refine CE.ret' ?_
      refine XE.leaveC Tryd.results90 (res_agg (cs := [vI ea, vI 0, vI en, vI 1]) rfl Tryd.isAgg101 Tryd.sizeOf101 r10.rng rfl res_nil) ?_
      refine ⟨?_, ((((((((((Mod.refl [] w).nt m1).nt md1).nt m2).nt m3).nt m4).then m5 ((aC (.inr (lT (lT (lT m1.size md1.size) m2.size) lR)) aN))).then m6 ((aC (.inr (lT (lT (lT m1.size md1.size) m2.size) lR)) aN))).then m7 ((aC (.inr (lT (lT (lT m1.size md1.size) m2.size) lR)) aN))).then m8 ((aC (.inr lR) aN)))⟩
      all_goals simp_all [lateS, stopK]
    · have hp2 := of_decide_eq_false hb2
      refine CE.cond_f rfl hb2 ?_
      refine CE.skip' ?_
      refine NE.code ?_
      refine CE.seq ?_
      refine CE.region ?_
      refine WL.det (op_loadA (i := 0) (cs := [vI ea, vI 1, vI en, vI 1]) rfl Tryd.isAgg101 Tryd.sizeOf101 r6.rng rfl rfl rfl) rfl rfl rfl ?_
      refine WL.op0 (op_store (i := 0) (cs := [vI ea, vI 1, vI en, vI 1]) rfl rfl rfl Tryd.sizeOf101 rfl ((((((r1.ext md1).ext m2).ext m3).ext m4).mod m5 (nC (lE (lL (lL r1.lt (lT md1.size m2.size)) lR)) nN)).mod m6 (nC (lE (lL (lL r1.lt (lT md1.size m2.size)) lR)) nN)) rfl (lB rfl) rfl) rfl rfl ?_
      rintro _ w10 ⟨r11, m9, z7⟩
      have r12 : Row w10 w.heap.size 0 [vI ea, vI 1, vI en, vI 1] := Row.congr r11 rfl
      refine WL.end ?_
      refine NE.code ?_
      refine CE.ret' ?_
      refine XE.leaveC Tryd.results90 (res_agg (cs := [vI ea, vI 1, vI en, vI 1]) rfl Tryd.isAgg101 Tryd.sizeOf101 r12.rng rfl res_nil) ?_
      refine ⟨?_, (((((((((Mod.refl [] w).nt m1).nt md1).nt m2).nt m3).nt m4).then m5 ((aC (.inr (lT (lT (lT m1.size md1.size) m2.size) lR)) aN))).then m6 ((aC (.inr (lT (lT (lT m1.size md1.size) m2.size) lR)) aN))).then m9 ((aC (.inr lR) aN)))⟩
      all_goals simp_all [lateS, stopK]
  · have hp1 := ne_of_beq_false hb1
    refine CE.cond_f rfl hb1 ?_
    refine CE.skip' ?_
    refine NE.code ?_
    refine CE.seq ?_
    refine CE.region ?_
    refine WL.det (op_loadA (i := 0) (cs := [vI ea, vI 1, vI en, vI 0]) rfl Tryd.isAgg101 Tryd.sizeOf101 r4.rng rfl rfl rfl) rfl rfl rfl ?_
    refine WL.op0 (op_store (i := 0) (cs := [vI ea, vI 1, vI en, vI 0]) rfl rfl rfl Tryd.sizeOf101 rfl (((((r1.ext md1).ext m2).ext m3).ext m4).mod m5 (nC (lE (lL (lL r1.lt (lT md1.size m2.size)) lR)) nN)) rfl (lB rfl) rfl) rfl rfl ?_
    rintro _ w11 ⟨r13, m10, z8⟩
    have r14 : Row w11 w.heap.size 0 [vI ea, vI 1, vI en, vI 0] := Row.congr r13 rfl
    refine WL.end ?_
    refine NE.code ?_
    refine CE.ret' ?_
    refine XE.leaveC Tryd.results90 (res_agg (cs := [vI ea, vI 1, vI en, vI 0]) rfl Tryd.isAgg101 Tryd.sizeOf101 r14.rng rfl res_nil) ?_
    refine ⟨?_, ((((((((Mod.refl [] w).nt m1).nt md1).nt m2).nt m3).nt m4).then m5 ((aC (.inr (lT (lT (lT m1.size md1.size) m2.size) lR)) aN))).then m10 ((aC (.inr lR) aN)))⟩
    all_goals simp_all [lateS, stopK]

set_option maxRecDepth 100000 in
set_option maxHeartbeats 2000000 in
theorem c_compareEvents (b : Nat) (w : World) : Cl Tryd.prog 48 #[.map (some b)] w fun v w' => ∃ (p' : Nat), v = .func (.func 72) #[] #[vP p' 0] ∧ Row w' p' 0 [.map (some b)] ∧ w.heap.size ≤ p' ∧ Mod [] w w' := by
  refine Cl.of Tryd.func48 Tryd.ntmps48 rfl rfl (ρ := [(0, .map (some b))]) rfl ?_
  refine CE.seq ?_
  refine CE.region ?_
  refine WL.op (op_box (cs := [.map (some b)]) rfl rfl) rfl rfl (ltb rfl) ?_
  rintro _ w1 ⟨rfl, r1, m1, z1⟩
  refine WL.det (op_assign rfl) rfl rfl rfl ?_
  refine WL.end ?_
  refine NE.code ?_
  refine CE.seq ?_
  refine CE.region ?_
  refine WL.det (op_makeFunc (vs := []) (us := [vP w.heap.size 0]) rfl rfl) rfl rfl rfl ?_
  refine WL.det (op_assign rfl) rfl rfl rfl ?_
  refine WL.end ?_
  refine NE.code ?_
  refine CE.ret' ?_
  refine XE.leave1 Tryd.results48 rfl ?_
  refine ⟨w.heap.size, rfl, r1, lR, ((Mod.refl [] w).nt m1)⟩

set_option maxRecDepth 100000 in
set_option maxHeartbeats 2000000 in
theorem c_compare1 (ea : Int) (ek : Int) (en : Int) (ei : Int) (ey : Int) (ef : Nat) (ea' : Int) (ek' : Int) (en' : Int) (ei' : Int) (ey' : Int) (ef' : Nat) (p : Nat) (b : Nat) (f : Int → Option Lit) (sz : Nat) (w1 : -9223372036854775808 ≤ en) (w2 : en ≤ 9223372036854775807) (w1' : -9223372036854775808 ≤ en') (w2' : en' ≤ 9223372036854775807) (w : World) (q : Rng w p 0 [.map (some b)]) (r : MapR w b 0 (⟨Tryd.prog, 2, 2, f, sz⟩)) : Cl Tryd.prog 72 #[.agg #[vI ea, vI ek, vI en, vI ei, vI ey, vF ef], .agg #[vI ea', vI ek', vI en', vI ei', vI ey', vF ef'], vP p 0] w fun v w' => v = vI (cmp4 ea (lateI (f en) ea ek) en (stopK ek) ea' (lateI (f en') ea' ek') en' (stopK ek')) ∧ Mod [] w w' := by
  refine Cl.of Tryd.func72 Tryd.ntmps72 rfl rfl (ρ := [(0, .agg #[vI ea, vI ek, vI en, vI ei, vI ey, vF ef]), (1, .agg #[vI ea', vI ek', vI en', vI ei', vI ey', vF ef']), (2, vP p 0)]) rfl ?_
  refine CE.seq ?_
  refine CE.region ?_
  refine WL.op (op_box (cs := [vI ea, vI ek, vI en, vI ei, vI ey, vF ef]) rfl rfl) rfl rfl (ltb rfl) ?_
  rintro _ w1 ⟨rfl, r1, m1, z1⟩
  refine WL.op (op_box (cs := [vI ea', vI ek', vI en', vI ei', vI ey', vF ef']) rfl rfl) rfl rfl (ltb rfl) ?_
  rintro _ w2 ⟨rfl, r2, m2, z2⟩
  refine WL.det (op_assign rfl) rfl rfl rfl ?_
  refine WL.end ?_
  refine NE.code ?_
  refine CE.seq ?_
  refine CE.draw (fun | 2 => some (fun _ wA uA wB => uA = .agg #[vI ea, vI (lateI (f en) ea ek), vI en, vI (stopK ek)] ∧ Mod [] wA wB) | 5 => some (fun _ wA uA wB => uA = .agg #[vI ea', vI (lateI (f en') ea' ek'), vI en', vI (stopK ek')] ∧ Mod [] wA wB) | _ => none) [0, 1, 2, 3, 4, 5, 6, 7] [8, 9] [] (by kernel_rfl) (by kernel_rfl) ?_
  have md1 : Mod [] w2 w2.drew := (Mod.refl _ _).drew
  generalize w2.drew = w3 at md1 ⊢
  refine DR.det (i := 0) rfl rfl (by kernel_rfl) (.free rfl) rfl rfl (fun wD mD => op_loadA (i := 0) (cs := [vI ea, vI ek, vI en, vI ei, vI ey, vF ef]) rfl Tryd.isAgg72 Tryd.sizeOf72 (((r1.ext m2).ext md1).ext mD).rng rfl rfl rfl) ?_
  refine DR.det (i := 1) rfl rfl (by kernel_rfl) (.free rfl) rfl rfl (fun wD mD => op_load1 (i := 0) rfl Tryd.isAgg73 ((((q.ext m1).ext m2).ext md1).ext mD) rfl rfl) ?_
  refine DR.call (i := 2) (fun uA => uA = .agg #[vI ea, vI (lateI (f en) ea ek), vI en, vI (stopK ek)]) rfl rfl (by kernel_rfl) (.free rfl) rfl (ltb rfl) ⟨_, rfl⟩ (vs := [.func (.func 73) #[] #[], .agg #[vI ea, vI ek, vI en, vI ei, vI ey, vF ef], .map (some b)]) rfl (fun wD mD => oc_call (vs := [.agg #[vI ea, vI ek, vI en, vI ei, vI ey, vF ef], .map (some b)]) (cap := []) rfl rfl rfl Tryd.call73 (c_order ea ek en ei ey ef b f sz (by omega) (by omega) wD ((((r.ext m1).ext m2).ext md1).ext mD))) ?_ ?_
  · rintro w1 _ w2 m1 ⟨rfl, m2⟩; exact ⟨rfl, m2⟩
  rintro _ rfl
  refine DR.det (i := 3) rfl rfl (by kernel_rfl) (.free rfl) rfl rfl (fun wD mD => op_loadA (i := 0) (cs := [vI ea', vI ek', vI en', vI ei', vI ey', vF ef']) rfl Tryd.isAgg72 Tryd.sizeOf72 ((r2.ext md1).ext mD).rng rfl rfl rfl) ?_
  refine DR.det (i := 4) rfl rfl (by kernel_rfl) (.free rfl) rfl rfl (fun wD mD => op_load1 (i := 0) rfl Tryd.isAgg73 ((((q.ext m1).ext m2).ext md1).ext mD) rfl rfl) ?_
  refine DR.call (i := 5) (fun uA => uA = .agg #[vI ea', vI (lateI (f en') ea' ek'), vI en', vI (stopK ek')]) rfl rfl (by kernel_rfl) (.free rfl) rfl (ltb rfl) ⟨_, rfl⟩ (vs := [.func (.func 73) #[] #[], .agg #[vI ea', vI ek', vI en', vI ei', vI ey', vF ef'], .map (some b)]) rfl (fun wD mD => oc_call (vs := [.agg #[vI ea', vI ek', vI en', vI ei', vI ey', vF ef'], .map (some b)]) (cap := []) rfl rfl rfl Tryd.call73 (c_order ea' ek' en' ei' ey' ef' b f sz (by omega) (by omega) wD ((((r.ext m1).ext m2).ext md1).ext mD))) ?_ ?_
  · rintro w1 _ w2 m1 ⟨rfl, m2⟩; exact ⟨rfl, m2⟩
  rintro _ rfl
  refine DR.two (i := 6) (j := 7) rfl rfl rfl rfl (by kernel_rfl) (by kernel_rfl) (by kernel_rfl) (by decide) (by decide) rfl rfl rfl rfl (ltb rfl) (ltb rfl) (fun _ _ => op_alloc (cs := [vI 0, vI 0, vI 0, vI 0]) Tryd.zeroValue101 rfl) (fun _ _ => op_alloc (cs := [vI 0, vI 0, vI 0, vI 0]) Tryd.zeroValue101 rfl) ?_
  intro b1 b2 w4 r3 r4 ge1 ge2 ne1 m3
  refine DR.done rfl ?_
  intro w5 m4
  refine WO.op0 rfl (.free rfl) rfl (op_store (i := 0) (cs := [vI ea, vI (lateI (f en) ea ek), vI en, vI (stopK ek)]) rfl rfl rfl Tryd.sizeOf101 rfl (r3.ext m4) rfl (lB rfl) rfl) ?_
  rintro _ w6 ⟨r5, m5, z3⟩
  have r6 : Row w6 b1 0 [vI ea, vI (lateI (f en) ea ek), vI en, vI (stopK ek)] := Row.congr r5 rfl
  refine WO.op0 rfl (.free rfl) rfl (op_store (i := 0) (cs := [vI ea', vI (lateI (f en') ea' ek'), vI en', vI (stopK ek')]) rfl rfl rfl Tryd.sizeOf101 rfl ((r4.ext m4).mod m5 (nC (Ne.symm ne1) nN)) rfl (lB rfl) rfl) ?_
  rintro _ w7 ⟨r7, m6, z4⟩
  have r8 : Row w7 b2 0 [vI ea', vI (lateI (f en') ea' ek'), vI en', vI (stopK ek')] := Row.congr r7 rfl
  refine WO.end ?_
  refine NE.code ?_
  refine CE.seq ?_
  refine CE.draw (fun _ => none) [0, 1] [2, 3] [] (by kernel_rfl) (by kernel_rfl) ?_
  have md2 : Mod [] w7 w7.drew := (Mod.refl _ _).drew
  generalize w7.drew = w8 at md2 ⊢
  refine DR.det (i := 0) rfl rfl (by kernel_rfl) (.free rfl) rfl rfl (fun wD mD => op_sliceArr rfl Tryd.runUnderlying101 Tryd.sizeOf2) ?_
  refine DR.det (i := 1) rfl rfl (by kernel_rfl) (.free rfl) rfl rfl (fun wD mD => op_sliceArr rfl Tryd.runUnderlying101 Tryd.sizeOf2) ?_
  refine DR.done rfl ?_
  intro w9 m7
  refine WO.call rfl (.free rfl) rfl (ltb rfl) (oc_call (vs := [vS b1 0 4 4, vS b2 0 4 4]) (cap := []) rfl rfl rfl Tryd.call74 (c_cmp4 ea (lateI (f en) ea ek) en (stopK ek) ea' (lateI (f en') ea' ek') en' (stopK ek') 4 b1 4 b2 w9 (((r6.mod m6 (nC ne1 nN)).ext md2).ext m7).rng ((r8.ext md2).ext m7).rng)) ?_
  rintro _ w10 ⟨rfl, m8⟩
  refine WO.det (op_assign rfl) rfl (.free rfl) rfl rfl ?_
  refine WO.end ?_
  refine NE.code ?_
  refine CE.ret' ?_
  refine XE.leave1 Tryd.results72 rfl ?_
  refine ⟨rfl, (((((((((((Mod.refl [] w).nt m1).nt m2).nt md1).nt m3).nt m4).then m5 ((aC (.inr (lT (lT (lT m1.size m2.size) md1.size) ge1)) aN))).then m6 ((aC (.inr (lT (lT (lT m1.size m2.size) md1.size) ge2)) aN))).nt md2).nt m7).nt m8)⟩

set_option maxRecDepth 100000 in
set_option maxHeartbeats 2000000 in
theorem c_starts (n : Nat) (c : Nat) (b : Nat) (es : List EvR) (ln : es.length = n) (hn : n ≤ 1048576) (hW : ∀ i, EvW (es.getD i EvR.d)) (hn2 : n ≤ 4000) (w : World) (r : Rng w b 0 (cat EvR.cells es)) : Cl Tryd.prog 47 #[vS b 0 n c] w fun v w' => ∃ (b' : Nat), v = .map (some b') ∧ MapR w' b' 0 (⟨Tryd.prog, 2, 2, (startsF es n), (startsN es n)⟩) ∧ w.heap.size ≤ b' ∧ Mod [] w w' := by
  refine Cl.of Tryd.func47 Tryd.ntmps47 rfl rfl (ρ := [(0, vS b 0 n c)]) rfl ?_
  refine CE.seq ?_
  refine CE.region ?_
  refine WL.det (op_assign rfl) rfl rfl rfl ?_
  refine WL.end ?_
  refine NE.code ?_
  refine CE.seq ?_
  refine CE.region ?_
  refine WL.op (op_makeMap (k := 2) (e := 2)) rfl rfl (ltb rfl) ?_
  rintro _ w1 ⟨rfl, r1, m1, z1⟩
  refine WL.det (op_assign rfl) rfl rfl rfl ?_
  refine WL.end ?_
  refine NE.code ?_
  refine CE.seq ?_
  refine CE.seq ?_
  refine CE.region ?_
  refine WL.det (op_move rfl) rfl rfl rfl ?_
  refine WL.det (op_len rfl Tryd.runUnderlying41) rfl rfl rfl ?_
  refine WL.det (op_move rfl) rfl rfl rfl ?_
  refine WL.end ?_
  refine NE.code ?_
  refine CE.block ?_
  refine CE.loop (fun (i : Nat) => [(9, vI ((i : Nat) : Int)), (2, (.map none)), (3, .map (some w.heap.size)), (7, vS b 0 n c), (8, vI ((n : Nat) : Int))]) (fun (i : Nat) => fun W => (i ≤ n) ∧ (startsN es i ≤ i) ∧ MapR W w.heap.size 0 (⟨Tryd.prog, 2, 2, (startsF es i), (startsN es i)⟩) ∧ Mod [w.heap.size] w1 W) (fun (i : Nat) => n - i) 0 (⟨rfl, rfl, rfl, rfl, rfl, trivial⟩) ⟨(by omega), (by exact Nat.le_refl _), (MapR.congr r1 rfl), Mod.refl _ _⟩ ?_
  rintro i w2 ⟨hi, hs, r2, m2⟩
  have hwi := hW i
  have hw1 := hwi.n1
  have hw2 := hwi.n2
  have hw3 := hwi.a1
  have hw4 := hwi.a2
  show CE _ _ _ _ [(9, vI ((i : Nat) : Int)), (2, (.map none)), (3, .map (some w.heap.size)), (7, vS b 0 n c), (8, vI ((n : Nat) : Int))] _
  refine CE.seq ?_
  refine CE.region ?_
  refine WL.det (op_lti rfl rfl) rfl rfl rfl ?_
  refine WL.end ?_
  refine NE.code ?_
  refine CE.seq ?_
  rcases Bool.eq_false_or_eq_true (decide (((i : Nat) : Int) < ((n : Nat) : Int))) with hb1 | hb1
  · have hp1 := of_decide_eq_true hb1
    refine CE.cond_t rfl hb1 ?_
    refine CE.skip' ?_
    refine NE.code ?_
    refine CE.seq ?_
    refine CE.block ?_
    refine CE.seq ?_
    refine CE.region ?_
    refine WL.det (op_indexSl (off' := 0 + i * 6) rfl rfl rfl Tryd.runUnderlying41 Tryd.sizeOf72 (by omega) (by omega) (by omega)) rfl rfl rfl ?_
    refine WL.det (op_loadA (i := i * 6) (cs := [vI ((es.getD i EvR.d).at_), vI ((es.getD i EvR.d).kind), vI ((es.getD i EvR.d).note), vI ((es.getD i EvR.d).ins), vI ((es.getD i EvR.d).key), vF ((es.getD i EvR.d).force)]) rfl Tryd.isAgg72 Tryd.sizeOf72 (Rng.youngS r (r.ext m1) m2 (allge_cons lR allge_nil)) rfl (cat_at (f := EvR.cells) (m := 6) (i := i) (d := EvR.d) (fun _ => rfl) (by have eL : List.length es = n := ln; omega)) rfl) rfl rfl rfl ?_
    refine WL.op (op_alloc (cs := [vI 0, vI 0, vI 0, vI 0, vI 0, vF 0]) Tryd.zeroValue72 rfl) rfl rfl (ltb rfl) ?_
    rintro _ w3 ⟨rfl, r3, m3, z2⟩
    refine WL.op0 (op_store (i := 0) (cs := [vI ((es.getD i EvR.d).at_), vI ((es.getD i EvR.d).kind), vI ((es.getD i EvR.d).note), vI ((es.getD i EvR.d).ins), vI ((es.getD i EvR.d).key), vF ((es.getD i EvR.d).force)]) rfl rfl rfl Tryd.sizeOf72 rfl r3 rfl (lB rfl) rfl) rfl rfl ?_
    rintro _ w4 ⟨r4, m4, z3⟩
    have r5 : Row w4 w2.heap.size 0 [vI ((es.getD i EvR.d).at_), vI ((es.getD i EvR.d).kind), vI ((es.getD i EvR.d).note), vI ((es.getD i EvR.d).ins), vI ((es.getD i EvR.d).key), vF ((es.getD i EvR.d).force)] := Row.congr r4 rfl
    refine WL.end ?_
    refine NE.code ?_
    refine CE.seq ?_
    refine CE.region ?_
    refine WL.det (op_fieldAddr (off' := 1) rfl Tryd.runUnderlying72 rfl rfl Tryd.sizeOf2 rfl) rfl rfl rfl ?_
    refine WL.det (op_load1 (i := 1) rfl Tryd.isAgg2 r5.rng rfl rfl) rfl rfl rfl ?_
    refine WL.det (op_eqi rfl rfl) rfl rfl rfl ?_
    refine WL.end ?_
    refine NE.code ?_
    rcases Bool.eq_false_or_eq_true ((((es.getD i EvR.d).kind) == (2 : Int))) with hb2 | hb2
    · have hp2 := eq_of_beq hb2
      refine CE.cond_t rfl hb2 ?_
      refine CE.region ?_
      refine WL.det (op_move rfl) rfl rfl rfl ?_
      refine WL.det (op_fieldAddr (off' := 2) rfl Tryd.runUnderlying72 rfl rfl Tryd.sizeOf2 rfl) rfl rfl rfl ?_
      refine WL.det (op_load1 (i := 2) rfl Tryd.isAgg2 r5.rng rfl rfl) rfl rfl rfl ?_
      refine WL.det (op_fieldAddr (off' := 0) rfl Tryd.runUnderlying72 rfl rfl Tryd.sizeOf2 rfl) rfl rfl rfl ?_
      refine WL.det (op_load1 (i := 0) rfl Tryd.isAgg2 r5.rng rfl rfl) rfl rfl rfl ?_
      refine WL.op0 (op_mapPut Tryd.underlying73 Tryd.underlying2 rfl rfl rfl (plainElem_int Tryd.underlying2 (wfI (by omega) (by omega))) (wfI (by omega) (by omega)) (by omega) ((r2.ext m3).mod m4 (nC (lE (lL (lL r1.lt m2.size) lR)) nN))) rfl rfl ?_
      rintro _ w5 ⟨r6, m5, z4⟩
      refine WL.end ?_
      refine NE.blk ?_
      refine NE.code ?_
      refine CE.region ?_
      refine WL.det (op_add (r := ((i + 1 : Nat) : Int)) rfl rfl (w_i64 (by omega) (by omega))) rfl rfl rfl ?_
      refine WL.det (op_move rfl) rfl rfl rfl ?_
      refine WL.end ?_
      exact NE.again (i + 1) (⟨rfl, rfl, rfl, rfl, rfl, trivial⟩) ⟨(by omega), (by exact startsN_le hs), (MapR.congr r6 (by simp_all [startsF, startsN])), (((m2.nt m3).then m4 ((aC (.inr (lT m2.size lR)) aN))).then m5 ((aC (.inl (by simp)) aN)))⟩ (by first | (dsimp only; omega) | omega)
    · have hp2 := ne_of_beq_false hb2
      refine CE.cond_f rfl hb2 ?_
      refine CE.skip' ?_
      refine NE.blk ?_
      refine NE.code ?_
      refine CE.region ?_
      refine WL.det (op_add (r := ((i + 1 : Nat) : Int)) rfl rfl (w_i64 (by omega) (by omega))) rfl rfl rfl ?_
      refine WL.det (op_move rfl) rfl rfl rfl ?_
      refine WL.end ?_
      exact NE.again (i + 1) (⟨rfl, rfl, rfl, rfl, rfl, trivial⟩) ⟨(by omega), (by exact startsN_le hs), (MapR.congr ((r2.ext m3).mod m4 (nC (lE (lL (lL r1.lt m2.size) lR)) nN)) (by simp_all [startsF, startsN])), ((m2.nt m3).then m4 ((aC (.inr (lT m2.size lR)) aN)))⟩ (by first | (dsimp only; omega) | omega)
  · have hp1 := of_decide_eq_false hb1
    refine CE.cond_f rfl hb1 ?_
    refine CE.exit' ?_
    refine XE.exit_then ?_
    refine XE.exit_then ?_
    refine XE.exit_here ?_
    refine NE.code ?_
    refine CE.seq ?_
    refine CE.region ?_
    refine WL.det (op_move rfl) rfl rfl rfl ?_
    refine WL.det (op_assign rfl) rfl rfl rfl ?_
    refine WL.end ?_
    refine NE.code ?_
    refine CE.ret' ?_
    have ei : n = i := by omega
    subst ei
    refine XE.leave1 Tryd.results47 rfl ?_
    refine ⟨w.heap.size, rfl, r2, lR, (((Mod.refl [] w).nt m1).then m2 ((aC (.inr lR) aN)))⟩

set_option maxRecDepth 100000 in
set_option maxHeartbeats 2000000 in
theorem c_l08Start (n : Nat) (c : Nat) (b : Nat) (es : List EvR) (z : Int) (ln : es.length = n) (hn : n ≤ 1048576) (w : World) (r : Rng w b 0 (cat EvR.cells es)) : Cl Tryd.prog 91 #[vS b 0 n c, vI z] w fun v w' => v = vI (firstI es z n) ∧ Mod [] w w' := by
  refine Cl.of Tryd.func91 Tryd.ntmps91 rfl rfl (ρ := [(0, vS b 0 n c), (1, vI z)]) rfl ?_
  refine CE.seq ?_
  refine CE.region ?_
  refine WL.det (op_assign rfl) rfl rfl rfl ?_
  refine WL.end ?_
  refine NE.code ?_
  refine CE.seq ?_
  refine CE.seq ?_
  refine CE.region ?_
  refine WL.det (op_assign rfl) rfl rfl rfl ?_
  refine WL.end ?_
  refine NE.code ?_
  refine CE.block ?_
  refine CE.loop (fun (i : Nat) => [(5, vI ((i : Nat) : Int)), (0, vS b 0 n c), (1, vI z), (4, vI 0)]) (fun (i : Nat) => fun W => (i ≤ n) ∧ (firstF es z i = none) ∧ Mod [] w W) (fun (i : Nat) => n - i) 0 (⟨rfl, rfl, rfl, rfl, trivial⟩) ⟨(by omega), (by rfl), Mod.refl _ _⟩ ?_
  rintro i w1 ⟨hi, hu, m1⟩
  show CE _ _ _ _ [(5, vI ((i : Nat) : Int)), (0, vS b 0 n c), (1, vI z), (4, vI 0)] _
  refine CE.seq ?_
  refine CE.seq ?_
  refine CE.region ?_
  refine WL.det (op_move rfl) rfl rfl rfl ?_
  refine WL.det (op_move rfl) rfl rfl rfl ?_
  refine WL.det (op_len rfl Tryd.runUnderlying41) rfl rfl rfl ?_
  refine WL.det (op_lti rfl rfl) rfl rfl rfl ?_
  refine WL.end ?_
  refine NE.code ?_
  rcases Bool.eq_false_or_eq_true (decide (((i : Nat) : Int) < ((n : Nat) : Int))) with hb1 | hb1
  · have hp1 := of_decide_eq_true hb1
    refine CE.cond_t rfl hb1 ?_
    refine CE.skip' ?_
    refine NE.code ?_
    refine CE.seq ?_
    refine CE.block ?_
    refine CE.seq ?_
    refine CE.region ?_
    refine WL.det (op_move rfl) rfl rfl rfl ?_
    refine WL.det (op_move rfl) rfl rfl rfl ?_
    refine WL.det (op_indexSl (off' := 0 + i * 6) rfl rfl rfl Tryd.runUnderlying41 Tryd.sizeOf72 (by omega) (by omega) (by omega)) rfl rfl rfl ?_
    refine WL.det (op_fieldAddr (off' := 0 + i * 6 + 1) rfl Tryd.runUnderlying72 rfl rfl Tryd.sizeOf2 rfl) rfl rfl rfl ?_
    refine WL.det (op_load1 (i := i * 6 + 1) rfl Tryd.isAgg2 (r.ext m1) rfl (cat_get (f := EvR.cells) (m := 6) (i := i) (d := EvR.d) (fun _ => rfl) (by have eL : List.length es = n := ln; omega) rfl)) rfl rfl rfl ?_
    refine WL.det (op_eqi rfl rfl) rfl rfl rfl ?_
    refine WL.det (op_move rfl) rfl rfl rfl ?_
    rcases Bool.eq_false_or_eq_true ((((es.getD i EvR.d).kind) == (2 : Int))) with hb2 | hb2
    · have hp2 := eq_of_beq hb2
      refine WL.yes rfl rfl rfl (ltb rfl) rfl hb2 ?_
      refine WL.det (op_move rfl) rfl rfl rfl ?_
      refine WL.yes rfl rfl rfl (ltb rfl) rfl hb2 ?_
      refine WL.det (op_move rfl) rfl rfl rfl ?_
      refine WL.yes rfl rfl rfl (ltb rfl) rfl hb2 ?_
      refine WL.det (op_indexSl (off' := 0 + i * 6) rfl rfl rfl Tryd.runUnderlying41 Tryd.sizeOf72 (by omega) (by omega) (by omega)) rfl rfl rfl ?_
      refine WL.yes rfl rfl rfl (ltb rfl) rfl hb2 ?_
      refine WL.det (op_fieldAddr (off' := 0 + i * 6 + 2) rfl Tryd.runUnderlying72 rfl rfl Tryd.sizeOf2 rfl) rfl rfl rfl ?_
      refine WL.yes rfl rfl rfl (ltb rfl) rfl hb2 ?_
      refine WL.det (op_load1 (i := i * 6 + 2) rfl Tryd.isAgg2 (r.ext m1) rfl (cat_get (f := EvR.cells) (m := 6) (i := i) (d := EvR.d) (fun _ => rfl) (by have eL : List.length es = n := ln; omega) rfl)) rfl rfl rfl ?_
      refine WL.yes rfl rfl rfl (ltb rfl) rfl hb2 ?_
      refine WL.det (op_move rfl) rfl rfl rfl ?_
      refine WL.yes rfl rfl rfl (ltb rfl) rfl hb2 ?_
      refine WL.det (op_eqi rfl rfl) rfl rfl rfl ?_
      refine WL.det (op_pick_t rfl hb2 rfl) rfl rfl rfl ?_
      refine WL.end ?_
      refine NE.code ?_
      rcases Bool.eq_false_or_eq_true ((((es.getD i EvR.d).note) == z)) with hb3 | hb3
      · have hp3 := eq_of_beq hb3
        refine CE.cond_t rfl hb3 ?_
        refine CE.seq ?_
        refine CE.region ?_
        refine WL.det (op_move rfl) rfl rfl rfl ?_
        refine WL.det (op_move rfl) rfl rfl rfl ?_
        refine WL.det (op_indexSl (off' := 0 + i * 6) rfl rfl rfl Tryd.runUnderlying41 Tryd.sizeOf72 (by omega) (by omega) (by omega)) rfl rfl rfl ?_
        refine WL.det (op_fieldAddr (off' := 0 + i * 6) rfl Tryd.runUnderlying72 rfl rfl Tryd.sizeOf2 rfl) rfl rfl rfl ?_
        refine WL.det (op_load1 (i := i * 6) rfl Tryd.isAgg2 (r.ext m1) rfl (cat_get0 (f := EvR.cells) (m := 6) (i := i) (d := EvR.d) (fun _ => rfl) (by have eL : List.length es = n := ln; omega) rfl)) rfl rfl rfl ?_
        refine WL.det (op_assign rfl) rfl rfl rfl ?_
        refine WL.end ?_
        refine NE.code ?_
        refine CE.ret' ?_
        refine XE.ret_blk ?_
        refine XE.ret_then ?_
        refine XE.ret_then ?_
        refine XE.ret_blk ?_
        refine XE.ret_then ?_
        refine XE.leave1 Tryd.results91 rfl ?_
        refine ⟨?_, ((Mod.refl [] w).nt m1)⟩
        all_goals first | (have e9 : i = n := (by omega); subst e9; simp_all [firstI]; done) | (rw [firstI_at (i := i) (by omega) hu (by simp_all)])
      · have hp3 := ne_of_beq_false hb3
        refine CE.cond_f rfl hb3 ?_
        refine CE.skip' ?_
        refine NE.blk ?_
        refine NE.code ?_
        refine CE.region ?_
        refine WL.det (op_move rfl) rfl rfl rfl ?_
        refine WL.det (op_add (r := ((i + 1 : Nat) : Int)) rfl rfl (w_i64 (by omega) (by omega))) rfl rfl rfl ?_
        refine WL.det (op_assign rfl) rfl rfl rfl ?_
        refine WL.end ?_
        exact NE.again (i + 1) (⟨rfl, rfl, rfl, rfl, trivial⟩) ⟨(by omega), (by simp_all [firstF]), m1⟩ (by first | (dsimp only; omega) | omega)
    · have hp2 := ne_of_beq_false hb2
      refine WL.no rfl rfl rfl (ltb rfl) rfl hb2 rfl (ltb rfl) ?_
      refine WL.no rfl rfl rfl (ltb rfl) rfl hb2 rfl (ltb rfl) ?_
      refine WL.no rfl rfl rfl (ltb rfl) rfl hb2 rfl (ltb rfl) ?_
      refine WL.no rfl rfl rfl (ltb rfl) rfl hb2 rfl (ltb rfl) ?_
      refine WL.no rfl rfl rfl (ltb rfl) rfl hb2 rfl (ltb rfl) ?_
      refine WL.no rfl rfl rfl (ltb rfl) rfl hb2 rfl (ltb rfl) ?_
      refine WL.no rfl rfl rfl (ltb rfl) rfl hb2 rfl (ltb rfl) ?_
      refine WL.det (op_pick_f rfl hb2 rfl) rfl rfl rfl ?_
      refine WL.end ?_
      refine NE.code ?_
      refine CE.cond_f rfl rfl ?_
      refine CE.skip' ?_
      refine NE.blk ?_
      refine NE.code ?_
      refine CE.region ?_
      refine WL.det (op_move rfl) rfl rfl rfl ?_
      refine WL.det (op_add (r := ((i + 1 : Nat) : Int)) rfl rfl (w_i64 (by omega) (by omega))) rfl rfl rfl ?_
      refine WL.det (op_assign rfl) rfl rfl rfl ?_
      refine WL.end ?_
      exact NE.again (i + 1) (⟨rfl, rfl, rfl, rfl, trivial⟩) ⟨(by omega), (by simp_all [firstF]), m1⟩ (by first | (dsimp only; omega) | omega)
  · have hp1 := of_decide_eq_false hb1
    refine CE.cond_f rfl hb1 ?_
    refine CE.exit' ?_
    refine XE.exit_then ?_
    refine XE.exit_then ?_
    refine XE.exit_here ?_
    refine NE.code ?_
    refine CE.seq ?_
    refine CE.region ?_
    refine WL.det (op_assign rfl) rfl rfl rfl ?_
    refine WL.end ?_
    refine NE.code ?_
    refine CE.ret' ?_
    refine XE.leave1 Tryd.results91 rfl ?_
    refine ⟨?_, ((Mod.refl [] w).nt m1)⟩
    all_goals first | (have e9 : i = n := (by omega); subst e9; simp_all [firstI]; done) | (rw [firstI_at (i := i) (by omega) hu (by simp_all)])

set_option maxRecDepth 100000 in
set_option maxHeartbeats 2000000 in
theorem c_isKey (y : Int) (w : World) : Cl Tryd.prog 75 #[vI y] w fun v w' => v = .bool (vIn y (-100 : Int) (100 : Int)) ∧ Mod [] w w' := by
  refine Cl.of Tryd.func75 Tryd.ntmps75 rfl rfl (ρ := [(0, vI y)]) rfl ?_
  refine CE.seq ?_
  refine CE.region ?_
  refine WL.det (op_assign rfl) rfl rfl rfl ?_
  refine WL.end ?_
  refine NE.code ?_
  refine CE.seq ?_
  refine CE.region ?_
  refine WL.det (op_move rfl) rfl rfl rfl ?_
  refine WL.call (oc_call (vs := [vI y, vI (-100), vI 100]) (cap := []) rfl rfl rfl Tryd.call51 (c_within y (-100 : Int) (100 : Int) w)) rfl rfl (ltb rfl) ?_
  rintro _ _ ⟨rfl, rfl⟩
  refine WL.det (op_assign rfl) rfl rfl rfl ?_
  refine WL.end ?_
  refine NE.code ?_
  refine CE.ret' ?_
  refine XE.leave1 Tryd.results75 rfl ?_
  refine ⟨rfl, (Mod.refl [] w)⟩

set_option maxRecDepth 100000 in
set_option maxHeartbeats 2000000 in
theorem c_isEvent (ea : Int) (ek : Int) (en : Int) (ei : Int) (ey : Int) (ef : Nat) (m : Int) (m1 : 0 ≤ m) (m2 : m ≤ 1048576) (w : World) : Cl Tryd.prog 49 #[.agg #[vI ea, vI ek, vI en, vI ei, vI ey, vF ef], vI m] w fun v w' => v = .bool (evI ea ek ei ey ef m) ∧ Mod [] w w' := by
  refine Cl.of Tryd.func49 Tryd.ntmps49 rfl rfl (ρ := [(0, .agg #[vI ea, vI ek, vI en, vI ei, vI ey, vF ef]), (1, vI m)]) rfl ?_
  refine CE.seq ?_
  refine CE.region ?_
  refine WL.op (op_box (cs := [vI ea, vI ek, vI en, vI ei, vI ey, vF ef]) rfl rfl) rfl rfl (ltb rfl) ?_
  rintro _ w1 ⟨rfl, r1, m1, z1⟩
  refine WL.det (op_assign rfl) rfl rfl rfl ?_
  refine WL.end ?_
  refine NE.code ?_
  refine CE.seq ?_
  refine CE.seq ?_
  refine CE.region ?_
  refine WL.det (op_fieldAddr (off' := 0) rfl Tryd.runUnderlying72 rfl rfl Tryd.sizeOf2 rfl) rfl rfl rfl ?_
  refine WL.det (op_load1 (i := 0) rfl Tryd.isAgg2 r1.rng rfl rfl) rfl rfl rfl ?_
  refine WL.call (oc_call (vs := [vI ea, vI 0, vI 100000]) (cap := []) rfl rfl rfl Tryd.call51 (c_within ea (0 : Int) (100000 : Int) w1)) rfl rfl (ltb rfl) ?_
  rintro _ _ ⟨rfl, rfl⟩
  refine WL.det (op_not rfl) rfl rfl rfl ?_
  refine WL.end ?_
  refine NE.code ?_
  rcases Bool.eq_false_or_eq_true (vIn ea (0 : Int) (100000 : Int)) with hb1 | hb1
  · have hp1 := hb1; try simp only [Bool.and_eq_true, Bool.or_eq_true, Bool.not_eq_true', Bool.not_eq_false', Bool.and_eq_false_iff, Bool.or_eq_false_iff, decide_eq_true_eq, decide_eq_false_iff_not, beq_iff_eq, bne_iff_ne, beq_eq_false_iff_ne, bne_eq_false_iff_eq, ne_eq, Bool.false_eq_true, not_false_eq_true, not_true_eq_false, vIn_t, vIn_f] at hp1
    refine CE.cond_f rfl (bnot_t hb1) ?_
    refine CE.skip' ?_
    refine NE.code ?_
    refine CE.seq ?_
    refine CE.seq ?_
    refine CE.region ?_
    refine WL.det (op_fieldAddr (off' := 1) rfl Tryd.runUnderlying72 rfl rfl Tryd.sizeOf2 rfl) rfl rfl rfl ?_
    refine WL.det (op_load1 (i := 1) rfl Tryd.isAgg2 r1.rng rfl rfl) rfl rfl rfl ?_
    refine WL.det (op_eqi rfl rfl) rfl rfl rfl ?_
    refine WL.end ?_
    refine NE.code ?_
    rcases Bool.eq_false_or_eq_true ((ek == (1 : Int))) with hb2 | hb2
    · have hp2 := eq_of_beq hb2
      refine CE.cond_t rfl hb2 ?_
      refine CE.seq ?_
      refine CE.region ?_
      refine WL.det (op_fieldAddr (off' := 3) rfl Tryd.runUnderlying72 rfl rfl Tryd.sizeOf2 rfl) rfl rfl rfl ?_
      refine WL.det (op_load1 (i := 3) rfl Tryd.isAgg2 r1.rng rfl rfl) rfl rfl rfl ?_
      refine WL.det (op_eqi rfl rfl) rfl rfl rfl ?_
      refine WL.det (op_move rfl) rfl rfl rfl ?_
      rcases Bool.eq_false_or_eq_true ((ei == (0 : Int))) with hb3 | hb3
      · have hp3 := eq_of_beq hb3
        refine WL.yes rfl rfl rfl (ltb rfl) rfl hb3 ?_
        refine WL.det (op_fieldAddr (off' := 4) rfl Tryd.runUnderlying72 rfl rfl Tryd.sizeOf2 rfl) rfl rfl rfl ?_
        refine WL.yes rfl rfl rfl (ltb rfl) rfl hb3 ?_
        refine WL.det (op_load1 (i := 4) rfl Tryd.isAgg2 r1.rng rfl rfl) rfl rfl rfl ?_
        refine WL.yes rfl rfl rfl (ltb rfl) rfl hb3 ?_
        refine WL.det (op_eqi rfl rfl) rfl rfl rfl ?_
        refine WL.det (op_pick_t rfl hb3 rfl) rfl rfl rfl ?_
        refine WL.det (op_move rfl) rfl rfl rfl ?_
        rcases Bool.eq_false_or_eq_true ((ey == (0 : Int))) with hb4 | hb4
        · have hp4 := eq_of_beq hb4
          refine WL.yes rfl rfl rfl (ltb rfl) rfl hb4 ?_
          refine WL.det (op_fieldAddr (off' := 5) rfl Tryd.runUnderlying72 rfl rfl Tryd.sizeOf22 rfl) rfl rfl rfl ?_
          refine WL.yes rfl rfl rfl (ltb rfl) rfl hb4 ?_
          refine WL.det (op_load1 (i := 5) rfl Tryd.isAgg22 r1.rng rfl rfl) rfl rfl rfl ?_
          refine WL.yes rfl rfl rfl (ltb rfl) rfl hb4 ?_
          refine WL.call (oc_call (vs := [vF ef]) (cap := []) rfl rfl rfl Tryd.call70 (c_bitsOf ef ef rfl w1)) rfl rfl (ltb rfl) ?_
          rintro _ _ ⟨rfl, rfl⟩
          refine WL.yes rfl rfl rfl (ltb rfl) rfl hb4 ?_
          refine WL.det (op_eqi rfl rfl) rfl rfl rfl ?_
          refine WL.det (op_pick_t rfl hb4 rfl) rfl rfl rfl ?_
          refine WL.det (op_assign rfl) rfl rfl rfl ?_
          refine WL.end ?_
          refine NE.code ?_
          refine CE.ret' ?_
          refine XE.ret_then ?_
          refine XE.leave1 Tryd.results49 rfl ?_
          refine ⟨?_, ((Mod.refl [] w).nt m1)⟩
          all_goals simp_all [evI]
        · have hp4 := ne_of_beq_false hb4
          refine WL.no rfl rfl rfl (ltb rfl) rfl hb4 rfl (ltb rfl) ?_
          refine WL.no rfl rfl rfl (ltb rfl) rfl hb4 rfl (ltb rfl) ?_
          refine WL.no rfl rfl rfl (ltb rfl) rfl hb4 rfl (ltb rfl) ?_
          refine WL.no rfl rfl rfl (ltb rfl) rfl hb4 rfl (ltb rfl) ?_
          refine WL.det (op_pick_f rfl hb4 rfl) rfl rfl rfl ?_
          refine WL.det (op_assign rfl) rfl rfl rfl ?_
          refine WL.end ?_
          refine NE.code ?_
          refine CE.ret' ?_
          refine XE.ret_then ?_
          refine XE.leave1 Tryd.results49 rfl ?_
          refine ⟨?_, ((Mod.refl [] w).nt m1)⟩
          all_goals simp_all [evI]
      · have hp3 := ne_of_beq_false hb3
        refine WL.no rfl rfl rfl (ltb rfl) rfl hb3 rfl (ltb rfl) ?_
        refine WL.no rfl rfl rfl (ltb rfl) rfl hb3 rfl (ltb rfl) ?_
        refine WL.no rfl rfl rfl (ltb rfl) rfl hb3 rfl (ltb rfl) ?_
        refine WL.det (op_pick_f rfl hb3 rfl) rfl rfl rfl ?_
        refine WL.det (op_move rfl) rfl rfl rfl ?_
        refine WL.no rfl rfl rfl (ltb rfl) rfl rfl rfl (ltb rfl) ?_
        refine WL.no rfl rfl rfl (ltb rfl) rfl rfl rfl (ltb rfl) ?_
        refine WL.no rfl rfl rfl (ltb rfl) rfl rfl rfl (ltb rfl) ?_
        refine WL.no rfl rfl rfl (ltb rfl) rfl rfl rfl (ltb rfl) ?_
        refine WL.det (op_pick_f rfl rfl rfl) rfl rfl rfl ?_
        refine WL.det (op_assign rfl) rfl rfl rfl ?_
        refine WL.end ?_
        refine NE.code ?_
        refine CE.ret' ?_
        refine XE.ret_then ?_
        refine XE.leave1 Tryd.results49 rfl ?_
        refine ⟨?_, ((Mod.refl [] w).nt m1)⟩
        all_goals simp_all [evI]
    · have hp2 := ne_of_beq_false hb2
      refine CE.cond_f rfl hb2 ?_
      refine CE.skip' ?_
      refine NE.code ?_
      refine CE.seq ?_
      refine CE.region ?_
      refine WL.det (op_fieldAddr (off' := 1) rfl Tryd.runUnderlying72 rfl rfl Tryd.sizeOf2 rfl) rfl rfl rfl ?_
      refine WL.det (op_load1 (i := 1) rfl Tryd.isAgg2 r1.rng rfl rfl) rfl rfl rfl ?_
      refine WL.det (op_eqi rfl rfl) rfl rfl rfl ?_
      refine WL.det (op_move rfl) rfl rfl rfl ?_
      rcases Bool.eq_false_or_eq_true ((ek == (2 : Int))) with hb5 | hb5
      · have hp5 := eq_of_beq hb5
        refine WL.yes rfl rfl rfl (ltb rfl) rfl hb5 ?_
        refine WL.det (op_fieldAddr (off' := 3) rfl Tryd.runUnderlying72 rfl rfl Tryd.sizeOf2 rfl) rfl rfl rfl ?_
        refine WL.yes rfl rfl rfl (ltb rfl) rfl hb5 ?_
        refine WL.det (op_load1 (i := 3) rfl Tryd.isAgg2 r1.rng rfl rfl) rfl rfl rfl ?_
        refine WL.yes rfl rfl rfl (ltb rfl) rfl hb5 ?_
        refine WL.det (op_move rfl) rfl rfl rfl ?_
        refine WL.yes rfl rfl rfl (ltb rfl) rfl hb5 ?_
        refine WL.det (op_sub (r := (m - (1 : Int))) rfl rfl (w_i64 (by omega) (by omega))) rfl rfl rfl ?_
        refine WL.yes rfl rfl rfl (ltb rfl) rfl hb5 ?_
        refine WL.call (oc_call (vs := [vI ei, vI 0, vI (m - (1 : Int))]) (cap := []) rfl rfl rfl Tryd.call51 (c_within ei (0 : Int) (m - (1 : Int)) w1)) rfl rfl (ltb rfl) ?_
        rintro _ _ ⟨rfl, rfl⟩
        refine WL.det (op_pick_t rfl hb5 rfl) rfl rfl rfl ?_
        refine WL.det (op_move rfl) rfl rfl rfl ?_
        rcases Bool.eq_false_or_eq_true (vIn ei (0 : Int) (m - (1 : Int))) with hb6 | hb6
        · have hp6 := hb6; try simp only [Bool.and_eq_true, Bool.or_eq_true, Bool.not_eq_true', Bool.not_eq_false', Bool.and_eq_false_iff, Bool.or_eq_false_iff, decide_eq_true_eq, decide_eq_false_iff_not, beq_iff_eq, bne_iff_ne, beq_eq_false_iff_ne, bne_eq_false_iff_eq, ne_eq, Bool.false_eq_true, not_false_eq_true, not_true_eq_false, vIn_t, vIn_f] at hp6
          refine WL.yes rfl rfl rfl (ltb rfl) rfl hb6 ?_
          refine WL.det (op_fieldAddr (off' := 4) rfl Tryd.runUnderlying72 rfl rfl Tryd.sizeOf2 rfl) rfl rfl rfl ?_
          refine WL.yes rfl rfl rfl (ltb rfl) rfl hb6 ?_
          refine WL.det (op_load1 (i := 4) rfl Tryd.isAgg2 r1.rng rfl rfl) rfl rfl rfl ?_
          refine WL.yes rfl rfl rfl (ltb rfl) rfl hb6 ?_
          refine WL.call (oc_call (vs := [vI ey]) (cap := []) rfl rfl rfl Tryd.call75 (c_isKey ey w1)) rfl rfl (ltb rfl) ?_
          rintro _ w2 ⟨rfl, m2⟩
          refine WL.det (op_pick_t rfl hb6 rfl) rfl rfl rfl ?_
          refine WL.det (op_move rfl) rfl rfl rfl ?_
          rcases Bool.eq_false_or_eq_true (vIn ey (-100 : Int) (100 : Int)) with hb7 | hb7
          · have hp7 := hb7; try simp only [Bool.and_eq_true, Bool.or_eq_true, Bool.not_eq_true', Bool.not_eq_false', Bool.and_eq_false_iff, Bool.or_eq_false_iff, decide_eq_true_eq, decide_eq_false_iff_not, beq_iff_eq, bne_iff_ne, beq_eq_false_iff_ne, bne_eq_false_iff_eq, ne_eq, Bool.false_eq_true, not_false_eq_true, not_true_eq_false, vIn_t, vIn_f] at hp7
            refine WL.yes rfl rfl rfl (ltb rfl) rfl hb7 ?_
            refine WL.det (op_fieldAddr (off' := 5) rfl Tryd.runUnderlying72 rfl rfl Tryd.sizeOf22 rfl) rfl rfl rfl ?_
            refine WL.yes rfl rfl rfl (ltb rfl) rfl hb7 ?_
            refine WL.det (op_load1 (i := 5) rfl Tryd.isAgg22 (r1.ext m2).rng rfl rfl) rfl rfl rfl ?_
            refine WL.yes rfl rfl rfl (ltb rfl) rfl hb7 ?_
            refine WL.call (oc_call (vs := [vF ef]) (cap := []) rfl rfl rfl Tryd.call35 (c_isFinite ef ef rfl w2)) rfl rfl (ltb rfl) ?_
            rintro _ w3 ⟨rfl, m3⟩
            refine WL.det (op_pick_t rfl hb7 rfl) rfl rfl rfl ?_
            refine WL.det (op_assign rfl) rfl rfl rfl ?_
            refine WL.end ?_
            refine NE.code ?_
            refine CE.ret' ?_
            refine XE.leave1 Tryd.results49 rfl ?_
            refine ⟨?_, ((((Mod.refl [] w).nt m1).nt m2).nt m3)⟩
            all_goals simp_all [evI]
          · have hp7 := hb7; try simp only [Bool.and_eq_true, Bool.or_eq_true, Bool.not_eq_true', Bool.not_eq_false', Bool.and_eq_false_iff, Bool.or_eq_false_iff, decide_eq_true_eq, decide_eq_false_iff_not, beq_iff_eq, bne_iff_ne, beq_eq_false_iff_ne, bne_eq_false_iff_eq, ne_eq, Bool.false_eq_true, not_false_eq_true, not_true_eq_false, vIn_t, vIn_f] at hp7
            refine WL.no rfl rfl rfl (ltb rfl) rfl hb7 rfl (ltb rfl) ?_
            refine WL.no rfl rfl rfl (ltb rfl) rfl hb7 rfl (ltb rfl) ?_
            refine WL.no rfl rfl rfl (ltb rfl) rfl hb7 rfl (ltb rfl) ?_
            refine WL.det (op_pick_f rfl hb7 rfl) rfl rfl rfl ?_
            refine WL.det (op_assign rfl) rfl rfl rfl ?_
            refine WL.end ?_
            refine NE.code ?_
            refine CE.ret' ?_
            refine XE.leave1 Tryd.results49 rfl ?_
            refine ⟨?_, (((Mod.refl [] w).nt m1).nt m2)⟩
            all_goals simp_all [evI]
        · have hp6 := hb6; try simp only [Bool.and_eq_true, Bool.or_eq_true, Bool.not_eq_true', Bool.not_eq_false', Bool.and_eq_false_iff, Bool.or_eq_false_iff, decide_eq_true_eq, decide_eq_false_iff_not, beq_iff_eq, bne_iff_ne, beq_eq_false_iff_ne, bne_eq_false_iff_eq, ne_eq, Bool.false_eq_true, not_false_eq_true, not_true_eq_false, vIn_t, vIn_f] at hp6
          refine WL.no rfl rfl rfl (ltb rfl) rfl hb6 rfl (ltb rfl) ?_
          refine WL.no rfl rfl rfl (ltb rfl) rfl hb6 rfl (ltb rfl) ?_
          refine WL.no rfl rfl rfl (ltb rfl) rfl hb6 rfl (ltb rfl) ?_
          refine WL.det (op_pick_f rfl hb6 rfl) rfl rfl rfl ?_
          refine WL.det (op_move rfl) rfl rfl rfl ?_
          refine WL.no rfl rfl rfl (ltb rfl) rfl rfl rfl (ltb rfl) ?_
          refine WL.no rfl rfl rfl (ltb rfl) rfl rfl rfl (ltb rfl) ?_
          refine WL.no rfl rfl rfl (ltb rfl) rfl rfl rfl (ltb rfl) ?_
          refine WL.det (op_pick_f rfl rfl rfl) rfl rfl rfl ?_
          refine WL.det (op_assign rfl) rfl rfl rfl ?_
          refine WL.end ?_
          refine NE.code ?_
          refine CE.ret' ?_
          refine XE.leave1 Tryd.results49 rfl ?_
          refine ⟨?_, ((Mod.refl [] w).nt m1)⟩
          all_goals simp_all [evI]
      · have hp5 := ne_of_beq_false hb5
        refine WL.no rfl rfl rfl (ltb rfl) rfl hb5 rfl (ltb rfl) ?_
        refine WL.no rfl rfl rfl (ltb rfl) rfl hb5 rfl (ltb rfl) ?_
        refine WL.no rfl rfl rfl (ltb rfl) rfl hb5 rfl (ltb rfl) ?_
        refine WL.no rfl rfl rfl (ltb rfl) rfl hb5 rfl (ltb rfl) ?_
        refine WL.no rfl rfl rfl (ltb rfl) rfl hb5 rfl (ltb rfl) ?_
        refine WL.det (op_pick_f rfl hb5 rfl) rfl rfl rfl ?_
        refine WL.det (op_move rfl) rfl rfl rfl ?_
        refine WL.no rfl rfl rfl (ltb rfl) rfl rfl rfl (ltb rfl) ?_
        refine WL.no rfl rfl rfl (ltb rfl) rfl rfl rfl (ltb rfl) ?_
        refine WL.no rfl rfl rfl (ltb rfl) rfl rfl rfl (ltb rfl) ?_
        refine WL.det (op_pick_f rfl rfl rfl) rfl rfl rfl ?_
        refine WL.det (op_move rfl) rfl rfl rfl ?_
        refine WL.no rfl rfl rfl (ltb rfl) rfl rfl rfl (ltb rfl) ?_
        refine WL.no rfl rfl rfl (ltb rfl) rfl rfl rfl (ltb rfl) ?_
        refine WL.no rfl rfl rfl (ltb rfl) rfl rfl rfl (ltb rfl) ?_
        refine WL.det (op_pick_f rfl rfl rfl) rfl rfl rfl ?_
        refine WL.det (op_assign rfl) rfl rfl rfl ?_
        refine WL.end ?_
        refine NE.code ?_
        refine CE.ret' ?_
        refine XE.leave1 Tryd.results49 rfl ?_
        refine ⟨?_, ((Mod.refl [] w).nt m1)⟩
        all_goals simp_all [evI]
  · have hp1 := hb1; try simp only [Bool.and_eq_true, Bool.or_eq_true, Bool.not_eq_true', Bool.not_eq_false', Bool.and_eq_false_iff, Bool.or_eq_false_iff, decide_eq_true_eq, decide_eq_false_iff_not, beq_iff_eq, bne_iff_ne, beq_eq_false_iff_ne, bne_eq_false_iff_eq, ne_eq, Bool.false_eq_true, not_false_eq_true, not_true_eq_false, vIn_t, vIn_f] at hp1
    refine CE.cond_t rfl (bnot_f hb1) ?_
    refine CE.seq ?_
    refine CE.region ?_
    refine WL.det (op_assign rfl) rfl rfl rfl ?_
    refine WL.end ?_
    refine NE.code ?_
    refine CE.ret' ?_
    refine XE.ret_then ?_
    refine XE.leave1 Tryd.results49 rfl ?_
    refine ⟨?_, ((Mod.refl [] w).nt m1)⟩
    all_goals simp_all [evI]

end Go.Proofs.YtdopidalhkcefaaDoor
