/- What the functions on scores compute: sizes and copies. -/
import Derived.Test.YtabfdgpldcegiaaB2
import Derived.Test.YtabfdgpldcegiaaE12
set_option linter.unusedVariables false
set_option linter.unusedSimpArgs false
namespace Go.Proofs.Ytabfdgpldcegiaa

structure EvR where
  at_ : Int
  kind : Int
  note : Int
  ins : Int
  key : Int
  force : Nat
def EvR.cells (e : EvR) : List Value := [vI e.at_, vI e.kind, vI e.note, vI e.ins, vI e.key, vF e.force]
def EvR.d : EvR := ⟨0, 0, 0, 0, 0, 0⟩
structure InR where
  name : ByteArray
  kind : Int
  a : Nat
  b : Nat
  c : Nat
def InR.cells (e : InR) : List Value := [.string e.name, vI e.kind, vF e.a, vF e.b, vF e.c]
def InR.d : InR := ⟨ByteArray.empty, 0, 0, 0, 0⟩
def evSame (x y : EvR) : Bool := (x.at_ == y.at_) && (x.kind == y.kind) && (x.note == y.note) && (x.ins == y.ins) && (x.key == y.key) && (cn .f32 x.force == cn .f32 y.force)
def inSame (x y : InR) : Bool := sEq x.name y.name && (x.kind == y.kind) && (cn .f32 x.a == cn .f32 y.a) && (cn .f32 x.b == cn .f32 y.b) && (cn .f32 x.c == cn .f32 y.c)
def sameW (x y : Nat) : Bool := cn .f32 x == cn .f32 y
theorem natBeq (x y : Nat) : ((x : Int) == (y : Int)) = (x == y) := by rw [Bool.eq_iff_iff]; simp; omega
def allR {α : Type} (s : α → α → Bool) (d : α) (es fs : List α) (n : Nat) : Bool := (List.range n).all fun i => s (es.getD i d) (fs.getD i d)
def sameL {α : Type} (s : α → α → Bool) (d : α) (es : List α) (n : Nat) (fs : List α) (m : Nat) : Bool := decide (n = m) && allR s d es fs n
section
variable {α : Type} {s : α → α → Bool} {d : α} {es fs : List α} {n m i : Nat}
end
def tuSame (ba oc : Nat) (xs : List Nat) (n : Nat) (ba' oc' : Nat) (ys : List Nat) (m : Nat) : Bool := (cn .f32 ba == cn .f32 ba') && (cn .f32 oc == cn .f32 oc') && sameL sameW 0 xs n ys m
/-- the lengths of the first names together -/
def nmSum (es : List InR) : Nat → Nat
  | 0 => 0
  | i + 1 => nmSum es i + (es.getD i InR.d).name.size
set_option maxRecDepth 100000 in
set_option maxHeartbeats 2000000 in
theorem c_SameSample (a : Nat) (x : Nat) (b : Nat) (y : Nat) (ha : cn .f32 a = cn .f32 x) (hb : cn .f32 b = cn .f32 y) (w : World) : Cl Try.prog 35 #[vF a, vF b] w fun v w' => v = .bool (cn .f32 x == cn .f32 y) ∧ w = w' := by
  refine Cl.of Try.func35 Try.ntmps35 rfl rfl (ρ := [(0, vF a), (1, vF b)]) rfl ?_
  refine CE.seq ?_
  refine CE.region ?_
  refine WL.det (op_assign rfl) rfl rfl rfl ?_
  refine WL.end ?_
  refine NE.code ?_
  refine CE.seq ?_
  refine CE.region ?_
  refine WL.det (op_move rfl) rfl rfl rfl ?_
  refine WL.call (oc_call (vs := [vF a]) (cap := []) rfl rfl rfl Try.call104 (c_bitsOf a x ha w)) rfl rfl (ltb rfl) ?_
  rintro _ _ ⟨rfl, rfl⟩
  refine WL.det (op_move rfl) rfl rfl rfl ?_
  refine WL.call (oc_call (vs := [vF b]) (cap := []) rfl rfl rfl Try.call104 (c_bitsOf b y hb w)) rfl rfl (ltb rfl) ?_
  rintro _ _ ⟨rfl, rfl⟩
  refine WL.det (op_eqi rfl rfl) rfl rfl rfl ?_
  refine WL.det (op_assign rfl) rfl rfl rfl ?_
  refine WL.end ?_
  refine NE.code ?_
  refine CE.ret' ?_
  refine XE.leave1 Try.results35 rfl ?_
  refine ⟨?_, rfl⟩
  all_goals exact congrArg Value.bool (natBeq _ _)

end Go.Proofs.Ytabfdgpldcegiaa
