/- The engine of this claim's walks, second part: what single operations yield. -/
import Derived.Test.YtnahhdnkbbdceaaE1
import Derived.Laws.CopyRow
import Derived.Laws.AppendOwn
import Derived.Laws.MakeOwn
namespace Go.Proofs.Ytnahhdnkbbdceaa

/-- The value `v`, and the world as it was. -/
def Det (v : Value) (w : World) : Value → World → Prop := fun u w' => u = v ∧ w' = w

section
variable {P : Program} {n : Nat} {ρ : Env} {w : World} {dst : Option Tmp} {ty : TypeId} {pos : String} {af : Array Edge} {g : Option (Nat × Bool)}

theorem Op1.mono {o : Oper} {S T : Value → World → Prop} (h : Op1 P n o ρ w S) (hst : ∀ u w', S u w' → T u w') : Op1 P n o ρ w T := fun a ha =>
  let ⟨u, w', h1, h2⟩ := h a ha; ⟨u, w', h1, hst u w' h2⟩

theorem op_run {o : Oper} {v : Value} {w' : World} {S : Value → World → Prop} (h : ∀ a, Fr n ρ a → (execOp a.eval o).run P w = .ok (.value v) w') (hs : S v w') : Op1 P n o ρ w S :=
  fun a ha => ⟨v, w', .inl (h a ha), hs⟩

theorem op_move {x : Operand} {v : Value} (hx : ev ρ x = some v) : Op1 P n ⟨dst, .move x, ty, pos, af, g⟩ ρ w (Det v w) :=
  op_run (fun a ha => by simp [execOp, ha.ev hx]) ⟨rfl, rfl⟩

theorem op_assign {x : Operand} {v : Value} (hx : ev ρ x = some v) : Op1 P n ⟨dst, .assign x, ty, pos, af, g⟩ ρ w (Det v w) :=
  op_run (fun a ha => by simp [execOp, ha.ev hx]) ⟨rfl, rfl⟩

theorem op_pick_t {c x y : Operand} {b : Bool} {v : Value} (hc : ev ρ c = some (.bool b)) (hb : b = true) (hx : ev ρ x = some v) : Op1 P n ⟨dst, .pick c x y, ty, pos, af, g⟩ ρ w (Det v w) :=
  op_run (fun a ha => by simp [execOp, ha.ev hc, ha.ev hx, asBool, hb]) ⟨rfl, rfl⟩

theorem op_pick_f {c x y : Operand} {b : Bool} {v : Value} (hc : ev ρ c = some (.bool b)) (hb : b = false) (hy : ev ρ y = some v) : Op1 P n ⟨dst, .pick c x y, ty, pos, af, g⟩ ρ w (Det v w) :=
  op_run (fun a ha => by simp [execOp, ha.ev hc, ha.ev hy, asBool, hb]) ⟨rfl, rfl⟩

theorem op_nilCheck {x : Operand} {p : Addr} (hx : ev ρ x = some (.pointer (some p))) : Op1 P n ⟨dst, .nilCheck x, ty, pos, af, g⟩ ρ w (Det (.pointer (some p)) w) :=
  op_run (fun a ha => by simp [execOp, ha.ev hx]) ⟨rfl, rfl⟩

theorem op_extract {x : Operand} {i : Nat} {vs : Array Value} {v : Value} (hx : ev ρ x = some (.tuple vs)) (hv : vs[i]? = some v) : Op1 P n ⟨dst, .extract x i, ty, pos, af, g⟩ ρ w (Det v w) :=
  op_run (fun a ha => by simp [execOp, ha.ev hx, Instr.extract, hv]) ⟨rfl, rfl⟩

theorem addr_add (b o k : Nat) : (⟨b, o, none⟩ : Addr).add k = ⟨b, o + k, none⟩ := by unfold Addr.add; split <;> simp_all

/-! #### addresses -/

theorem op_fieldAddr {s f k m b off off' : Nat} {x : Operand} {fs : Array Field} {fd : Field} (hx : ev ρ x = some (.pointer (some ⟨b, off, none⟩)))
    (hu : ∀ w, (underlying s).run P w = .ok (.struct fs) w) (hf : fs[f]? = some fd) (hk : fd.offset = k) (hs : ∀ w, (sizeOf fd.type).run P w = .ok (m + 1) w) (ho : off + k = off') :
    Op1 P n ⟨dst, .fieldAddr s x f, ty, pos, af, g⟩ ρ w (Det (.pointer (some ⟨b, off', none⟩)) w) := by
  refine op_run (fun a ha => ?_) ⟨rfl, rfl⟩
  subst hk ho
  simp [execOp, ha.ev hx, Instr.fieldAt, hu, hf, Instr.sureAddr, fieldPlace, hs, addr_add]

theorem op_indexArr {t e N m b off off' : Nat} {x y : Operand} {k : IntKind} {i : Int} (hx : ev ρ x = some (.pointer (some ⟨b, off, none⟩))) (hy : ev ρ y = some (.int k i))
    (hu : ∀ w, (underlying t).run P w = .ok (.array N e) w) (hs : ∀ w, (sizeOf e).run P w = .ok m w) (h0 : 0 ≤ i) (h1 : i < N) (ho : off + i.toNat * m = off') :
    Op1 P n ⟨dst, .indexAddr t x y, ty, pos, af, g⟩ ρ w (Det (.pointer (some ⟨b, off', none⟩)) w) := by
  refine op_run (fun a ha => ?_) ⟨rfl, rfl⟩
  subst ho
  simp [execOp, ha.ev hx, ha.ev hy, Instr.indexAt, hu, asIntOf, Instr.sureAddr, h0, h1, hs, addr_add]

theorem op_indexSl {t e m b off off' len cap : Nat} {x y : Operand} {k : IntKind} {i : Int} {A : Option Addr} (hx : ev ρ x = some (.slice A len cap)) (hA : A = some ⟨b, off, none⟩) (hy : ev ρ y = some (.int k i))
    (hu : ∀ w, (underlying t).run P w = .ok (.slice e) w) (hs : ∀ w, (sizeOf e).run P w = .ok m w) (h0 : 0 ≤ i) (h1 : i < len) (ho : off + i.toNat * m = off') :
    Op1 P n ⟨dst, .indexAddr t x y, ty, pos, af, g⟩ ρ w (Det (.pointer (some ⟨b, off', none⟩)) w) := by
  refine op_run (fun a ha => ?_) ⟨rfl, rfl⟩
  subst ho hA
  simp [execOp, ha.ev hx, ha.ev hy, Instr.indexAt, hu, asIntOf, h0, h1, hs, addr_add]

/-! #### loads and stores -/

theorem run_load1 {t b off : Nat} {v : Value} (hg : ∀ w, (isAgg t).run P w = .ok false w) (hc : w.cell? ⟨b, off, none⟩ = some v) : (loadVar t ⟨b, off, none⟩).run P w = .ok v w := by
  simp [loadVar, hg, hc]

theorem run_loadA {t m b off : Nat} {cs : List Value} (hg : ∀ w, (isAgg t).run P w = .ok true w) (hs : ∀ w, (sizeOf t).run P w = .ok m w) (hm : cs.length = m) (hr : Rng w b off cs) : (loadVar t ⟨b, off, none⟩).run P w = .ok (.agg cs.toArray) w := by
  subst hm
  simp [loadVar, hg, hs, run_loadCells_list w ⟨b, off, none⟩ cs (fun j v hv => by rw [addr_add]; exact hr j v hv)]

theorem op_load1 {t b o i off : Nat} {x : Operand} {vs : List Value} {v : Value} (hx : ev ρ x = some (.pointer (some ⟨b, off, none⟩))) (hg : ∀ w, (isAgg t).run P w = .ok false w) (hr : Rng w b o vs) (ho : o + i = off) (hv : vs[i]? = some v) :
    Op1 P n ⟨dst, .load t x, ty, pos, af, g⟩ ρ w (Det v w) := by
  refine op_run (fun a ha => ?_) ⟨rfl, rfl⟩
  subst ho
  simp [execOp, ha.ev hx, Instr.loadAt, Instr.sureAddr, run_load1 hg (hr i v hv)]

theorem op_loadA {t m b o i off : Nat} {x : Operand} {vs cs : List Value} (hx : ev ρ x = some (.pointer (some ⟨b, off, none⟩))) (hg : ∀ w, (isAgg t).run P w = .ok true w) (hs : ∀ w, (sizeOf t).run P w = .ok m w)
    (hr : Rng w b o vs) (ho : o + i = off) (hc : (vs.drop i).take m = cs) (hm : cs.length = m) :
    Op1 P n ⟨dst, .load t x, ty, pos, af, g⟩ ρ w (Det (.agg cs.toArray) w) := by
  refine op_run (fun a ha => ?_) ⟨rfl, rfl⟩
  subst ho
  have h1 : Rng w b (o + i) cs := hc ▸ ((hr.drop i).take m)
  simp [execOp, ha.ev hx, Instr.loadAt, Instr.sureAddr, run_loadA hg hs hm h1]

/-- a list with `cs` in the place from `i` on -/
def splice (vs : List Value) (i : Nat) (cs : List Value) : List Value := vs.take i ++ cs ++ vs.drop (i + cs.length)

theorem splice_one (vs : List Value) (i : Nat) (v : Value) (h : i < vs.length) : splice vs i [v] = vs.set i v := by
  simp [splice, List.set_eq_take_append_cons_drop, h]

theorem run_storeRow {b o i : Nat} {vs cs : List Value} (hr : Row w b o vs) (hl : i + cs.length ≤ vs.length) (h1 : ∀ v ∈ cs, v.oneCell' = true) :
    ∃ w', (storeCells ⟨b, o + i, none⟩ cs 0).run P w = .ok () w' ∧ Row w' b o (splice vs i cs) ∧ Mod [b] w w' ∧ w'.heap.size = w.heap.size := by
  obtain ⟨cur, t, hg, hc⟩ := hr.ex
  have hcur : cs ≠ [] → o + i + cs.length ≤ cur.size := by
    intro hne
    have hpos : 0 < cs.length := List.length_pos_iff.2 hne
    have hlast : i + cs.length - 1 < vs.length := by omega
    have := hc (i + cs.length - 1) _ (List.getElem?_eq_getElem hlast)
    have := (Array.getElem?_eq_some_iff.1 this).1
    omega
  by_cases hne : cs = []
  · subst hne
    exact ⟨w, by simp [storeCells], by simpa [splice] using hr, Mod.refl _ _, rfl⟩
  · refine ⟨_, run_storeCells_at P b (o + i) t cs 0 cur w hg (by simpa using hcur hne) h1, ⟨_, t, setRow_heap w b cur _ t _ hg, ?_⟩, ⟨rfl, rfl, rfl, by simp, fun k _ hk => setRow_other w b k _ (by simpa using hk)⟩, by simp⟩
    intro j v hj
    have hsz := hcur hne
    simp only [Nat.add_zero, List.getElem?_toArray]
    unfold splice at hj
    have hlt : (cur.toList.take (o + i)).length = o + i := by simp; omega
    have hlv : (vs.take i).length = i := by simp; omega
    rw [List.append_assoc] at hj ⊢
    rw [List.getElem?_append] at hj ⊢
    rw [hlt]
    rw [hlv] at hj
    by_cases c1 : j < i
    · rw [if_pos c1] at hj
      rw [if_pos (by omega)]
      rw [List.getElem?_take_of_lt c1] at hj
      rw [List.getElem?_take_of_lt (by omega)]
      simpa using hc j v hj
    · rw [if_neg c1] at hj
      rw [if_neg (by omega)]
      rw [show o + j - (o + i) = j - i by omega]
      rw [List.getElem?_append] at hj ⊢
      by_cases c2 : j - i < cs.length
      · rw [if_pos c2] at hj ⊢; exact hj
      · rw [if_neg c2] at hj ⊢
        rw [List.getElem?_drop] at hj ⊢
        have := hc (i + cs.length + (j - i - cs.length)) v hj
        rw [show o + (i + cs.length + (j - i - cs.length)) = o + i + cs.length + (j - i - cs.length) by omega] at this
        simpa using this

theorem op_store {t m b o i off : Nat} {x y : Operand} {vs cs : List Value} {v : Value} (hx : ev ρ x = some (.pointer (some ⟨b, off, none⟩))) (hy : ev ρ y = some v) (hcs : v.cells.toList = cs) (hs : ∀ w, (sizeOf t).run P w = .ok m w) (hm : cs.length = m)
    (hr : Row w b o vs) (ho : o + i = off) (hl : i + m ≤ vs.length) (h1 : cs.all Value.oneCell' = true) :
    Op1 P n ⟨dst, .store t x y, ty, pos, af, g⟩ ρ w (fun _ w' => Row w' b o (splice vs i cs) ∧ Mod [b] w w' ∧ w'.heap.size = w.heap.size) := fun a ha => by
  subst ho hm
  obtain ⟨w', hrun, h2⟩ := run_storeRow (P := P) hr hl (fun v hv => List.all_eq_true.1 h1 v hv)
  refine ⟨undef, w', .inr ⟨?_, rfl⟩, h2⟩
  have hsz : v.cells.size = cs.length := by rw [← hcs]; simp
  simp [execOp, ha.ev hx, ha.ev hy, Instr.storeAt, Instr.sureAddr, storeVar, hs, hsz, hcs, hrun]

/-! #### new memory -/

theorem op_box {e : Nat} {x : Operand} {v : Value} {cs : List Value} (hx : ev ρ x = some v) (hcs : v.cells.toList = cs) :
    Op1 P n ⟨dst, .box e x, ty, pos, af, g⟩ ρ w (fun u w' => u = .pointer (some ⟨w.heap.size, 0, none⟩) ∧ Row w' w.heap.size 0 cs ∧ Mod [] w w' ∧ w.heap.size < w'.heap.size) := by
  refine op_run (v := .pointer (some ⟨w.heap.size, 0, none⟩)) (w' := w.alloc (.cells v.cells e)) (fun a ha => ?_) ⟨rfl, hcs ▸ Row.new w v.cells e, Mod.alloc _ _, by simp⟩
  simp [execOp, ha.ev hx, Instr.box, newVar, newRow]

theorem op_alloc {e : Nat} {v : Value} {cs : List Value} (hz : ∀ w, (zeroValue e).run P w = .ok v w) (hcs : v.cells.toList = cs) :
    Op1 P n ⟨dst, .alloc e, ty, pos, af, g⟩ ρ w (fun u w' => u = .pointer (some ⟨w.heap.size, 0, none⟩) ∧ Row w' w.heap.size 0 cs ∧ Mod [] w w' ∧ w.heap.size < w'.heap.size) := by
  refine op_run (v := .pointer (some ⟨w.heap.size, 0, none⟩)) (w' := w.alloc (.cells v.cells e)) (fun a ha => ?_) ⟨rfl, hcs ▸ Row.new w v.cells e, Mod.alloc _ _, by simp⟩
  simp [execOp, hz, Instr.alloc, newVar, newRow]

/-! #### whole numbers, bools -/

theorem op_bin {op : BinOp} {t u : Nat} {x y : Operand} {a b v : Value} (hx : ev ρ x = some a) (hy : ev ρ y = some b) (hg : ∀ w, (eqGuard op t x y a b).run P w = .ok () w) (hr : (binOp op t a b).run P w = .ok v w) :
    Op1 P n ⟨dst, .binOp op t x y u, ty, pos, af, g⟩ ρ w (Det v w) :=
  op_run (fun c hc => by simp [execOp, hc.ev hx, hc.ev hy, hg, hr]) ⟨rfl, rfl⟩

theorem guard_int {op : BinOp} {t : Nat} {x y : Operand} {k : IntKind} {i : Int} {v : Value} (w : World) : (eqGuard op t x y (.int k i) v).run P w = .ok () w := by rw [eqGuard_at_int]; rfl
theorem guard_float {op : BinOp} {t : Nat} {x y : Operand} {k : FloatKind} {i : Nat} {v : Value} (w : World) : (eqGuard op t x y (.float k i) v).run P w = .ok () w := by rw [eqGuard_at_float]; rfl
theorem guard_bool {op : BinOp} {t : Nat} {x y : Operand} {i : Bool} {v : Value} (w : World) : (eqGuard op t x y (.bool i) v).run P w = .ok () w := by rw [eqGuard_at_bool]; rfl
theorem guard_slice {op : BinOp} {t : Nat} {x y : Operand} {i : Option Addr} {l c : Nat} {v : Value} (w : World) : (eqGuard op t x y (.slice i l c) v).run P w = .ok () w := by rw [eqGuard_at_slice]; rfl

section
variable {t u : Nat} {x y : Operand} {k : IntKind} {i j r : Int}
theorem op_add (hx : ev ρ x = some (.int k i)) (hy : ev ρ y = some (.int k j)) (h : k.wrap (i + j) = r) : Op1 P n ⟨dst, .binOp .add t x y u, ty, pos, af, g⟩ ρ w (Det (.int k r) w) :=
  op_bin hx hy guard_int (by subst h; simp [binOp_add, Op.intArith])
theorem op_sub (hx : ev ρ x = some (.int k i)) (hy : ev ρ y = some (.int k j)) (h : k.wrap (i - j) = r) : Op1 P n ⟨dst, .binOp .sub t x y u, ty, pos, af, g⟩ ρ w (Det (.int k r) w) :=
  op_bin hx hy guard_int (by subst h; simp [binOp_sub, Op.intArith])
theorem op_mul (hx : ev ρ x = some (.int k i)) (hy : ev ρ y = some (.int k j)) (h : k.wrap (i * j) = r) : Op1 P n ⟨dst, .binOp .mul t x y u, ty, pos, af, g⟩ ρ w (Det (.int k r) w) :=
  op_bin hx hy guard_int (by subst h; simp [binOp_mul, Op.intArith])
theorem op_rem (hx : ev ρ x = some (.int k i)) (hy : ev ρ y = some (.int k j)) (hj : j ≠ 0) (h : i.tmod j = r) : Op1 P n ⟨dst, .binOp .rem t x y u, ty, pos, af, g⟩ ρ w (Det (.int k r) w) :=
  op_bin hx hy guard_int (by subst h; simp [binOp_rem, Op.intDiv, hj])
theorem op_and (hx : ev ρ x = some (.int k i)) (hy : ev ρ y = some (.int k j)) : Op1 P n ⟨dst, .binOp .and t x y u, ty, pos, af, g⟩ ρ w (Det (.int k (bits .and k i j)) w) :=
  op_bin hx hy guard_int (by simp [binOp_and, intBits_and])
theorem op_eqi (hx : ev ρ x = some (.int k i)) (hy : ev ρ y = some (.int k j)) : Op1 P n ⟨dst, .binOp .eql t x y u, ty, pos, af, g⟩ ρ w (Det (.bool (i == j)) w) :=
  op_bin hx hy guard_int (by simp [binOp_eql])
theorem op_nei (hx : ev ρ x = some (.int k i)) (hy : ev ρ y = some (.int k j)) : Op1 P n ⟨dst, .binOp .neq t x y u, ty, pos, af, g⟩ ρ w (Det (.bool (i != j)) w) :=
  op_bin hx hy guard_int (by simp [binOp_neq])
theorem op_lti (hx : ev ρ x = some (.int k i)) (hy : ev ρ y = some (.int k j)) : Op1 P n ⟨dst, .binOp .lss t x y u, ty, pos, af, g⟩ ρ w (Det (.bool (decide (i < j))) w) :=
  op_bin hx hy guard_int (by simp [binOp_lss])
theorem op_lei (hx : ev ρ x = some (.int k i)) (hy : ev ρ y = some (.int k j)) : Op1 P n ⟨dst, .binOp .leq t x y u, ty, pos, af, g⟩ ρ w (Det (.bool (decide (i ≤ j))) w) :=
  op_bin hx hy guard_int (by simp [binOp_leq])
theorem op_gti (hx : ev ρ x = some (.int k i)) (hy : ev ρ y = some (.int k j)) : Op1 P n ⟨dst, .binOp .gtr t x y u, ty, pos, af, g⟩ ρ w (Det (.bool (decide (j < i))) w) :=
  op_bin hx hy guard_int (by simp [binOp_gtr])
theorem op_gei (hx : ev ρ x = some (.int k i)) (hy : ev ρ y = some (.int k j)) : Op1 P n ⟨dst, .binOp .geq t x y u, ty, pos, af, g⟩ ρ w (Det (.bool (decide (j ≤ i))) w) :=
  op_bin hx hy guard_int (by simp [binOp_geq])
end

theorem op_not {t : Nat} {x : Operand} {b : Bool} (hx : ev ρ x = some (.bool b)) : Op1 P n ⟨dst, .unOp .not t x, ty, pos, af, g⟩ ρ w (Det (.bool (!b)) w) :=
  op_run (fun a ha => by simp [execOp, ha.ev hx, Op.unary]) ⟨rfl, rfl⟩

theorem op_negf {t : Nat} {x : Operand} {k : FloatKind} {b : Nat} (hx : ev ρ x = some (.float k b)) : Op1 P n ⟨dst, .unOp .neg t x, ty, pos, af, g⟩ ρ w (Det (.float k (Op.negFloat k b)) w) :=
  op_run (fun a ha => by simp [execOp, ha.ev hx, Op.unary]) ⟨rfl, rfl⟩

theorem op_len {t l c : Nat} {x : Operand} {A : Option Addr} (hx : ev ρ x = some (.slice A l c)) {e : Nat} (hu : ∀ w, (underlying t).run P w = .ok (.slice e) w) :
    Op1 P n ⟨dst, .call { callee := .builtin .len, args := #[x], argTypes := #[t] }, ty, pos, af, g⟩ ρ w (Det (.int .i64 l) w) :=
  op_run (fun a ha => by simp [execOp, resolve, invoke, builtin, ha.ev hx, Builtin.len_, hu, goInt]) ⟨rfl, rfl⟩

/-! #### conversions -/
theorem op_cvt_ii {s d : Nat} {x : Operand} {k k' : IntKind} {i r : Int} {du : TypeDesc} (hx : ev ρ x = some (.int k i)) (hs : ∀ w, (underlying s).run P w = .ok du w) (hd : ∀ w, (underlying d).run P w = .ok (.int k') w) (h : k'.wrap i = r) :
    Op1 P n ⟨dst, .convert s d x, ty, pos, af, g⟩ ρ w (Det (.int k' r) w) :=
  op_run (fun a ha => by subst h; cases du <;> simp [execOp, ha.ev hx, convert, hs, hd, Conv.intToInt]) ⟨rfl, rfl⟩

theorem op_cvt_if {s d : Nat} {x : Operand} {k : IntKind} {k' : FloatKind} {i : Int} {du : TypeDesc} (hx : ev ρ x = some (.int k i)) (hs : ∀ w, (underlying s).run P w = .ok du w) (hd : ∀ w, (underlying d).run P w = .ok (.float k') w) :
    Op1 P n ⟨dst, .convert s d x, ty, pos, af, g⟩ ρ w (Det (.float k' (k'.nearest i)) w) :=
  op_run (fun a ha => by cases du <;> simp [execOp, ha.ev hx, convert, hs, hd, Conv.intToFloat]) ⟨rfl, rfl⟩

/-! #### aggregates by value -/
theorem op_build {t : Nat} {ps : Array (Nat × Operand)} {qs : List (Nat × Value)} {cells : Array Value} (hps : ps.toList.map (fun p => (p.1, ev ρ p.2)) = qs.map (fun q => (q.1, some q.2))) (h : P.built t qs = some cells) :
    Op1 P n ⟨dst, .build t ps, ty, pos, af, g⟩ ρ w (Det (.agg cells) w) := by
  refine op_run (fun a ha => ?_) ⟨rfl, rfl⟩
  have key : ∀ (l : List (Nat × Operand)) (r : List (Nat × Value)), l.map (fun p => (p.1, ev ρ p.2)) = r.map (fun q => (q.1, some q.2)) → l.map (fun p => (p.1, a.eval p.2)) = r := by
    intro l
    induction l with
    | nil => intro r h; cases r with | nil => rfl | cons _ _ => simp at h
    | cons x l ih =>
      intro r h
      cases r with
      | nil => simp at h
      | cons v r => simp at h; simp [ha.ev h.1.2, ih r h.2, h.1.1]
  have h1 : (ps.map fun (i, x) => (i, a.eval x)) = qs.toArray := by rw [← key _ _ hps, ← Array.toList_map, Array.toArray_toList]
  have h2 := run_build (P := P) w t qs.toArray cells (by simpa using h)
  simp only [execOp, h1, Sem.run_bind, h2, Result.andThen_ok, Sem.run_pure]

/-! #### calls -/
theorem evals {a : Act} (ha : Fr n ρ a) {xs : Array Operand} {vs : List Value} (hx : xs.toList.map (ev ρ) = vs.map some) : xs.map a.eval = vs.toArray := by
  have key : ∀ (l : List Operand) (r : List Value), l.map (ev ρ) = r.map some → l.map a.eval = r := by
    intro l
    induction l with
    | nil => intro r h; cases r with | nil => rfl | cons _ _ => simp at h
    | cons x l ih =>
      intro r h
      cases r with
      | nil => simp at h
      | cons v r => simp at h; simp [ha.ev h.1, ih r h.2]
  rw [← key _ _ hx, ← Array.toList_map, Array.toArray_toList]

theorem oc_call {f : FuncId} {x : Operand} {xs : Array Operand} {ts : Array TypeId} {vs cap : List Value} {fst : Array Value} {S : Value → World → Prop} (hf : ev ρ x = some (.func (.func f) fst cap.toArray)) (h0 : fst = #[]) (hx : xs.toList.map (ev ρ) = vs.map some)
    (hc : ∀ args w, (callFunc f args).run P w = .ok (.enter f args) w) (h : Cl P f (vs ++ cap).toArray w S) :
    Oc1 P n ⟨dst, .call { callee := .value x, args := xs, argTypes := ts }, ty, pos, af, g⟩ ρ w S := fun a ha => by
  subst h0
  refine ⟨f, _, ?_, h⟩
  have h1 := evals ha hx
  simp [execOp, resolve, Deferred.ofValue, invoke, ha.ev hf, h1, hc]

end
end Go.Proofs.Ytnahhdnkbbdceaa
