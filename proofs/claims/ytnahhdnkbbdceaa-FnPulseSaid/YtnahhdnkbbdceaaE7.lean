/- The engine of this claim's walks, fifth part: leaving blocks and loops; rounds one by one. -/
import Derived.Test.YtnahhdnkbbdceaaE4
import Derived.LoopN
set_option linter.unusedVariables false
namespace Go.Proofs.Ytnahhdnkbbdceaa

/-- what is asked at a normal end -/
def NE (n : Nat) (Q : Exit → Act → World → Prop) (ρ : Env) (w : World) : Prop := ∀ a, Fr n ρ a → Q .normal a w
def XE (n : Nat) (e : Exit) (Q : Exit → Act → World → Prop) (ρ : Env) (w : World) : Prop := ∀ a, Fr n ρ a → Q e a w

section
variable {P : Program} {n m : Nat} {Q : Exit → Act → World → Prop} {K : Act → World → Prop} {ρ : Env} {w : World} {y c : Code} {id id' : Nat} {ops : Array Oper} {l : List Oper}

theorem WL.end (h : NE n Q ρ w) : WL P n ops Q [] ρ w := fun a ha => h a ha
theorem WO.end (h : NE n Q ρ w) : WO P n l Q [] ρ w := fun a ha => h a ha
theorem CE.skip' (h : NE n Q ρ w) : CE P n .skip Q ρ w := CE.skip h
theorem CE.exit' (h : XE n (.exit id) Q ρ w) : CE P n (.exit id) Q ρ w := CE.exit h
theorem CE.ret' (h : XE n .ret Q ρ w) : CE P n .ret Q ρ w := CE.ret h
theorem NE.code (h : CE P n y Q ρ w) : NE n (Exit.then (y.wp P Q) Q) ρ w := fun a ha => h a ha
theorem NE.blk (h : NE n Q ρ w) : NE n (Exit.inBlock id Q) ρ w := fun a ha => h a ha
theorem XE.exit_then (h : XE n (.exit id) Q ρ w) : XE n (.exit id) (Exit.then K Q) ρ w := fun a ha => h a ha
theorem XE.ret_then (h : XE n .ret Q ρ w) : XE n .ret (Exit.then K Q) ρ w := fun a ha => h a ha
theorem XE.ret_blk (h : XE n .ret Q ρ w) : XE n .ret (Exit.inBlock id Q) ρ w := fun a ha => h a ha
theorem XE.exit_here (h : NE n Q ρ w) : XE n (.exit id) (Exit.inBlock id Q) ρ w := fun a ha => by
  show (if id = id then Q .normal a w else Q (.exit id) a w)
  rw [if_pos rfl]; exact h a ha
/-- rounds of a loop, one by one -/
def RN (P : Program) (n : Nat) (c : Code) (Q : Exit → Act → World → Prop) (m : Nat) (ρ : Env) (w : World) : Prop := ∀ a, Fr n ρ a → Code.rounds P c Q m a w
theorem CE.rounds (m : Nat) (h : RN P n c Q m ρ w) : CE P n (.loop c) Q ρ w := fun a ha => wp_loop_rounds m (h a ha)
theorem RN.one (h : CE P n c (Exit.then (Code.rounds P c Q m) Q) ρ w) : RN P n c Q (m + 1) ρ w := fun a ha => h a ha
theorem NE.round (h : RN P n c Q m ρ w) : NE n (Exit.then (Code.rounds P c Q m) Q) ρ w := fun a ha => h a ha

/-- the end of a loop's round -/
theorem NE.again {α : Type} {J : α → Env} {W : α → World → Prop} {μ : α → Nat} {x : α} (x' : α) (hs : subB (J x') ρ) (hw : W x' w) (hm : μ x' < μ x) :
    NE n (Exit.then (fun a' w' => ∃ x', Fr n (J x') a' ∧ W x' w' ∧ μ x' < μ x) Q) ρ w := fun a ha => ⟨x', ha.sub hs, hw, hm⟩
end

section
variable {P : Program} {fn : Func} {S : Value → World → Prop} {n t : Nat} {ρ : Env} {w : World} {v : Value}
theorem XE.leave1 (hr : fn.results = #[.tmp t]) (hv : ρ.lookup t = some v) (h : S v w) : XE n .ret (bodyPost P fn fun e w' => ∃ v, e = .returned v ∧ S v w') ρ w := Proofs.Ytnahhdnkbbdceaa.leave1 hr hv h
theorem XE.leaveT {rs : Array ResultVar} (hr : fn.results = rs) {v1 v2 : Value} {vs : List Value} (h1 : ResOK P w ρ rs.toList (v1 :: v2 :: vs)) (h : S (.tuple (v1 :: v2 :: vs).toArray) w) : XE n .ret (bodyPost P fn fun e w' => ∃ v, e = .returned v ∧ S v w') ρ w :=
  Proofs.Ytnahhdnkbbdceaa.leaveT (hr ▸ h1) h
theorem XE.leaveC {rs : Array ResultVar} (hr : fn.results = rs) (h1 : ResOK P w ρ rs.toList [v]) (h : S v w) : XE n .ret (bodyPost P fn fun e w' => ∃ v, e = .returned v ∧ S v w') ρ w := Proofs.Ytnahhdnkbbdceaa.leaveC (hr ▸ h1) h
theorem NE.leave1 (hr : fn.results = #[.tmp t]) (hv : ρ.lookup t = some v) (h : S v w) : NE n (bodyPost P fn fun e w' => ∃ v, e = .returned v ∧ S v w') ρ w := Proofs.Ytnahhdnkbbdceaa.leave1 hr hv h
end

theorem res_tmp {P : Program} {w : World} {ρ : Env} {t : Nat} {r : List ResultVar} {v : Value} {vs : List Value} (h : ρ.lookup t = some v) (h2 : ResOK P w ρ r vs) : ResOK P w ρ (.tmp t :: r) (v :: vs) := ⟨h, h2⟩
theorem res_agg {P : Program} {w : World} {ρ : Env} {p ty m b o : Nat} {r : List ResultVar} {cs : List Value} {vs : List Value} (h : ρ.lookup p = some (.pointer (some ⟨b, o, none⟩))) (hg : ∀ w, (isAgg ty).run P w = .ok true w) (hs : ∀ w, (sizeOf ty).run P w = .ok m w)
    (hr : Rng w b o cs) (hm : cs.length = m) (h2 : ResOK P w ρ r vs) : ResOK P w ρ (.cell p ty :: r) (.agg cs.toArray :: vs) := ⟨⟨_, h, run_loadA hg hs hm hr⟩, h2⟩
theorem res_nil {P : Program} {w : World} {ρ : Env} : ResOK P w ρ [] [] := trivial

theorem w_i64 {i : Int} (h0 : -9223372036854775808 ≤ i) (h1 : i ≤ 9223372036854775807) : IntKind.i64.wrap i = i := by rw [IntKind.wrap_i64]; omega

end Go.Proofs.Ytnahhdnkbbdceaa

/- The engine of this claim's walks, twenty-second part: code whose ways meet again. -/
set_option linter.unusedVariables false
namespace Go.Proofs.Ytnahhdnkbbdceaa

section
variable {P : Program} {n : Nat} {Q : Exit → Act → World → Prop} {ρ : Env} {w : World} {c : Code}
/-- the code ends as `F` says, whichever way it goes -/
theorem CE.cut (F : Env → World → Prop) (h : CE P n c (fun e a w => e = .normal ∧ ∃ ρ', Fr n ρ' a ∧ F ρ' w) ρ w) (k : ∀ ρ' w', F ρ' w' → NE n Q ρ' w') : CE P n c Q ρ w := fun a ha =>
  wp_mono (h a ha) fun e a' w' q => by
    obtain ⟨rfl, ρ', hf, hF⟩ := q
    exact k ρ' w' hF a' hf
end
end Go.Proofs.Ytnahhdnkbbdceaa

/- The engine of this claim's walks, sixth part: new slices, appends, and short facts that printed walks name. -/
namespace Go.Proofs.Ytnahhdnkbbdceaa

theorem W32.zeros (n : Nat) : W32 (List.replicate n 0) := fun x hx => by
  rw [(List.mem_replicate.1 hx).2, wid32]; decide
theorem W32.nil : W32 [] := fun x hx => by cases hx
theorem fl_len {xs : List Nat} {m : Nat} (h : xs.length = m) : (fl xs).length = m := by rw [fl_length, h]
theorem wid_lt {x : Nat} (h : x < wid .f32) : x < 4294967296 := by rw [wid32] at h; exact h
section
variable {P : Program} {n : Nat} {ρ : Env} {w : World} {dst : Option Tmp} {ty : TypeId} {pos : String} {af : Array Edge} {g : Option (Nat × Bool)}

theorem madeFloats (m : Nat) : (madeCells (Value.float .f32 0).cells m).toList = fl (List.replicate m 0) := by
  apply List.ext_getElem?
  intro i
  unfold madeCells
  have hc : (Value.float .f32 0).cells = #[.float .f32 0] := rfl
  rw [hc]
  by_cases h : i < m
  · simp [fl, h, Nat.mod_one]
  · simp [fl, h]

/-- 'make([]float32, n)' -/
theorem op_makeF {t e m : Nat} {x y : Operand} {i : TypeInfo} {k k' : IntKind} {a b : Int} (hx : ev ρ x = some (.int k a)) (hy : ev ρ y = some (.int k' b)) (ha : a = (m : Int)) (hb : b = (m : Int))
    (ht : P.underlying t = some (.slice e)) (hi : P.info? e = some i) (hz : i.zero = some (.float .f32 0)) (hs : i.size = 1) (hby : i.bytes = 4) (hm : m ≤ 16777216) :
    Op1 P n ⟨dst, .makeSlice t x y, ty, pos, af, g⟩ ρ w (fun u w' => u = .slice (some ⟨w.heap.size, 0, none⟩) m m ∧ Row w' w.heap.size 0 (fl (List.replicate m 0)) ∧ Mod [] w w' ∧ w.heap.size < w'.heap.size) := by
  subst ha hb
  have hr := run_make (P := P) w t e i _ ht hi hz k k' m m (by omega) (by omega) (by rw [hby]; omega) (by omega)
  rw [Int.toNat_natCast, hs, Nat.mul_one] at hr
  refine op_run (v := .slice (some ⟨w.heap.size, 0, none⟩) m m) (w' := w.alloc (.cells (madeCells (Value.float .f32 0).cells m) e)) (fun a ha => ?_) ⟨rfl, ?_, Mod.alloc _ _, by simp⟩
  · simp only [execOp, ha.ev hx, ha.ev hy, Sem.run_bind, hr, Result.andThen_ok, Sem.run_pure]
  · rw [← madeFloats]; exact Row.new w _ e

/-- an empty slice literal -/
theorem op_emptySl {t e m : Nat} {ps : Array (Nat × Operand)} (hp : ps = #[]) (hu : ∀ w, (underlying t).run P w = .ok (.slice e) w) (hs : ∀ w, (sizeOf e).run P w = .ok m w) :
    Op1 P n ⟨dst, .buildSlice t 0 ps, ty, pos, af, g⟩ ρ w (fun u w' => u = .slice (some ⟨w.heap.size, 0, none⟩) 0 0 ∧ Row w' w.heap.size 0 [] ∧ Mod [] w w' ∧ w.heap.size < w'.heap.size) := by
  subst hp
  refine op_run (v := .slice (some ⟨w.heap.size, 0, none⟩) 0 0) (w' := w.alloc (.cells #[] e)) (fun a ha => ?_) ⟨rfl, Row.new w #[] e, Mod.alloc _ _, by simp⟩
  simp [execOp, Instr.buildSlice, hu, hs, Instr.fill, newRow, Array.range_zero']

/-- 'append(empty, xs...)' -/
theorem op_appendF {t e b m c b0 o0 : Nat} {x y : Operand} {i : TypeInfo} {xs : List Nat} (hx : ev ρ x = some (.slice (some ⟨b0, o0, none⟩) 0 0)) (hy : ev ρ y = some (.slice (some ⟨b, 0, none⟩) m c))
    (ht : P.underlying t = some (.slice e)) (hi : P.info? e = some i) (hz : i.zero = some (.float .f32 0)) (hs : i.size = 1) (hby : i.bytes = 4)
    (hr : Rng w b 0 (fl xs)) (hl : xs.length = m) (h0 : 0 < m) (hm : m ≤ 16777216) :
    Op1 P n ⟨dst, .call { callee := .builtin .append, args := #[x, y], argTypes := #[t, t] }, ty, pos, af, g⟩ ρ w
      (fun u w' => ∃ b' c', u = .slice (some ⟨b', 0, none⟩) m c' ∧ w.heap.size ≤ b' ∧ Row w' b' 0 (fl xs) ∧ Mod [] w w') := by
  have hnews : ∀ j v, (fl xs)[j]? = some v → w.cell? ((⟨b, 0, none⟩ : Addr).add j) = some v := fun j v hv => by rw [addr_add]; exact hr j v hv
  have hc : Builtin.nextslicecap (0 + m) 0 * i.bytes ≤ 281474976710656 := by rw [Nat.zero_add, nextslicecap_zero h0, hby]; omega
  have h1 := run_append_grow (P := P) w t ty e i _ ht hi hz ⟨b0, o0, none⟩ 0 0 [] (by simp) (by simp) ⟨b, 0, none⟩ m c (fl xs) (by rw [fl_len hl, hs, Nat.mul_one]) hnews (by omega) (by omega) hc
  rw [Nat.zero_add] at h1
  refine op_run (v := .slice (some ⟨w.heap.size, 0, none⟩) m (grownCap w m 0 e)) (w' := w.drew.alloc (.cells ((#[] : Array Value) ++ (fl xs).toArray ++ Builtin.zeroCells (Value.float .f32 0).cells (grownCap w m 0 e - m)) e)) (fun a ha => ?_) ⟨w.heap.size, _, rfl, Nat.le_refl _, ?_, ?_⟩
  · simp only [execOp, resolve, invoke, builtin, List.map_toArray, List.map_cons, List.map_nil, ha.ev hx, ha.ev hy, Sem.run_bind, Sem.run_pure, Result.andThen_ok, h1]
  · have := (Row.new w.drew ((#[] : Array Value) ++ (fl xs).toArray ++ Builtin.zeroCells (Value.float .f32 0).cells (grownCap w m 0 e - m)) e).take m
    refine this.congr ?_
    simp [fl_len hl]
  · exact ((Mod.refl [] w).drew).trans (Mod.alloc _ _)

theorem op_sl_nil {t u e l c l' c' : Nat} {x y : Operand} {a : Addr} (hx : ev ρ x = some (.slice (some a) l c)) (hy : ev ρ y = some (.slice none l' c')) (ht : P.underlying t = some (.slice e)) :
    Op1 P n ⟨dst, .binOp .eql t x y u, ty, pos, af, g⟩ ρ w (Det (.bool false) w) :=
  op_bin hx hy guard_slice (Lib.run_eql_slice_nil w t e (some a) l c l' c' ht)
end
end Go.Proofs.Ytnahhdnkbbdceaa

/- The engine of this claim's walks, seventh part: comparisons whose answer is known, lists of words that are equal but for the payloads of NaNs, filling of lists. -/
namespace Go.Proofs.Ytnahhdnkbbdceaa

theorem w_nsub {l n : Nat} (h : n ≤ l) (hl : l ≤ 9223372036854775807) : IntKind.i64.wrap ((l : Int) - (n : Int)) = ((l - n : Nat) : Int) := by
  rw [show ((l : Int) - (n : Int)) = ((l - n : Nat) : Int) by omega]; exact w_i64 (by omega) (by omega)
theorem bnot_t {b : Bool} (h : b = true) : (!b) = false := by rw [h]; rfl
theorem bnot_f {b : Bool} (h : b = false) : (!b) = true := by rw [h]; rfl

section
variable {P : Program} {n : Nat} {ρ : Env} {w : World} {dst : Option Tmp} {ty : TypeId} {pos : String} {af : Array Edge} {g : Option (Nat × Bool)}
variable {t u : Nat} {x y : Operand} {k : IntKind} {i j r : Int}
theorem op_nei_f (hx : ev ρ x = some (.int k i)) (hy : ev ρ y = some (.int k j)) (h : i = j) : Op1 P n ⟨dst, .binOp .neq t x y u, ty, pos, af, g⟩ ρ w (Det (.bool false) w) := by
  have := op_nei (P := P) (n := n) (w := w) (dst := dst) (ty := ty) (pos := pos) (af := af) (g := g) (t := t) (u := u) hx hy
  rwa [show (i != j) = false by simpa using h] at this
end

/-! ### Lists of words -/

/-- the same words, but for the payloads of NaNs -/
def Cn (xs ys : List Nat) : Prop := xs.map (cn .f32) = ys.map (cn .f32)

theorem Cn.refl (xs : List Nat) : Cn xs xs := rfl
theorem Cn.symm {xs ys : List Nat} (h : Cn xs ys) : Cn ys xs := Eq.symm h
theorem Cn.trans {xs ys zs : List Nat} (h : Cn xs ys) (k : Cn ys zs) : Cn xs zs := Eq.trans h k
theorem Cn.len {xs ys : List Nat} (h : Cn xs ys) : xs.length = ys.length := by have := congrArg List.length h; simpa using this
theorem Cn.get {xs ys : List Nat} (h : Cn xs ys) (i : Nat) : cn .f32 (xs.getD i 0) = cn .f32 (ys.getD i 0) := by
  have h1 := congrArg (fun l => l.getD i (cn .f32 0)) h
  simpa [List.getD_eq_getElem?_getD, List.getElem?_map, Option.getD_map] using h1
theorem Cn.set {xs ys : List Nat} (h : Cn xs ys) {a b : Nat} (hab : cn .f32 a = cn .f32 b) (i : Nat) : Cn (xs.set i a) (ys.set i b) := by
  unfold Cn at *
  rw [List.map_set, List.map_set, h, hab]
theorem Cn.same {xs ys : List Nat} (h : Cn xs ys) (hx : W32 xs) (hy : W32 ys) (i : Nat) : sameF (wide (xs.getD i 0)) (wide (ys.getD i 0)) = true := by
  rw [sameF_wide (wid_lt (hx.get i)) (wid_lt (hy.get i)), h.get i]; simp
/-- the first `i` words of a list, then zeros -/
def fill (xs : List Nat) (i : Nat) : List Nat := xs.take i ++ List.replicate (xs.length - i) 0
/-- the first `i` words of a list are `k`, `k + 1`, ..., as words -/
def marks (xs : List Nat) (k i : Nat) : List Nat := (List.range i).map (fun j => FloatKind.f32.nearest ((k + j : Nat) : Int)) ++ xs.drop i
def Held (hs : List Nat) (k n : Nat) : Prop := ∀ i, i < n → hs.getD i 0 = FloatKind.f32.nearest ((k + i : Nat) : Int)
theorem isNaN_near (k : FloatKind) (i : Int) : isNaN k (k.nearest i) = false := by
  unfold isNaN FloatKind.nearest FloatKind.encode
  exact read_write_noNaN k.format rfl
theorem Held.eq {hs : List Nat} {k n i : Nat} (h : Held hs k n) (hi : i < n) : fEq .f32 (hs.getD i 0) (FloatKind.f32.nearest ((k + i : Nat) : Int)) = true := by
  rw [h i hi, fEq_self, isNaN_near]; rfl

/-! ### Ranges of whole numbers -/
def vIn (a b c : Int) : Bool := decide (b ≤ a) && decide (a ≤ c)
theorem vIn_t (a b c : Int) : vIn a b c = true ↔ b ≤ a ∧ a ≤ c := by simp [vIn]
theorem vIn_f (a b c : Int) : vIn a b c = false ↔ ¬ (b ≤ a ∧ a ≤ c) := by rw [← vIn_t]; simp

end Go.Proofs.Ytnahhdnkbbdceaa
