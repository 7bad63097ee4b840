/- The engine of this claim's walks, first part: worlds that change only in named blocks; frames as lists of known slots; rules for code, sequential regions and calls. -/
import Derived.Test.YtnahhdnkbbdceaaRows
import Derived.WalkKit
import Derived.WalkSpells
import Derived.WalkLawsBesides
import Derived.Deep.Draws
import Derived.Deep.LoopGhost
set_option linter.unusedVariables false
namespace Go.Proofs.Ytnahhdnkbbdceaa

/-- `w'` comes of `w` by writes into the blocks of `S` alone, by new blocks and by draws. -/
structure Mod (S : List Nat) (w w' : World) : Prop where
  os : w'.os = w.os
  tape : w'.tape = w.tape
  output : w'.output = w.output
  size : w.heap.size ≤ w'.heap.size
  block : ∀ k, k < w.heap.size → k ∉ S → w'.heap[k]? = w.heap[k]?

theorem Mod.refl (S : List Nat) (w : World) : Mod S w w := ⟨rfl, rfl, rfl, Nat.le_refl _, fun _ _ _ => rfl⟩

theorem Mod.trans {S : List Nat} {a b c : World} (h : Mod S a b) (k : Mod S b c) : Mod S a c :=
  ⟨k.os.trans h.os, k.tape.trans h.tape, k.output.trans h.output, Nat.le_trans h.size k.size,
    fun i hi hn => (k.block i (Nat.lt_of_lt_of_le hi h.size) hn).trans (h.block i hi hn)⟩

theorem Mod.wide {S T : List Nat} {a b : World} (h : Mod S a b) (hs : ∀ k, k ∈ S → k ∈ T) : Mod T a b :=
  ⟨h.os, h.tape, h.output, h.size, fun k hk hn => h.block k hk fun hm => hn (hs k hm)⟩

/-- What is written in the second step and is in the first world's range must be allowed. -/
theorem Mod.then {S T : List Nat} {a b c : World} (h : Mod S a b) (k : Mod T b c) (hT : ∀ x, x ∈ T → x ∈ S ∨ a.heap.size ≤ x) : Mod S a c :=
  ⟨k.os.trans h.os, k.tape.trans h.tape, k.output.trans h.output, Nat.le_trans h.size k.size,
    fun i hi hn => (k.block i (Nat.lt_of_lt_of_le hi h.size) fun hm => by
      rcases hT i hm with h' | h'
      · exact hn h'
      · exact absurd hi (Nat.not_lt.2 h')).trans (h.block i hi hn)⟩

theorem Mod.nil_then {S : List Nat} {a b c : World} (h : Mod S a b) (k : Mod [] b c) : Mod S a c := h.then k (by simp)

theorem Mod.drew {S : List Nat} {a b : World} (h : Mod S a b) : Mod S a b.drew := ⟨h.os, h.tape, h.output, h.size, h.block⟩
theorem Mod.alloc (w : World) (o : Obj) : Mod [] w (w.alloc o) :=
  ⟨rfl, rfl, rfl, by simp, fun k hk _ => by show (w.heap.push o)[k]? = _; rw [Array.getElem?_push, if_neg (by omega)]⟩

theorem Mod.below {w w' : World} (h : Mod [] w w') : Go.RowKit.Below w.heap.size w w' := ⟨h.os, h.tape, h.output, h.size, fun k hk => h.block k hk (by simp)⟩

theorem Mod.cell {S : List Nat} {w w' : World} (h : Mod S w w') {p : Addr} {v : Value} (hc : w.cell? p = some v) (hn : p.block ∉ S) : w'.cell? p = some v := by
  have hb := World.block_lt_of_cell? w p hc
  rw [← hc]
  simp [World.cell?, h.block p.block hb hn]

/-! ### Rows of cells -/

/-- The cells from `off` on in block `b` hold `vs`. -/
def Rng (w : World) (b off : Nat) (vs : List Value) : Prop := ∀ i v, vs[i]? = some v → w.cell? ⟨b, off + i, none⟩ = some v

/-- A row that may be written, too: the block is there and is not frozen. -/
structure Row (w : World) (b off : Nat) (vs : List Value) : Prop where
  ex : ∃ cur t, w.heap[b]? = some (.cells cur t (0, 0)) ∧ ∀ i v, vs[i]? = some v → cur[off + i]? = some v

theorem Row.rng {w : World} {b off : Nat} {vs : List Value} (h : Row w b off vs) : Rng w b off vs := fun i v hv => by
  obtain ⟨cur, t, h1, h2⟩ := h.ex
  simp [World.cell?, h1, h2 i v hv]

theorem Row.lt {w : World} {b off : Nat} {vs : List Value} (h : Row w b off vs) : b < w.heap.size := by
  obtain ⟨cur, t, h1, h2⟩ := h.ex
  exact (Array.getElem?_eq_some_iff.1 h1).1

theorem Rng.mod {S : List Nat} {w w' : World} {b off : Nat} {vs : List Value} (h : Rng w b off vs) (m : Mod S w w') (hn : b ∉ S) : Rng w' b off vs :=
  fun i v hv => m.cell (h i v hv) hn

theorem Rng.ext {w w' : World} {b off : Nat} {vs : List Value} (h : Rng w b off vs) (m : Mod [] w w') : Rng w' b off vs := h.mod m (by simp)

theorem Row.mod {S : List Nat} {w w' : World} {b off : Nat} {vs : List Value} (h : Row w b off vs) (m : Mod S w w') (hn : b ∉ S) : Row w' b off vs := by
  have hlt := h.lt
  obtain ⟨cur, t, h1, h2⟩ := h.ex
  exact ⟨cur, t, by rw [m.block b hlt hn]; exact h1, h2⟩

theorem Row.ext {w w' : World} {b off : Nat} {vs : List Value} (h : Row w b off vs) (m : Mod [] w w') : Row w' b off vs := h.mod m (by simp)

theorem Row.new (w : World) (cs : Array Value) (t : TypeId) : Row (w.alloc (.cells cs t)) w.heap.size 0 cs.toList :=
  ⟨cs, t, heap_alloc_new w _, fun i v hv => by simpa using hv⟩

theorem Rng.nil (w : World) (b off : Nat) : Rng w b off [] := fun i v h => by simp at h

theorem Rng.drop {w : World} {b off : Nat} {vs : List Value} (h : Rng w b off vs) (k : Nat) : Rng w b (off + k) (vs.drop k) := fun i v hv => by
  have := h (k + i) v (by simpa using hv)
  rwa [show off + k + i = off + (k + i) by omega]

theorem Rng.take {w : World} {b off : Nat} {vs : List Value} (h : Rng w b off vs) (k : Nat) : Rng w b off (vs.take k) := fun i v hv => by
  rw [List.getElem?_take] at hv
  split at hv
  · exact h i v hv
  · cases hv

theorem Row.drop {w : World} {b off : Nat} {vs : List Value} (h : Row w b off vs) (k : Nat) : Row w b (off + k) (vs.drop k) := by
  obtain ⟨cur, t, h1, h2⟩ := h.ex
  exact ⟨cur, t, h1, fun i v hv => by rw [show off + k + i = off + (k + i) by omega]; exact h2 (k + i) v (by simpa using hv)⟩

theorem Row.take {w : World} {b off : Nat} {vs : List Value} (h : Row w b off vs) (k : Nat) : Row w b off (vs.take k) := by
  obtain ⟨cur, t, h1, h2⟩ := h.ex
  refine ⟨cur, t, h1, fun i v hv => h2 i v ?_⟩
  rw [List.getElem?_take] at hv
  split at hv
  · exact hv
  · cases hv

theorem Row.congr {w : World} {b off : Nat} {vs vs' : List Value} (h : Row w b off vs) (e : vs = vs') : Row w b off vs' := e ▸ h
theorem Rng.congr {w : World} {b off : Nat} {vs vs' : List Value} (h : Rng w b off vs) (e : vs = vs') : Rng w b off vs' := e ▸ h

/-! ### Frames as lists of known slots -/

abbrev Env := List (Nat × Value)

structure Fr (n : Nat) (ρ : Env) (a : Act) : Prop where
  size : a.tmps.size = n
  defers : a.defers = []
  get : ∀ t v, ρ.lookup t = some v → a.tmps.getD t undef = v

def ev (ρ : Env) : Operand → Option Value
  | .tmp t => ρ.lookup t
  | .const v => some v
  | .global g => some (.pointer (some ⟨g, 0, none⟩))
  | .func f => some (.func (.func f) #[] #[])

theorem Fr.ev {n : Nat} {ρ : Env} {a : Act} (h : Fr n ρ a) {x : Operand} {v : Value} (hx : ev ρ x = some v) : a.eval x = v := by
  cases x with
  | tmp t => exact h.get t v hx
  | const v => simpa [Proofs.Ytnahhdnkbbdceaa.ev, Act.eval] using hx
  | global g => simpa [Proofs.Ytnahhdnkbbdceaa.ev, Act.eval] using hx
  | func f => simpa [Proofs.Ytnahhdnkbbdceaa.ev, Act.eval] using hx

theorem Fr.put {n : Nat} {ρ : Env} {a : Act} (h : Fr n ρ a) {d : Nat} (hd : d < n) (v : Value) : Fr n ((d, v) :: ρ) (a.put (some d) v) := by
  refine ⟨by simp [Act.put, h.size], h.defers, fun t u hu => ?_⟩
  rw [List.lookup_cons] at hu
  by_cases e : t = d
  · subst e
    simp at hu
    subst hu
    simp [Act.put, h.size, hd]
  · have e' : (t == d) = false := by simpa using e
    rw [e'] at hu
    have := h.get t u hu
    simpa [Act.put, Array.getElem?_setIfInBounds, Ne.symm e] using this

/-- The slots of `ρ'` are known in `ρ`, too. -/
def subB : Env → Env → Prop
  | [], _ => True
  | (t, v) :: r, ρ => ρ.lookup t = some v ∧ subB r ρ

theorem Fr.sub {n : Nat} {ρ ρ' : Env} {a : Act} (h : Fr n ρ a) (hs : subB ρ' ρ) : Fr n ρ' a := by
  refine ⟨h.size, h.defers, fun t v hv => h.get t v ?_⟩
  clear h
  induction ρ' with
  | nil => simp at hv
  | cons p r ih =>
    obtain ⟨k, u⟩ := p
    rw [List.lookup_cons] at hv
    by_cases e : t = k
    · subst e; simp at hv; subst hv; exact hs.1
    · have e' : (t == k) = false := by simpa using e
      rw [e'] at hv
      exact ih hs.2 hv

/-! ### Calls -/

/-- The call returns a value of `S`. -/
def Cl (P : Program) (f : FuncId) (args : Array Value) (w : World) (S : Value → World → Prop) : Prop :=
  Calls P f args w fun e w' => ∃ v, e = .returned v ∧ S v w'

theorem Cl.mono {P : Program} {f : FuncId} {args : Array Value} {w : World} {S T : Value → World → Prop} (h : Cl P f args w S) (hst : ∀ v w', S v w' → T v w') : Cl P f args w T :=
  Calls.mono h fun _ _ ⟨v, he, hs⟩ => ⟨v, he, hst v _ hs⟩

/-! ### One operation -/

/-- The operation yields a value (or nothing). -/
def Rel (P : Program) (o : Oper) (f : Operand → Value) (w : World) (u : Value) (w' : World) : Prop :=
  (execOp f o).run P w = .ok (.value u) w' ∨ ((execOp f o).run P w = .ok .skip w' ∧ u = undef)

/-- One operation, over the known slots: it yields by itself a value of `S`. -/
def Op1 (P : Program) (n : Nat) (o : Oper) (ρ : Env) (w : World) (S : Value → World → Prop) : Prop :=
  ∀ a, Fr n ρ a → ∃ u w', Rel P o a.eval w u w' ∧ S u w'

/-- One operation that is a call of a Go function. -/
def Oc1 (P : Program) (n : Nat) (o : Oper) (ρ : Env) (w : World) (S : Value → World → Prop) : Prop :=
  ∀ a, Fr n ρ a → ∃ f args, (execOp a.eval o).run P w = .ok (.enter f args) w ∧ Cl P f args w S

theorem wp_of_rel {P : Program} {o : Oper} {a : Act} {w w' : World} {u : Value} {K : Act → World → Prop} {Q : Exit → Act → World → Prop} (h : Rel P o a.eval w u w') (hk : K (a.put o.dst u) w') : o.wp P a w K Q := by
  unfold Oper.wp
  rcases h with h | ⟨h, rfl⟩
  · rw [h]; exact hk
  · rw [h]; exact hk

theorem wp_of_cl {P : Program} {o : Oper} {a : Act} {w : World} {f : FuncId} {args : Array Value} {S : Value → World → Prop} {K : Act → World → Prop} {Q : Exit → Act → World → Prop}
    (h : (execOp a.eval o).run P w = .ok (.enter f args) w) (hc : Cl P f args w S) (hk : ∀ v w', S v w' → K (a.put o.dst v) w') : o.wp P a w K Q := by
  unfold Oper.wp
  rw [h]
  exact Calls.mono hc fun e w' ⟨v, he, hs⟩ => by subst he; exact hk v w' hs

/-! ### A region in the order of its text -/

def WL (P : Program) (n : Nat) (ops : Array Oper) (Q : Exit → Act → World → Prop) (l : List Oper) (ρ : Env) (w : World) : Prop :=
  ∀ a, Fr n ρ a → wpList P ops Q l a w

section
variable {P : Program} {n : Nat} {ops : Array Oper} {Q : Exit → Act → World → Prop} {o : Oper} {rest : List Oper} {ρ : Env} {w : World}

theorem WL.nil (h : ∀ a, Fr n ρ a → Q .normal a w) : WL P n ops Q [] ρ w := fun a ha => h a ha

/-- an operation that yields a value, unguarded -/
theorem WL.op {S : Value → World → Prop} {d : Nat} (hop : Op1 P n o ρ w S) (hg : o.guard = none) (hd : o.dst = some d) (hn : d < n)
    (h : ∀ v w', S v w' → WL P n ops Q rest ((d, v) :: ρ) w') : WL P n ops Q (o :: rest) ρ w := fun a ha => by
  obtain ⟨u, w', hr, hs⟩ := hop a ha
  refine wpList_plain hg fun K hK => wp_of_rel hr (hK _ _ (h u w' hs _ ?_))
  rw [hd]; exact ha.put hn u

theorem WL.op0 {S : Value → World → Prop} (hop : Op1 P n o ρ w S) (hg : o.guard = none) (hd : o.dst = none)
    (h : ∀ v w', S v w' → WL P n ops Q rest ρ w') : WL P n ops Q (o :: rest) ρ w := fun a ha => by
  obtain ⟨u, w', hr, hs⟩ := hop a ha
  refine wpList_plain hg fun K hK => wp_of_rel hr (hK _ _ (h u w' hs _ ?_))
  rw [hd]; exact ha

theorem WL.call {S : Value → World → Prop} {d : Nat} (hop : Oc1 P n o ρ w S) (hg : o.guard = none) (hd : o.dst = some d) (hn : d < n)
    (h : ∀ v w', S v w' → WL P n ops Q rest ((d, v) :: ρ) w') : WL P n ops Q (o :: rest) ρ w := fun a ha => by
  obtain ⟨f, args, hr, hc⟩ := hop a ha
  refine wpList_plain hg fun K hK => wp_of_cl hr hc fun v w' hs => hK _ _ (h v w' hs _ ?_)
  rw [hd]; exact ha.put hn v

/-- a guard that says yes: the operation is as one without a guard -/
def Oper.bare (o : Oper) : Oper := { o with guard := none }

theorem yielded_of {a : Act} {j dj : Nat} {oj : Oper} {b : Bool} (ha : Fr n ρ a) (hj : ops[j]? = some oj) (hd : oj.dst = some dj) (hn : dj < n) (hb : ρ.lookup dj = some (.bool b)) : yielded ops a.tmps j = some b := by
  have hlt : dj < a.tmps.size := by rw [ha.size]; exact hn
  have h1 := ha.get dj _ hb
  simp only [Array.getD, hlt, dite_true] at h1
  simp only [yielded, hj, hd, Option.bind_some, Array.getElem?_eq_getElem hlt]
  have : a.tmps[dj] = .bool b := h1
  rw [this]

theorem WL.yes {j dj : Nat} {oj : Oper} {want b : Bool} (hg : o.guard = some (j, want)) (hj : ops[j]? = some oj) (hd : oj.dst = some dj) (hn : dj < n) (hb : ρ.lookup dj = some (.bool b)) (he : b = want)
    (h : WL P n ops Q (Oper.bare o :: rest) ρ w) : WL P n ops Q (o :: rest) ρ w := fun a ha => by
  have h1 := h a ha
  subst he
  have hw : Region.wanted o (yielded ops a.tmps) = true := by simp [Region.wanted, hg, yielded_of ha hj hd hn hb]
  unfold wpList at h1 ⊢
  rw [if_pos hw]
  rw [if_pos (by simp [Region.wanted, Oper.bare])] at h1
  exact h1

theorem WL.no {j dj d : Nat} {oj : Oper} {want b : Bool} (hg : o.guard = some (j, want)) (hj : ops[j]? = some oj) (hd : oj.dst = some dj) (hn : dj < n) (hb : ρ.lookup dj = some (.bool b)) (he : b = !want)
    (hdo : o.dst = some d) (hno : d < n) (h : WL P n ops Q rest ((d, undef) :: ρ) w) : WL P n ops Q (o :: rest) ρ w := fun a ha => by
  have hw : Region.wanted o (yielded ops a.tmps) = false := by subst he; simp [Region.wanted, hg, yielded_of ha hj hd hn hb]
  unfold wpList
  rw [if_neg (by simp [hw])]
  refine h _ ?_
  rw [hdo]; exact ha.put hno undef

theorem yielded_undef {a : Act} {j dj : Nat} {oj : Oper} (ha : Fr n ρ a) (hj : ops[j]? = some oj) (hd : oj.dst = some dj) (hn : dj < n) (hb : ρ.lookup dj = some undef) : yielded ops a.tmps j = none := by
  have hlt : dj < a.tmps.size := by rw [ha.size]; exact hn
  have h1 := ha.get dj _ hb
  simp only [Array.getD, hlt, dite_true] at h1
  simp only [yielded, hj, hd, Option.bind_some, Array.getElem?_eq_getElem hlt]
  have : a.tmps[dj] = undef := h1
  rw [this]; rfl

/-- a guard on a slot that was passed over -/
theorem WL.nou {j dj d : Nat} {oj : Oper} {want : Bool} (hg : o.guard = some (j, want)) (hj : ops[j]? = some oj) (hd : oj.dst = some dj) (hn : dj < n) (hb : ρ.lookup dj = some undef)
    (hdo : o.dst = some d) (hno : d < n) (h : WL P n ops Q rest ((d, undef) :: ρ) w) : WL P n ops Q (o :: rest) ρ w := fun a ha => by
  have hw : Region.wanted o (yielded ops a.tmps) = false := by simp [Region.wanted, hg, yielded_undef ha hj hd hn hb]
  unfold wpList
  rw [if_neg (by simp [hw])]
  refine h _ ?_
  rw [hdo]; exact ha.put hno undef

end

/-! ### Code -/

def CE (P : Program) (n : Nat) (c : Code) (Q : Exit → Act → World → Prop) (ρ : Env) (w : World) : Prop := ∀ a, Fr n ρ a → c.wp P Q a w

section
variable {P : Program} {n : Nat} {Q : Exit → Act → World → Prop} {ρ : Env} {w : World} {c x y : Code}

theorem CE.sub (ρ' : Env) (hs : subB ρ' ρ) (h : CE P n c Q ρ' w) : CE P n c Q ρ w := fun a ha => h a (ha.sub hs)
theorem CE.seq (h : CE P n x (Exit.then (y.wp P Q) Q) ρ w) : CE P n (.seq x y) Q ρ w := fun a ha => wp_seq (h a ha)
theorem CE.block {id : Nat} (h : CE P n c (Exit.inBlock id Q) ρ w) : CE P n (.block id c) Q ρ w := fun a ha => wp_block (h a ha)
theorem CE.skip (h : ∀ a, Fr n ρ a → Q .normal a w) : CE P n .skip Q ρ w := fun a ha => wp_skip (h a ha)
theorem CE.ret (h : ∀ a, Fr n ρ a → Q .ret a w) : CE P n .ret Q ρ w := fun a ha => wp_ret (h a ha)
theorem CE.exit {id : Nat} (h : ∀ a, Fr n ρ a → Q (.exit id) a w) : CE P n (.exit id) Q ρ w := fun a ha => wp_exit (h a ha)
theorem CE.cond_t {p : Operand} {b : Bool} (hc : ev ρ p = some (.bool b)) (hb : b = true) (h : CE P n x Q ρ w) : CE P n (.cond p x y) Q ρ w := fun a ha => wp_cond_true (hb ▸ ha.ev hc) (h a ha)
theorem CE.cond_f {p : Operand} {b : Bool} (hc : ev ρ p = some (.bool b)) (hb : b = false) (h : CE P n y Q ρ w) : CE P n (.cond p x y) Q ρ w := fun a ha => wp_cond_false (hb ▸ ha.ev hc) (h a ha)
theorem CE.region {id : Nat} {l : List Oper} (h : WL P n l.toArray Q l ρ w) : CE P n (.region id l.toArray false) Q ρ w := fun a ha => wp_region_lit (h a ha)
/-- A loop: states are indexed by `α`; each round goes to a state of lower measure, or leaves. -/
theorem CE.loop {α : Type} (J : α → Env) (W : α → World → Prop) (μ : α → Nat) (x₀ : α) (hs : subB (J x₀) ρ) (h₀ : W x₀ w)
    (round : ∀ x w, W x w → CE P n c (Exit.then (fun a' w' => ∃ x', Fr n (J x') a' ∧ W x' w' ∧ μ x' < μ x) Q) (J x) w) : CE P n (.loop c) Q ρ w := fun a ha => by
  refine wp_loop_ghost (fun k a w => ∃ x, Fr n (J x) a ∧ W x w ∧ μ x = k) (μ x₀) ⟨x₀, ha.sub hs, h₀, rfl⟩ ?_
  rintro k a w ⟨x, hf, hw, rfl⟩
  refine wp_mono (round x w hw a hf) ?_
  intro e a' w' hq
  cases e with
  | normal => obtain ⟨x', h1, h2, h3⟩ := hq; exact ⟨_, h3, x', h1, h2, rfl⟩
  | exit id => exact hq
  | goto l => exact hq
  | ret => exact hq
  | panic ch => exact hq
  | outgrown => exact hq

/-- the end of a region with code behind it -/
theorem WL.next {ops : Array Oper} (h : CE P n y Q ρ w) : WL P n ops (Exit.then (y.wp P Q) Q) [] ρ w := WL.nil fun a ha => h a ha
end

theorem Cl.of_CE {P : Program} {f : FuncId} {fn : Func} {c : Code} {args : Array Value} {w : World} {S : Value → World → Prop} {ρ : Env} (hf : P.funcs[f]? = some fn) (hb : fn.body = some c)
    (hsz : args.size ≤ fn.ntmps) (hρ : ρ = args.toList.zipIdx.map fun p => (p.2, p.1))
    (h : CE P fn.ntmps c (bodyPost P fn fun e w' => ∃ v, e = .returned v ∧ S v w') ρ w) : Cl P f args w S := by
  refine calls_of_wp hf hb (h _ ⟨by simp; omega, rfl, fun t v hv => ?_⟩)
  subst hρ
  have key : ∀ (l : List Value) (k : Nat) (t : Nat) (v : Value), ((l.zipIdx k).map fun p => (p.2, p.1)).lookup t = some v → k ≤ t ∧ l[t - k]? = some v := by
    intro l
    induction l with
    | nil => intro k t v h; simp at h
    | cons x l ih =>
      intro k t v h
      simp only [List.zipIdx_cons, List.map_cons, List.lookup_cons] at h
      by_cases e : t = k
      · subst e; simp at h; simp [h]
      · have e' : (t == k) = false := by simpa using e
        rw [e'] at h
        obtain ⟨h1, h2⟩ := ih (k + 1) t v h
        refine ⟨by omega, ?_⟩
        rw [show t - k = (t - (k + 1)) + 1 by omega]
        simpa using h2
  obtain ⟨_, h2⟩ := key _ 0 t v hv
  have h3 : args[t]? = some v := by simpa using h2
  obtain ⟨hlt, h4⟩ := Array.getElem?_eq_some_iff.1 h3
  simp [Array.getElem?_append, hlt, h4]

/-- leaving: one result that lies in a slot -/
theorem leave1 {P : Program} {fn : Func} {S : Value → World → Prop} {n t : Nat} {ρ : Env} {w : World} {v : Value} (hr : fn.results = #[.tmp t]) (hv : ρ.lookup t = some v) (h : S v w) :
    ∀ a, Fr n ρ a → bodyPost P fn (fun e w' => ∃ v, e = .returned v ∧ S v w') .ret a w := fun a ha => by
  refine ⟨ha.defers, v, ?_, v, rfl, h⟩
  rw [results_tmp hr, ha.get t v hv]

/-- What the result variables hold. -/
def ResOK (P : Program) (w : World) (ρ : Env) : List ResultVar → List Value → Prop
  | [], [] => True
  | .tmp t :: r, v :: vs => ρ.lookup t = some v ∧ ResOK P w ρ r vs
  | .cell p ty :: r, v :: vs => (∃ a, ρ.lookup p = some (.pointer (some a)) ∧ (loadVar ty a).run P w = .ok v w) ∧ ResOK P w ρ r vs
  | _, _ => False

def rvar (tmps : Array Value) : ResultVar → Sem Value
  | .tmp t => pure (tmps.getD t undef)
  | .cell a t => do loadVar t (← asAddr (tmps.getD a undef))

theorem results_eq (fn : Func) (tmps : Array Value) : results fn tmps = (do let vs ← fn.results.mapM (rvar tmps); pure (if h : vs.size = 1 then vs[0] else .tuple vs)) := by
  unfold results
  congr 1

theorem results_many {P : Program} {n : Nat} {ρ : Env} {a : Act} {w : World} (ha : Fr n ρ a) : ∀ (rs : List ResultVar) (vs : List Value), ResOK P w ρ rs vs → (List.mapM (rvar a.tmps) rs).run P w = .ok vs w
  | [], [], _ => by simp
  | .tmp t :: rs, v :: vs, h => by
    simp only [List.mapM_cons, Sem.run_bind, rvar, Sem.run_pure, Result.andThen_ok, results_many ha rs vs h.2, ha.get t v h.1]
  | .cell p ty :: rs, v :: vs, h => by
    obtain ⟨⟨ad, h1, h2⟩, h3⟩ := h
    have h4 := ha.get p _ h1
    simp only [List.mapM_cons, Sem.run_bind, rvar, h4, asAddr, Sem.run_pure, Result.andThen_ok, h2, results_many ha rs vs h3]
  | [], _ :: _, h => h.elim
  | .tmp _ :: _, [], h => h.elim
  | .cell _ _ :: _, [], h => h.elim

theorem results_of {P : Program} {fn : Func} {n : Nat} {ρ : Env} {a : Act} {w : World} {vs : List Value} (ha : Fr n ρ a) (h : ResOK P w ρ fn.results.toList vs) :
    (results fn a.tmps).run P w = .ok (if hh : vs.length = 1 then vs[0] else .tuple vs.toArray) w := by
  have h1 := results_many ha fn.results.toList vs h
  rw [results_eq]
  have h2 : (fn.results.mapM (rvar a.tmps)).run P w = .ok vs.toArray w := by
    have : fn.results.mapM (rvar a.tmps) = (List.toArray <$> fn.results.toList.mapM (rvar a.tmps)) := by
      rw [← List.mapM_toArray]
    rw [this, Sem.run_map, h1]; rfl
  rw [Sem.run_bind, h2]
  simp only [Result.andThen_ok, Sem.run_pure, List.size_toArray, List.getElem_toArray]

theorem leaveT {P : Program} {fn : Func} {S : Value → World → Prop} {n : Nat} {ρ : Env} {w : World} {v1 v2 : Value} {vs : List Value} (h1 : ResOK P w ρ fn.results.toList (v1 :: v2 :: vs)) (h : S (.tuple (v1 :: v2 :: vs).toArray) w) :
    ∀ a, Fr n ρ a → bodyPost P fn (fun e w' => ∃ v, e = .returned v ∧ S v w') .ret a w := fun a ha => by
  refine ⟨ha.defers, _, results_of ha h1, _, rfl, ?_⟩
  simpa using h

theorem leaveC {P : Program} {fn : Func} {S : Value → World → Prop} {n : Nat} {ρ : Env} {w : World} {v : Value} (h1 : ResOK P w ρ fn.results.toList [v]) (h : S v w) :
    ∀ a, Fr n ρ a → bodyPost P fn (fun e w' => ∃ v, e = .returned v ∧ S v w') .ret a w := fun a ha => by
  refine ⟨ha.defers, _, results_of ha h1, _, rfl, ?_⟩
  simpa using h

end Go.Proofs.Ytnahhdnkbbdceaa
