/- The engine of this claim's walks, fourth part: short forms of the rules, floating point, rows of numbers. -/
import Derived.Test.YtnahhdnkbbdceaaE3
import Derived.Test.YtnahhdnkbbdceaaF3
namespace Go.Proofs.Ytnahhdnkbbdceaa

theorem ltb {d n : Nat} (h : Nat.blt d n = true) : d < n := Nat.le_of_ble_eq_true h

section
variable {P : Program} {n : Nat} {ops : Array Oper} {Q : Exit → Act → World → Prop} {o : Oper} {rest : List Oper} {ρ : Env} {w : World} {v : Value} {T : Tab} {l : List Oper} {pre tl : List Nat} {Fin : Act → World → Prop} {k : Nat} {listed : Array Bool} {w0 : World} {S : List Nat}

theorem WL.det {d : Nat} (hop : Op1 P n o ρ w (Det v w)) (hg : o.guard = none) (hd : o.dst = some d) (hn : Nat.blt d n = true) (h : WL P n ops Q rest ((d, v) :: ρ) w) : WL P n ops Q (o :: rest) ρ w :=
  WL.op hop hg hd (ltb hn) fun _ _ ⟨h1, h2⟩ => by subst h1; subst h2; exact h

theorem WO.det {i d : Nat} (hop : Op1 P n o ρ w (Det v w)) (hl : l.drop i = o :: rest) (hw : Wants l n ρ o true) (hd : o.dst = some d) (hn : Nat.blt d n = true) (h : WO P n l Q tl ((d, v) :: ρ) w) : WO P n l Q (i :: tl) ρ w :=
  WO.op hl hw hd (ltb hn) hop fun _ _ ⟨h1, h2⟩ => by subst h1; subst h2; exact h

theorem DR.det {i d : Nat} (hl : l.drop i = o :: rest) (hT : T i = none) (hB : hoistB l pre listed i = true) (hw : Wants l n ρ o true) (hd : o.dst = some d) (hn : Nat.blt d n = true)
    (hop : ∀ w1, Mod S w0 w1 → Op1 P n o ρ w1 (Det v w1)) (h : DR P n T l pre Fin S w0 k (listed.setIfInBounds i true) ((d, v) :: ρ) w) : DR P n T l pre Fin S w0 (k + 1) listed ρ w :=
  DR.op (· = v) hl hT hB hw hd (ltb hn) (fun w1 m1 => (hop w1 m1).mono fun _ _ ⟨h1, h2⟩ => ⟨h1, h2 ▸ Mod.refl _ _⟩) fun _ h1 => by subst h1; exact h
theorem WD {d : Nat} (hop : Op1 P n o ρ w (Det v w)) (hq : (o.guard, o.dst, Nat.blt d n) = (none, some d, true)) (h : WL P n ops Q rest ((d, v) :: ρ) w) : WL P n ops Q (o :: rest) ρ w :=
  WL.det hop (congrArg (fun x => x.1) hq) (congrArg (fun x => x.2.1) hq) (congrArg (fun x => x.2.2) hq) h
theorem DD (i : Nat) {d : Nat} (hl : l.drop i = o :: rest) (hB : hoistB l pre listed i = true) (hq : (T i, o.guard, o.dst, Nat.blt d n) = (none, none, some d, true))
    (hop : ∀ w1, Mod S w0 w1 → Op1 P n o ρ w1 (Det v w1)) (h : DR P n T l pre Fin S w0 k (listed.setIfInBounds i true) ((d, v) :: ρ) w) : DR P n T l pre Fin S w0 (k + 1) listed ρ w :=
  DR.det hl (congrArg (fun x => x.1) hq) hB (.free (congrArg (fun x => x.2.1) hq)) (congrArg (fun x => x.2.2.1) hq) (congrArg (fun x => x.2.2.2) hq) hop h

end

theorem Cl.of {P : Program} {f : FuncId} {fn : Func} {c : Code} {args : Array Value} {w : World} {S : Value → World → Prop} {ρ : Env} {n : Nat} (hf : P.funcs[f]? = some fn) (hn : fn.ntmps = n) (hb : fn.body = some c)
    (hsz : Nat.ble args.size n = true) (hρ : ρ = args.toList.zipIdx.map fun p => (p.2, p.1))
    (h : CE P n c (bodyPost P fn fun e w' => ∃ v, e = .returned v ∧ S v w') ρ w) : Cl P f args w S := by
  subst hn
  exact Cl.of_CE hf hb (Nat.le_of_ble_eq_true hsz) hρ h

/-! ### Rows of floats and of whole numbers -/

/-- cells of narrow floats -/
def fl (xs : List Nat) : List Value := xs.map (Value.float .f32)

theorem fl_length (xs : List Nat) : (fl xs).length = xs.length := by simp [fl]
theorem fl_get {xs : List Nat} {i : Nat} (h : i < xs.length) : (fl xs)[i]? = some (.float .f32 (xs.getD i 0)) := by simp [fl, h]
theorem fl_set {xs : List Nat} {i x : Nat} : (fl xs).set i (.float .f32 x) = fl (xs.set i x) := by simp [fl]
theorem fl_splice {xs : List Nat} {i x : Nat} (h : i < xs.length) : splice (fl xs) i [.float .f32 x] = fl (xs.set i x) := by
  rw [splice_one _ _ _ (by simpa [fl] using h), fl_set]

/-- every word fits its width -/
def W32 (xs : List Nat) : Prop := ∀ x ∈ xs, x < wid .f32

theorem W32.get {xs : List Nat} (h : W32 xs) (i : Nat) : xs.getD i 0 < wid .f32 := by
  by_cases hi : i < xs.length
  · simp [hi]; exact h _ (List.getElem_mem _)
  · simp [hi, wid32]

theorem W32.set {xs : List Nat} (h : W32 xs) {i x : Nat} (hx : x < wid .f32) : W32 (xs.set i x) := fun y hy => by
  rcases List.mem_or_eq_of_mem_set hy with h' | h'
  · exact h y h'
  · rw [h']; exact hx

/-- a slice's block and place -/
def blk (A : Option Addr) : Nat := (A.getD ⟨0, 0, none⟩).block
def off (A : Option Addr) : Nat := (A.getD ⟨0, 0, none⟩).off

theorem Rng.lt {w : World} {b o : Nat} {vs : List Value} (h : Rng w b o vs) (hne : 0 < vs.length) : b < w.heap.size :=
  World.block_lt_of_cell? w ⟨b, o + 0, none⟩ (h 0 vs[0] (List.getElem?_eq_getElem hne))

/-! ### Floating point -/

theorem cn_congr_fop {op : BinOp} {k : FloatKind} {a b x y : Nat} (ha : cn k a = cn k x) (hb : cn k b = cn k y) : fop op k a b = fop op k x y := by
  rw [← fop_cn_l, ← fop_cn_r, ha, hb, fop_cn_l, fop_cn_r]
theorem cn_congr_fEq {k : FloatKind} {a b x y : Nat} (ha : cn k a = cn k x) (hb : cn k b = cn k y) : fEq k a b = fEq k x y := by rw [← fEq_cn_l, ← fEq_cn_r, ha, hb, fEq_cn_l, fEq_cn_r]
theorem cn_congr_fLt {k : FloatKind} {a b x y : Nat} (ha : cn k a = cn k x) (hb : cn k b = cn k y) : fLt k a b = fLt k x y := by rw [← fLt_cn_l, ← fLt_cn_r, ha, hb, fLt_cn_l, fLt_cn_r]
theorem cn_congr_fGt {k : FloatKind} {a b x y : Nat} (ha : cn k a = cn k x) (hb : cn k b = cn k y) : fGt k a b = fGt k x y := by rw [← fGt_cn_l, ← fGt_cn_r, ha, hb, fGt_cn_l, fGt_cn_r]
theorem cn_congr_fLe {k : FloatKind} {a b x y : Nat} (ha : cn k a = cn k x) (hb : cn k b = cn k y) : fLe k a b = fLe k x y := by rw [← fLe_cn_l, ← fLe_cn_r, ha, hb, fLe_cn_l, fLe_cn_r]
theorem cn_congr_fGe {k : FloatKind} {a b x y : Nat} (ha : cn k a = cn k x) (hb : cn k b = cn k y) : fGe k a b = fGe k x y := by rw [← fGe_cn_l, ← fGe_cn_r, ha, hb, fGe_cn_l, fGe_cn_r]

theorem isNaN_congr {k : FloatKind} {a x : Nat} (h : cn k a = cn k x) : isNaN k a = isNaN k x := by rw [← isNaN_cn, h, isNaN_cn]

theorem wide_cn (b : Nat) : wide (cn .f32 b) = wide b := by
  cases h : isNaN .f32 b
  · rw [cn_of_not h]
  · rw [(wide_nan h).2, (wide_nan (by rw [isNaN_cn]; exact h)).2]

theorem wide_congr {a x : Nat} (h : cn .f32 a = cn .f32 x) : wide a = wide x := by rw [← wide_cn, h, wide_cn]

theorem negFloat_lt {k : FloatKind} {b : Nat} (h : b < wid k) : Op.negFloat k b < wid k := by
  cases k
  · rw [wid32] at *
    have : Op.negFloat .f32 b = b ^^^ 2 ^ 31 := rfl
    rw [this]
    exact Nat.xor_lt_two_pow (n := 32) h (by decide)
  · rw [wid64] at *
    have : Op.negFloat .f64 b = b ^^^ 2 ^ 63 := rfl
    rw [this]
    exact Nat.xor_lt_two_pow (n := 64) h (by decide)

section
variable {P : Program} {n : Nat} {ρ : Env} {w : World} {dst : Option Tmp} {ty : TypeId} {pos : String} {af : Array Edge} {g : Option (Nat × Bool)}
variable {t u : Nat} {x y : Operand} {k : FloatKind} {a b : Nat}

/-- what an arithmetic operation on floats leaves -/
def FOut (k : FloatKind) (e : Nat) : Value → Prop := fun v => ∃ r, v = .float k r ∧ cn k r = cn k e ∧ r < wid k

theorem run_arith {op : BinOp} (hop : op = .add ∨ op = .sub ∨ op = .mul ∨ op = .quo) : ∃ v w', (binOp op t (.float k a) (.float k b)).run P w = .ok v w' ∧ FOut k (fop op k a b) v ∧ Mod [] w w' := by
  cases h : floatBits op k a b with
  | some r =>
    refine ⟨_, _, run_float_arith w op t k a b r h, ⟨r, rfl, ?_, floatBits_lt h⟩, Mod.refl _ _⟩
    unfold fop; rw [h]; rfl
  | none =>
    have hc := cut_nanBits k a b (w.tape w.drawn (.nanBits k a b))
    refine ⟨.float k ((Question.nanBits k a b).cut (w.tape w.drawn (.nanBits k a b))), w.drew, ?_, ⟨_, rfl, ?_, hc.2⟩, (Mod.refl _ _).drew⟩
    · unfold floatBits at h
      rcases hop with rfl | rfl | rfl | rfl <;> simp [binOp, Op.floatArith, h, Question.forced]
    · unfold fop; rw [h]; simp [cn, hc.1, isNaN_nanOf]

theorem op_farith {op : BinOp} {e : Nat} {ea eb : Nat} (hop : op = .add ∨ op = .sub ∨ op = .mul ∨ op = .quo) (hx : ev ρ x = some (.float k a)) (hy : ev ρ y = some (.float k b)) (ha : cn k a = cn k ea) (hb : cn k b = cn k eb) (he : fop op k ea eb = e) :
    Op1 P n ⟨dst, .binOp op t x y u, ty, pos, af, g⟩ ρ w (fun v w' => FOut k e v ∧ Mod [] w w') := fun c hc => by
  obtain ⟨v, w', hr, hf, hm⟩ := run_arith (P := P) (w := w) (t := t) (k := k) (a := a) (b := b) hop
  rw [cn_congr_fop ha hb, he] at hf
  exact ⟨v, w', .inl (by simp [execOp, hc.ev hx, hc.ev hy, guard_float, hr]), hf, hm⟩

theorem op_feq {c : Bool} {ea eb : Nat} (hx : ev ρ x = some (.float k a)) (hy : ev ρ y = some (.float k b)) (ha : cn k a = cn k ea) (hb : cn k b = cn k eb) (hc : fEq k ea eb = c) : Op1 P n ⟨dst, .binOp .eql t x y u, ty, pos, af, g⟩ ρ w (Det (.bool c) w) :=
  op_bin hx hy guard_float (by rw [← hc, ← cn_congr_fEq ha hb, binOp_float_cmp_eql]; rfl)
theorem op_fne {c : Bool} {ea eb : Nat} (hx : ev ρ x = some (.float k a)) (hy : ev ρ y = some (.float k b)) (ha : cn k a = cn k ea) (hb : cn k b = cn k eb) (hc : (!fEq k ea eb) = c) : Op1 P n ⟨dst, .binOp .neq t x y u, ty, pos, af, g⟩ ρ w (Det (.bool c) w) :=
  op_bin hx hy guard_float (by rw [← hc, ← cn_congr_fEq ha hb, binOp_float_cmp_neq]; rfl)
theorem op_flt {c : Bool} {ea eb : Nat} (hx : ev ρ x = some (.float k a)) (hy : ev ρ y = some (.float k b)) (ha : cn k a = cn k ea) (hb : cn k b = cn k eb) (hc : fLt k ea eb = c) : Op1 P n ⟨dst, .binOp .lss t x y u, ty, pos, af, g⟩ ρ w (Det (.bool c) w) :=
  op_bin hx hy guard_float (by rw [← hc, ← cn_congr_fLt ha hb, binOp_float_cmp_lss]; rfl)
theorem op_fle {c : Bool} {ea eb : Nat} (hx : ev ρ x = some (.float k a)) (hy : ev ρ y = some (.float k b)) (ha : cn k a = cn k ea) (hb : cn k b = cn k eb) (hc : fLe k ea eb = c) : Op1 P n ⟨dst, .binOp .leq t x y u, ty, pos, af, g⟩ ρ w (Det (.bool c) w) :=
  op_bin hx hy guard_float (by rw [← hc, ← cn_congr_fLe ha hb, binOp_float_cmp_leq]; rfl)
theorem op_fgt {c : Bool} {ea eb : Nat} (hx : ev ρ x = some (.float k a)) (hy : ev ρ y = some (.float k b)) (ha : cn k a = cn k ea) (hb : cn k b = cn k eb) (hc : fGt k ea eb = c) : Op1 P n ⟨dst, .binOp .gtr t x y u, ty, pos, af, g⟩ ρ w (Det (.bool c) w) :=
  op_bin hx hy guard_float (by rw [← hc, ← cn_congr_fGt ha hb, binOp_float_cmp_gtr]; rfl)
theorem op_fge {c : Bool} {ea eb : Nat} (hx : ev ρ x = some (.float k a)) (hy : ev ρ y = some (.float k b)) (ha : cn k a = cn k ea) (hb : cn k b = cn k eb) (hc : fGe k ea eb = c) : Op1 P n ⟨dst, .binOp .geq t x y u, ty, pos, af, g⟩ ρ w (Det (.bool c) w) :=
  op_bin hx hy guard_float (by rw [← hc, ← cn_congr_fGe ha hb, binOp_float_cmp_geq]; rfl)

theorem op_eqb {p q : Bool} (hx : ev ρ x = some (.bool p)) (hy : ev ρ y = some (.bool q)) (ht : P.underlying t = some .bool) : Op1 P n ⟨dst, .binOp .eql t x y u, ty, pos, af, g⟩ ρ w (Det (.bool (p == q)) w) :=
  op_bin hx hy guard_bool (run_eql_bool w t p q ht)
theorem op_widen {s d : Nat} {du : TypeDesc} {ea e : Nat} (hx : ev ρ x = some (.float .f32 a)) (ha : cn .f32 a = cn .f32 ea) (hs : ∀ w, (underlying s).run P w = .ok du w) (hd : ∀ w, (underlying d).run P w = .ok (.float .f64) w) (he : wide ea = e) :
    Op1 P n ⟨dst, .convert s d x, ty, pos, af, g⟩ ρ w (fun v w' => FOut .f64 e v ∧ Mod [] w w') := fun c hc => by
  have key : ∃ v w', (Conv.floatToFloat .f32 a .f64).run P w = .ok v w' ∧ FOut .f64 (wide a) v ∧ Mod [] w w' := by
    cases h : FloatKind.f32.format.read a with
    | nan s t =>
      have hq := cut_nanConv .f64 a (w.tape w.drawn (.nanConv .f64 a))
      have hn : isNaN .f32 a = true := isNaN_iff.2 ⟨s, t, h⟩
      refine ⟨.float .f64 ((Question.nanConv .f64 a).cut (w.tape w.drawn (.nanConv .f64 a))), w.drew, ?_, ⟨_, rfl, ?_, hq.2⟩, (Mod.refl _ _).drew⟩
      · simp [Conv.floatToFloat, FloatKind.decode, h, Question.forced]
      · rw [(wide_nan hn).2]; simp [cn, hq.1, isNaN_nanOf]
    | infinity s =>
      have e1 := (wide_inf h).1
      refine ⟨.float .f64 (wide a), w, ?_, ⟨_, rfl, rfl, ?_⟩, Mod.refl _ _⟩
      · have : wide a = FloatKind.f64.encode (.infinity s) := by
          have h2 : floatToFloatBits .f32 a .f64 = some (FloatKind.f64.encode (.infinity s)) := by unfold floatToFloatBits FloatKind.decode; simp [h]
          exact (Option.some.inj (e1.symm.trans h2))
        simp [Conv.floatToFloat, FloatKind.decode, h, this]
      · have : wide a = FloatKind.f64.encode (.infinity s) := by
          have h2 : floatToFloatBits .f32 a .f64 = some (FloatKind.f64.encode (.infinity s)) := by unfold floatToFloatBits FloatKind.decode; simp [h]
          exact (Option.some.inj (e1.symm.trans h2))
        rw [this]; exact FloatKind.f64.format.write_lt _
    | number s m i =>
      obtain ⟨e1, m', i', hr, _, _⟩ := wide_number h
      have e2 : wide a = FloatKind.f64.encode (.number s m i) := by
        have h2 := e1
        unfold floatToFloatBits FloatKind.decode at h2
        simp only [h, reduceCtorEq, if_false] at h2
        split at h2
        · cases h2
        · exact (Option.some.inj h2).symm
      refine ⟨.float .f64 (wide a), w, ?_, ⟨_, rfl, rfl, ?_⟩, Mod.refl _ _⟩
      · have hni : (FloatKind.f64.decode (FloatKind.f64.encode (.number s m i))).isInfinity = false := by
          rw [← e2]
          show (FloatKind.f64.format.read (wide a)).isInfinity = false
          rw [hr]; rfl
        simp [Conv.floatToFloat, FloatKind.decode, h]
        have hni' : (FloatKind.f64.format.read (FloatKind.f64.encode (.number s m i))).isInfinity = false := hni
        simp [hni', e2]
      · rw [e2]; exact FloatKind.f64.format.write_lt _
  obtain ⟨v, w', hr, hf, hm⟩ := key
  rw [wide_congr ha, he] at hf
  exact ⟨v, w', .inl (by cases du <;> simp [execOp, hc.ev hx, convert, hs, hd, hr]), hf, hm⟩

end
end Go.Proofs.Ytnahhdnkbbdceaa
