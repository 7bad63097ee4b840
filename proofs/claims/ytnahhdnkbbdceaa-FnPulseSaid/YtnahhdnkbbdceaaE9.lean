/- The engine of this claim's walks, ninth part: words of floats as whole numbers, narrowing. -/
import Derived.Test.YtnahhdnkbbdceaaE7
import Derived.Test.YtnahhdnkbbdceaaF4
import Derived.Laws.BitsAllLaws
namespace Go.Proofs.Ytnahhdnkbbdceaa

section
variable {P : Program} {n : Nat} {ρ : Env} {w : World} {dst : Option Tmp} {ty : TypeId} {pos : String} {af : Array Edge} {g : Option (Nat × Bool)}

theorem run_ext {f : FuncId} {fn : Func} {e : Array Value → Sem Value} {args : Array Value} {v : Value} {w w' : World} (hf : P.funcs[f]? = some fn) (hname : (fn.name == "runtime.NumGoroutine") = false) (hb : fn.body = none)
    (hn : Extern.findNext fn = none) (he : Extern.find fn = some e) (hr : (e args).run P w = .ok v w') : (callFunc f args).run P w = .ok (.value v) w' := by
  have h1 : ¬ fn.name = "runtime.NumGoroutine" := by simpa using hname
  simp [callFunc, hf, h1, hb, hn, he, hr]

/-- a function that the model answers itself -/
theorem op_extern {f : FuncId} {fn : Func} {e : Array Value → Sem Value} {xs : Array Operand} {ts : Array TypeId} {vs : List Value} {v : Value} (hf : P.funcs[f]? = some fn) (hname : (fn.name == "runtime.NumGoroutine") = false) (hb : fn.body = none)
    (hn : Extern.findNext fn = none) (he : Extern.find fn = some e) (hx : xs.toList.map (ev ρ) = vs.map some) (hr : ∀ w, (e vs.toArray).run P w = .ok v w) :
    Op1 P n ⟨dst, .call { callee := .value (.func f), args := xs, argTypes := ts }, ty, pos, af, g⟩ ρ w (Det v w) := by
  refine op_run (fun a ha => ?_) ⟨rfl, rfl⟩
  have h1 := evals ha hx
  have h2 : a.eval (.func f) = .func (.func f) #[] #[] := rfl
  have h3 := run_ext (args := vs.toArray) (w := w) hf hname hb hn he (hr w)
  simp [execOp, resolve, Deferred.ofValue, invoke, h2, h1, h3]

theorem op_and31 {t u : Nat} {x y : Operand} {a : Nat} (hx : ev ρ x = some (.int .u32 ((a : Nat) : Int))) (hy : ev ρ y = some (.int .u32 2147483647)) (ha : a < wid .f32) :
    Op1 P n ⟨dst, .binOp .and t x y u, ty, pos, af, g⟩ ρ w (Det (.int .u32 ((absF a : Nat) : Int)) w) := by
  have h := op_and (P := P) (n := n) (w := w) (dst := dst) (ty := ty) (pos := pos) (af := af) (g := g) (t := t) (u := u) hx hy
  have e : bits .and .u32 ((a : Nat) : Int) 2147483647 = ((absF a : Nat) : Int) := by
    have h1 := u32_and_nat a 2147483647 (wid_lt ha) (by decide)
    have h2 : a &&& 2147483647 = absF a := Nat.and_two_pow_sub_one_eq_mod a 31
    rw [h2] at h1
    exact h1
  rwa [e] at h

theorem op_andnot63 {t u : Nat} {x y : Operand} {a : Nat} (hx : ev ρ x = some (.int .u64 ((a : Nat) : Int))) (hy : ev ρ y = some (.int .u64 9223372036854775808)) (ha : a < wid .f64) :
    Op1 P n ⟨dst, .binOp .andNot t x y u, ty, pos, af, g⟩ ρ w (Det (.int .u64 ((absD a : Nat) : Int)) w) := by
  refine op_bin hx hy guard_int ?_
  have e : bits .andNot .u64 ((a : Nat) : Int) 9223372036854775808 = ((absD a : Nat) : Int) := by
    have h1 := u64_andNot_nat a 9223372036854775808 (by rw [wid64] at ha; exact ha) (by decide)
    have h2 : a &&& (18446744073709551615 - 9223372036854775808) = absD a := Nat.and_two_pow_sub_one_eq_mod a 63
    rw [h2] at h1
    exact h1
  rw [binOp_andNot, intBits_andNot, e, Sem.run_pure]

/-- a slice literal -/
theorem op_buildSl {t e m N : Nat} {ps : Array (Nat × Operand)} {qs : List (Nat × Value)} {cells : Array Value} {z : Value} (hps : ps.toList.map (fun p => (p.1, ev ρ p.2)) = qs.map (fun q => (q.1, some q.2))) (hu : ∀ w, (underlying t).run P w = .ok (.slice e) w)
    (hs : ∀ w, (sizeOf e).run P w = .ok m w) (hz : ∀ w, (zeroValue e).run P w = .ok z w) (h0 : N * m ≠ 0) (hb : N * m ≤ 16777216) (h : Instr.fill (fun i => some (i * m, m)) ((Array.range (N * m)).map (z.cells[· % z.cells.size]!)) qs = some cells) :
    Op1 P n ⟨dst, .buildSlice t N ps, ty, pos, af, g⟩ ρ w (fun u w' => u = .slice (some ⟨w.heap.size, 0, none⟩) N N ∧ Row w' w.heap.size 0 cells.toList ∧ Mod [] w w' ∧ w.heap.size < w'.heap.size) := by
  refine op_run (v := .slice (some ⟨w.heap.size, 0, none⟩) N N) (w' := w.alloc (.cells cells e)) (fun a ha => ?_) ⟨rfl, Row.new w cells e, Mod.alloc _ _, by simp⟩
  have key : ∀ (l : List (Nat × Operand)) (r : List (Nat × Value)), l.map (fun p => (p.1, ev ρ p.2)) = r.map (fun q => (q.1, some q.2)) → l.map (fun p => (p.1, a.eval p.2)) = r := by
    intro l
    induction l with
    | nil => intro r h; cases r with | nil => rfl | cons _ _ => simp at h
    | cons x l ih =>
      intro r h
      cases r with
      | nil => simp at h
      | cons v r => simp at h; simp [ha.ev h.1.2, ih r h.2, h.1.1]
  have h1 : (ps.map fun (i, x) => (i, a.eval x)) = qs.toArray := by rw [← key _ _ hps, ← Array.toList_map, Array.toArray_toList]
  have h2 : ¬ (2 ^ 24 < N * m) := by omega
  simp only [execOp, h1]
  simp [Instr.buildSlice, hu, hs, hz, h0, h2, h, newRow]

theorem rem_nat {x : Int} {a m : Nat} (h : x = (a : Int)) : x.tmod (m : Int) = ((a % m : Nat) : Int) := by subst h; rfl

/-- 'arr[:]' -/
theorem op_sliceArr {t e m b off : Nat} {x : Operand} (hx : ev ρ x = some (.pointer (some ⟨b, off, none⟩))) (hu : ∀ w, (underlying t).run P w = .ok (.array m e) w) {k : Nat} (hs : ∀ w, (sizeOf e).run P w = .ok k w) :
    Op1 P n ⟨dst, .slice t x none none none, ty, pos, af, g⟩ ρ w (Det (.slice (some ⟨b, off, none⟩) m m) w) := by
  refine op_run (fun a ha => ?_) ⟨rfl, rfl⟩
  have e : (if m = 0 then (⟨b, off, none⟩ : Addr) else ⟨b, off + 0 * k, none⟩) = ⟨b, off, none⟩ := by simp
  simp [execOp, ha.ev hx, Instr.sliceAt, hu, Instr.sureAddr, Instr.sliceBounds, hs, addr_add]

theorem op_narrow {s d a ea e : Nat} {x : Operand} {du : TypeDesc} (hx : ev ρ x = some (.float .f64 a)) (ha : cn .f64 a = cn .f64 ea) (hs : ∀ w, (underlying s).run P w = .ok du w) (hd : ∀ w, (underlying d).run P w = .ok (.float .f32) w) (he : Narrows ea e) :
    Op1 P n ⟨dst, .convert s d x, ty, pos, af, g⟩ ρ w (fun v w' => FOut .f32 e v ∧ Mod [] w w') := fun c hc => by
  have key : ∃ v w', (Conv.floatToFloat .f64 a .f32).run P w = .ok v w' ∧ FOut .f32 e v ∧ Mod [] w w' := by
    rcases he with ⟨hn, hn'⟩ | he
    · have hna : isNaN .f64 a = true := by rw [isNaN_congr ha]; exact hn
      obtain ⟨s', t', h⟩ := isNaN_iff.1 hna
      have hq := cut_nanConv .f32 a (w.tape w.drawn (.nanConv .f32 a))
      refine ⟨.float .f32 ((Question.nanConv .f32 a).cut (w.tape w.drawn (.nanConv .f32 a))), w.drew, ?_, ⟨_, rfl, ?_, hq.2⟩, (Mod.refl _ _).drew⟩
      · simp [Conv.floatToFloat, FloatKind.decode, h, Question.forced]
      · simp [cn, hq.1, hn']
    · have hx' : isNaN .f64 ea = false := by
        cases hn : isNaN .f64 ea
        · rfl
        · obtain ⟨s', t', h⟩ := isNaN_iff.1 hn
          unfold floatToFloatBits FloatKind.decode at he
          simp [h] at he
      have hax := eq_of_cn ha hx'
      subst hax
      have hlt : e < wid .f32 := by
        unfold floatToFloatBits at he
        simp only [reduceCtorEq, if_false] at he
        split at he
        · cases he
        · cases he; exact FloatKind.f32.format.write_lt _
        · split at he
          · cases he
          · cases he; exact FloatKind.f32.format.write_lt _
      refine ⟨.float .f32 e, w, ?_, ⟨e, rfl, rfl, hlt⟩, Mod.refl _ _⟩
      unfold floatToFloatBits at he
      simp only [reduceCtorEq, if_false] at he
      unfold Conv.floatToFloat
      simp only [reduceCtorEq, if_false]
      split at he
      · cases he
      · rename_i s' h; cases he; simp [h]
      · rename_i s' m' i' h
        split at he
        · cases he
        · rename_i hni
          cases he
          simp [h, hni]
  obtain ⟨v, w', hr, hf, hm⟩ := key
  exact ⟨v, w', .inl (by cases du <;> simp [execOp, hc.ev hx, convert, hs, hd, hr]), hf, hm⟩

end

/-! ### Two new blocks whose order is drawn -/

theorem Fr.swap {n : Nat} {ρ : Env} {a : Act} {d e : Nat} {u v : Value} (hne : d ≠ e) (h : Fr n ((d, u) :: (e, v) :: ρ) a) : Fr n ((e, v) :: (d, u) :: ρ) a := by
  refine ⟨h.size, h.defers, fun t x hx => h.get t x ?_⟩
  rw [List.lookup_cons, List.lookup_cons] at hx ⊢
  by_cases c1 : t = d
  · subst c1
    have : (t == e) = false := by simpa using hne
    rw [this] at hx
    simpa using hx
  · have e1 : (t == d) = false := by simpa using c1
    rw [e1] at hx ⊢
    exact hx

/-- an operation that makes one new block -/
def Makes (P : Program) (n : Nat) (o : Oper) (cs : List Value) : Prop := ∀ ρ w, Op1 P n o ρ w fun u w' => u = .pointer (some ⟨w.heap.size, 0, none⟩) ∧ Row w' w.heap.size 0 cs ∧ Mod [] w w' ∧ w.heap.size < w'.heap.size

theorem DR.two {P : Program} {n : Nat} {T : Tab} {l : List Oper} {pre : List Nat} {Fin : Act → World → Prop} {k : Nat} {listed : Array Bool} {ρ : Env} {w w0 : World} {S : List Nat}
    {i j di dj : Nat} {oi oj : Oper} {ri rj : List Oper} {ci cj : List Value} (hli : l.drop i = oi :: ri) (hlj : l.drop j = oj :: rj) (hTi : T i = none) (hTj : T j = none)
    (hr : rdy l pre listed = [i, j]) (hri : rdy l pre (listed.setIfInBounds i true) = [j]) (hrj : rdy l pre (listed.setIfInBounds j true) = [i]) (hij : i ≠ j) (hdd : di ≠ dj)
    (hgi : oi.guard = none) (hgj : oj.guard = none) (hdi : oi.dst = some di) (hdj : oj.dst = some dj) (hni : di < n) (hnj : dj < n) (mi : Makes P n oi ci) (mj : Makes P n oj cj)
    (h : ∀ bi bj w', Row w' bi 0 ci → Row w' bj 0 cj → w.heap.size ≤ bi → w.heap.size ≤ bj → bi ≠ bj → Mod [] w w' →
      DR P n T l pre Fin S w0 k ((listed.setIfInBounds i true).setIfInBounds j true) ((dj, .pointer (some ⟨bj, 0, none⟩)) :: (di, .pointer (some ⟨bi, 0, none⟩)) :: ρ) w') :
    DR P n T l pre Fin S w0 (k + 2) listed ρ w := fun hb0 a ha => by
  have hoi : l[i]? = some oi := by have := congrArg List.head? hli; simpa using this
  have hoj : l[j]? = some oj := by have := congrArg List.head? hlj; simpa using this
  refine ⟨by rw [hr]; simp, fun w1 m1 x hx o ho => ?_⟩
  rw [hr] at hx
  have hx' : x = i ∨ x = j := by simpa using hx
  rcases hx' with rfl | rfl
  · rw [hoi] at ho; cases ho
    rw [if_pos (by simp [Region.wanted, hgi])]
    obtain ⟨u, w2, hrl, rfl, hrow, m2, hz⟩ := mi ρ w1 a ha
    refine ⟨by unfold GSafe; simp only [hTi]; exact ⟨_, _, hrl⟩, fun u' w' hg => ?_⟩
    unfold GOut at hg
    simp only [hTi] at hg
    obtain ⟨rfl, rfl⟩ := det_of_rel hrl hg
    have hb1 := hb0.nil_then (m1.trans m2)
    refine ⟨hb1, ?_⟩
    have ha2 : Fr n ((di, .pointer (some ⟨w1.heap.size, 0, none⟩)) :: ρ) (a.put oi.dst (.pointer (some ⟨w1.heap.size, 0, none⟩))) := by rw [hdi]; exact ha.put hni _
    refine DR.one1 (d := dj) hlj hTj hri (.free hgj) hdj hnj (fun w3 m3 => (mj _ w3).mono ?_) hb1 _ ha2
    rintro _ w4 ⟨rfl, hrow2, m4, hz2⟩
    exact ⟨hb1.nil_then (m3.trans m4), h _ _ w4 ((hrow.ext m3).ext m4) hrow2 m1.size (Nat.le_trans m1.size (Nat.le_trans m2.size m3.size)) (Nat.ne_of_lt (Nat.lt_of_lt_of_le hz m3.size)) (((m1.trans m2).trans m3).trans m4)⟩
  · rw [hoj] at ho; cases ho
    rw [if_pos (by simp [Region.wanted, hgj])]
    obtain ⟨u, w2, hrl, rfl, hrow, m2, hz⟩ := mj ρ w1 a ha
    refine ⟨by unfold GSafe; simp only [hTj]; exact ⟨_, _, hrl⟩, fun u' w' hg => ?_⟩
    unfold GOut at hg
    simp only [hTj] at hg
    obtain ⟨rfl, rfl⟩ := det_of_rel hrl hg
    have hb1 := hb0.nil_then (m1.trans m2)
    refine ⟨hb1, ?_⟩
    have ha2 : Fr n ((dj, .pointer (some ⟨w1.heap.size, 0, none⟩)) :: ρ) (a.put oj.dst (.pointer (some ⟨w1.heap.size, 0, none⟩))) := by rw [hdj]; exact ha.put hnj _
    refine DR.one1 (d := di) hli hTi hrj (.free hgi) hdi hni (fun w3 m3 => (mi _ w3).mono ?_) hb1 _ ha2
    rintro _ w4 ⟨rfl, hrow2, m4, hz2⟩
    refine ⟨hb1.nil_then (m3.trans m4), fun hb4 a4 ha4 => ?_⟩
    have hc := h _ _ w4 hrow2 ((hrow.ext m3).ext m4) (Nat.le_trans m1.size (Nat.le_trans m2.size m3.size)) m1.size (Nat.ne_of_gt (Nat.lt_of_lt_of_le hz m3.size)) (((m1.trans m2).trans m3).trans m4) hb4 a4 (ha4.swap hdd)
    rwa [Array.setIfInBounds_comm _ _ hij] at hc

end Go.Proofs.Ytnahhdnkbbdceaa
