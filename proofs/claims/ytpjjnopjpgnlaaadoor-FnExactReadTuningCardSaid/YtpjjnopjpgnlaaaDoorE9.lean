/- The engine of this claim's walks, ninth part: words of floats as whole numbers, narrowing. -/
import Derived.Test.YtpjjnopjpgnlaaaDoorE7
import Derived.Test.YtpjjnopjpgnlaaaDoorF4
import Derived.Laws.BitsAllLaws
namespace Go.Proofs.YtpjjnopjpgnlaaaDoor

section
variable {P : Program} {n : Nat} {ρ : Env} {w : World} {dst : Option Tmp} {ty : TypeId} {pos : String} {af : Array Edge} {g : Option (Nat × Bool)}

theorem run_ext {f : FuncId} {fn : Func} {e : Array Value → Sem Value} {args : Array Value} {v : Value} {w w' : World} (hf : P.funcs[f]? = some fn) (hname : (fn.name == "runtime.NumGoroutine") = false) (hb : fn.body = none)
    (hn : Extern.findNext fn = none) (he : Extern.find fn = some e) (hr : (e args).run P w = .ok v w') : (callFunc f args).run P w = .ok (.value v) w' := by
  have h1 : ¬ fn.name = "runtime.NumGoroutine" := by simpa using hname
  simp [callFunc, hf, h1, hb, hn, he, hr]

/-- a function that the model answers itself -/
theorem op_extern {f : FuncId} {fn : Func} {e : Array Value → Sem Value} {xs : Array Operand} {ts : Array TypeId} {vs : List Value} {v : Value} (hf : P.funcs[f]? = some fn) (hname : (fn.name == "runtime.NumGoroutine") = false) (hb : fn.body = none)
    (hn : Extern.findNext fn = none) (he : Extern.find fn = some e) (hx : xs.toList.map (ev ρ) = vs.map some) (hr : ∀ w, (e vs.toArray).run P w = .ok v w) :
    Op1 P n ⟨dst, .call { callee := .value (.func f), args := xs, argTypes := ts }, ty, pos, af, g⟩ ρ w (Det v w) := by
  refine op_run (fun a ha => ?_) ⟨rfl, rfl⟩
  have h1 := evals ha hx
  have h2 : a.eval (.func f) = .func (.func f) #[] #[] := rfl
  have h3 := run_ext (args := vs.toArray) (w := w) hf hname hb hn he (hr w)
  simp [execOp, resolve, Deferred.ofValue, invoke, h2, h1, h3]

/-- a slice literal -/
theorem op_buildSl {t e m N : Nat} {ps : Array (Nat × Operand)} {qs : List (Nat × Value)} {cells : Array Value} {z : Value} (hps : ps.toList.map (fun p => (p.1, ev ρ p.2)) = qs.map (fun q => (q.1, some q.2))) (hu : ∀ w, (underlying t).run P w = .ok (.slice e) w)
    (hs : ∀ w, (sizeOf e).run P w = .ok m w) (hz : ∀ w, (zeroValue e).run P w = .ok z w) (h0 : N * m ≠ 0) (hb : N * m ≤ 16777216) (h : Instr.fill (fun i => some (i * m, m)) ((Array.range (N * m)).map (z.cells[· % z.cells.size]!)) qs = some cells) :
    Op1 P n ⟨dst, .buildSlice t N ps, ty, pos, af, g⟩ ρ w (fun u w' => u = .slice (some ⟨w.heap.size, 0, none⟩) N N ∧ Row w' w.heap.size 0 cells.toList ∧ Mod [] w w' ∧ w.heap.size < w'.heap.size) := by
  refine op_run (v := .slice (some ⟨w.heap.size, 0, none⟩) N N) (w' := w.alloc (.cells cells e)) (fun a ha => ?_) ⟨rfl, Row.new w cells e, Mod.alloc _ _, by simp⟩
  have key : ∀ (l : List (Nat × Operand)) (r : List (Nat × Value)), l.map (fun p => (p.1, ev ρ p.2)) = r.map (fun q => (q.1, some q.2)) → l.map (fun p => (p.1, a.eval p.2)) = r := by
    intro l
    induction l with
    | nil => intro r h; cases r with | nil => rfl | cons _ _ => simp at h
    | cons x l ih =>
      intro r h
      cases r with
      | nil => simp at h
      | cons v r => simp at h; simp [ha.ev h.1.2, ih r h.2, h.1.1]
  have h1 : (ps.map fun (i, x) => (i, a.eval x)) = qs.toArray := by rw [← key _ _ hps, ← Array.toList_map, Array.toArray_toList]
  have h2 : ¬ (2 ^ 24 < N * m) := by omega
  simp only [execOp, h1]
  simp [Instr.buildSlice, hu, hs, hz, h0, h2, h, newRow]

end

/-! ### Two new blocks whose order is drawn -/

/-- an operation that makes one new block -/
def Makes (P : Program) (n : Nat) (o : Oper) (cs : List Value) : Prop := ∀ ρ w, Op1 P n o ρ w fun u w' => u = .pointer (some ⟨w.heap.size, 0, none⟩) ∧ Row w' w.heap.size 0 cs ∧ Mod [] w w' ∧ w.heap.size < w'.heap.size

end Go.Proofs.YtpjjnopjpgnlaaaDoor
