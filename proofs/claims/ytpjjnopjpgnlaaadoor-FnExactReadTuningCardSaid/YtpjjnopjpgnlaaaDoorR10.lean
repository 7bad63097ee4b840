/- What the listed table of the library holds, read off the card's premise. -/
import Derived.Test.YtpjjnopjpgnlaaaDoorG2
import Derived.Test.YtpjjnopjpgnlaaaDoorRows
import Derived.LaidSub
import Derived.Lib.LaidTab
import Derived.Shelf.Vars
import Derived.Handed
set_option linter.unusedVariables false
namespace Go.Proofs.YtpjjnopjpgnlaaaDoor
open Go

theorem tabAt_of {W : World} (h : Lib.TabIs Tryd.prog W "math/bits.deBruijn64tab" .u8 (Lib.deBruijn64tab.map fun k : Nat => (k : Int))) : LibT W LB 0 [] := fun j hj => by
  rw [World.var?_cell (g := 8) (by kernel_rfl) h j, List.getElem?_toArray, List.getElem?_map, List.getElem?_map, List.getElem?_eq_getElem hj, List.getD_eq_getElem?_getD, List.getElem?_eq_getElem hj]
  rfl
theorem libT_of {W : World} (hL : laidMetH Tryd.prog Rows.fnExactReadTuningRow.laid W) : LibT W LB 0 [] := by
  have h1 := ((laidMetH_iff.1 hL).1).filter fun x => x.1 == "math/bits.deBruijn64tab"
  have e1 : ((Rows.fnExactReadTuningRow.laid.filter fun x => x.2.handleName?.isNone).filter fun x => x.1 == "math/bits.deBruijn64tab") = [("math/bits.deBruijn64tab", Lib.tabData .u8 (Lib.deBruijn64tab.map fun k : Nat => (k : Int)))] := by kernel_rfl
  rw [e1] at h1
  exact tabAt_of (Lib.tabIs_of_head (g := 8) (by kernel_rfl) (by kernel_rfl) Tryd.underlying125 Tryd.underlying5 (by kernel_rfl) (by kernel_rfl) h1)
theorem iface_of_trod {H : Type} {enc : TypeId × Value → H} {P : Program} {w : World} {b : Nat} {sp : Nat → Bool} {held : Bool} {fuel : Nat} {t : TypeId} {ms} {cs : List Value} {nm : String} {d0 : DataW H} {p : List MemPlace} (hu : P.underlying t = some (.interface ms)) (h : DataW.trod enc P w b sp held fuel t cs = some (.iface nm d0, p)) : ∃ u v, cs = [.iface u v] := by
  cases fuel with
  | zero => simp [DataW.trod] at h
  | succ fuel =>
    rcases cs with _ | ⟨c, _ | ⟨c2, r⟩⟩
    · simp [DataW.trod, hu] at h
    · cases c <;> first | exact ⟨_, _, rfl⟩ | simp [DataW.trod, hu] at h
    · simp [DataW.trod, hu] at h
theorem iface_var {P : Program} {W : World} {name nm : String} {d0 : DataW Unit} {rest : List (String × DataW Unit)} {g : Nat} {t : TypeId} {ms} (hg : P.globalNamed name = some g) (hty : (P.globals[g]?).map (·.type) = some t) (hu : P.underlying t = some (.interface ms)) (h : laidMet P ((name, .iface nm d0) :: rest) W) : ∃ u v, W.var? P name = some #[.iface u v] := by
  obtain ⟨ps, ⟨g', t', cs, fuel, p, q, hg', ht', hvar, hd, _, _⟩, _⟩ := h
  obtain rfl := Option.some.inj (hg.symm.trans hg')
  obtain rfl := Option.some.inj (hty.symm.trans ht')
  obtain ⟨u, v, e⟩ := iface_of_trod hu hd
  refine ⟨u, v, hvar.trans (congrArg some ?_)⟩
  exact Array.toList_inj.1 e
theorem libW_of {W : World} (hL : laidMetH Tryd.prog Rows.fnExactReadTuningRow.laid W) (hS : W.ShapedOpen Tryd.prog) : LibR W LC 0 [] := by
  have h0 := (laidMetH_iff.1 hL).1
  have h2 := h0.filter fun x => x.1 == "strconv.ErrSyntax"
  have h3 := h0.filter fun x => x.1 == "strconv.ErrRange"
  have e2 : ((Rows.fnExactReadTuningRow.laid.filter fun x => x.2.handleName?.isNone).filter fun x => x.1 == "strconv.ErrSyntax") = [("strconv.ErrSyntax", Rows.laid_strconv_ErrSyntax)] := by kernel_rfl
  have e3 : ((Rows.fnExactReadTuningRow.laid.filter fun x => x.2.handleName?.isNone).filter fun x => x.1 == "strconv.ErrRange") = [("strconv.ErrRange", Rows.laid_strconv_ErrRange)] := by kernel_rfl
  rw [e2] at h2
  rw [e3] at h3
  exact ⟨iface_var (g := 4) (t := 57) (by kernel_rfl) (by kernel_rfl) Tryd.underlying57 h2, iface_var (g := 5) (t := 57) (by kernel_rfl) (by kernel_rfl) Tryd.underlying57 h3,
    Go.Proofs.cell_of_shapedOpen_int (zero := #[.int .i64 0]) (t := 3) hS (of_decide_eq_true (by kernel_rfl)) (by kernel_rfl) rfl (by kernel_rfl) (by kernel_rfl) Tryd.underlying3⟩
theorem handed_shaped {H : Type} {enc : TypeId × Value → H} {C : Checked} {os : Os} {f : FuncId} {fn : Func} {s : ChangeSpec} {conds : List PathCond} {apart fresh handsOn again : Bool} {X : World → Prop}
    (hX : ∀ (w w' : World), w.heap = w'.heap → X w → X w')
    (own : ownKnob C.prog.godebug = none) (started : os.Started) (noInit : C.prog.inits.idxOf? f = none) (hfn : C.prog.funcs[f]? = some fn)
    (wit : ∃ (w : World) (tape : Tape) (i : Input), w.os = os ∧ (w.forCall tape i).Shaped C.prog ∧ i.vars = [] ∧ Input.okWide C.prog (w.forCall tape i) .any w.heap.size f i ∧
      ((s.pre enc C.prog fn conds apart (w.forCall tape i).memory i.args ∧ X (w.forCall tape i).memory) ∧ sizedMet enc C.prog fn (OpenSpec.ofChange s) apart (w.forCall tape i).memory i.args) ∧ ({} : Assume).holds C.prog (lone (Frame.enter C.prog f i.args .normal) [] (w.forCall tape i)))
    (con : ∀ (W : World) (base : Nat) (args : Array Value) (ds gs : List (DataW H)) (before : List MemPlace), (∀ (j : Nat) t v, fn.params[j]? = some t → args[j]? = some v → Value.okWide C.prog W .any base t v) →
      DataW.Whole enc C.prog fn.params.toList s.vars apart W args.toList ds gs before → X W → W.ShapedOpen C.prog →
      Calls C.prog f args W fun e W' => ∃ v, e = .returned v ∧ s.post enc C.prog fn apart fresh handsOn again W args v W') :
    ReturnsInHanded {} C os f .any (fun w args => (s.pre enc C.prog fn conds apart w args ∧ X w) ∧ sizedMet enc C.prog fn (OpenSpec.ofChange s) apart w args) (s.post enc C.prog fn apart fresh handsOn again) := by
  refine returnsInHanded_of_calls own started noInit wit fun w tape i _ hsh _ hok hpre _ => ?_
  obtain ⟨_, _, _, fn', hf, _, _, _, _, hv⟩ := hok
  cases Option.some.inj (hf.symm.trans hfn)
  obtain ⟨⟨⟨ds, gs, before, hw, _⟩, hx⟩, _⟩ := hpre
  refine (con (w.forCall tape i) w.heap.size i.args ds gs before hv (DataW.Whole.of_heap (w := (w.forCall tape i).memory) (w' := w.forCall tape i) (by rfl) hw) (hX (w.forCall tape i).memory (w.forCall tape i) (by rfl) hx) hsh).mono ?_
  rintro e W' ⟨v, rfl, hp⟩
  exact ChangeSpec.post_blind hp
end Go.Proofs.YtpjjnopjpgnlaaaDoor
