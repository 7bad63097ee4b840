/- The engine of this claim's walks, fifth part: leaving blocks and loops; rounds one by one. -/
import Derived.Test.YtemnjphnhmbddaaE4
import Derived.LoopN
set_option linter.unusedVariables false
namespace Go.Proofs.Ytemnjphnhmbddaa

/-- what is asked at a normal end -/
def NE (n : Nat) (Q : Exit → Act → World → Prop) (ρ : Env) (w : World) : Prop := ∀ a, Fr n ρ a → Q .normal a w
def XE (n : Nat) (e : Exit) (Q : Exit → Act → World → Prop) (ρ : Env) (w : World) : Prop := ∀ a, Fr n ρ a → Q e a w

section
variable {P : Program} {n m : Nat} {Q : Exit → Act → World → Prop} {K : Act → World → Prop} {ρ : Env} {w : World} {y c : Code} {id id' : Nat} {ops : Array Oper} {l : List Oper}

theorem WL.end (h : NE n Q ρ w) : WL P n ops Q [] ρ w := fun a ha => h a ha
theorem WO.end (h : NE n Q ρ w) : WO P n l Q [] ρ w := fun a ha => h a ha
theorem CE.skip' (h : NE n Q ρ w) : CE P n .skip Q ρ w := CE.skip h
theorem CE.exit' (h : XE n (.exit id) Q ρ w) : CE P n (.exit id) Q ρ w := CE.exit h
theorem CE.ret' (h : XE n .ret Q ρ w) : CE P n .ret Q ρ w := CE.ret h
theorem NE.code (h : CE P n y Q ρ w) : NE n (Exit.then (y.wp P Q) Q) ρ w := fun a ha => h a ha
theorem NE.blk (h : NE n Q ρ w) : NE n (Exit.inBlock id Q) ρ w := fun a ha => h a ha
theorem XE.exit_then (h : XE n (.exit id) Q ρ w) : XE n (.exit id) (Exit.then K Q) ρ w := fun a ha => h a ha
theorem XE.ret_then (h : XE n .ret Q ρ w) : XE n .ret (Exit.then K Q) ρ w := fun a ha => h a ha
theorem XE.ret_blk (h : XE n .ret Q ρ w) : XE n .ret (Exit.inBlock id Q) ρ w := fun a ha => h a ha
theorem XE.exit_here (h : NE n Q ρ w) : XE n (.exit id) (Exit.inBlock id Q) ρ w := fun a ha => by
  show (if id = id then Q .normal a w else Q (.exit id) a w)
  rw [if_pos rfl]; exact h a ha
/-- rounds of a loop, one by one -/
def RN (P : Program) (n : Nat) (c : Code) (Q : Exit → Act → World → Prop) (m : Nat) (ρ : Env) (w : World) : Prop := ∀ a, Fr n ρ a → Code.rounds P c Q m a w
theorem CE.rounds (m : Nat) (h : RN P n c Q m ρ w) : CE P n (.loop c) Q ρ w := fun a ha => wp_loop_rounds m (h a ha)
theorem RN.one (h : CE P n c (Exit.then (Code.rounds P c Q m) Q) ρ w) : RN P n c Q (m + 1) ρ w := fun a ha => h a ha
theorem NE.round (h : RN P n c Q m ρ w) : NE n (Exit.then (Code.rounds P c Q m) Q) ρ w := fun a ha => h a ha

/-- the end of a loop's round -/
theorem NE.again {α : Type} {J : α → Env} {W : α → World → Prop} {μ : α → Nat} {x : α} (x' : α) (hs : subB (J x') ρ) (hw : W x' w) (hm : μ x' < μ x) :
    NE n (Exit.then (fun a' w' => ∃ x', Fr n (J x') a' ∧ W x' w' ∧ μ x' < μ x) Q) ρ w := fun a ha => ⟨x', ha.sub hs, hw, hm⟩
end

section
variable {P : Program} {fn : Func} {S : Value → World → Prop} {n t : Nat} {ρ : Env} {w : World} {v : Value}
theorem XE.leave1 (hr : fn.results = #[.tmp t]) (hv : ρ.lookup t = some v) (h : S v w) : XE n .ret (bodyPost P fn fun e w' => ∃ v, e = .returned v ∧ S v w') ρ w := Proofs.Ytemnjphnhmbddaa.leave1 hr hv h
theorem XE.leaveT {rs : Array ResultVar} (hr : fn.results = rs) {v1 v2 : Value} {vs : List Value} (h1 : ResOK P w ρ rs.toList (v1 :: v2 :: vs)) (h : S (.tuple (v1 :: v2 :: vs).toArray) w) : XE n .ret (bodyPost P fn fun e w' => ∃ v, e = .returned v ∧ S v w') ρ w :=
  Proofs.Ytemnjphnhmbddaa.leaveT (hr ▸ h1) h
theorem XE.leaveC {rs : Array ResultVar} (hr : fn.results = rs) (h1 : ResOK P w ρ rs.toList [v]) (h : S v w) : XE n .ret (bodyPost P fn fun e w' => ∃ v, e = .returned v ∧ S v w') ρ w := Proofs.Ytemnjphnhmbddaa.leaveC (hr ▸ h1) h
theorem NE.leave1 (hr : fn.results = #[.tmp t]) (hv : ρ.lookup t = some v) (h : S v w) : NE n (bodyPost P fn fun e w' => ∃ v, e = .returned v ∧ S v w') ρ w := Proofs.Ytemnjphnhmbddaa.leave1 hr hv h
end

theorem res_tmp {P : Program} {w : World} {ρ : Env} {t : Nat} {r : List ResultVar} {v : Value} {vs : List Value} (h : ρ.lookup t = some v) (h2 : ResOK P w ρ r vs) : ResOK P w ρ (.tmp t :: r) (v :: vs) := ⟨h, h2⟩
theorem res_agg {P : Program} {w : World} {ρ : Env} {p ty m b o : Nat} {r : List ResultVar} {cs : List Value} {vs : List Value} (h : ρ.lookup p = some (.pointer (some ⟨b, o, none⟩))) (hg : ∀ w, (isAgg ty).run P w = .ok true w) (hs : ∀ w, (sizeOf ty).run P w = .ok m w)
    (hr : Rng w b o cs) (hm : cs.length = m) (h2 : ResOK P w ρ r vs) : ResOK P w ρ (.cell p ty :: r) (.agg cs.toArray :: vs) := ⟨⟨_, h, run_loadA hg hs hm hr⟩, h2⟩
theorem res_nil {P : Program} {w : World} {ρ : Env} : ResOK P w ρ [] [] := trivial

theorem w_i64 {i : Int} (h0 : -9223372036854775808 ≤ i) (h1 : i ≤ 9223372036854775807) : IntKind.i64.wrap i = i := by rw [IntKind.wrap_i64]; omega

end Go.Proofs.Ytemnjphnhmbddaa

/- The engine of this claim's walks, twenty-second part: code whose ways meet again. -/
set_option linter.unusedVariables false
namespace Go.Proofs.Ytemnjphnhmbddaa

section
variable {P : Program} {n : Nat} {Q : Exit → Act → World → Prop} {ρ : Env} {w : World} {c : Code}
/-- the code ends as `F` says, whichever way it goes -/
theorem CE.cut (F : Env → World → Prop) (h : CE P n c (fun e a w => e = .normal ∧ ∃ ρ', Fr n ρ' a ∧ F ρ' w) ρ w) (k : ∀ ρ' w', F ρ' w' → NE n Q ρ' w') : CE P n c Q ρ w := fun a ha =>
  wp_mono (h a ha) fun e a' w' q => by
    obtain ⟨rfl, ρ', hf, hF⟩ := q
    exact k ρ' w' hF a' hf
end
end Go.Proofs.Ytemnjphnhmbddaa
