/- What comes in: the cells of a law's arguments, opened leaf by leaf. -/
import Derived.Test.YtnahhdnkbbdceaaE7
import Derived.ProofKit
import Derived.OpenShut
import Derived.ShutString
import Derived.ChangeOld
import Derived.Below
namespace Go.Proofs.Ytnahhdnkbbdceaa
open Go.RowKit

abbrev Lf := World → Value → Prop
def isI (k : IntKind) : Lf := fun _ v => ∃ i, v = .int k i ∧ k.min ≤ i ∧ i ≤ k.max
def isB : Lf := fun _ v => ∃ b, v = .bool b
def isF (k : FloatKind) : Lf := fun _ v => ∃ b, v = .float k b ∧ b < wid k
def isS : Lf := fun _ v => ∃ s, v = .string s ∧ s.size ≤ maxLen

def Cells (w : World) : List Lf → List Value → Prop
  | [], [] => True
  | e :: es, v :: vs => e w v ∧ Cells w es vs
  | _, _ => False

/-- a slice that came in -/
def isSl (es : List Lf) : Lf := fun w v => ∃ A n c b o vs, v = .slice A n c ∧ (0 < n → A = some ⟨b, o, none⟩) ∧ n ≤ c ∧ c ≤ maxLen ∧ (A = none → c = 0) ∧ vs.length = n * es.length ∧ Rng w b o vs ∧
  ∀ i, i < n → Cells w es ((vs.drop (i * es.length)).take es.length)

theorem Cells.len {w : World} : ∀ {es : List Lf} {vs : List Value}, Cells w es vs → vs.length = es.length
  | [], [], _ => rfl
  | _ :: _, _ :: _, h => congrArg (· + 1) (Cells.len h.2)
  | [], _ :: _, h => h.elim
  | _ :: _, [], h => h.elim

theorem Cells.cons {w : World} {e : Lf} {es : List Lf} {vs : List Value} (h : Cells w (e :: es) vs) : ∃ v r, vs = v :: r ∧ e w v ∧ Cells w es r := by
  cases vs with
  | nil => exact h.elim
  | cons v r => exact ⟨v, r, rfl, h.1, h.2⟩
theorem Cells.nil {w : World} {vs : List Value} (h : Cells w [] vs) : vs = [] := by
  cases vs with
  | nil => rfl
  | cons v r => exact h.elim

theorem Cells.append {w : World} : ∀ {a b : List Lf} {x y : List Value}, Cells w a x → Cells w b y → Cells w (a ++ b) (x ++ y)
  | [], _, [], _, _, h => h
  | _ :: _, _, _ :: _, _, h, k => ⟨h.1, Cells.append h.2 k⟩
  | [], _, _ :: _, _, h, _ => h.elim
  | _ :: _, _, [], _, h, _ => h.elim

section
variable (P : Program)
/-- Whatever is read as of type `t` has these leaves. -/
def Opens (t : TypeId) (es : List Lf) : Prop := ∀ {H : Type} (enc : TypeId × Value → H) (w : World) (spare : Nat → Bool) (held : Bool) (fuel : Nat) (cs : List Value) (x : DataW H × List MemPlace),
  DataW.trod enc P w 0 spare held fuel t cs = some x → Cells w es cs

inductive OpensFs : Nat → List Field → List Lf → Prop
  | nil (off : Nat) : OpensFs off [] []
  | cons {off : Nat} {f : Field} {fs : List Field} {es rest : List Lf} (ho : f.offset = off) (hs : P.cellsOf f.type = es.length) (h : Opens P f.type es) (hr : OpensFs (off + es.length) fs rest) : OpensFs off (f :: fs) (es ++ rest)
end

section
variable {P : Program} {t : TypeId}

theorem opens_int {k : IntKind} (ht : P.underlying t = some (.int k)) : Opens P t [isI k] := fun _ w _ _ _ cs x h => by
  obtain ⟨n, rfl, _, hw⟩ := DataW.trod_int ht h
  simp only [Lit.wf, Bool.and_eq_true, decide_eq_true_eq] at hw
  exact ⟨⟨n, rfl, hw.1, hw.2⟩, trivial⟩
theorem cells_get {w : World} {base : Nat} {a : Addr} {n : Nat} {cs : List Value} (h : w.cells? base a n = some cs) : cs.length = n ∧ ∀ i, i < n → ∃ v, cs[i]? = some v ∧ w.cell? (a.add i) = some v := by
  unfold World.cells? at h
  split at h
  · have hl : cs.length = n := by simpa using mapM_some_length h
    refine ⟨hl, fun i hi => ⟨cs[i], by simp [hl, hi], ?_⟩⟩
    have := mapM_some_get h i i (by simp [hi])
    rw [this, List.getElem?_eq_getElem]
  · cases h

theorem opens_slice {e : TypeId} {es : List Lf} (ht : P.underlying t = some (.slice e)) (hs : P.cellsOf e = es.length) (hpos : 0 < es.length) (h : Opens P e es) : Opens P t [isSl es] := fun enc w spare held fuel cs x hx => by
  rcases DataW.trod_slice ht hx with ⟨rfl, _⟩ | ⟨a, len, cap, elems, rest, n, _, rfl, _, _, hlc, hcm, hel, hf, _, _⟩
  · exact ⟨⟨none, 0, 0, 0, 0, [], rfl, fun h => absurd h (Nat.lt_irrefl _), Nat.le_refl _, Nat.zero_le _, fun _ => rfl, by simp, Rng.nil _ _ _, fun i hi => absurd hi (Nat.not_lt_zero _)⟩, trivial⟩
  · rw [hs] at hf
    have each : ∀ i, i < len → ∃ vs, w.cells? 0 (a.add (i * es.length)) es.length = some vs ∧ Cells w es vs := fun i hi => by
      have h1 := hf i hi
      rw [List.getElem?_eq_getElem (by omega), Option.bind_eq_some_iff] at h1
      obtain ⟨vs, hv, ht'⟩ := h1
      exact ⟨vs, hv, h enc w spare held n _ _ ht'⟩
    by_cases h0 : len = 0
    · subst h0
      exact ⟨⟨some a, 0, cap, 0, 0, [], rfl, fun h => absurd h (Nat.lt_irrefl _), Nat.zero_le _, hcm, (fun h => by cases h), by simp, Rng.nil _ _ _, fun i hi => absurd hi (Nat.not_lt_zero _)⟩, trivial⟩
    obtain ⟨b, o, spot⟩ := a
    have hspot : spot = none := by
      obtain ⟨vs, hv, _⟩ := each 0 (by omega)
      obtain ⟨_, hg⟩ := cells_get hv
      obtain ⟨v, _, hc⟩ := hg 0 hpos
      have hc' : w.cell? ⟨b, o, spot⟩ = some v := by simpa [Addr.add] using hc
      simpa using World.cell?_spot hc'
    subst hspot
    have key : ∀ k, k ≤ len → ∃ vs : List Value, vs.length = k * es.length ∧ Rng w b o vs ∧ ∀ i, i < k → Cells w es ((vs.drop (i * es.length)).take es.length) := by
      intro k
      induction k with
      | zero => intro _; exact ⟨[], by simp, Rng.nil _ _ _, fun i hi => absurd hi (Nat.not_lt_zero _)⟩
      | succ k ih =>
        intro hk
        obtain ⟨vs, hl, hr, hc⟩ := ih (by omega)
        obtain ⟨us, hu, hcu⟩ := each k (by omega)
        obtain ⟨hlu, hg⟩ := cells_get hu
        refine ⟨vs ++ us, by rw [List.length_append, hl, hlu, Nat.succ_mul], fun i v hv => ?_, fun i hi => ?_⟩
        · rw [List.getElem?_append] at hv
          split at hv
          · exact hr i v hv
          · rename_i hge
            have hlt : i - vs.length < us.length := (List.getElem?_eq_some_iff.1 hv).1
            obtain ⟨v', hv', hc'⟩ := hg (i - vs.length) (by omega)
            rw [hv] at hv'; cases hv'
            rw [addr_add, addr_add] at hc'
            rw [show o + k * es.length + (i - vs.length) = o + i by omega] at hc'
            exact hc'
        · by_cases hik : i < k
          · have := hc i hik
            have hle : (i + 1) * es.length ≤ k * es.length := Nat.mul_le_mul_right _ hik
            rw [Nat.succ_mul] at hle
            rw [List.drop_append_of_le_length (by omega), List.take_append_of_le_length (by rw [List.length_drop]; omega)]
            exact this
          · have : i = k := by omega
            subst this
            rw [← hl, List.drop_left, List.take_of_length_le (by omega)]
            exact hcu
    obtain ⟨vs, hl, hr, hc⟩ := key len (Nat.le_refl _)
    exact ⟨⟨some ⟨b, o, none⟩, len, cap, b, o, vs, rfl, fun _ => rfl, hlc, hcm, (fun h => by cases h), hl, hr, hc⟩, trivial⟩

end

/-- a slice of narrow floats that came in -/
theorem isSl_floats {w : World} {v : Value} (h : isSl [isF .f32] w v) : ∃ A n c b o xs, v = .slice A n c ∧ (0 < n → A = some ⟨b, o, none⟩) ∧ n ≤ c ∧ c ≤ maxLen ∧ (A = none → c = 0) ∧ xs.length = n ∧ Rng w b o (fl xs) ∧ W32 xs := by
  obtain ⟨A, n, c, b, o, vs, rfl, hA, hn, hc, hz, hl, hr, hcell⟩ := h
  have : ∃ xs : List Nat, vs = fl xs ∧ ∀ x ∈ xs, x < wid .f32 := by
    have hl' : vs.length = n := by simpa using hl
    have hcell' : ∀ i, i < vs.length → ∃ b, vs[i]? = some (.float .f32 b) ∧ b < wid .f32 := fun i hi => by
      have h1 := hcell i (by omega)
      simp only [List.length_cons, List.length_nil, Nat.zero_add, Nat.mul_one] at h1
      rw [List.take_one, List.head?_drop] at h1
      rw [List.getElem?_eq_getElem hi] at h1 ⊢
      obtain ⟨⟨x, hx, hb⟩, _⟩ := h1
      exact ⟨x, by rw [hx], hb⟩
    clear hl hcell hl' hr
    induction vs with
    | nil => exact ⟨[], rfl, by simp⟩
    | cons u us ih =>
      obtain ⟨x, hx, hb⟩ := hcell' 0 (by simp)
      obtain ⟨xs, hxs, hw⟩ := ih fun i hi => by simpa using hcell' (i + 1) (by simpa using hi)
      refine ⟨x :: xs, by simp at hx; rw [hx, hxs]; rfl, fun y hy => ?_⟩
      rcases List.mem_cons.1 hy with rfl | h'
      · exact hb
      · exact hw y h'
  obtain ⟨xs, rfl, hw⟩ := this
  exact ⟨A, n, c, b, o, xs, rfl, hA, hn, hc, hz, by simpa [fl] using hl, hr, hw⟩

theorem okWide_one {P : Program} {w : World} {r : Reach} {base : Nat} {t : TypeId} {v : Value} {d : TypeDesc} (ht : P.underlying t = some d) (hd : (match d with | .struct _ | .array _ _ => false | _ => true) = true) (h : Value.okWide P w r base t v) : v.cells = #[v] := by
  cases v <;> try rfl
  rename_i cs
  exfalso
  simp only [Value.okWide, ht] at h
  cases d <;> simp at hd <;> simp_all [Cell.okWide, Cell.ok]
/-- an argument that came in, as its cells -/
theorem came {P : Program} {t : TypeId} {es : List Lf} {H : Type} {enc : TypeId × Value → H} {w : World} {v : Value} {d : DataW H} {ps : List MemPlace} (ho : Opens P t es) (h : DataW.Trod enc P w 0 (fun _ => true) true t v d ps) : Cells w es v.cells.toList := by
  obtain ⟨fuel, hf⟩ := h
  exact ho enc w _ _ fuel _ _ hf

end Go.Proofs.Ytnahhdnkbbdceaa
