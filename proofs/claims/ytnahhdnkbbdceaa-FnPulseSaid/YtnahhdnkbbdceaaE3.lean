/- The engine of this claim's walks, third part: regions whose order is drawn. A first part of the operations (`pre`) leaves old memory alone and may come in any order that the edges allow; the rest (`tl`) comes behind all of it in one forced order. -/
import Derived.Test.YtnahhdnkbbdceaaE2
import Derived.Still
set_option linter.unusedVariables false
namespace Go.Proofs.Ytnahhdnkbbdceaa

abbrev Tab := Nat → Option (List Value → World → Value → World → Prop)

section
variable (P : Program) (T : Tab) (l : List Oper) (pre : List Nat)

/-- What operation number `j` may yield: by itself, or, where the table has a row, by that row. -/
def GOut (j : Nat) (o : Oper) (f : Operand → Value) (w : World) (u : Value) (w' : World) : Prop :=
  match T j with
  | none => Rel P o f w u w'
  | some R => R (o.op.operands.toList.map f) w u w'

def GSafe (j : Nat) (o : Oper) (f : Operand → Value) (w : World) : Prop :=
  match T j with
  | none => ∃ u w', Rel P o f w u w'
  | some R => ∃ fid args, (execOp f o).run P w = .ok (.enter fid args) w ∧ Cl P fid args w (R (o.op.operands.toList.map f) w)

def rdy (listed : Array Bool) : List Nat := (Region.ready .any l.toArray listed).filter fun i => pre.contains i

/-- Whatever order the first part takes from here on. -/
def ST (Fin : Act → World → Prop) (S : List Nat) (w0 : World) : Nat → Array Bool → Act → World → Prop
  | 0, listed, a, w => (∀ i ∈ pre, listed.getD i true = true) ∧ ∀ w1, Mod [] w w1 → Fin a w1
  | k + 1, listed, a, w => rdy l pre listed ≠ [] ∧ ∀ w1, Mod [] w w1 → ∀ i ∈ rdy l pre listed, ∀ o, l[i]? = some o →
      if Region.wanted o (yielded l.toArray a.tmps) then
        GSafe P T i o a.eval w1 ∧ ∀ u w', GOut P T i o a.eval w1 u w' → Mod S w0 w' ∧ ST Fin S w0 k (listed.setIfInBounds i true) (a.put o.dst u) w'
      else ST Fin S w0 k (listed.setIfInBounds i true) (a.put o.dst undef) w1
end

section
variable {P : Program} {T : Tab} {l : List Oper} {pre : List Nat} {Fin : Act → World → Prop} {S : List Nat} {w0 : World}

theorem ST.ext : ∀ {k : Nat} {listed : Array Bool} {a : Act} {w w1 : World}, ST P T l pre Fin S w0 k listed a w → Mod [] w w1 → ST P T l pre Fin S w0 k listed a w1
  | 0, _, _, _, _, h, m => ⟨h.1, fun w2 m2 => h.2 w2 (m.trans m2)⟩
  | _ + 1, _, _, _, _, h, m => ⟨h.1, fun w2 m2 => h.2 w2 (m.trans m2)⟩

theorem ST.rebase : ∀ {k : Nat} {listed : Array Bool} {a : Act} {w w1 : World}, ST P T l pre Fin S w1 k listed a w → Mod S w0 w1 → ST P T l pre Fin S w0 k listed a w
  | 0, _, _, _, _, h, _ => h
  | _ + 1, _, _, _, _, h, m => ⟨h.1, fun w2 m2 i hi o ho => by
    have := h.2 w2 m2 i hi o ho
    split at this
    · rename_i hw
      rw [if_pos hw]
      exact ⟨this.1, fun u w' hg => ⟨m.trans (this.2 u w' hg).1, (this.2 u w' hg).2.rebase m⟩⟩
    · rename_i hw
      rw [if_neg hw]
      exact this.rebase m⟩

theorem opwp_of_g {j : Nat} {o : Oper} {a : Act} {w : World} {K : Act → World → Prop} {Q : Exit → Act → World → Prop} (h1 : GSafe P T j o a.eval w) (h2 : ∀ u w', GOut P T j o a.eval w u w' → K (a.put o.dst u) w') : o.wp P a w K Q := by
  unfold GSafe at h1
  unfold GOut at h2
  cases hT : T j with
  | none =>
    simp only [hT] at h1 h2
    obtain ⟨u, w', hr⟩ := h1
    exact wp_of_rel hr (h2 u w' hr)
  | some R =>
    simp only [hT] at h1 h2
    obtain ⟨f, args, hr, hc⟩ := h1
    exact wp_of_cl hr hc h2

theorem operands_put (oj : Oper) (a : Act) (dst : Option Tmp) (v : Value) {ops : Array Oper} (h : ∀ d, dst = some d → d ∉ oj.looksAt ops) :
    oj.op.operands.toList.map (a.put dst v).eval = oj.op.operands.toList.map a.eval :=
  List.map_congr_left fun x hx => Act.eval_put fun d hd hxd => h d hd (by
    subst hxd
    exact List.mem_append_left _ (List.mem_filterMap.2 ⟨.tmp d, by simpa using hx, rfl⟩))

theorem mem_rdy {i : Nat} {listed : Array Bool} : i ∈ rdy l pre listed ↔ i ∈ Region.ready .any l.toArray listed ∧ i ∈ pre := by
  simp [rdy, List.mem_filter]

/-- **An operation that may come now may be taken first**, if it yields a value of `V` in every world that extends this one and leaves old memory alone. -/
theorem ST.hoist {i : Nat} {oi : Oper} (V : Value → Prop) (hi : l[i]? = some oi) (hsel : Region.noSelect l.toArray = true) (hV : ∃ u, V u) : ∀ (k : Nat) (listed : Array Bool) (a : Act) (w : World), Mod S w0 w →
    i ∈ rdy l pre listed →
    (∀ j oj, l[j]? = some oj → j ≠ i → listed.getD j true = false → (∀ e ∈ oj.after, Region.binds .any e = true → e.on ≠ i) → oi.apart l.toArray oj = true) →
    (∀ w1, Mod S w0 w1 → if Region.wanted oi (yielded l.toArray a.tmps) then GSafe P T i oi a.eval w1 ∧ ∀ u w', GOut P T i oi a.eval w1 u w' → V u ∧ Mod [] w1 w' else V undef) →
    (∀ u, V u → ST P T l pre Fin S w0 k (listed.setIfInBounds i true) (a.put oi.dst u) w) → ST P T l pre Fin S w0 (k + 1) listed a w := by
  have hseli := Region.noSelect_spec hsel
  intro k
  induction k with
  | zero =>
    intro listed a w hb0 hr _ h1 h2
    refine ⟨fun e => (by rw [e] at hr; cases hr), fun w1 m1 j hj o ho => ?_⟩
    by_cases hji : j = i
    · subst hji
      rw [hi] at ho; cases ho
      have h1' := h1 w1 (hb0.nil_then m1)
      split
      · rename_i hw
        rw [if_pos hw] at h1'
        exact ⟨h1'.1, fun u w' hg => ⟨(hb0.nil_then m1).nil_then (h1'.2 u w' hg).2, (h2 u (h1'.2 u w' hg).1).ext (m1.trans (h1'.2 u w' hg).2)⟩⟩
      · rename_i hw
        rw [if_neg hw] at h1'
        exact (h2 _ h1').ext m1
    · exfalso
      obtain ⟨u, hu⟩ := hV
      have hall := (h2 u hu).1 j (mem_rdy.1 hj).2
      have hun := (mem_ready.1 (mem_rdy.1 hj).1).1
      rw [getD_set_ne true (Ne.symm hji)] at hall
      rw [hun] at hall
      cases hall
  | succ k ih =>
    intro listed a w hb0 hr hfree h1 h2
    refine ⟨fun e => (by rw [e] at hr; cases hr), fun w1 m1 j hj oj hoj => ?_⟩
    by_cases hji : j = i
    · subst hji
      rw [hi] at hoj; cases hoj
      have h1' := h1 w1 (hb0.nil_then m1)
      split
      · rename_i hw
        rw [if_pos hw] at h1'
        exact ⟨h1'.1, fun u w' hg => ⟨(hb0.nil_then m1).nil_then (h1'.2 u w' hg).2, (h2 u (h1'.2 u w' hg).1).ext (m1.trans (h1'.2 u w' hg).2)⟩⟩
      · rename_i hw
        rw [if_neg hw] at h1'
        exact (h2 _ h1').ext m1
    · obtain ⟨hjr, hjp⟩ := mem_rdy.1 hj
      obtain ⟨hir, hip⟩ := mem_rdy.1 hr
      have hjr' := ready_mono hjr hji
      obtain ⟨hjun, oj', hoj', hall⟩ := mem_ready.1 hjr
      have : oj' = oj := by
        have h' : l[j]? = some oj' := by simpa using hoj'
        rw [hoj] at h'; cases h'; rfl
      subst this
      have hnot : ∀ e ∈ oj'.after, Region.binds .any e = true → e.on ≠ i := fun e he hb heq => by
        have h1 := hall e he hb
        have h0 := (mem_ready.1 hir).1
        rw [heq] at h1
        rcases Nat.lt_or_ge i listed.size with h' | h'
        · simp [h'] at h0 h1; rw [h0] at h1; cases h1
        · simp [Array.getElem?_eq_none h'] at h1
      obtain ⟨ap1, ap2, ap3⟩ := Oper.apart_spec (hfree j oj' hoj hji hjun hnot)
      have hsj : ∀ cs b, oj'.op ≠ .select cs b := fun cs b => hseli j oj' cs b (by simpa using hoj)
      have hsi : ∀ cs b, oi.op ≠ .select cs b := fun cs b => hseli i oi cs b (by simpa using hi)
      -- operation j does not see operation i's slot, and the other way round
      have eqW : ∀ v, Region.wanted oj' (yielded l.toArray (a.put oi.dst v).tmps) = Region.wanted oj' (yielded l.toArray a.tmps) := fun v => wanted_put oj' a oi.dst v ap1
      have eqS : ∀ v w, GSafe P T j oj' (a.put oi.dst v).eval w = GSafe P T j oj' a.eval w := fun v w => by
        unfold GSafe Rel
        rw [execOp_put oj' hsj a oi.dst v ap1, operands_put oj' a oi.dst v ap1]
      have eqO : ∀ v w u w', GOut P T j oj' (a.put oi.dst v).eval w u w' = GOut P T j oj' a.eval w u w' := fun v w u w' => by
        unfold GOut Rel
        rw [execOp_put oj' hsj a oi.dst v ap1, operands_put oj' a oi.dst v ap1]
      have eqWi : ∀ v, Region.wanted oi (yielded l.toArray (a.put oj'.dst v).tmps) = Region.wanted oi (yielded l.toArray a.tmps) := fun v => wanted_put oi a oj'.dst v ap3
      have eqSi : ∀ v w, GSafe P T i oi (a.put oj'.dst v).eval w = GSafe P T i oi a.eval w := fun v w => by
        unfold GSafe Rel
        rw [execOp_put oi hsi a oj'.dst v ap3, operands_put oi a oj'.dst v ap3]
      have eqOi : ∀ v w u w', GOut P T i oi (a.put oj'.dst v).eval w u w' = GOut P T i oi a.eval w u w' := fun v w u w' => by
        unfold GOut Rel
        rw [execOp_put oi hsi a oj'.dst v ap3, operands_put oi a oj'.dst v ap3]
      have hfree' : ∀ k ok, l[k]? = some ok → k ≠ i → (listed.setIfInBounds j true).getD k true = false → (∀ e ∈ ok.after, Region.binds .any e = true → e.on ≠ i) → oi.apart l.toArray ok = true := fun k ok hk hki hun hno => by
        refine hfree k ok hk hki ?_ hno
        by_cases hjk : j = k
        · subst hjk; exact hjun
        · rw [getD_set_ne true hjk] at hun; exact hun
      have hri' : i ∈ rdy l pre (listed.setIfInBounds j true) := mem_rdy.2 ⟨ready_mono hir (Ne.symm hji), hip⟩
      have hjr2 : j ∈ rdy l pre (listed.setIfInBounds i true) := mem_rdy.2 ⟨hjr', hjp⟩
      have step : ∀ (u : Value) (w' : World), Mod S w0 w' → (∀ v, V v → ST P T l pre Fin S w0 k ((listed.setIfInBounds i true).setIfInBounds j true) ((a.put oi.dst v).put oj'.dst u) w') →
          ST P T l pre Fin S w0 (k + 1) (listed.setIfInBounds j true) (a.put oj'.dst u) w' := fun u w' m' H => by
        refine ih _ _ w' m' hri' hfree' (fun w2 m2 => ?_) (fun v hv => ?_)
        · have := h1 w2 m2
          rw [eqWi u, eqSi u w2]
          simp only [eqOi]
          exact this
        · have := H v hv
          rw [Array.setIfInBounds_comm _ _ (Ne.symm hji), Act.put_comm a v u ap2] at this
          exact this
      by_cases hw : Region.wanted oj' (yielded l.toArray a.tmps) = true
      · rw [if_pos hw]
        obtain ⟨u0, hu0⟩ := hV
        have hb := (h2 u0 hu0).2 w1 m1 j hjr2 oj' hoj
        rw [eqW, if_pos hw, eqS] at hb
        refine ⟨hb.1, fun u w' hg => ⟨(hb.2 u w' (by rw [eqO]; exact hg)).1, step u w' (hb.2 u w' (by rw [eqO]; exact hg)).1 fun v hv => ?_⟩⟩
        have hc := (h2 v hv).2 w1 m1 j hjr2 oj' hoj
        rw [eqW, if_pos hw] at hc
        exact (hc.2 u w' (by rw [eqO]; exact hg)).2
      · rw [if_neg hw]
        refine step undef w1 (hb0.nil_then m1) fun v hv => ?_
        have hc := (h2 v hv).2 w1 m1 j hjr2 oj' hoj
        rw [eqW, if_neg hw] at hc
        exact hc

/-! ### From here to the region -/

def depsOf (l : List Oper) (i : Nat) : List Nat :=
  match l[i]? with
  | some o => (o.after.toList.filter fun e => Region.binds .any e).map (·.on)
  | none => []

def reachOf (l : List Oper) : Nat → List Nat → List Nat
  | 0, s => s
  | k + 1, s => reachOf l k ((s ++ s.flatMap (depsOf l)).eraseDups)

/-- the rest comes in one order -/
def chainB (l : List Oper) : Array Bool → List Nat → Bool
  | listed, [] => (Region.ready .any l.toArray listed) == []
  | listed, t :: r => (Region.ready .any l.toArray listed) == [t] && chainB l (listed.setIfInBounds t true) r

def listedOf (n : Nat) (pre : List Nat) : Array Bool := pre.foldl (fun s i => s.setIfInBounds i true) (Array.replicate n false)

def regionB (l : List Oper) (pre tl : List Nat) : Bool :=
  Region.noSelect l.toArray && (List.range l.length).all (fun i => pre.contains i != tl.contains i) && pre.all (fun i => decide (i < l.length)) && tl.all (fun i => decide (i < l.length)) &&
  decide (pre.length + tl.length = l.length) && tl.all (fun t => pre.all fun p => (reachOf l l.length (depsOf l t)).contains p) && chainB l (listedOf l.length pre) tl

/-- what is listed is so with all that it waits for -/
def DC (l : List Oper) (listed : Array Bool) : Prop := ∀ i, listed.getD i false = true → ∀ d ∈ depsOf l i, listed.getD d false = true

theorem DC.reach {listed : Array Bool} (h : DC l listed) : ∀ (k : Nat) (s : List Nat), (∀ x ∈ s, listed.getD x false = true) → ∀ x ∈ reachOf l k s, listed.getD x false = true
  | 0, _, hs => hs
  | k + 1, s, hs => h.reach k _ fun x hx => by
    rw [List.mem_eraseDups, List.mem_append, List.mem_flatMap] at hx
    rcases hx with hx | ⟨y, hy, hx⟩
    · exact hs x hx
    · exact h y (hs y hy) x hx

theorem ready_deps {listed : Array Bool} {t : Nat} (h : t ∈ Region.ready .any l.toArray listed) : ∀ x ∈ depsOf l t, listed.getD x false = true := by
  obtain ⟨_, o, ho, hall⟩ := mem_ready.1 h
  have ho' : l[t]? = some o := by simpa using ho
  intro x hx
  simp only [depsOf, ho', List.mem_map, List.mem_filter] at hx
  obtain ⟨e, ⟨he, hb⟩, rfl⟩ := hx
  exact hall e (by simpa using he) hb

theorem getD_set_self {listed : Array Bool} {i : Nat} (h : i < listed.size) (d : Bool) : (listed.setIfInBounds i true).getD i d = true := by simp [h]

theorem DC.set {listed : Array Bool} (h : DC l listed) {t : Nat} (ht : t ∈ Region.ready .any l.toArray listed) : DC l (listed.setIfInBounds t true) := fun i hi d hd => by
  by_cases e : t = i
  · subst e; exact getD_set_true (ready_deps ht d hd)
  · rw [getD_set_ne false e] at hi
    exact getD_set_true (h i hi d hd)

theorem wpAny_chain {Q : Exit → Act → World → Prop} : ∀ (tl : List Nat) (listed : Array Bool) (a : Act) (w : World), chainB l listed tl = true → wpOps P l.toArray Q tl a w → wpAny P .any l.toArray Q tl.length listed a w
  | [], listed, a, w, hc, h => ⟨by simpa [chainB] using hc, h⟩
  | t :: r, listed, a, w, hc, h => by
    simp only [chainB, Bool.and_eq_true, beq_iff_eq] at hc
    refine ⟨fun e => (by rw [hc.1] at e; cases e), fun i hi => ?_⟩
    rw [hc.1] at hi
    obtain rfl : i = t := by simpa using hi
    rw [wpOps_cons] at h
    exact wpOp_mono (fun a w => wpAny_chain r _ a w hc.2) h

theorem listedOf_getD (n : Nat) : ∀ (pre : List Nat) (s : Array Bool), s.size = n → ∀ i, i < n → (pre.foldl (fun s i => s.setIfInBounds i true) s).getD i true = (pre.contains i || s.getD i true)
  | [], s, _, i, _ => by simp
  | p :: pre, s, hs, i, hi => by
    rw [List.foldl_cons, listedOf_getD n pre _ (by simpa using hs) i hi]
    by_cases e : p = i
    · subst e; simp [hs, hi]
    · rw [getD_set_ne true e]
      simp [Ne.symm e]

theorem size_listedOf (n : Nat) : ∀ (pre : List Nat) (s : Array Bool), s.size = n → (pre.foldl (fun s i => s.setIfInBounds i true) s).size = n
  | [], _, h => h
  | _ :: pre, _, h => size_listedOf n pre _ (by simpa using h)

theorem ST.sound {tl : List Nat} {Q : Exit → Act → World → Prop} (hB : regionB l pre tl = true) : ∀ (k : Nat) (listed : Array Bool) (a : Act) (w : World), listed.size = l.length → DC l listed → (∀ i ∈ tl, listed.getD i true = false) →
    ST P T l pre (fun a w => wpOps P l.toArray Q tl a w) S w0 k listed a w → wpAny P .any l.toArray Q (k + tl.length) listed a w := by
  simp only [regionB, Bool.and_eq_true, decide_eq_true_eq, List.all_eq_true, List.contains_iff_mem, bne_iff_ne, ne_eq, List.mem_range] at hB
  obtain ⟨⟨⟨⟨⟨⟨_, hpart⟩, hpre⟩, htl⟩, _⟩, hreach⟩, hchain⟩ := hB
  intro k
  induction k with
  | zero =>
    intro listed a w hsz _ htf h
    have e : listed = listedOf l.length pre := by
      refine Array.ext (by rw [hsz]; exact (size_listedOf _ pre _ (by simp)).symm) fun i h1 h2 => ?_
      have hil : i < l.length := by omega
      have g1 := listedOf_getD l.length pre (Array.replicate l.length false) (by simp) i hil
      have g2 : listed.getD i true = listed[i] := by simp [h1]
      have g3 : (listedOf l.length pre).getD i true = (listedOf l.length pre)[i] := by simp [h2]
      rw [← g2, ← g3]
      unfold listedOf
      rw [g1]
      by_cases hp : i ∈ pre
      · rw [h.1 i hp]; simp [hp]
      · have ht : i ∈ tl := by
          have := hpart i hil
          simpa [hp] using this
        rw [htf i ht]; simp [hp, hil]
    rw [Nat.zero_add, e]
    exact wpAny_chain tl _ a w hchain (h.2 w (Mod.refl _ _))
  | succ k ih =>
    intro listed a w hsz hdc htf h
    rw [show k + 1 + tl.length = (k + tl.length) + 1 by omega]
    obtain ⟨hne, hall⟩ := h
    obtain ⟨p0, hp0⟩ : ∃ p, p ∈ rdy l pre listed := by
      cases hr : rdy l pre listed with
      | nil => exact absurd hr hne
      | cons x xs => exact ⟨x, by simp⟩
    refine ⟨fun e => (by have := (mem_rdy.1 hp0).1; rw [e] at this; cases this), fun i hi => ?_⟩
    obtain ⟨hun, o, ho, _⟩ := mem_ready.1 hi
    have ho' : l[i]? = some o := by simpa using ho
    have hil : i < l.length := (List.getElem?_eq_some_iff.1 ho').1
    have hip : i ∈ pre := by
      refine Classical.byContradiction fun hn => ?_
      have ht : i ∈ tl := by
        have := hpart i hil
        simpa [hn] using this
      have h1 := hdc.reach l.length (depsOf l i) (ready_deps hi) p0 (hreach i ht p0 (mem_rdy.1 hp0).2)
      have h2 := (mem_ready.1 (mem_rdy.1 hp0).1).1
      have h3 : p0 < listed.size := by rw [hsz]; exact hpre p0 (mem_rdy.1 hp0).2
      simp [h3] at h1 h2
      rw [h1] at h2; cases h2
    have hst := hall w (Mod.refl _ _) i (mem_rdy.2 ⟨hi, hip⟩) o ho'
    have next : ∀ a' w', ST P T l pre (fun a w => wpOps P l.toArray Q tl a w) S w0 k (listed.setIfInBounds i true) a' w' → wpAny P .any l.toArray Q (k + tl.length) (listed.setIfInBounds i true) a' w' := fun a' w' h' => by
      refine ih _ a' w' (by simpa using hsz) (hdc.set hi) (fun t ht => ?_) h'
      have hne : i ≠ t := fun e => by
        subst e
        have := hpart i hil
        simp [hip, ht] at this
      rw [getD_set_ne true hne]; exact htf t ht
    unfold wpOp
    rw [ho]
    show if Region.wanted o (yielded l.toArray a.tmps) = true then _ else _
    by_cases hw : Region.wanted o (yielded l.toArray a.tmps) = true
    · rw [if_pos hw] at hst ⊢
      exact .inl (opwp_of_g hst.1 fun u w' hg => next _ _ (hst.2 u w' hg).2)
    · rw [if_neg hw] at hst ⊢
      exact next _ _ hst

end

/-! ### The rules, over the known slots -/

section
variable (P : Program) (n : Nat) (T : Tab) (l : List Oper) (pre : List Nat) (Fin : Act → World → Prop)
def DR (S : List Nat) (w0 : World) (k : Nat) (listed : Array Bool) (ρ : Env) (w : World) : Prop := Mod S w0 w → ∀ a, Fr n ρ a → ST P T l pre Fin S w0 k listed a w
end

section
variable {P : Program} {n : Nat} {T : Tab} {l : List Oper} {pre tl : List Nat} {Q : Exit → Act → World → Prop} {Fin : Act → World → Prop} {k : Nat} {listed : Array Bool} {ρ : Env} {w w0 : World} {S : List Nat}

theorem CE.draw {id : Nat} (T : Tab) (pre tl : List Nat) (S : List Nat) (hm : P.follows .mixedOrders = true) (hB : regionB l pre tl = true) (h : DR P n T l pre (fun a w => wpOps P l.toArray Q tl a w) S w.drew pre.length (Array.replicate l.length false) ρ w.drew) :
    CE P n (.region id l.toArray true) Q ρ w := fun a ha => by
  refine wp_region_any hm ?_
  have hlen : pre.length + tl.length = l.length := by
    simp only [regionB, Bool.and_eq_true, decide_eq_true_eq] at hB
    exact hB.1.1.2
  have := ST.sound hB pre.length (Array.replicate l.length false) a w.drew (by simp) (fun i hi => by
    rcases Nat.lt_or_ge i l.length with h' | h'
    · simp [h'] at hi
    · simp [Nat.not_lt.2 h'] at hi) (fun i hi => by
    have hil : i < l.length := by
      simp only [regionB, Bool.and_eq_true, decide_eq_true_eq, List.all_eq_true] at hB
      exact hB.1.1.1.2 i hi
    simp [hil]) (h (Mod.refl _ _) a ha)
  rw [hlen] at this
  simpa using this

/-- the rest, in its order -/
def WO (P : Program) (n : Nat) (l : List Oper) (Q : Exit → Act → World → Prop) (tl : List Nat) (ρ : Env) (w : World) : Prop := ∀ a, Fr n ρ a → wpOps P l.toArray Q tl a w

theorem DR.done (hp : pre.all (fun i => listed.getD i true) = true) (h : ∀ w1, Mod [] w w1 → WO P n l Q tl ρ w1) : DR P n T l pre (fun a w => wpOps P l.toArray Q tl a w) S w0 0 listed ρ w := fun hb0 a ha =>
  ⟨fun i hi => List.all_eq_true.1 hp i hi, fun w1 m1 => h w1 m1 a ha⟩

/-- the check that operation `i` may come now and is apart from what does not wait for it -/
def hoistB (l : List Oper) (pre : List Nat) (listed : Array Bool) (i : Nat) : Bool := Region.noSelect l.toArray && (rdy l pre listed).contains i && Region.free .any l.toArray listed i

theorem hoistB_spec {i : Nat} {o : Oper} {listed : Array Bool} (ho : l[i]? = some o) (h : hoistB l pre listed i = true) : Region.noSelect l.toArray = true ∧ i ∈ rdy l pre listed ∧
    (∀ j oj, l[j]? = some oj → j ≠ i → listed.getD j true = false → (∀ e ∈ oj.after, Region.binds .any e = true → e.on ≠ i) → o.apart l.toArray oj = true) := by
  simp only [hoistB, Bool.and_eq_true] at h
  exact ⟨h.1.1, by simpa using h.1.2, fun j oj hj hne hun hno => Region.free_spec (by simpa using ho) h.2 j oj (by simpa using hj) hne hun hno⟩

theorem DR.sub (ρ' : Env) (hs : subB ρ' ρ) (h : DR P n T l pre Fin S w0 k listed ρ' w) : DR P n T l pre Fin S w0 k listed ρ w := fun hb0 a ha => h hb0 a (ha.sub hs)

theorem DR.rebase (h : DR P n T l pre Fin S w k listed ρ w) : DR P n T l pre Fin S w0 k listed ρ w := fun hb0 a ha => (h (Mod.refl _ _) a ha).rebase hb0

theorem det_of_rel {o : Oper} {f : Operand → Value} {w w' w'' : World} {u v : Value} (h : Rel P o f w u w') (h' : Rel P o f w v w'') : u = v ∧ w' = w'' := by
  rcases h with h | ⟨h, rfl⟩ <;> rcases h' with h' | ⟨h', rfl⟩ <;> rw [h] at h' <;> simp_all

/-- what the guard says of operation `o` -/
inductive Wants (l : List Oper) (n : Nat) (ρ : Env) (o : Oper) : Bool → Prop
  | free (h : o.guard = none) : Wants l n ρ o true
  | yes {j dj : Nat} {oj : Oper} {want b : Bool} (hg : o.guard = some (j, want)) (hj : l[j]? = some oj) (hd : oj.dst = some dj) (hn : dj < n) (hb : ρ.lookup dj = some (.bool b)) (he : b = want) : Wants l n ρ o true
  | no {j dj : Nat} {oj : Oper} {want b : Bool} (hg : o.guard = some (j, want)) (hj : l[j]? = some oj) (hd : oj.dst = some dj) (hn : dj < n) (hb : ρ.lookup dj = some (.bool b)) (he : b = !want) : Wants l n ρ o false
  | nou {j dj : Nat} {oj : Oper} {want : Bool} (hg : o.guard = some (j, want)) (hj : l[j]? = some oj) (hd : oj.dst = some dj) (hn : dj < n) (hb : ρ.lookup dj = some undef) : Wants l n ρ o false

theorem Wants.spec {o : Oper} {b : Bool} (h : Wants l n ρ o b) {a : Act} (ha : Fr n ρ a) : Region.wanted o (yielded l.toArray a.tmps) = b := by
  cases h with
  | free h => simp [Region.wanted, h]
  | yes hg hj hd hn hb he => subst he; simp [Region.wanted, hg, yielded_of (ops := l.toArray) ha (by simpa using hj) hd hn hb]
  | no hg hj hd hn hb he => subst he; simp [Region.wanted, hg, yielded_of (ops := l.toArray) ha (by simpa using hj) hd hn hb]
  | nou hg hj hd hn hb => simp [Region.wanted, hg, yielded_undef (ops := l.toArray) ha (by simpa using hj) hd hn hb]

/-- an operation that yields by itself, taken first -/
theorem DR.op {i d : Nat} {o : Oper} {rest : List Oper} (V : Value → Prop) (hl : l.drop i = o :: rest) (hT : T i = none) (hB : hoistB l pre listed i = true) (hw : Wants l n ρ o true) (hd : o.dst = some d) (hn : d < n)
    (hop : ∀ w1, Mod S w0 w1 → Op1 P n o ρ w1 fun u w' => V u ∧ Mod [] w1 w') (h : ∀ u, V u → DR P n T l pre Fin S w0 k (listed.setIfInBounds i true) ((d, u) :: ρ) w) :
    DR P n T l pre Fin S w0 (k + 1) listed ρ w := fun hb0 a ha => by
  have ho : l[i]? = some o := by have := congrArg List.head? hl; simpa using this
  obtain ⟨h1, h2, h3⟩ := hoistB_spec ho hB
  obtain ⟨u0, wz, _, hv0, _⟩ := hop w hb0 a ha
  refine ST.hoist V ho h1 ⟨u0, hv0⟩ k listed a w hb0 h2 h3 (fun w1 m1 => ?_) fun u hu => by rw [hd]; exact h u hu hb0 _ (ha.put hn u)
  rw [hw.spec ha, if_pos rfl]
  obtain ⟨u, w', hr, hv, hm⟩ := hop w1 m1 a ha
  refine ⟨by unfold GSafe; rw [hT]; exact ⟨u, w', hr⟩, fun u' w'' hg => ?_⟩
  unfold GOut at hg
  rw [hT] at hg
  obtain ⟨rfl, rfl⟩ := det_of_rel hr hg
  exact ⟨hv, hm⟩

/-- an operation whose guard says no -/
theorem DR.skip {i d : Nat} {o : Oper} {rest : List Oper} (hl : l.drop i = o :: rest) (hB : hoistB l pre listed i = true) (hw : Wants l n ρ o false) (hd : o.dst = some d) (hn : d < n)
    (h : DR P n T l pre Fin S w0 k (listed.setIfInBounds i true) ((d, undef) :: ρ) w) : DR P n T l pre Fin S w0 (k + 1) listed ρ w := fun hb0 a ha => by
  have ho : l[i]? = some o := by have := congrArg List.head? hl; simpa using this
  obtain ⟨h1, h2, h3⟩ := hoistB_spec ho hB
  refine ST.hoist (· = undef) ho h1 ⟨undef, rfl⟩ k listed a w hb0 h2 h3 (fun w1 m1 => ?_) fun u hu => by subst hu; rw [hd]; exact h hb0 _ (ha.put hn undef)
  rw [hw.spec ha]; simp

/-- a call of a Go function, taken first: `R` is its row of the table -/
theorem DR.call {i d : Nat} {o : Oper} {rest : List Oper} {R : List Value → World → Value → World → Prop} (V : Value → Prop) (hl : l.drop i = o :: rest) (hT : T i = some R) (hB : hoistB l pre listed i = true) (hw : Wants l n ρ o true) (hd : o.dst = some d) (hn : d < n)
    (hV : ∃ u, V u) {vs : List Value} (hvs : o.op.operands.toList.map (ev ρ) = vs.map some) (hop : ∀ w1, Mod S w0 w1 → Oc1 P n o ρ w1 (R vs w1)) (hR : ∀ w1 u w', Mod S w0 w1 → R vs w1 u w' → V u ∧ Mod [] w1 w') (h : ∀ u, V u → DR P n T l pre Fin S w0 k (listed.setIfInBounds i true) ((d, u) :: ρ) w) :
    DR P n T l pre Fin S w0 (k + 1) listed ρ w := fun hb0 a ha => by
  have ho : l[i]? = some o := by have := congrArg List.head? hl; simpa using this
  obtain ⟨h1, h2, h3⟩ := hoistB_spec ho hB
  have hvs' : o.op.operands.toList.map a.eval = vs := by
    have h0 := evals ha hvs
    have := congrArg Array.toList h0
    simpa using this
  refine ST.hoist V ho h1 hV k listed a w hb0 h2 h3 (fun w1 m1 => ?_) fun u hu => by rw [hd]; exact h u hu hb0 _ (ha.put hn u)
  rw [hw.spec ha, if_pos rfl]
  obtain ⟨f, args, hr, hc⟩ := hop w1 m1 a ha
  refine ⟨by unfold GSafe; simp only [hT, hvs']; exact ⟨f, args, hr, hc⟩, fun u' w'' hg => ?_⟩
  unfold GOut at hg
  simp only [hT, hvs'] at hg
  exact hR w1 u' w'' m1 hg

/-- the only operation that may come now; what it leaves may speak of the new world -/
theorem DR.one {i d : Nat} {o : Oper} {rest : List Oper} {R : List Value → World → Value → World → Prop} (hl : l.drop i = o :: rest) (hT : T i = some R) (hr : rdy l pre listed = [i]) (hw : Wants l n ρ o true) (hd : o.dst = some d) (hn : d < n)
    {vs : List Value} (hvs : o.op.operands.toList.map (ev ρ) = vs.map some) (h : ∀ w1, Mod [] w w1 → Oc1 P n o ρ w1 (R vs w1) ∧ ∀ u w', R vs w1 u w' → Mod S w0 w' ∧ DR P n T l pre Fin S w0 k (listed.setIfInBounds i true) ((d, u) :: ρ) w') :
    DR P n T l pre Fin S w0 (k + 1) listed ρ w := fun hb0 a ha => by
  have ho : l[i]? = some o := by have := congrArg List.head? hl; simpa using this
  have hvs' : o.op.operands.toList.map a.eval = vs := by
    have h0 := evals ha hvs
    have := congrArg Array.toList h0
    simpa using this
  refine ⟨by rw [hr]; simp, fun w1 m1 j hj oj hoj => ?_⟩
  rw [hr] at hj
  obtain rfl : j = i := by simpa using hj
  rw [ho] at hoj; cases hoj
  rw [hw.spec ha, if_pos rfl]
  obtain ⟨h1, h2⟩ := h w1 m1
  obtain ⟨f, args, hrn, hc⟩ := h1 a ha
  refine ⟨by unfold GSafe; simp only [hT, hvs']; exact ⟨f, args, hrn, hc⟩, fun u w' hg => ?_⟩
  unfold GOut at hg
  simp only [hT, hvs'] at hg
  obtain ⟨h3, h4⟩ := h2 u w' hg
  refine ⟨h3, ?_⟩
  rw [hd]; exact h4 h3 _ (ha.put hn u)

/-- the only operation that may come now, which yields by itself (new memory, an append) -/
theorem DR.one1 {i d : Nat} {o : Oper} {rest : List Oper} (hl : l.drop i = o :: rest) (hT : T i = none) (hr : rdy l pre listed = [i]) (hw : Wants l n ρ o true) (hd : o.dst = some d) (hn : d < n)
    (h : ∀ w1, Mod [] w w1 → Op1 P n o ρ w1 fun u w' => Mod S w0 w' ∧ DR P n T l pre Fin S w0 k (listed.setIfInBounds i true) ((d, u) :: ρ) w') :
    DR P n T l pre Fin S w0 (k + 1) listed ρ w := fun hb0 a ha => by
  have ho : l[i]? = some o := by have := congrArg List.head? hl; simpa using this
  refine ⟨by rw [hr]; simp, fun w1 m1 j hj oj hoj => ?_⟩
  rw [hr] at hj
  obtain rfl : j = i := by simpa using hj
  rw [ho] at hoj; cases hoj
  rw [hw.spec ha, if_pos rfl]
  obtain ⟨u, w', hrl, h3, h4⟩ := h w1 m1 a ha
  refine ⟨by unfold GSafe; simp only [hT]; exact ⟨u, w', hrl⟩, fun u' w'' hg => ?_⟩
  unfold GOut at hg
  simp only [hT] at hg
  obtain ⟨rfl, rfl⟩ := det_of_rel hrl hg
  refine ⟨h3, ?_⟩
  rw [hd]; exact h4 h3 _ (ha.put hn u)

/-- the only operation that may come now: a store into memory that is younger than the base -/
theorem DR.st1 {i : Nat} {o : Oper} {rest : List Oper} (hl : l.drop i = o :: rest) (hT : T i = none) (hr : rdy l pre listed = [i]) (hw : Wants l n ρ o true) (hd : o.dst = none)
    (h : ∀ w1, Mod [] w w1 → Op1 P n o ρ w1 fun u w' => Mod S w0 w' ∧ DR P n T l pre Fin S w0 k (listed.setIfInBounds i true) ρ w') :
    DR P n T l pre Fin S w0 (k + 1) listed ρ w := fun hb0 a ha => by
  have ho : l[i]? = some o := by have := congrArg List.head? hl; simpa using this
  refine ⟨by rw [hr]; simp, fun w1 m1 j hj oj hoj => ?_⟩
  rw [hr] at hj
  obtain rfl : j = i := by simpa using hj
  rw [ho] at hoj; cases hoj
  rw [hw.spec ha, if_pos rfl]
  obtain ⟨u, w', hrl, h3, h4⟩ := h w1 m1 a ha
  refine ⟨by unfold GSafe; simp only [hT]; exact ⟨u, w', hrl⟩, fun u' w'' hg => ?_⟩
  unfold GOut at hg
  simp only [hT] at hg
  obtain ⟨rfl, rfl⟩ := det_of_rel hrl hg
  refine ⟨h3, ?_⟩
  rw [hd]; exact h4 h3 _ ha

/-! #### several operations that may come now -/

/-- the end of a first part whose ways meet again: the known slots and the world are as `F` says -/
def Meet (n : Nat) (F : Env → World → Prop) : Act → World → Prop := fun a w => ∃ ρ, Fr n ρ a ∧ F ρ w

theorem CE.drawF {id : Nat} (T : Tab) (pre tl : List Nat) (S : List Nat) (F : Env → World → Prop) (hm : P.follows .mixedOrders = true) (hB : regionB l pre tl = true) (h : DR P n T l pre (Meet n F) S w.drew pre.length (Array.replicate l.length false) ρ w.drew)
    (h2 : ∀ ρ w, F ρ w → WO P n l Q tl ρ w) : CE P n (.region id l.toArray true) Q ρ w := by
  refine CE.draw T pre tl S hm hB fun hb a ha => ?_
  have key : ∀ (k : Nat) (listed : Array Bool) (a : Act) (w0 w : World), ST P T l pre (Meet n F) S w0 k listed a w → ST P T l pre (fun a w => wpOps P l.toArray Q tl a w) S w0 k listed a w := by
    intro k
    induction k with
    | zero => intro listed a w0 w h; exact ⟨h.1, fun w1 m1 => by obtain ⟨ρ, hf, hF⟩ := h.2 w1 m1; exact h2 ρ w1 hF a hf⟩
    | succ k ih =>
      intro listed a w0 w h
      refine ⟨h.1, fun w1 m1 i hi o ho => ?_⟩
      have := h.2 w1 m1 i hi o ho
      split at this
      · rename_i hw; rw [if_pos hw]; exact ⟨this.1, fun u w' hg => ⟨(this.2 u w' hg).1, ih _ _ _ _ (this.2 u w' hg).2⟩⟩
      · rename_i hw; rw [if_neg hw]; exact ih _ _ _ _ this
  exact key _ _ _ _ _ (h hb a ha)

theorem DR.meet {F : Env → World → Prop} (hp : pre.all (fun i => listed.getD i true) = true) (h : ∀ w1, Mod [] w w1 → F ρ w1) : DR P n T l pre (Meet n F) S w0 0 listed ρ w := fun hb0 a ha =>
  ⟨fun i hi => List.all_eq_true.1 hp i hi, fun w1 m1 => ⟨ρ, ha, h w1 m1⟩⟩

/-- operation `i` comes now -/
def DP (P : Program) (n : Nat) (T : Tab) (l : List Oper) (pre : List Nat) (Fin : Act → World → Prop) (S : List Nat) (w0 : World) (k : Nat) (listed : Array Bool) (ρ : Env) (w : World) (i : Nat) : Prop :=
  Mod S w0 w → ∀ a, Fr n ρ a → ∀ w1, Mod [] w w1 → ∀ o, l[i]? = some o →
      if Region.wanted o (yielded l.toArray a.tmps) then
        GSafe P T i o a.eval w1 ∧ ∀ u w', GOut P T i o a.eval w1 u w' → Mod S w0 w' ∧ ST P T l pre Fin S w0 k (listed.setIfInBounds i true) (a.put o.dst u) w'
      else ST P T l pre Fin S w0 k (listed.setIfInBounds i true) (a.put o.dst undef) w1

theorem DR.fork {is : List Nat} (hr : rdy l pre listed = is) (hne : is ≠ []) (h : ∀ i, i ∈ is → DP P n T l pre Fin S w0 k listed ρ w i) : DR P n T l pre Fin S w0 (k + 1) listed ρ w := fun hb0 a ha => by
  refine ⟨by rw [hr]; exact hne, fun w1 m1 i hi o ho => ?_⟩
  rw [hr] at hi
  exact h i hi hb0 a ha w1 m1 o ho

theorem all2 {p : Nat → Prop} {i j : Nat} (hi : p i) (hj : p j) : ∀ x, x ∈ [i, j] → p x := fun x hx => by
  rcases List.mem_cons.1 hx with rfl | hx
  · exact hi
  · rcases List.mem_cons.1 hx with rfl | hx
    · exact hj
    · cases hx
theorem DP.call {i d : Nat} {o : Oper} {rest : List Oper} {R : List Value → World → Value → World → Prop} (hl : l.drop i = o :: rest) (hT : T i = some R) (hw : Wants l n ρ o true) (hd : o.dst = some d) (hn : d < n)
    {vs : List Value} (hvs : o.op.operands.toList.map (ev ρ) = vs.map some) (h : ∀ w1, Mod [] w w1 → Oc1 P n o ρ w1 (R vs w1) ∧ ∀ u w', R vs w1 u w' → Mod S w0 w' ∧ DR P n T l pre Fin S w0 k (listed.setIfInBounds i true) ((d, u) :: ρ) w') :
    DP P n T l pre Fin S w0 k listed ρ w i := fun hb0 a ha w1 m1 oj hoj => by
  have ho : l[i]? = some o := by have := congrArg List.head? hl; simpa using this
  have hvs' : o.op.operands.toList.map a.eval = vs := by
    have h0 := evals ha hvs
    have := congrArg Array.toList h0
    simpa using this
  rw [ho] at hoj; cases hoj
  rw [hw.spec ha, if_pos rfl]
  obtain ⟨h1, h2⟩ := h w1 m1
  obtain ⟨f, args, hrn, hc⟩ := h1 a ha
  refine ⟨by unfold GSafe; simp only [hT, hvs']; exact ⟨f, args, hrn, hc⟩, fun u w' hg => ?_⟩
  unfold GOut at hg
  simp only [hT, hvs'] at hg
  obtain ⟨h3, h4⟩ := h2 u w' hg
  refine ⟨h3, ?_⟩
  rw [hd]; exact h4 h3 _ (ha.put hn u)

theorem DP.op {i d : Nat} {o : Oper} {rest : List Oper} (hl : l.drop i = o :: rest) (hT : T i = none) (hw : Wants l n ρ o true) (hd : o.dst = some d) (hn : d < n)
    (h : ∀ w1, Mod [] w w1 → Op1 P n o ρ w1 fun u w' => Mod S w0 w' ∧ DR P n T l pre Fin S w0 k (listed.setIfInBounds i true) ((d, u) :: ρ) w') :
    DP P n T l pre Fin S w0 k listed ρ w i := fun hb0 a ha w1 m1 oj hoj => by
  have ho : l[i]? = some o := by have := congrArg List.head? hl; simpa using this
  rw [ho] at hoj; cases hoj
  rw [hw.spec ha, if_pos rfl]
  obtain ⟨u, w', hrl, h3, h4⟩ := h w1 m1 a ha
  refine ⟨by unfold GSafe; simp only [hT]; exact ⟨u, w', hrl⟩, fun u' w'' hg => ?_⟩
  unfold GOut at hg
  simp only [hT] at hg
  obtain ⟨rfl, rfl⟩ := det_of_rel hrl hg
  refine ⟨h3, ?_⟩
  rw [hd]; exact h4 h3 _ (ha.put hn u)

/-! #### the forced rest -/

theorem WO.nil (h : ∀ a, Fr n ρ a → Q .normal a w) : WO P n l Q [] ρ w := fun a ha => h a ha

theorem WO.op {i d : Nat} {o : Oper} {rest : List Oper} {S : Value → World → Prop} (hl : l.drop i = o :: rest) (hw : Wants l n ρ o true) (hd : o.dst = some d) (hn : d < n) (hop : Op1 P n o ρ w S)
    (h : ∀ v w', S v w' → WO P n l Q tl ((d, v) :: ρ) w') : WO P n l Q (i :: tl) ρ w := fun a ha => by
  have ho : l.toArray[i]? = some o := by have := congrArg List.head? hl; simpa using this
  obtain ⟨u, w', hr, hs⟩ := hop a ha
  rw [wpOps_cons]
  unfold wpOp
  rw [ho]
  simp only [hw.spec ha, if_true]
  refine .inl (wp_of_rel hr (h u w' hs _ ?_))
  rw [hd]; exact ha.put hn u

theorem WO.op0 {i : Nat} {o : Oper} {rest : List Oper} {S : Value → World → Prop} (hl : l.drop i = o :: rest) (hw : Wants l n ρ o true) (hd : o.dst = none) (hop : Op1 P n o ρ w S)
    (h : ∀ v w', S v w' → WO P n l Q tl ρ w') : WO P n l Q (i :: tl) ρ w := fun a ha => by
  have ho : l.toArray[i]? = some o := by have := congrArg List.head? hl; simpa using this
  obtain ⟨u, w', hr, hs⟩ := hop a ha
  rw [wpOps_cons]
  unfold wpOp
  rw [ho]
  simp only [hw.spec ha, if_true]
  refine .inl (wp_of_rel hr (h u w' hs _ ?_))
  rw [hd]; exact ha

theorem WO.call {i d : Nat} {o : Oper} {rest : List Oper} {S : Value → World → Prop} (hl : l.drop i = o :: rest) (hw : Wants l n ρ o true) (hd : o.dst = some d) (hn : d < n) (hop : Oc1 P n o ρ w S)
    (h : ∀ v w', S v w' → WO P n l Q tl ((d, v) :: ρ) w') : WO P n l Q (i :: tl) ρ w := fun a ha => by
  have ho : l.toArray[i]? = some o := by have := congrArg List.head? hl; simpa using this
  obtain ⟨f, args, hr, hc⟩ := hop a ha
  rw [wpOps_cons]
  unfold wpOp
  rw [ho]
  simp only [hw.spec ha, if_true]
  refine .inl (wp_of_cl hr hc fun v w' hs => h v w' hs _ ?_)
  rw [hd]; exact ha.put hn v

theorem WO.skip {i d : Nat} {o : Oper} {rest : List Oper} (hl : l.drop i = o :: rest) (hw : Wants l n ρ o false) (hd : o.dst = some d) (hn : d < n)
    (h : WO P n l Q tl ((d, undef) :: ρ) w) : WO P n l Q (i :: tl) ρ w := fun a ha => by
  have ho : l.toArray[i]? = some o := by have := congrArg List.head? hl; simpa using this
  rw [wpOps_cons]
  unfold wpOp
  rw [ho]
  simp only [hw.spec ha, Bool.false_eq_true, if_false]
  refine h _ ?_
  rw [hd]; exact ha.put hn undef

theorem WO.next {y : Code} {Q' : Exit → Act → World → Prop} (h : CE P n y Q' ρ w) : WO P n l (Exit.then (y.wp P Q') Q') [] ρ w := WO.nil fun a ha => h a ha

end
end Go.Proofs.Ytnahhdnkbbdceaa
