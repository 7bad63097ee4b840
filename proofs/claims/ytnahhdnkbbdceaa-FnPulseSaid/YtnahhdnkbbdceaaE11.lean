/- The engine of this claim's walks, tenth part: a part of a block whose other cells stay. -/
import Derived.Test.YtnahhdnkbbdceaaE9
namespace Go.Proofs.Ytnahhdnkbbdceaa

/-! short names, which keep printed walks small -/
abbrev vF (x : Nat) : Value := .float .f32 x
abbrev vI (x : Int) : Value := .int .i64 x
abbrev vP (b o : Nat) : Value := .pointer (some ⟨b, o, none⟩)
abbrev vS (b o n c : Nat) : Value := .slice (some ⟨b, o, none⟩) n c
theorem lQ {a b c : Nat} (h : a < b) (k : b = c) : a < c := Nat.lt_of_lt_of_eq h k
theorem lT {a b c : Nat} (h : a ≤ b) (k : b ≤ c) : a ≤ c := Nat.le_trans h k
theorem lL {a b c : Nat} (h : a < b) (k : b ≤ c) : a < c := Nat.lt_of_lt_of_le h k
theorem lR {a : Nat} : a ≤ a := Nat.le_refl a
theorem lB {a b : Nat} (h : Nat.ble a b = true) : a ≤ b := Nat.le_of_ble_eq_true h

section
variable {vs cs new cs' : List Value} {k i m : Nat}

theorem sub_len (hk : k + cs.length ≤ vs.length) : (splice vs k cs).length = vs.length := by
  unfold splice
  simp only [List.length_append, List.length_take, List.length_drop]
  omega

theorem sub_get {v : Value} (hk : k + cs.length ≤ vs.length) (hv : cs[i]? = some v) : (splice vs k cs)[k + i]? = some v := by
  have hi : i < cs.length := (List.getElem?_eq_some_iff.1 hv).1
  unfold splice
  have h1 : (vs.take k).length = k := by rw [List.length_take]; omega
  rw [List.append_assoc, List.getElem?_append_right (by omega), h1, Nat.add_sub_cancel_left, List.getElem?_append_left hi]
  exact hv

theorem sub_drop (hk : k + cs.length ≤ vs.length) (hi : i ≤ cs.length) : (splice vs k cs).drop (k + i) = cs.drop i ++ vs.drop (k + cs.length) := by
  unfold splice
  have h1 : (vs.take k).length = k := by rw [List.length_take]; omega
  rw [List.append_assoc, ← List.drop_drop, List.drop_left' h1, List.drop_append_of_le_length hi]

theorem sub_put (hk : k + cs.length ≤ vs.length) (hi : i + new.length ≤ cs.length) (h : splice cs i new = cs') : splice (splice vs k cs) (k + i) new = splice vs k cs' := by
  subst h
  have h1 : (vs.take k).length = k := by rw [List.length_take]; omega
  have hc : (splice cs i new).length = cs.length := by
    unfold splice; simp only [List.length_append, List.length_take, List.length_drop]; omega
  have hd : (splice vs k cs).drop (k + i + new.length) = cs.drop (i + new.length) ++ vs.drop (k + cs.length) := by
    rw [Nat.add_assoc]; exact sub_drop hk (by omega)
  have ht : (splice vs k cs).take (k + i) = vs.take k ++ cs.take i := by
    unfold splice
    rw [List.append_assoc, List.take_append, h1, List.take_of_length_le (by omega), Nat.add_sub_cancel_left, List.take_append_of_le_length (by omega)]
  show (splice vs k cs).take (k + i) ++ new ++ (splice vs k cs).drop (k + i + new.length) = vs.take k ++ splice cs i new ++ vs.drop (k + (splice cs i new).length)
  rw [hc, hd, ht]
  unfold splice
  simp only [List.append_assoc]

theorem sub_fit (hk : k + cs.length ≤ vs.length) (hi : i + m ≤ cs.length) : k + i + m ≤ (splice vs k cs).length := by
  rw [sub_len hk]; omega

theorem Rng.sub {w : World} {p : Nat} (h : Rng w p 0 (splice vs k cs)) (hk : k + cs.length ≤ vs.length) : Rng w p k cs := fun i v hv => by
  have := h (k + i) v (sub_get hk hv)
  rwa [Nat.zero_add] at this

end
theorem fl_get_eq {xs : List Nat} {i y : Nat} (h : i < xs.length) (e : xs.getD i 0 = y) : (fl xs)[i]? = some (.float .f32 y) := by rw [← e]; exact fl_get h

theorem Rng.youngS {S : List Nat} {w0 w w' : World} {b o : Nat} {vs : List Value} (h0 : Rng w0 b o vs) (h : Rng w b o vs) (m : Mod S w w') (hS : ∀ c, c ∈ S → w0.heap.size ≤ c) : Rng w' b o vs := fun i v hv => by
  have hlt := World.block_lt_of_cell? w0 _ (h0 i v hv)
  exact m.cell (h i v hv) fun hc => by
    have h1 := hS _ hc
    have h2 : b < w0.heap.size := hlt
    have h3 : w0.heap.size ≤ b := h1
    omega
section
variable {P : Program} {n : Nat} {ρ : Env} {w : World} {dst : Option Tmp} {ty : TypeId} {pos : String} {af : Array Edge} {g : Option (Nat × Bool)} {t u : Nat} {x y : Operand} {p : Bool}
theorem op_eqb_same (hx : ev ρ x = some (.bool p)) (hy : ev ρ y = some (.bool p)) (ht : P.underlying t = some .bool) : Op1 P n ⟨dst, .binOp .eql t x y u, ty, pos, af, g⟩ ρ w (Det (.bool true) w) := by
  have := op_eqb (P := P) (n := n) (w := w) (dst := dst) (ty := ty) (pos := pos) (af := af) (g := g) (t := t) (u := u) hx hy ht
  rwa [show (p == p) = true by simp] at this
end
theorem allge_nil {n : Nat} : ∀ x, x ∈ ([] : List Nat) → n ≤ x := fun x hx => by cases hx
theorem allge_cons {n b : Nat} {S : List Nat} (h : n ≤ b) (hs : ∀ x, x ∈ S → n ≤ x) : ∀ x, x ∈ b :: S → n ≤ x := fun x hx => by
  rcases List.mem_cons.1 hx with rfl | hx
  · exact h
  · exact hs x hx
theorem allow_nil {S : List Nat} {n : Nat} : ∀ x, x ∈ ([] : List Nat) → x ∈ S ∨ n ≤ x := fun x hx => by cases hx
theorem allow_cons {S T : List Nat} {n b : Nat} (h : b ∈ S ∨ n ≤ b) (hs : ∀ x, x ∈ T → x ∈ S ∨ n ≤ x) : ∀ x, x ∈ b :: T → x ∈ S ∨ n ≤ x := fun x hx => by
  rcases List.mem_cons.1 hx with rfl | hx
  · exact h
  · exact hs x hx
theorem notin_nil {b : Nat} : b ∉ ([] : List Nat) := fun h => by cases h
theorem notin_cons {b c : Nat} {S : List Nat} (h : b ≠ c) (hs : b ∉ S) : b ∉ c :: S := fun hm => by
  rcases List.mem_cons.1 hm with rfl | hm
  · exact h rfl
  · exact hs hm

theorem Mod.nt {S : List Nat} {a b c : World} (h : Mod S a b) (k : Mod [] b c) : Mod S a c := h.nil_then k
theorem aN {S : List Nat} {n : Nat} : ∀ x, x ∈ ([] : List Nat) → x ∈ S ∨ n ≤ x := allow_nil
theorem aC {S T : List Nat} {n b : Nat} (h : b ∈ S ∨ n ≤ b) (hs : ∀ x, x ∈ T → x ∈ S ∨ n ≤ x) : ∀ x, x ∈ b :: T → x ∈ S ∨ n ≤ x := allow_cons h hs
theorem nN {b : Nat} : b ∉ ([] : List Nat) := notin_nil
theorem nC {b c : Nat} {S : List Nat} (h : b ≠ c) (hs : b ∉ S) : b ∉ c :: S := notin_cons h hs
theorem lE {a b : Nat} (h : a < b) : a ≠ b := Nat.ne_of_lt h
theorem lG {a b : Nat} (h : b < a) : a ≠ b := Nat.ne_of_gt h

/-! ### Lists that are overwritten from the front -/
def over (f : Nat → Nat) (bs : List Nat) (i : Nat) : List Nat := (List.range i).map f ++ bs.drop i
end Go.Proofs.Ytnahhdnkbbdceaa

/- What the shared small functions compute: ranges, lengths, copies, comparisons and marks of lists. -/
set_option linter.unusedVariables false
set_option linter.unusedSimpArgs false
set_option maxRecDepth 100000
set_option maxHeartbeats 8000000
namespace Go.Proofs.Ytnahhdnkbbdceaa

theorem c_within (a : Int) (b : Int) (c : Int) (w : World) : Cl Try.prog 62 #[vI a, vI b, vI c] w fun v w' => v = .bool (vIn a b c) ∧ w = w' := by
 refine Cl.of Try.func62 Try.ntmps62 rfl rfl (ρ := [(0, vI a), (1, vI b), (2, vI c)]) rfl ?_
 refine CE.seq (CE.region ?_)
 refine WD (op_assign rfl) rfl ?_
 refine WL.end (NE.code (CE.seq (CE.region ?_)))
 iterate 2 refine WD (op_move rfl) rfl ?_
 refine WD (op_lei rfl rfl) rfl ?_
 refine WD (op_move rfl) rfl ?_
 rcases Bool.eq_false_or_eq_true (decide (b ≤ a)) with hb1 | hb1
 ·have hp1 := of_decide_eq_true hb1
  refine WL.yes rfl rfl rfl (ltb rfl) rfl hb1 ?_
  refine WD (op_move rfl) rfl ?_
  refine WL.yes rfl rfl rfl (ltb rfl) rfl hb1 ?_
  refine WD (op_move rfl) rfl ?_
  refine WL.yes rfl rfl rfl (ltb rfl) rfl hb1 ?_
  refine WD (op_lei rfl rfl) rfl ?_
  refine WD (op_pick_t rfl hb1 rfl) rfl ?_
  refine WD (op_assign rfl) rfl ?_
  refine WL.end (NE.code (CE.ret' ?_))
  refine XE.leave1 Try.results62 rfl ?_
  refine ⟨?_, rfl⟩
  all_goals (simp_all [vIn]; try omega)
 ·have hp1 := of_decide_eq_false hb1
  iterate 3 refine WL.no rfl rfl rfl (ltb rfl) rfl hb1 rfl (ltb rfl) ?_
  refine WD (op_pick_f rfl hb1 rfl) rfl ?_
  refine WD (op_assign rfl) rfl ?_
  refine WL.end (NE.code (CE.ret' ?_))
  refine XE.leave1 Try.results62 rfl ?_
  refine ⟨?_, rfl⟩
  all_goals (simp_all [vIn]; try omega)

theorem c_l00In (a : Int) (b : Int) (c : Int) (w : World) : Cl Try.prog 55 #[vI a, vI b, vI c] w fun v w' => v = .bool (vIn a b c) ∧ w = w' := by
 refine Cl.of Try.func55 Try.ntmps55 rfl rfl (ρ := [(0, vI a), (1, vI b), (2, vI c)]) rfl ?_
 refine CE.seq (CE.region ?_)
 refine WD (op_assign rfl) rfl ?_
 refine WL.end (NE.code (CE.seq (CE.region ?_)))
 iterate 2 refine WD (op_move rfl) rfl ?_
 refine WD (op_gei rfl rfl) rfl ?_
 refine WD (op_move rfl) rfl ?_
 rcases Bool.eq_false_or_eq_true (decide (b ≤ a)) with hb1 | hb1
 ·have hp1 := of_decide_eq_true hb1
  refine WL.yes rfl rfl rfl (ltb rfl) rfl hb1 ?_
  refine WD (op_move rfl) rfl ?_
  refine WL.yes rfl rfl rfl (ltb rfl) rfl hb1 ?_
  refine WD (op_move rfl) rfl ?_
  refine WL.yes rfl rfl rfl (ltb rfl) rfl hb1 ?_
  refine WD (op_lei rfl rfl) rfl ?_
  refine WD (op_pick_t rfl hb1 rfl) rfl ?_
  refine WD (op_assign rfl) rfl ?_
  refine WL.end (NE.code (CE.ret' ?_))
  refine XE.leave1 Try.results55 rfl ?_
  refine ⟨?_, rfl⟩
  all_goals (simp_all [vIn]; try omega)
 ·have hp1 := of_decide_eq_false hb1
  iterate 3 refine WL.no rfl rfl rfl (ltb rfl) rfl hb1 rfl (ltb rfl) ?_
  refine WD (op_pick_f rfl hb1 rfl) rfl ?_
  refine WD (op_assign rfl) rfl ?_
  refine WL.end (NE.code (CE.ret' ?_))
  refine XE.leave1 Try.results55 rfl ?_
  refine ⟨?_, rfl⟩
  all_goals (simp_all [vIn]; try omega)

theorem c_length32 (n : Nat) (c : Nat) (A : Option Addr) (w : World) : Cl Try.prog 118 #[.slice A n c] w fun v w' => v = vI ((n : Nat) : Int) ∧ w = w' := by
 refine Cl.of Try.func118 Try.ntmps118 rfl rfl (ρ := [(0, .slice A n c)]) rfl ?_
 refine CE.seq (CE.region ?_)
 refine WD (op_assign rfl) rfl ?_
 refine WL.end (NE.code (CE.seq (CE.region ?_)))
 refine WD (op_move rfl) rfl ?_
 refine WD (op_len rfl Try.runUnderlying26) rfl ?_
 refine WD (op_assign rfl) rfl ?_
 refine WL.end (NE.code (CE.ret' ?_))
 refine XE.leave1 Try.results118 rfl ?_
 refine ⟨rfl, rfl⟩

end Go.Proofs.Ytnahhdnkbbdceaa

/- The engine of this claim's walks, eleventh part: slices that are appended to. -/
namespace Go.Proofs.Ytnahhdnkbbdceaa

/-- A slice that is appended to: still without room, or at the front of a block that is younger than `lo`. -/
structure Own (e : TypeId) (m lo : Nat) (w : World) (A : Option Addr) (n c : Nat) (xs : List Value) : Prop where
  len : xs.length = n * m
  own : (n = 0 ∧ c = 0 ∧ (A = none ∨ ∃ g, A = some ⟨g, 0, none⟩)) ∨ ∃ g cur, A = some ⟨g, 0, none⟩ ∧ lo ≤ g ∧ w.heap[g]? = some (.cells cur e (0, 0)) ∧ n ≤ c ∧ c ≤ maxLen ∧ cur.size = c * m ∧ cur.toList.take (n * m) = xs

section
variable {e : TypeId} {m lo : Nat} {w w' : World} {A : Option Addr} {n c : Nat} {xs : List Value}

theorem Own.nil : Own e m lo w none 0 0 [] := ⟨by simp, .inl ⟨rfl, rfl, .inl rfl⟩⟩
theorem Own.emp {g : Nat} : Own e m lo w (some ⟨g, 0, none⟩) 0 0 [] := ⟨by simp, .inl ⟨rfl, rfl, .inr ⟨g, rfl⟩⟩⟩
theorem Own.congr {ys : List Value} (h : Own e m lo w A n c xs) (he : xs = ys) : Own e m lo w A n c ys := he ▸ h

theorem Own.mod {S : List Nat} (h : Own e m lo w A n c xs) (k : Mod S w w') (hS : ∀ x, x ∈ S → x < lo) : Own e m lo w' A n c xs := by
  refine ⟨h.len, ?_⟩
  rcases h.own with h1 | ⟨g, cur, h1, h2, h3, h4⟩
  · exact .inl h1
  · refine .inr ⟨g, cur, h1, h2, ?_, h4⟩
    rw [k.block g (Array.getElem?_eq_some_iff.1 h3).1 fun hm => absurd (hS g hm) (Nat.not_lt.2 h2)]
    exact h3
theorem Own.ext (h : Own e m lo w A n c xs) (k : Mod [] w w') : Own e m lo w' A n c xs := h.mod k fun x hx => by cases hx

/-- as a row; an empty one lies wherever there is a block -/
theorem Own.out {q : Nat} {vs : List Value} (h : Own e m lo w A n c xs) (hq : Row w q 0 vs) :
    ∃ b, (0 < n → A = some ⟨b, 0, none⟩) ∧ Row w b 0 xs ∧ (b = q ∨ lo ≤ b) := by
  rcases h.own with ⟨rfl, rfl, _⟩ | ⟨g, cur, rfl, h2, h3, h4, _, h6, h7⟩
  · have hx : xs = [] := List.eq_nil_of_length_eq_zero (by rw [h.len]; simp)
    subst hx
    obtain ⟨cur, t, k1, _⟩ := hq.ex
    exact ⟨q, fun h => absurd h (Nat.lt_irrefl _), ⟨cur, t, k1, fun i v hv => by simp at hv⟩, .inl rfl⟩
  · refine ⟨g, fun _ => rfl, ⟨cur, e, h3, fun i v hv => ?_⟩, .inr h2⟩
    rw [← h7, List.getElem?_take] at hv
    split at hv
    · simpa using hv
    · cases hv
theorem own_ge {b q k : Nat} (h : b = q ∨ lo ≤ b) (h1 : k ≤ q) (h2 : k ≤ lo) : k ≤ b := by rcases h with rfl | h <;> omega
theorem own_ne {b q k : Nat} (h : b = q ∨ lo ≤ b) (h1 : k ≠ q) (h2 : k < lo) : k ≠ b := by rcases h with rfl | h <;> omega
end

section
variable {P : Program} {n : Nat} {ρ : Env} {w : World} {dst : Option Tmp} {ty : TypeId} {pos : String} {af : Array Edge} {g : Option (Nat × Bool)}

/-- one element is appended -/
theorem op_app {t e b o m bt c c' k lo : Nat} {x y : Operand} {i : TypeInfo} {z : Value} {A : Option Addr} {xs news : List Value} (hx : ev ρ x = some (.slice A k c)) (hy : ev ρ y = some (.slice (some ⟨b, o, none⟩) 1 c'))
    (ht : P.underlying t = some (.slice e)) (hi : P.info? e = some i) (hz : i.zero = some z) (hs : i.size = m) (hby : i.bytes = bt) (hzs : z.cells.size = m) (hm : 0 < m)
    (hr : Rng w b o news) (hl : news.length = m) (h1 : news.all Value.oneCell' = true) (how : Own e m lo w A k c xs) (hlo : lo ≤ w.heap.size) (hk : k ≤ 16777216) (hbt : bt ≤ 4096) :
    Op1 P n ⟨dst, .call { callee := .builtin .append, args := #[x, y], argTypes := #[t, t] }, ty, pos, af, g⟩ ρ w
      (fun u w' => ∃ A' c' h, u = .slice A' (k + 1) c' ∧ Own e m lo w' A' (k + 1) c' (xs ++ news) ∧ lo ≤ h ∧ Mod [h] w w') := by
  have hnews : ∀ j v, news[j]? = some v → w.cell? ((⟨b, o, none⟩ : Addr).add j) = some v := fun j v hv => by rw [addr_add]; exact hr j v hv
  have hone : ∀ u ∈ news, u.oneCell' = true := fun u hu => List.all_eq_true.1 h1 u hu
  have hmx : k + 1 ≤ maxLen := by simp only [maxLen]; omega
  have hbb : (k + 1) * bt ≤ 140737488355328 := Nat.le_trans (Nat.mul_le_mul_left _ hbt) (by omega)
  have fin : ∀ v' w', (Builtin.append_ #[t, t] ty #[.slice A k c, .slice (some ⟨b, o, none⟩) 1 c']).run P w = .ok v' w' →
      (∃ A' c' h, v' = .slice A' (k + 1) c' ∧ Own e m lo w' A' (k + 1) c' (xs ++ news) ∧ lo ≤ h ∧ Mod [h] w w') →
      Op1 P n ⟨dst, .call { callee := .builtin .append, args := #[x, y], argTypes := #[t, t] }, ty, pos, af, g⟩ ρ w
      (fun u w' => ∃ A' c' h, u = .slice A' (k + 1) c' ∧ Own e m lo w' A' (k + 1) c' (xs ++ news) ∧ lo ≤ h ∧ Mod [h] w w') := fun v' w' hrun hp =>
    op_run (fun a ha => by simp only [execOp, resolve, invoke, builtin, List.map_toArray, List.map_cons, List.map_nil, ha.ev hx, ha.ev hy, Sem.run_bind, Sem.run_pure, Result.andThen_ok, hrun]) hp
  have own : w.ownsRow lo e m (.slice A k c) k xs → Op1 P n ⟨dst, .call { callee := .builtin .append, args := #[x, y], argTypes := #[t, t] }, ty, pos, af, g⟩ ρ w
      (fun u w' => ∃ A' c' h, u = .slice A' (k + 1) c' ∧ Own e m lo w' A' (k + 1) c' (xs ++ news) ∧ lo ≤ h ∧ Mod [h] w w') := fun hown => by
    obtain ⟨v', w', hrun, h2, h3, h4⟩ := run_append_own (P := P) w lo t ty e i z m bt ht hi hz hs hby hzs hm _ k xs hown ⟨b, o, none⟩ 1 c' news (by rw [hl]; simp) hnews hone hmx hbb hlo
    refine fin v' w' hrun ?_
    rcases h2.2 with ⟨rfl, h⟩ | ⟨g', cap, cur, rfl, a1, a2, a3, a4, a5, a6⟩
    · omega
    · rcases hb : Value.ownBlock (.slice A k c) with _ | g0
      · rw [hb] at h3
        exact ⟨_, _, w.heap.size, rfl, ⟨h2.1, .inr ⟨g', cur, rfl, a1, a2, a3, a4, a5, a6⟩⟩, hlo, h3.os, h3.tape, h3.output, h3.size, fun j hj _ => h3.block j hj (by simp)⟩
      · rw [hb] at h3
        exact ⟨_, _, g0, rfl, ⟨h2.1, .inr ⟨g', cur, rfl, a1, a2, a3, a4, a5, a6⟩⟩, (hown.lt g0 hb).1, h3.os, h3.tape, h3.output, h3.size, fun j hj hn => h3.block j hj (by simpa using hn)⟩
  rcases how.own with ⟨rfl, rfl, rfl | ⟨g0, rfl⟩⟩ | ⟨g0, cur, rfl, h2, h3, h4, h5, h6, h7⟩
  · refine own ⟨how.len, .inl ⟨rfl, rfl⟩⟩
  · have hx0 : xs = [] := List.eq_nil_of_length_eq_zero (by rw [how.len]; simp)
    subst hx0
    have hc : Builtin.nextslicecap (0 + 1) 0 * i.bytes ≤ 281474976710656 := by rw [Nat.zero_add, nextslicecap_zero (by omega), hby]; omega
    have hrun := run_append_grow (P := P) w t ty e i z ht hi hz ⟨g0, 0, none⟩ 0 0 [] (by simp) (by simp) ⟨b, o, none⟩ 1 c' news (by rw [hl, hs]; simp) hnews (by omega) (by omega) hc
    refine fin _ _ hrun ⟨_, _, w.heap.size, rfl, ⟨by simp [hl], .inr ⟨w.heap.size, _, rfl, hlo, heap_alloc_new w.drew _, grownCap_ge w (0 + 1) 0 e, grownCap_le_maxLen w (0 + 1) 0 e hmx, ?_, ?_⟩⟩, hlo, (((Mod.refl [] w).drew).trans (Mod.alloc _ _)).wide (by simp)⟩
    · have hge := grownCap_ge w (0 + 1) 0 e
      simp only [Array.size_append, List.size_toArray, size_zeroCells, hzs, hl, List.length_nil, Nat.zero_add]
      rw [Nat.sub_mul, Nat.one_mul]
      have : m ≤ grownCap w (0 + 1) 0 e * m := Nat.le_mul_of_pos_left _ (by omega)
      simp only [Nat.zero_add] at this ⊢
      omega
    · simp only [Array.toList_append, List.nil_append, Nat.zero_add, Nat.one_mul]
      rw [← hl]; exact List.take_left
  · exact own ⟨how.len, .inr ⟨g0, c, cur, rfl, h2, h3, h4, h5, h6, h7⟩⟩
end

section
variable {P : Program} {n : Nat} {ρ : Env} {w : World} {dst : Option Tmp} {ty : TypeId} {pos : String} {af : Array Edge} {g : Option (Nat × Bool)}
end

/-! ### What is made one by one -/
def outs (f : Nat → Nat) (n : Nat) : List Nat := (List.range n).map f
theorem outs_len (f : Nat → Nat) (n : Nat) : (outs f n).length = n := by simp [outs]
theorem outs_zero (f : Nat → Nat) : ([] : List Value) = fl (outs f 0) := rfl
theorem outs_succ (f : Nat → Nat) (n : Nat) : fl (outs f n) ++ [Value.float .f32 (f n)] = fl (outs f (n + 1)) := by
  simp [outs, fl, List.range_succ]

end Go.Proofs.Ytnahhdnkbbdceaa
