/- The engine of this claim's walks, twelfth part: lists of records, whose cells lie one behind the other. -/
import Derived.Test.YtnahhdnkbbdceaaE11
import Derived.Test.YtnahhdnkbbdceaaE8
set_option linter.unusedVariables false
namespace Go.Proofs.Ytnahhdnkbbdceaa

section
variable {α : Type} {f : α → List Value} {m : Nat} {es : List α} {d : α} {i k : Nat}

/-- the cells of a list of records -/
def cat (f : α → List Value) : List α → List Value
  | [] => []
  | e :: es => f e ++ cat f es

theorem cat_len (hf : ∀ a, (f a).length = m) : ∀ es : List α, (cat f es).length = es.length * m
  | [] => by simp [cat]
  | e :: es => by simp only [cat, List.length_append, hf, cat_len hf es, List.length_cons, Nat.add_mul, Nat.one_mul]; omega

theorem cat_drop (hf : ∀ a, (f a).length = m) : ∀ (i : Nat) (es : List α), (cat f es).drop (i * m) = cat f (es.drop i)
  | 0, es => by simp
  | i + 1, [] => by simp [cat]
  | i + 1, e :: es => by
    rw [List.drop_succ_cons, cat, Nat.add_mul, Nat.one_mul, Nat.add_comm, ← List.drop_drop, List.drop_left' (hf e)]
    exact cat_drop hf i es

theorem cat_head (hf : ∀ a, (f a).length = m) (hi : i < es.length) : cat f (es.drop i) = f (es.getD i d) ++ cat f (es.drop (i + 1)) := by
  rw [List.drop_eq_getElem_cons hi, cat]
  congr 2
  simp [hi]

theorem cat_at (hf : ∀ a, (f a).length = m) (hi : i < es.length) : ((cat f es).drop (i * m)).take m = f (es.getD i d) := by
  rw [cat_drop hf, cat_head hf hi]
  exact List.take_left' (hf _)

theorem cat_get (hf : ∀ a, (f a).length = m) (hi : i < es.length) {v : Value} (hv : (f (es.getD i d))[k]? = some v) : (cat f es)[i * m + k]? = some v := by
  have h1 : k < m := by rw [← hf (es.getD i d)]; exact (List.getElem?_eq_some_iff.1 hv).1
  rw [← List.getElem?_drop, cat_drop hf, cat_head (d := d) hf hi, List.getElem?_append_left (by rw [hf]; exact h1)]
  exact hv
theorem cat_get0 (hf : ∀ a, (f a).length = m) (hi : i < es.length) {v : Value} (hv : (f (es.getD i d))[0]? = some v) : (cat f es)[i * m]? = some v := cat_get (k := 0) hf hi hv

theorem cat_fit (hf : ∀ a, (f a).length = m) {n : Nat} (hl : es.length = n) (hi : i < n) : i * m + m ≤ (cat f es).length := by
  rw [cat_len hf, hl]
  calc i * m + m = (i + 1) * m := by rw [Nat.add_mul, Nat.one_mul]
    _ ≤ n * m := Nat.mul_le_mul_right _ (by omega)

theorem cat_app : ∀ (xs ys : List α), cat f (xs ++ ys) = cat f xs ++ cat f ys
  | [], ys => rfl
  | x :: xs, ys => by rw [List.cons_append, cat, cat, cat_app xs ys, List.append_assoc]

theorem cat_take (hf : ∀ a, (f a).length = m) : ∀ (i : Nat) (es : List α), (cat f es).take (i * m) = cat f (es.take i)
  | 0, es => by simp [cat]
  | i + 1, [] => by simp [cat]
  | i + 1, e :: es => by
    rw [List.take_succ_cons, cat, cat, Nat.add_mul, Nat.one_mul, Nat.add_comm, ← cat_take hf i es]
    rw [List.take_append, hf, List.take_of_length_le (by rw [hf]; omega)]
    congr 2; omega

/-- a record is overwritten -/
theorem cat_set (hf : ∀ a, (f a).length = m) {n : Nat} (hl : es.length = n) (hi : i < n) (a : α) : splice (cat f es) (i * m) (f a) = cat f (es.set i a) := by
  have hi' : i < es.length := by omega
  unfold splice
  rw [hf, cat_take hf, show i * m + m = (i + 1) * m by rw [Nat.add_mul, Nat.one_mul], cat_drop hf, List.set_eq_take_append_cons_drop, if_pos hi', cat_app, List.append_assoc]
  rfl

/-- a record as a part of the block -/
theorem cat_part (hf : ∀ a, (f a).length = m) {n : Nat} (hl : es.length = n) (hi : i < n) : cat f es = splice (cat f es) (i * m) (f (es.getD i d)) := by
  rw [cat_set hf hl hi]
  congr 1
  apply List.ext_getElem?
  intro j
  by_cases e : i = j
  · subst e; simp [hl, hi]
  · rw [List.getElem?_set_ne e]

/-- the first `i` records of a list, then `d` -/
def fillR (d : α) (xs : List α) (i : Nat) : List α := xs.take i ++ List.replicate (xs.length - i) d
end

/-- two texts are the same -/
def sEq (a b : ByteArray) : Bool := a.toList == b.toList
section
variable {P : Program} {n : Nat} {ρ : Env} {w : World} {dst : Option Tmp} {ty : TypeId} {pos : String} {af : Array Edge} {g : Option (Nat × Bool)}

end
end Go.Proofs.Ytnahhdnkbbdceaa

/- The engine of this claim's walks, thirteenth part: slices of records that come in. -/
namespace Go.Proofs.Ytnahhdnkbbdceaa

theorem isSl_recs {α : Type} {f : α → List Value} {es : List Lf} {Pr : α → Prop} {w : World} {v : Value} (hmk : ∀ cs, Cells w es cs → ∃ a, cs = f a ∧ Pr a) (h : isSl es w v) :
    ∃ A n c b o xs, v = .slice A n c ∧ (0 < n → A = some ⟨b, o, none⟩) ∧ n ≤ c ∧ c ≤ maxLen ∧ (A = none → c = 0) ∧ xs.length = n ∧ Rng w b o (cat f xs) ∧ ∀ x ∈ xs, Pr x := by
  obtain ⟨A, n, c, b, o, vs, rfl, hA, hn, hc, hz, hl, hr, hcell⟩ := h
  have key : ∀ (n : Nat) (vs : List Value), vs.length = n * es.length → (∀ i, i < n → Cells w es ((vs.drop (i * es.length)).take es.length)) → ∃ xs : List α, vs = cat f xs ∧ xs.length = n ∧ ∀ x ∈ xs, Pr x := by
    intro n
    induction n with
    | zero => intro vs hl _; exact ⟨[], List.eq_nil_of_length_eq_zero (by simpa using hl), rfl, by simp⟩
    | succ n ih =>
      intro vs hl hc
      obtain ⟨a, ha, hp⟩ := hmk _ (by simpa using hc 0 (by omega))
      obtain ⟨xs, hxs, hn, hP⟩ := ih (vs.drop es.length) (by rw [List.length_drop, hl, Nat.add_mul]; omega) (fun i hi => by
        have := hc (i + 1) (by omega)
        rwa [Nat.add_mul, Nat.one_mul, Nat.add_comm, ← List.drop_drop] at this)
      refine ⟨a :: xs, ?_, by simp [hn], fun x hx => ?_⟩
      · rw [cat, ← ha, ← hxs, List.take_append_drop]
      · rcases List.mem_cons.1 hx with rfl | h
        · exact hp
        · exact hP x h
  obtain ⟨xs, rfl, h1, h2⟩ := key n vs hl hcell
  exact ⟨A, n, c, b, o, xs, rfl, hA, hn, hc, hz, h1, hr, h2⟩

theorem getD_all {α : Type} {Pr : α → Prop} {d : α} {xs : List α} (h : ∀ x ∈ xs, Pr x) (hd : Pr d) (i : Nat) : Pr (xs.getD i d) := by
  by_cases hi : i < xs.length
  · rw [List.getD_eq_getElem?_getD, List.getElem?_eq_getElem hi]; exact h _ (List.getElem_mem _)
  · rw [List.getD_eq_getElem?_getD, List.getElem?_eq_none (by omega)]; exact hd

end Go.Proofs.Ytnahhdnkbbdceaa

/- The engine of this claim's walks, fourteenth part: bytes, and the numbers that are drawn of them. -/
namespace Go.Proofs.Ytnahhdnkbbdceaa

/-- cells of bytes -/
def bys (xs : List Nat) : List Value := cat (fun x : Nat => [Value.int .u8 ((x : Nat) : Int)]) xs
theorem bys_get {xs : List Nat} {i : Nat} (h : i < xs.length) : (bys xs)[i]? = some (.int .u8 ((xs.getD i 0 : Nat) : Int)) := by
  have := cat_get0 (f := fun x : Nat => [Value.int .u8 ((x : Nat) : Int)]) (m := 1) (d := 0) (fun _ => rfl) h (v := .int .u8 ((xs.getD i 0 : Nat) : Int)) rfl
  rwa [Nat.mul_one] at this
theorem bys_of {w : World} (cs : List Value) (h : Cells w [isI .u8] cs) : ∃ a : Nat, cs = (fun x : Nat => [Value.int .u8 ((x : Nat) : Int)]) a ∧ a < 256 := by
  obtain ⟨u0, r0, rfl, ⟨i, rfl, h0, h1⟩, h2⟩ := Cells.cons h
  obtain rfl := Cells.nil h2
  have e0 : IntKind.u8.min = 0 := by decide
  have e1 : IntKind.u8.max = 255 := by decide
  rw [e0] at h0; rw [e1] at h1
  obtain ⟨a, rfl⟩ := Int.eq_ofNat_of_zero_le h0
  exact ⟨a, rfl, by omega⟩
theorem bytes_lt {xs : List Nat} (h : ∀ x ∈ xs, x < 256) (i : Nat) : xs.getD i 0 < 256 := getD_all (Pr := fun x : Nat => x < 256) h (by decide) i
theorem isSl_bytes {w : World} {v : Value} (h : isSl [isI .u8] w v) :
    ∃ A n c b o xs, v = .slice A n c ∧ (0 < n → A = some ⟨b, o, none⟩) ∧ n ≤ c ∧ c ≤ maxLen ∧ (A = none → c = 0) ∧ xs.length = n ∧ Rng w b o (bys xs) ∧ ∀ i, xs.getD i 0 < 256 := by
  obtain ⟨A, n, c, b, o, xs, h1, h2, h3, h4, h5, h6, h7, h8⟩ := isSl_recs bys_of h
  exact ⟨A, n, c, b, o, xs, h1, h2, h3, h4, h5, h6, h7, bytes_lt h8⟩

theorem w_u64 {i : Int} (h0 : 0 ≤ i) (h1 : i ≤ 18446744073709551615) : IntKind.u64.wrap i = i := by
  have e : IntKind.u64.wrap i = i % 18446744073709551616 := by rfl
  rw [e]; omega

/-! ### The next seed -/
def mulL (s : Nat) : Nat := (s * 6364136223846793005) % 18446744073709551616
def addL (s v : Nat) : Nat := (mulL s + v) % 18446744073709551616
def sdL (s v : Nat) : Nat := (addL s v + 1442695040888963407) % 18446744073709551616
theorem sdL_lt (s v : Nat) : sdL s v < 18446744073709551616 := Nat.mod_lt _ (by decide)
theorem wrapUL (x : Nat) : IntKind.u64.wrap (x : Int) = ((x % 18446744073709551616 : Nat) : Int) := by
  have : IntKind.u64.wrap (x : Int) = (x : Int) % 18446744073709551616 := by rfl
  rw [this]; rfl
theorem wrapL1 (s : Nat) : IntKind.u64.wrap (((s : Nat) : Int) * 6364136223846793005) = ((mulL s : Nat) : Int) := wrapUL (s * 6364136223846793005)
theorem wrapL2 (s v : Nat) : IntKind.u64.wrap (((mulL s : Nat) : Int) + ((v : Nat) : Int)) = ((addL s v : Nat) : Int) := wrapUL (mulL s + v)
theorem wrapL3 (s v : Nat) : IntKind.u64.wrap (((addL s v : Nat) : Int) + 1442695040888963407) = ((sdL s v : Nat) : Int) := wrapUL (addL s v + 1442695040888963407)

section
variable {P : Program} {n : Nat} {ρ : Env} {w : World} {dst : Option Tmp} {ty : TypeId} {pos : String} {af : Array Edge} {g : Option (Nat × Bool)}
theorem op_shrN {t u c : Nat} {x y : Operand} {k k' : IntKind} {a : Nat} (hx : ev ρ x = some (.int k ((a : Nat) : Int))) (hy : ev ρ y = some (.int k' ((c : Nat) : Int))) (hc : c ≤ k.bits) :
    Op1 P n ⟨dst, .binOp .shr t x y u, ty, pos, af, g⟩ ρ w (Det (.int k ((a / 2 ^ c : Nat) : Int)) w) :=
  op_bin hx hy guard_int (by
    rw [binOp_shr, shift_shr_any _ _ _ _ (by omega)]
    simp only [Sem.run_pure, Int.toNat_natCast, Nat.min_eq_left hc]
    congr 3)
theorem op_and255 {t u : Nat} {x y : Operand} {a : Nat} (hx : ev ρ x = some (.int .u64 ((a : Nat) : Int))) (hy : ev ρ y = some (.int .u64 255)) (ha : a < 18446744073709551616) :
    Op1 P n ⟨dst, .binOp .and t x y u, ty, pos, af, g⟩ ρ w (Det (.int .u64 ((a % 256 : Nat) : Int)) w) := by
  have h := op_and (P := P) (n := n) (w := w) (dst := dst) (ty := ty) (pos := pos) (af := af) (g := g) (t := t) (u := u) hx hy
  have e : bits .and .u64 ((a : Nat) : Int) 255 = ((a % 256 : Nat) : Int) := by
    have h1 := u64_and_nat a 255 ha (by decide)
    have h2 : a &&& 255 = a % 256 := Nat.and_two_pow_sub_one_eq_mod a 8
    rw [h2] at h1
    exact h1
  rw [e] at h
  exact h
end
end Go.Proofs.Ytnahhdnkbbdceaa
