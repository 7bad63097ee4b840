/- Bytes that are put together into texts; a slice that is written down and then appended to. -/
import Derived.Test.YtpjjnopjpgnlaaaDoorE32
import Derived.Test.YtpjjnopjpgnlaaaDoorE35
import Derived.Test.YtpjjnopjpgnlaaaDoorE14
set_option linter.unusedVariables false
namespace Go.Proofs.YtpjjnopjpgnlaaaDoor

section
variable {P : Program} {n : Nat} {ρ : Env} {w : World} {dst : Option Tmp} {ty : TypeId} {pos : String} {af : Array Edge} {g : Option (Nat × Bool)}
theorem op_andL {t u : Nat} {x y : Operand} {k : IntKind} {i j r : Int} (hx : ev ρ x = some (.int k i)) (hy : ev ρ y = some (.int k j)) (h : bits .and k i j = r) :
    Op1 P n ⟨dst, .binOp .and t x y u, ty, pos, af, g⟩ ρ w (Det (.int k r) w) := h ▸ op_and hx hy
theorem op_and15 {t u : Nat} {x y : Operand} {a : Nat} (hx : ev ρ x = some (.int .u64 ((a : Nat) : Int))) (hy : ev ρ y = some (.int .u64 15)) (ha : a < 18446744073709551616) :
    Op1 P n ⟨dst, .binOp .and t x y u, ty, pos, af, g⟩ ρ w (Det (.int .u64 ((a % 16 : Nat) : Int)) w) := by
  have h := op_and (P := P) (n := n) (w := w) (dst := dst) (ty := ty) (pos := pos) (af := af) (g := g) (t := t) (u := u) hx hy
  have e : bits .and .u64 ((a : Nat) : Int) 15 = ((a % 16 : Nat) : Int) := by
    have h1 := u64_and_nat a 15 ha (by decide)
    have h2 : a &&& 15 = a % 16 := Nat.and_two_pow_sub_one_eq_mod a 4
    rw [h2] at h1
    exact h1
  rw [e] at h
  exact h
theorem op_bytesStr {s d e b o m c : Nat} {x : Operand} {zs : List Int} (hx : ev ρ x = some (.slice (some ⟨b, o, none⟩) m c)) (hs : P.underlying s = some (.slice e)) (he : P.underlying e = some (.int .u8)) (hd : P.underlying d = some .string) (hr : Rng w b o (zs.map (Value.int .u8))) (hm : zs.length = m) :
    Op1 P n ⟨dst, .convert s d x, ty, pos, af, g⟩ ρ w (Det (.string (strOfNums zs)) w) := by
  have hrun := run_convert_bytes_arg (P := P) w s e hs he b o m c zs hm (fun i hi => by
    have hl : i < zs.length := by omega
    refine hr i _ ?_
    rw [List.getElem?_map, List.getElem?_eq_getElem hl, List.getD_eq_getElem?_getD, List.getElem?_eq_getElem hl]; rfl) d hd
  exact op_run (fun a ha => by simp [execOp, ha.ev hx, hrun, Sem.run_bind, Result.andThen]) ⟨rfl, rfl⟩
theorem op_arrLo {t e m b off i k off' : Nat} {x y : Operand} {kk : IntKind} {q : Int} (hx : ev ρ x = some (.pointer (some ⟨b, off, none⟩))) (hy : ev ρ y = some (.int kk q)) (hq : q = (i : Int)) (hu : ∀ w, (underlying t).run P w = .ok (.array m e) w) (hs : ∀ w, (sizeOf e).run P w = .ok k w) (hi : i < m) (ho : off + i * k = off') :
    Op1 P n ⟨dst, .slice t x (some y) none none, ty, pos, af, g⟩ ρ w (Det (.slice (some ⟨b, off', none⟩) (m - i) (m - i)) w) := by
  subst hq ho
  refine op_run (fun a ha => ?_) ⟨rfl, rfl⟩
  have e1 : ¬ (m = i) := by omega
  have e2 : (0 : Int) ≤ (i : Int) ∧ (i : Int) ≤ (m : Int) := by omega
  simp [execOp, ha.ev hx, ha.ev hy, Instr.sliceAt, hu, Instr.sureAddr, Instr.sliceBounds, Instr.sliceBound, asIntOf, hs, e1, e2, addr_add]
  exact fun h => absurd h (by omega)
theorem op_buildSlA {t e m N : Nat} {ps : Array (Nat × Operand)} {qs : List (Nat × Value)} {cells : Array Value} {z : Value} (hps : ps.toList.map (fun p => (p.1, ev ρ p.2)) = qs.map (fun q => (q.1, some q.2))) (hu : ∀ w, (underlying t).run P w = .ok (.slice e) w)
    (hs : ∀ w, (sizeOf e).run P w = .ok m w) (hz : ∀ w, (zeroValue e).run P w = .ok z w) (h0 : N * m ≠ 0) (hb : N * m ≤ 16777216) (h : Instr.fill (fun i => some (i * m, m)) ((Array.range (N * m)).map (z.cells[· % z.cells.size]!)) qs = some cells) :
    Op1 P n ⟨dst, .buildSlice t N ps, ty, pos, af, g⟩ ρ w (fun u w' => u = .slice (some ⟨w.heap.size, 0, none⟩) N N ∧ w' = w.alloc (.cells cells e)) := by
  refine op_run (v := .slice (some ⟨w.heap.size, 0, none⟩) N N) (w' := w.alloc (.cells cells e)) (fun a ha => ?_) ⟨rfl, rfl⟩
  have key : ∀ (l : List (Nat × Operand)) (r : List (Nat × Value)), l.map (fun p => (p.1, ev ρ p.2)) = r.map (fun q => (q.1, some q.2)) → l.map (fun p => (p.1, a.eval p.2)) = r := by
    intro l
    induction l with
    | nil => intro r h; cases r with | nil => rfl | cons _ _ => simp at h
    | cons x l ih =>
      intro r h
      cases r with
      | nil => simp at h
      | cons v r => simp at h; simp [ha.ev h.1.2, ih r h.2, h.1.1]
  have h1 : (ps.map fun (i, x) => (i, a.eval x)) = qs.toArray := by rw [← key _ _ hps, ← Array.toList_map, Array.toArray_toList]
  have h2 : ¬ (2 ^ 24 < N * m) := by omega
  simp only [execOp, h1]
  simp [Instr.buildSlice, hu, hs, hz, h0, h2, h, newRow]
theorem op_buildSlO {t e N : Nat} {ps : Array (Nat × Operand)} {qs : List (Nat × Value)} {cells : Array Value} {z : Value} (hps : ps.toList.map (fun p => (p.1, ev ρ p.2)) = qs.map (fun q => (q.1, some q.2))) (hu : ∀ w, (underlying t).run P w = .ok (.slice e) w)
    (hs : ∀ w, (sizeOf e).run P w = .ok 1 w) (hz : ∀ w, (zeroValue e).run P w = .ok z w) (h0 : N * 1 ≠ 0) (hb : N * 1 ≤ 4096) (h : Instr.fill (fun i => some (i * 1, 1)) ((Array.range (N * 1)).map (z.cells[· % z.cells.size]!)) qs = some cells) (hN : cells.size = N) :
    Op1 P n ⟨dst, .buildSlice t N ps, ty, pos, af, g⟩ ρ w (fun u w' => u = .slice (some ⟨w.heap.size, 0, none⟩) N N ∧ Own e 1 w.heap.size w' (some ⟨w.heap.size, 0, none⟩) N N cells.toList ∧ Row w' w.heap.size 0 cells.toList ∧ Mod [] w w' ∧ w.heap.size < w'.heap.size) := by
  have hl : cells.toList.length = N * 1 := by rw [Array.length_toList, hN, Nat.mul_one]
  refine (op_buildSlA hps hu hs hz h0 (Nat.le_trans hb (by decide)) h).mono ?_
  rintro u w' ⟨rfl, rfl⟩
  refine ⟨rfl, ⟨hl, .inr ⟨w.heap.size, cells, rfl, Nat.le_refl _, ?_, Nat.le_refl _, Nat.le_trans (Nat.le_trans (Nat.le_mul_of_pos_right N Nat.one_pos) hb) (by decide), ?_, ?_⟩⟩, Row.new w cells e, Mod.alloc _ _, by simp⟩
  · exact Array.getElem?_push_size
  · rw [hN, Nat.mul_one]
  · exact List.take_of_length_le (Nat.le_of_eq hl)
end
/-- a text with these bytes -/
def mkS (l : List UInt8) : ByteArray := ⟨l.toArray⟩
theorem mkS_size (l : List UInt8) : (mkS l).size = l.length := List.size_toArray
theorem mkS_app (a b : List UInt8) : mkS a ++ mkS b = mkS (a ++ b) := by
  apply ByteArray.ext
  rw [ByteArray.data_append]
  unfold mkS
  apply Array.toList_inj.1
  rw [Array.toList_append]
end Go.Proofs.YtpjjnopjpgnlaaaDoor
