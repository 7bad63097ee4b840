/- Texts as slices of bytes; values of interface types that are made. -/
import Derived.Test.YtpjjnopjpgnlaaaDoorE35
import Derived.Test.YtpjjnopjpgnlaaaDoorE36
import Derived.Lib.ConvBytes
import Derived.Lib.AtoiErrMem
set_option linter.unusedVariables false
namespace Go.Proofs.YtpjjnopjpgnlaaaDoor

def byL (s : ByteArray) : List Nat := s.data.toList.map UInt8.toNat
theorem byL_len (s : ByteArray) : (byL s).length = s.size := by unfold byL; rw [List.length_map, Array.length_toList]; rfl
theorem byL_lt (s : ByteArray) (i : Nat) : (byL s).getD i 0 < 256 := by
  unfold byL
  rw [List.getD_eq_getElem?_getD, List.getElem?_map]
  cases s.data.toList[i]? with
  | none => decide
  | some c => exact c.toNat_lt
section
variable {P : Program} {n : Nat} {ρ : Env} {w : World} {dst : Option Tmp} {ty : TypeId} {pos : String} {af : Array Edge} {g : Option (Nat × Bool)}
theorem op_strBytes {t d e : Nat} {x : Operand} {s : ByteArray} {u : TypeDesc} (hx : ev ρ x = some (.string s)) (hs : P.underlying t = some u) (hd : P.underlying d = some (.slice e)) (he : P.underlying e = some (.int .u8)) :
    Op1 P n ⟨dst, .convert t d x, ty, pos, af, g⟩ ρ w (fun v w' => ∃ c, v = .slice (some ⟨w.heap.size, 0, none⟩) s.size c ∧ Rng w' w.heap.size 0 (bys (byL s)) ∧ Mod [] w w' ∧ w.heap.size < w'.heap.size) := by
  have hr := Lib.run_convert_string_bytes (P := P) w t d e s hs hd he
  have hb := Lib.bytesWorld_below w e s
  refine op_run (v := .slice (some ⟨w.heap.size, 0, none⟩) s.size (grownCap w s.size 0 e)) (w' := Lib.bytesWorld w e s) (fun a ha => by simp [execOp, ha.ev hx, hr, Sem.run_bind, Result.andThen]) ⟨_, rfl, ?_, ⟨hb.os, hb.tape, hb.output, hb.size, fun k hk _ => hb.block k hk⟩, by rw [Lib.bytesWorld_size]; omega⟩
  intro i v hv
  have hl : i < (byL s).length := by
    rcases Nat.lt_or_ge i (byL s).length with h | h
    · exact h
    · rw [List.getElem?_eq_none (by unfold bys; rw [cat_len (m := 1) (fun _ => rfl), Nat.mul_one]; exact h)] at hv; cases hv
  rw [bys_get hl] at hv
  have hl2 : i < s.size := by rw [byL_len] at hl; exact hl
  rw [Nat.zero_add, Lib.bytesWorld_cell w e s i hl2, ← hv]
  unfold byL
  rw [List.getD_eq_getElem?_getD, List.getD_eq_getElem?_getD, List.getElem?_map, List.getElem?_eq_getElem (show i < s.data.toList.length by rw [Array.length_toList]; exact hl2)]
  rfl
theorem op_or {t u : Nat} {x y : Operand} {k : IntKind} {i j r : Int} (hx : ev ρ x = some (.int k i)) (hy : ev ρ y = some (.int k j)) (h : bits .or k i j = r) :
    Op1 P n ⟨dst, .binOp .or t x y u, ty, pos, af, g⟩ ρ w (Det (.int k r) w) := by
  subst h
  exact op_bin hx hy guard_int (by simp [binOp_or, intBits_or])
theorem op_appendFo {t e b o m c b0 o0 : Nat} {x y : Operand} {i : TypeInfo} {xs : List Nat} (hx : ev ρ x = some (.slice (some ⟨b0, o0, none⟩) 0 0)) (hy : ev ρ y = some (.slice (some ⟨b, o, none⟩) m c))
    (ht : P.underlying t = some (.slice e)) (hi : P.info? e = some i) (hz : i.zero = some (.float .f32 0)) (hs : i.size = 1) (hby : i.bytes = 4)
    (hr : Rng w b o (fl xs)) (hl : xs.length = m) (h0 : 0 < m) (hm : m ≤ 16777216) :
    Op1 P n ⟨dst, .call { callee := .builtin .append, args := #[x, y], argTypes := #[t, t] }, ty, pos, af, g⟩ ρ w
      (fun u w' => ∃ b' c', u = .slice (some ⟨b', 0, none⟩) m c' ∧ w.heap.size ≤ b' ∧ Row w' b' 0 (fl xs) ∧ Mod [] w w') := by
  have hnews : ∀ j v, (fl xs)[j]? = some v → w.cell? ((⟨b, o, none⟩ : Addr).add j) = some v := fun j v hv => by rw [addr_add]; exact hr j v hv
  have hc : Builtin.nextslicecap (0 + m) 0 * i.bytes ≤ 281474976710656 := by rw [Nat.zero_add, nextslicecap_zero h0, hby]; omega
  have h1 := run_append_grow (P := P) w t ty e i _ ht hi hz ⟨b0, o0, none⟩ 0 0 [] (by simp) (by simp) ⟨b, o, none⟩ m c (fl xs) (by rw [fl_len hl, hs, Nat.mul_one]) hnews (by omega) (by omega) hc
  rw [Nat.zero_add] at h1
  refine op_run (v := .slice (some ⟨w.heap.size, 0, none⟩) m (grownCap w m 0 e)) (w' := w.drew.alloc (.cells ((#[] : Array Value) ++ (fl xs).toArray ++ Builtin.zeroCells (Value.float .f32 0).cells (grownCap w m 0 e - m)) e)) (fun a ha => ?_) ⟨w.heap.size, _, rfl, Nat.le_refl _, ?_, ?_⟩
  · simp only [execOp, resolve, invoke, builtin, List.map_toArray, List.map_cons, List.map_nil, ha.ev hx, ha.ev hy, Sem.run_bind, Sem.run_pure, Result.andThen_ok, h1]
  · have := (Row.new w.drew ((#[] : Array Value) ++ (fl xs).toArray ++ Builtin.zeroCells (Value.float .f32 0).cells (grownCap w m 0 e - m)) e).take m
    refine this.congr ?_
    simp [fl_len hl]
  · exact ((Mod.refl [] w).drew).trans (Mod.alloc _ _)

theorem op_shlL {t u : Nat} {x y : Operand} {k' : IntKind} {i j r : Int} (hx : ev ρ x = some (.int .u64 i)) (hy : ev ρ y = some (.int k' j)) (h0 : 0 ≤ j) (h1 : j ≤ 64) (h : IntKind.u64.wrap (i * 2 ^ j.toNat) = r) :
    Op1 P n ⟨dst, .binOp .shl t x y u, ty, pos, af, g⟩ ρ w (Det (.int .u64 r) w) := by
  subst h
  exact op_bin hx hy guard_int (by rw [binOp_shl, shift_shl .u64 k' i j h0 h1]; rfl)
theorem op_mkIf {t : Nat} {x : Operand} {v : Value} {k : IntKind} (hx : ev ρ x = some v) (hu : ∀ w, (underlying t).run P w = .ok (.int k) w) :
    Op1 P n ⟨dst, .makeInterface t x, ty, pos, af, g⟩ ρ w (Det (.iface t v) w) :=
  op_run (fun a ha => by simp [execOp, ha.ev hx, Instr.makeInterface, hu]) ⟨rfl, rfl⟩
theorem op_ne_if {t u tp : Nat} {x : Operand} {p : Value} {ms} (hx : ev ρ x = some (.iface tp p)) (ht : P.underlying t = some (.interface ms)) :
    Op1 P n ⟨dst, .binOp .neq t x (.const .nilIface) u, ty, pos, af, g⟩ ρ w (Det (.bool true) w) :=
  op_bin hx rfl (fun w => by rw [eqGuard_at_iface]; rfl) (run_neq_iface_nil w t (isIf ht) tp p)
theorem op_ne_nilif {t u : Nat} {x : Operand} {ms} (hx : ev ρ x = some .nilIface) (ht : P.underlying t = some (.interface ms)) :
    Op1 P n ⟨dst, .binOp .neq t x (.const .nilIface) u, ty, pos, af, g⟩ ρ w (Det (.bool false) w) :=
  op_bin hx rfl (fun w => by rw [eqGuard_nil_constR]; rfl) (run_neq_nil_nil_at w t (isIf ht))
end
theorem w_u32 {i : Int} (h0 : 0 ≤ i) (h1 : i ≤ 4294967295) : IntKind.u32.wrap i = i := by
  have a : IntKind.u32.wrap i = i % 4294967296 := rfl
  rw [a]; omega
theorem Own.outp {e : TypeId} {m lo : Nat} {w : World} {A : Option Addr} {n c : Nat} {xs : List Value} (h : Own e m lo w A n c xs) (hn : 0 < n) : ∃ b, A = some ⟨b, 0, none⟩ ∧ Row w b 0 xs ∧ lo ≤ b := by
  rcases h.own with ⟨rfl, _, _⟩ | ⟨g, cur, rfl, h2, h3, h4, _, h6, h7⟩
  · omega
  · refine ⟨g, rfl, ⟨cur, e, h3, fun i v hv => ?_⟩, h2⟩
    rw [← h7, List.getElem?_take] at hv
    split at hv
    · simpa using hv
    · cases hv
end Go.Proofs.YtpjjnopjpgnlaaaDoor
