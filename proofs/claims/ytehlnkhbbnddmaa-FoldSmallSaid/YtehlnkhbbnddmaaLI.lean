/- Shifts, bits of words, capacity, slices up to the capacity. -/
import Derived.Test.YtehlnkhbbnddmaaLH
import Derived.Laws.Shifts
namespace Go.Proofs.Ytehlnkhbbnddmaa
open Go.RowKit
section
variable {P : Program} {ops : Array Oper} {Q : Exit → Act → World → Prop} {n : Nat} {l : List Oper} {S : Slots} {w w' : World} {o : Oper} {d : Nat}
theorem Ev.shrI {T T' : TypeId} {x y : Operand} {k yk : IntKind} {p q : Int} (ho : o.op = .binOp .shr T x y T') (hx : ev S x = some (.int k p)) (hy : ev S y = some (.int yk q)) (hq : 0 ≤ q) : Ev P n o S w (.int k (p / 2 ^ min q.toNat k.bits)) := fun a ha => by
  simp only [execOp, ho]; rw [ha.eval hx, ha.eval hy]
  simp only [eqGuard, binOp, shift_shr_any k yk p q hq]
  simp
theorem Ev.shlI {T T' : TypeId} {x y : Operand} {k yk : IntKind} {p q : Int} (ho : o.op = .binOp .shl T x y T') (hx : ev S x = some (.int k p)) (hy : ev S y = some (.int yk q)) (hq : 0 ≤ q) : Ev P n o S w (.int k (k.wrap (p * 2 ^ min q.toNat k.bits))) := fun a ha => by
  simp only [execOp, ho]; rw [ha.eval hx, ha.eval hy]
  simp only [eqGuard, binOp, shift_shl_any k yk p q hq]
  simp
theorem shr_cast (p q : Nat) : (p : Int) / 2 ^ q = ((p >>> q : Nat) : Int) := by
  rw [Nat.shiftRight_eq_div_pow, Int.natCast_ediv, Int.natCast_pow]; rfl
theorem shl_cast (p q : Nat) : (p : Int) * 2 ^ q = ((p <<< q : Nat) : Int) := by
  rw [Nat.shiftLeft_eq, Int.natCast_mul, Int.natCast_pow]; rfl
theorem i64_nat (r : Nat) (h : r < 9223372036854775808) : IntKind.i64.wrap (r : Int) = r := IntWalk.i64_in _ (by omega)
theorem Ev.shrN {T T' : TypeId} {x y : Operand} {k yk : IntKind} {p q : Nat} (ho : o.op = .binOp .shr T x y T') (hx : ev S x = some (.int k p)) (hy : ev S y = some (.int yk q)) (hq : q ≤ k.bits) : Ev P n o S w (.int k ((p >>> q : Nat) : Int)) :=
  (Ev.shrI ho hx hy (by omega)).conv (by rw [Int.toNat_natCast, Nat.min_eq_left hq, shr_cast])
theorem Ev.shlN {T T' : TypeId} {x y : Operand} {yk : IntKind} {p q : Nat} (ho : o.op = .binOp .shl T x y T') (hx : ev S x = some (.int .i64 p)) (hy : ev S y = some (.int yk q)) (hq : q ≤ 64) (hr : p <<< q < 9223372036854775808) : Ev P n o S w (.int .i64 ((p <<< q : Nat) : Int)) :=
  (Ev.shlI ho hx hy (by omega)).conv (by rw [Int.toNat_natCast, show IntKind.i64.bits = 64 from rfl, Nat.min_eq_left hq, shl_cast, i64_nat _ hr])
theorem ofInt64 (p : Nat) (h : p < 9223372036854775808) : (BitVec.ofInt 64 (p : Int)).toNat = p := by
  rw [BitVec.ofInt_natCast, BitVec.toNat_ofNat]; exact Nat.mod_eq_of_lt (by omega)
theorem Ev.xor64 {T T' : TypeId} {x y : Operand} {p q : Nat} (ho : o.op = .binOp .xor T x y T') (hx : ev S x = some (.int .i64 p)) (hy : ev S y = some (.int .i64 q))
    (hp : p < 9223372036854775808) (hq : q < 9223372036854775808) : Ev P n o S w (.int .i64 ((p ^^^ q : Nat) : Int)) := fun a ha => by
  simp only [execOp, ho]; rw [ha.eval hx, ha.eval hy]
  simp only [eqGuard, binOp, Op.intBits]
  simp
  show IntKind.i64.wrap ((BitVec.ofInt 64 (p : Int) ^^^ BitVec.ofInt 64 (q : Int)).toNat : Int) = _
  have := Nat.xor_lt_two_pow (n := 63) (x := p) (y := q) hp hq
  rw [BitVec.toNat_xor, ofInt64 p hp, ofInt64 q hq, IntWalk.i64_in _ (by omega)]
theorem Ev.capSlice {T e : TypeId} {x : Operand} {c : Call} {A : Option Addr} {m cap : Nat} (ho : o.op = .call c) (hc : c = { callee := .builtin .cap, args := #[x], argTypes := #[T] }) (hx : ev S x = some (.slice A m cap)) (ht : P.underlying T = some (.slice e)) : Ev P n o S w (.int .i64 cap) := fun a ha => by
  simp only [execOp, ho, hc]
  simp [resolve, invoke, builtin, Builtin.cap_, run_underlying ht, ha.eval hx, goInt]
/-- x[:hi], up to the capacity. -/
theorem Ev.upTo {T e sz m c H : Nat} {ad : Addr} {x y : Operand} {k : IntKind} (ho : o.op = .slice T x none (some y) none) (hx : ev S x = some (.slice (some ad) m c)) (hy : ev S y = some (.int k (H : Int)))
    (ht : P.underlying T = some (.slice e)) (hs : sizeP P e = some sz) (hc : H ≤ c) : Ev P n o S w (.slice (some ad) H c) := fun a ha => by
  have key : (Instr.sliceBounds true m c (none : Option Value) (some (a.eval y)) none).run P w = .ok (0, H, c) w := by
    simp [Instr.sliceBounds, Instr.sliceBound, asIntOf, ha.eval hy, hc]
  simp only [execOp, ho]; rw [ha.eval hx]
  simp only [Instr.sliceAt, Instr.slice, Option.map_none, Option.map_some, Sem.run_bind, run_underlying ht, Result.andThen, key, run_sizeOf hs, Sem.run_pure]
  simp [add_zero_]
end
end Go.Proofs.Ytehlnkhbbnddmaa
