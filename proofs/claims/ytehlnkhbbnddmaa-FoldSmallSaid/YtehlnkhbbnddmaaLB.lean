/- What each operation that leaves the world alone comes to: plain lemmas over any program. -/
import Derived.Test.YtehlnkhbbnddmaaLA
namespace Go.Proofs.Ytehlnkhbbnddmaa
open Go.RowKit

section
variable {P : Program} {n : Nat} {o : Oper} {S : Slots} {w : World}

theorem Ev.move {x : Operand} {v : Value} (ho : o.op = .move x) (hx : ev S x = some v) : Ev P n o S w v := fun a ha => by
  simp only [execOp, ho]; rw [ha.eval hx]; rfl
theorem Ev.assign {x : Operand} {v : Value} (ho : o.op = .assign x) (hx : ev S x = some v) : Ev P n o S w v := fun a ha => by
  simp only [execOp, ho]; rw [ha.eval hx]; rfl
theorem Ev.pickT {c x y : Operand} {v : Value} (ho : o.op = .pick c x y) (hc : ev S c = some (.bool true)) (hx : ev S x = some v) : Ev P n o S w v := fun a ha => by
  simp only [execOp, ho]; rw [ha.eval hc, ha.eval hx]; rfl
theorem Ev.pickF {c x y : Operand} {v : Value} (ho : o.op = .pick c x y) (hc : ev S c = some (.bool false)) (hx : ev S y = some v) : Ev P n o S w v := fun a ha => by
  simp only [execOp, ho]; rw [ha.eval hc, ha.eval hx]; rfl
theorem Ev.extract {x : Operand} {i : Nat} {vs : List Value} {v : Value} (ho : o.op = .extract x i) (hx : ev S x = some (.tuple vs.toArray)) (hv : vs[i]? = some v) : Ev P n o S w v := fun a ha => by
  simp only [execOp, ho]; rw [ha.eval hx]; simp [Instr.extract, hv]
theorem Ev.not {T : TypeId} {x : Operand} {b : Bool} (ho : o.op = .unOp .not T x) (hx : ev S x = some (.bool b)) : Ev P n o S w (.bool !b) := fun a ha => by
  simp only [execOp, ho]; rw [ha.eval hx]; rfl
theorem Ev.notP {T : TypeId} {x : Operand} {p : Prop} [Decidable p] (ho : o.op = .unOp .not T x) (hx : ev S x = some (.bool (decide p))) : Ev P n o S w (.bool (decide (¬ p))) := fun a ha => by
  rw [decide_not]; exact Ev.not ho hx a ha
theorem Ev.notT {T : TypeId} {x : Operand} (ho : o.op = .unOp .not T x) (hx : ev S x = some (.bool false)) : Ev P n o S w (.bool true) := Ev.not ho hx
theorem Ev.notF {T : TypeId} {x : Operand} (ho : o.op = .unOp .not T x) (hx : ev S x = some (.bool true)) : Ev P n o S w (.bool false) := Ev.not ho hx

theorem Ev.conv {u v : Value} (h : Ev P n o S w u) (e : u = v) : Ev P n o S w v := e ▸ h

/-! integers -/
theorem Ev.arith {op : BinOp} {T T' : TypeId} {x y : Operand} {k : IntKind} {p q r : Int} (ho : o.op = .binOp op T x y T') (hx : ev S x = some (.int k p)) (hy : ev S y = some (.int k q))
    (hr : (op = .add ∧ r = p + q) ∨ (op = .sub ∧ r = p - q) ∨ (op = .mul ∧ r = p * q)) : Ev P n o S w (.int k (k.wrap r)) := fun a ha => by
  simp only [execOp, ho]; rw [ha.eval hx, ha.eval hy]
  rcases hr with ⟨rfl, rfl⟩ | ⟨rfl, rfl⟩ | ⟨rfl, rfl⟩ <;> simp [eqGuard, binOp, Op.intArith]
theorem Ev.addI {T T' : TypeId} {x y : Operand} {p q : Int} (ho : o.op = .binOp .add T x y T') (hx : ev S x = some (.int .i64 p)) (hy : ev S y = some (.int .i64 q))
    (hr : -9223372036854775808 ≤ p + q ∧ p + q ≤ 9223372036854775807) : Ev P n o S w (.int .i64 (p + q)) :=
  (Ev.arith ho hx hy (.inl ⟨rfl, rfl⟩)).conv (by rw [IntWalk.i64_in _ hr])
theorem Ev.subI {T T' : TypeId} {x y : Operand} {p q : Int} (ho : o.op = .binOp .sub T x y T') (hx : ev S x = some (.int .i64 p)) (hy : ev S y = some (.int .i64 q))
    (hr : -9223372036854775808 ≤ p - q ∧ p - q ≤ 9223372036854775807) : Ev P n o S w (.int .i64 (p - q)) :=
  (Ev.arith ho hx hy (.inr (.inl ⟨rfl, rfl⟩))).conv (by rw [IntWalk.i64_in _ hr])
theorem Ev.mulI {T T' : TypeId} {x y : Operand} {p q : Int} (ho : o.op = .binOp .mul T x y T') (hx : ev S x = some (.int .i64 p)) (hy : ev S y = some (.int .i64 q))
    (hr : -9223372036854775808 ≤ p * q ∧ p * q ≤ 9223372036854775807) : Ev P n o S w (.int .i64 (p * q)) :=
  (Ev.arith ho hx hy (.inr (.inr ⟨rfl, rfl⟩))).conv (by rw [IntWalk.i64_in _ hr])
theorem Ev.add8 {T T' : TypeId} {x y : Operand} {p q : Int} (ho : o.op = .binOp .add T x y T') (hx : ev S x = some (.int .u8 p)) (hy : ev S y = some (.int .u8 q))
    (hr : 0 ≤ p + q ∧ p + q ≤ 255) : Ev P n o S w (.int .u8 (p + q)) :=
  (Ev.arith ho hx hy (.inl ⟨rfl, rfl⟩)).conv (by rw [IntWalk.u8_in _ hr])
theorem Ev.sub8 {T T' : TypeId} {x y : Operand} {p q : Int} (ho : o.op = .binOp .sub T x y T') (hx : ev S x = some (.int .u8 p)) (hy : ev S y = some (.int .u8 q))
    (hr : 0 ≤ p - q ∧ p - q ≤ 255) : Ev P n o S w (.int .u8 (p - q)) :=
  (Ev.arith ho hx hy (.inr (.inl ⟨rfl, rfl⟩))).conv (by rw [IntWalk.u8_in _ hr])
theorem Ev.negI {T : TypeId} {x : Operand} {p : Int} (ho : o.op = .unOp .neg T x) (hx : ev S x = some (.int .i64 p)) (hr : -9223372036854775807 ≤ p ∧ p ≤ 9223372036854775807) : Ev P n o S w (.int .i64 (-p)) := fun a ha => by
  simp only [execOp, ho]; rw [ha.eval hx]
  simp [Op.unary, Op.intArith]
  rw [IntWalk.i64_in _ (by omega)]
theorem Ev.lss {T T' : TypeId} {x y : Operand} {k : IntKind} {p q : Int} (ho : o.op = .binOp .lss T x y T') (hx : ev S x = some (.int k p)) (hy : ev S y = some (.int k q)) : Ev P n o S w (.bool (decide (p < q))) := fun a ha => by
  simp only [execOp, ho]; rw [ha.eval hx, ha.eval hy]; simp [eqGuard, binOp, Op.intCmp]
theorem Ev.leq {T T' : TypeId} {x y : Operand} {k : IntKind} {p q : Int} (ho : o.op = .binOp .leq T x y T') (hx : ev S x = some (.int k p)) (hy : ev S y = some (.int k q)) : Ev P n o S w (.bool (decide (p ≤ q))) := fun a ha => by
  simp only [execOp, ho]; rw [ha.eval hx, ha.eval hy]; simp [eqGuard, binOp, Op.intCmp]
theorem Ev.gtr {T T' : TypeId} {x y : Operand} {k : IntKind} {p q : Int} (ho : o.op = .binOp .gtr T x y T') (hx : ev S x = some (.int k p)) (hy : ev S y = some (.int k q)) : Ev P n o S w (.bool (decide (q < p))) := fun a ha => by
  simp only [execOp, ho]; rw [ha.eval hx, ha.eval hy]; simp [eqGuard, binOp, Op.intCmp]
theorem Ev.geq {T T' : TypeId} {x y : Operand} {k : IntKind} {p q : Int} (ho : o.op = .binOp .geq T x y T') (hx : ev S x = some (.int k p)) (hy : ev S y = some (.int k q)) : Ev P n o S w (.bool (decide (q ≤ p))) := fun a ha => by
  simp only [execOp, ho]; rw [ha.eval hx, ha.eval hy]; simp [eqGuard, binOp, Op.intCmp]
theorem Ev.eqI {T T' : TypeId} {x y : Operand} {k : IntKind} {p q : Int} (ho : o.op = .binOp .eql T x y T') (hx : ev S x = some (.int k p)) (hy : ev S y = some (.int k q)) : Ev P n o S w (.bool (decide (p = q))) := fun a ha => by
  simp only [execOp, ho]; rw [ha.eval hx, ha.eval hy]; simp [eqGuard, binOp, Op.intCmp]; rfl
theorem Ev.neI {T T' : TypeId} {x y : Operand} {k : IntKind} {p q : Int} (ho : o.op = .binOp .neq T x y T') (hx : ev S x = some (.int k p)) (hy : ev S y = some (.int k q)) : Ev P n o S w (.bool (decide (p ≠ q))) := fun a ha => by
  simp only [execOp, ho]; rw [ha.eval hx, ha.eval hy]; simp [eqGuard, binOp, Op.intCmp]; rfl
/-- A test whose answer is known. -/
theorem Ev.isT {p : Prop} [Decidable p] (h : Ev P n o S w (.bool (decide p))) (hp : p) : Ev P n o S w (.bool true) := h.conv (by rw [decide_eq_true hp])
theorem Ev.isF {p : Prop} [Decidable p] (h : Ev P n o S w (.bool (decide p))) (hp : ¬ p) : Ev P n o S w (.bool false) := h.conv (by rw [decide_eq_false hp])
theorem Ev.quoI {T T' : TypeId} {x y : Operand} {p q : Int} (ho : o.op = .binOp .quo T x y T') (hx : ev S x = some (.int .i64 p)) (hy : ev S y = some (.int .i64 q))
    (hr : 0 ≤ p ∧ p ≤ 9223372036854775807 ∧ 1 ≤ q) : Ev P n o S w (.int .i64 (p / q)) := fun a ha => by
  simp only [execOp, ho]; rw [ha.eval hx, ha.eval hy]
  simp [eqGuard, binOp, Op.intDiv, show ¬ q = 0 from by omega]
  rw [IntWalk.i64_quo _ _ hr]
theorem Ev.remI {T T' : TypeId} {x y : Operand} {p q : Int} (ho : o.op = .binOp .rem T x y T') (hx : ev S x = some (.int .i64 p)) (hy : ev S y = some (.int .i64 q))
    (hr : 0 ≤ p ∧ 1 ≤ q) : Ev P n o S w (.int .i64 (p % q)) := fun a ha => by
  simp only [execOp, ho]; rw [ha.eval hx, ha.eval hy]
  simp [eqGuard, binOp, Op.intDiv, show ¬ q = 0 from by omega]
  rw [IntWalk.rem_in _ _ hr.1]
/-- A remainder of whatever sign. -/
theorem Ev.remT {T T' : TypeId} {x y : Operand} {p q : Int} (ho : o.op = .binOp .rem T x y T') (hx : ev S x = some (.int .i64 p)) (hy : ev S y = some (.int .i64 q))
    (hr : q ≠ 0) : Ev P n o S w (.int .i64 (p.tmod q)) := fun a ha => by
  simp only [execOp, ho]; rw [ha.eval hx, ha.eval hy]
  simp [eqGuard, binOp, Op.intDiv, hr]
theorem Ev.quo8 {T T' : TypeId} {x y : Operand} {p q : Int} (ho : o.op = .binOp .quo T x y T') (hx : ev S x = some (.int .u8 p)) (hy : ev S y = some (.int .u8 q))
    (hr : 0 ≤ p ∧ p ≤ 255 ∧ 1 ≤ q) : Ev P n o S w (.int .u8 (p / q)) := fun a ha => by
  simp only [execOp, ho]; rw [ha.eval hx, ha.eval hy]
  simp [eqGuard, binOp, Op.intDiv, show ¬ q = 0 from by omega]
  rw [IntWalk.u8_quo _ _ hr]
theorem Ev.rem8 {T T' : TypeId} {x y : Operand} {p q : Int} (ho : o.op = .binOp .rem T x y T') (hx : ev S x = some (.int .u8 p)) (hy : ev S y = some (.int .u8 q))
    (hr : 0 ≤ p ∧ 1 ≤ q) : Ev P n o S w (.int .u8 (p % q)) := fun a ha => by
  simp only [execOp, ho]; rw [ha.eval hx, ha.eval hy]
  simp [eqGuard, binOp, Op.intDiv, show ¬ q = 0 from by omega]
  rw [IntWalk.rem_in _ _ hr.1]
/-- The bits of two bytes. -/
theorem u8_back (r : Nat) (h : r < 256) : IntKind.u8.wrap (r : Int) = r := IntWalk.u8_in _ (by omega)
theorem ofInt8 (p : Nat) (h : p < 256) : (BitVec.ofInt 8 (p : Int)).toNat = p := by
  rw [BitVec.ofInt_natCast, BitVec.toNat_ofNat]; exact Nat.mod_eq_of_lt (by omega)
theorem Ev.xor8 {T T' : TypeId} {x y : Operand} {p q : Nat} (ho : o.op = .binOp .xor T x y T') (hx : ev S x = some (.int .u8 p)) (hy : ev S y = some (.int .u8 q))
    (hp : p < 256) (hq : q < 256) : Ev P n o S w (.int .u8 ((p ^^^ q : Nat) : Int)) := fun a ha => by
  simp only [execOp, ho]; rw [ha.eval hx, ha.eval hy]
  simp only [eqGuard, binOp, Op.intBits]
  simp
  show IntKind.u8.wrap ((BitVec.ofInt 8 (p : Int) ^^^ BitVec.ofInt 8 (q : Int)).toNat : Int) = _
  rw [BitVec.toNat_xor, ofInt8 p hp, ofInt8 q hq, u8_back _ (Nat.xor_lt_two_pow (n := 8) (by omega) (by omega))]
theorem Ev.and8 {T T' : TypeId} {x y : Operand} {p q : Nat} (ho : o.op = .binOp .and T x y T') (hx : ev S x = some (.int .u8 p)) (hy : ev S y = some (.int .u8 q))
    (hp : p < 256) (hq : q < 256) : Ev P n o S w (.int .u8 ((p &&& q : Nat) : Int)) := fun a ha => by
  simp only [execOp, ho]; rw [ha.eval hx, ha.eval hy]
  simp only [eqGuard, binOp, Op.intBits]
  simp
  show IntKind.u8.wrap ((BitVec.ofInt 8 (p : Int) &&& BitVec.ofInt 8 (q : Int)).toNat : Int) = _
  rw [BitVec.toNat_and, ofInt8 p hp, ofInt8 q hq, u8_back _ (Nat.and_lt_two_pow (n := 8) _ (by omega))]
theorem Ev.toInt {src dst : TypeId} {x : Operand} {k k' : IntKind} {p : Int} {sd : TypeDesc} (ho : o.op = .convert src dst x) (hx : ev S x = some (.int k p)) (hs : P.underlying src = some sd) (hd : P.underlying dst = some (.int k')) : Ev P n o S w (.int k' (k'.wrap p)) := fun a ha => by
  simp only [execOp, ho]; rw [ha.eval hx]
  simp [convert, run_underlying hs, run_underlying hd, Conv.intToInt]
theorem Ev.to64 {src dst : TypeId} {x : Operand} {k : IntKind} {p : Int} {sd : TypeDesc} (ho : o.op = .convert src dst x) (hx : ev S x = some (.int k p)) (hs : P.underlying src = some sd) (hd : P.underlying dst = some (.int .i64))
    (hr : -9223372036854775808 ≤ p ∧ p ≤ 9223372036854775807) : Ev P n o S w (.int .i64 p) := (Ev.toInt ho hx hs hd).conv (by rw [IntWalk.i64_in _ hr])
theorem Ev.to8 {src dst : TypeId} {x : Operand} {k : IntKind} {p : Int} {sd : TypeDesc} (ho : o.op = .convert src dst x) (hx : ev S x = some (.int k p)) (hs : P.underlying src = some sd) (hd : P.underlying dst = some (.int .u8))
    (hr : 0 ≤ p ∧ p ≤ 255) : Ev P n o S w (.int .u8 p) := (Ev.toInt ho hx hs hd).conv (by rw [IntWalk.u8_in _ hr])

/-! builtins that only look -/
theorem Ev.lenSlice {T e : TypeId} {x : Operand} {c : Call} {A : Option Addr} {m cap : Nat} (ho : o.op = .call c) (hc : c = { callee := .builtin .len, args := #[x], argTypes := #[T] }) (hx : ev S x = some (.slice A m cap)) (ht : P.underlying T = some (.slice e)) : Ev P n o S w (.int .i64 m) := fun a ha => by
  simp only [execOp, ho, hc]
  simp [resolve, invoke, builtin, Builtin.len_, run_underlying ht, ha.eval hx, goInt]
theorem Ev.lenStr {T : TypeId} {x : Operand} {c : Call} {s : ByteArray} (ho : o.op = .call c) (hc : c = { callee := .builtin .len, args := #[x], argTypes := #[T] }) (hx : ev S x = some (.string s)) (ht : P.underlying T = some .string) : Ev P n o S w (.int .i64 s.size) := fun a ha => by
  simp only [execOp, ho, hc]
  simp [resolve, invoke, builtin, Builtin.len_, run_underlying ht, ha.eval hx, goInt]
theorem Ev.lenArr {T e : TypeId} {m : Nat} {x : Operand} {c : Call} {v : Value} (ho : o.op = .call c) (hc : c = { callee := .builtin .len, args := #[x], argTypes := #[T] }) (hx : ev S x = some v) (ht : P.underlying T = some (.array m e)) : Ev P n o S w (.int .i64 m) := fun a ha => by
  simp only [execOp, ho, hc]
  simp [resolve, invoke, builtin, Builtin.len_, run_underlying ht, ha.eval hx, goInt]
theorem Ev.min2 {T T' : TypeId} {x y : Operand} {c : Call} {k : IntKind} {p q : Int} (ho : o.op = .call c) (hc : c = { callee := .builtin .min, args := #[x, y], argTypes := #[T, T'] }) (hx : ev S x = some (.int k p)) (hy : ev S y = some (.int k q)) : Ev P n o S w (.int k (min p q)) := fun a ha => by
  simp only [execOp, ho, hc]
  simp [resolve, invoke, builtin, Builtin.min_, Builtin.min2, ha.eval hx, ha.eval hy]
  split <;> omega
theorem Ev.max2 {T T' : TypeId} {x y : Operand} {c : Call} {k : IntKind} {p q : Int} (ho : o.op = .call c) (hc : c = { callee := .builtin .max, args := #[x, y], argTypes := #[T, T'] }) (hx : ev S x = some (.int k p)) (hy : ev S y = some (.int k q)) : Ev P n o S w (.int k (max p q)) := fun a ha => by
  simp only [execOp, ho, hc]
  simp [resolve, invoke, builtin, Builtin.max_, Builtin.max2, ha.eval hx, ha.eval hy]
  split <;> omega
theorem Ev.min3 {T T' T'' : TypeId} {x y z : Operand} {c : Call} {k : IntKind} {p q r : Int} (ho : o.op = .call c) (hc : c = { callee := .builtin .min, args := #[x, y, z], argTypes := #[T, T', T''] }) (hx : ev S x = some (.int k p)) (hy : ev S y = some (.int k q)) (hz : ev S z = some (.int k r)) : Ev P n o S w (.int k (min (min p q) r)) := fun a ha => by
  simp only [execOp, ho, hc]
  simp [resolve, invoke, builtin, Builtin.min_, Builtin.min2, ha.eval hx, ha.eval hy, ha.eval hz]
  split <;> split <;> omega

/-! strings -/
theorem Ev.eqS {T T' : TypeId} {x y : Operand} {s t : ByteArray} (ho : o.op = .binOp .eql T x y T') (hx : ev S x = some (.string s)) (hy : ev S y = some (.string t)) : Ev P n o S w (.bool (decide (s = t))) := fun a ha => by
  simp only [execOp, ho]; rw [ha.eval hx, ha.eval hy]
  simp only [eqGuard, binOp, Op.stringOp]
  simp
  have e : (s.toList == t.toList) = decide (s = t) := by
    rw [Bool.eq_iff_iff]; simp only [beq_iff_eq, decide_eq_true_eq, ByteArray.toList_eq]
    constructor
    · intro h; cases s; cases t; simp only [ByteArray.mk.injEq]; exact Array.toList_inj.1 h
    · rintro rfl; rfl
  exact e
theorem Ev.neS {T T' : TypeId} {x y : Operand} {s t : ByteArray} (ho : o.op = .binOp .neq T x y T') (hx : ev S x = some (.string s)) (hy : ev S y = some (.string t)) : Ev P n o S w (.bool (decide (s ≠ t))) := fun a ha => by
  simp only [execOp, ho]; rw [ha.eval hx, ha.eval hy]
  simp only [eqGuard, binOp, Op.stringOp]
  simp
  have e : (s.toList == t.toList) = decide (s = t) := by
    rw [Bool.eq_iff_iff]; simp only [beq_iff_eq, decide_eq_true_eq, ByteArray.toList_eq]
    constructor
    · intro h; cases s; cases t; simp only [ByteArray.mk.injEq]; exact Array.toList_inj.1 h
    · rintro rfl; rfl
  simp [e]
theorem Ev.cat {T T' : TypeId} {x y : Operand} {s t : ByteArray} (ho : o.op = .binOp .add T x y T') (hx : ev S x = some (.string s)) (hy : ev S y = some (.string t)) (hl : (s.size + t.size : Nat) ≤ 9223372036854775807) : Ev P n o S w (.string (s ++ t)) := fun a ha => by
  simp only [execOp, ho]; rw [ha.eval hx, ha.eval hy]
  simp only [eqGuard, binOp, Op.stringOp]
  simp
  show (s.size : Int) + (t.size : Int) ≤ 9223372036854775807
  omega
theorem Ev.byteAt {T : TypeId} {x y : Operand} {k : IntKind} {s : ByteArray} {i : Int} {b : UInt8} (ho : o.op = .index T x y) (hx : ev S x = some (.string s)) (hy : ev S y = some (.int k i)) (ht : P.underlying T = some .string) (h0 : 0 ≤ i) (hb : s.data.toList[i.toNat]? = some b) : Ev P n o S w (.int .u8 b.toNat) := fun a ha => by
  simp only [execOp, ho]; rw [ha.eval hx, ha.eval hy]
  have : s[i.toNat]? = some b := by
    rw [← hb]; simp; rfl
  simp [Instr.index, asIntOf, run_underlying ht, h0, this]
theorem Ev.cutStr {T : TypeId} {x : Operand} {lo hi : Option Operand} {s : ByteArray} {i j : Nat} (ho : o.op = .slice T x lo hi none) (hx : ev S x = some (.string s)) (ht : P.underlying T = some .string)
    (hlo : match lo with | none => i = 0 | some y => ev S y = some (.int .i64 i)) (hhi : match hi with | none => j = s.size | some y => ev S y = some (.int .i64 j)) (hij : i ≤ j) (hj : j ≤ s.size) : Ev P n o S w (.string (s.extract i j)) := fun a ha => by
  simp only [execOp, ho]; rw [ha.eval hx]
  cases lo <;> cases hi <;> simp only at hlo hhi
  · subst hlo hhi
    simp [Instr.sliceAt, Instr.slice, run_underlying ht, Instr.sliceBounds]
  · subst hlo
    simp [Instr.sliceAt, Instr.slice, run_underlying ht, Instr.sliceBounds, Instr.sliceBound, ha.eval hhi, asIntOf, hj]
  · subst hhi
    simp [Instr.sliceAt, Instr.slice, run_underlying ht, Instr.sliceBounds, Instr.sliceBound, ha.eval hlo, asIntOf, hij]
  · simp [Instr.sliceAt, Instr.slice, run_underlying ht, Instr.sliceBounds, Instr.sliceBound, ha.eval hlo, ha.eval hhi, asIntOf, hij, hj]
end
end Go.Proofs.Ytehlnkhbbnddmaa
