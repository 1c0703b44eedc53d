/- Strings and bytes: append of a string, make with room, a rune as a string, a struct out of an array's value, bits of a byte. -/
import Derived.Test.YtehlnkhbbnddmaaLK
import Derived.Lib.AppendStr
import Derived.Lib.JoinLaws
namespace Go.Proofs.Ytehlnkhbbnddmaa
open Go.RowKit
theorem strCells_enc (s : List UInt8) : Lib.strCells ⟨s.toArray⟩ = s.flatMap encB := by
  show s.map _ = _
  induction s with
  | nil => rfl
  | cons b s ih => rw [List.map_cons, List.flatMap_cons, ih]; rfl
theorem encB_one (b : UInt8) : (encB b).all (·.oneCell') = true := rfl
section
variable {P : Program} {ops : Array Oper} {Q : Exit → Act → World → Prop} {n : Nat} {l : List Oper} {S : Slots} {w w' : World} {o : Oper} {d : Nat}
/-- append(own, string...) -/
theorem RG.appS {T U e B : Nat} {v : Value} {x y : Operand} {c : Call} {xs s : List UInt8} (hw : wantS ops S o = some true) (hd : o.dst = some d) (hdn : Nat.blt d n = true) (ho : o.op = .call c) (hc : c = { callee := .builtin .append, args := #[x, y], argTypes := #[T, U] })
    (hx : ev S x = some v) (hy : ev S y = some (.string ⟨s.toArray⟩)) (ht : P.underlying T = some (.slice e)) (hu : P.underlying U = some .string) (hi : (P.info? e).map (fun i => (i.zero, i.size, i.bytes)) = some (some (.int .u8 0), 1, 1))
    (hown : Own w B e 1 encB v xs) (hlen : xs.length + s.length ≤ maxLen) (hby : xs.length + s.length ≤ 140737488355328) (hbase : B ≤ w.heap.size)
    (kk : ∀ v' w', Own w' B e 1 encB v' (xs ++ s) → w.grownBy w' v.ownBlock → RG P ops Q n l ((d, v') :: S) w') : RG P ops Q n (o :: l) S w := by
  obtain ⟨i, hii, hz0, hz1, hz2⟩ := info_parts hi
  have hss : (⟨s.toArray⟩ : ByteArray).size = s.length := by simp [ByteArray.size]
  obtain ⟨v', w', hr, ho', hg, _⟩ := Lib.run_append_own_string (P := P) w B T U o.type e i ht hu hii hz0 hz1 hz2 v xs.length (xs.flatMap encB) hown ⟨s.toArray⟩ (by rw [hss]; exact hlen) (by rw [hss]; exact hby) hbase
  refine RG.run (v := v') (w' := w') hw hd hdn (fun a ha => ?_) (kk v' w' ?_ hg)
  · simp only [execOp, ho, hc]
    simp [resolve, invoke, builtin, ha.eval hx, ha.eval hy, hr]
  · unfold Own
    rw [List.length_append, List.flatMap_append, ← strCells_enc s, ← hss]; exact ho'
/-- make([]T, 0, m), cells of one. -/
theorem RG.makeCap {α : Type} {T e by_ m : Nat} {c : Int} {z : Value} {enc : α → List Value} {x y : Operand} {kx ky : IntKind} (hw : wantS ops S o = some true) (hd : o.dst = some d) (hdn : Nat.blt d n = true) (ho : o.op = .makeSlice T x y) (hx : ev S x = some (.int kx 0)) (hy : ev S y = some (.int ky c)) (hc : c = (m : Int))
    (ht : P.underlying T = some (.slice e)) (hi : (P.info? e).map (fun i => (i.zero, i.size, i.bytes)) = some (some z, 1, by_)) (hz1 : z.cells = #[z]) (hm : by_ * m ≤ 281474976710656) (hm2 : m ≤ maxLen)
    (kk : ∀ v w', Ex w w' → Own w' w.heap.size e 1 enc v [] → (∀ k, v.ownBlock = some k → w.heap.size ≤ k) → RG P ops Q n l ((d, v) :: S) w') : RG P ops Q n (o :: l) S w := by
  subst hc
  have hr := run_make_room T e z by_ ht hi hz1 kx ky m hm (by simp only [maxLen] at hm2; omega) w
  refine RG.run (v := .slice (some ⟨w.heap.size, 0, none⟩) 0 m) (w' := w.alloc (.cells (madeCells #[z] m) e)) hw hd hdn (fun a ha => ?_) (kk _ _ (Ex.of_alloc w _) ⟨rfl, .inr ⟨w.heap.size, m, madeCells #[z] m, rfl, Nat.le_refl _, heap_alloc_new w _, Nat.zero_le _, hm2, ?_, ?_⟩⟩ (fun k hk => by injection hk with hk; simp at hk; omega))
  · simp only [execOp, ho]; rw [ha.eval hx, ha.eval hy]
    simp [hr]
  · simp [madeCells]
  · simp
theorem Ev.runeStr {src dst : TypeId} {x : Operand} {k : IntKind} {p : Nat} (ho : o.op = .convert src dst x) (hx : ev S x = some (.int k (p : Int))) (hs : P.underlying src = some (.int k)) (hd : P.underlying dst = some .string) (hp : p < 128) : Ev P n o S w (.string ⟨[UInt8.ofNat p].toArray⟩) := fun a ha => by
  simp only [execOp, ho]; rw [ha.eval hx]
  have hv : Utf8.valid (p : Int) = true := by unfold Utf8.valid; simp; omega
  have he : Utf8.encode (p : Int) = ⟨[UInt8.ofNat p].toArray⟩ := by
    unfold Utf8.encode
    simp only [hv, if_true, Int.toNat_natCast]
    rw [if_pos (by omega)]
  simp [convert, run_underlying hs, run_underlying hd, Conv.intToString, he]
theorem Ev.to32 {src dst : TypeId} {x : Operand} {k : IntKind} {p : Int} {sd : TypeDesc} (ho : o.op = .convert src dst x) (hx : ev S x = some (.int k p)) (hs : P.underlying src = some sd) (hd : P.underlying dst = some (.int .i32))
    (hr : -2147483648 ≤ p ∧ p ≤ 2147483647) : Ev P n o S w (.int .i32 p) := (Ev.toInt ho hx hs hd).conv (by rw [IntWalk.i32_in _ hr])
theorem Ev.or8 {T T' : TypeId} {x y : Operand} {p q : Nat} (ho : o.op = .binOp .or T x y T') (hx : ev S x = some (.int .u8 p)) (hy : ev S y = some (.int .u8 q))
    (hp : p < 256) (hq : q < 256) : Ev P n o S w (.int .u8 ((p ||| q : Nat) : Int)) := fun a ha => by
  simp only [execOp, ho]; rw [ha.eval hx, ha.eval hy]
  simp only [eqGuard, binOp, Op.intBits]
  simp
  show IntKind.u8.wrap ((BitVec.ofInt 8 (p : Int) ||| BitVec.ofInt 8 (q : Int)).toNat : Int) = _
  rw [BitVec.toNat_or, ofInt8 p hp, ofInt8 q hq, u8_back _ (Nat.or_lt_two_pow (n := 8) (by omega) (by omega))]
theorem Ev.shl8 {T T' : TypeId} {x y : Operand} {yk : IntKind} {p q : Nat} (ho : o.op = .binOp .shl T x y T') (hx : ev S x = some (.int .u8 p)) (hy : ev S y = some (.int yk q)) (hq : q ≤ 8) (hr : p <<< q < 256) : Ev P n o S w (.int .u8 ((p <<< q : Nat) : Int)) :=
  (Ev.shlI ho hx hy (by omega)).conv (by rw [Int.toNat_natCast, show IntKind.u8.bits = 8 from rfl, Nat.min_eq_left hq, shl_cast, u8_back _ hr])
/-- A struct out of an array's value. -/
theorem Ev.idxAgg {T e len sz : Nat} {D : TypeDesc} {x y : Operand} {cs us : List Value} {k : IntKind} {i : Nat} (ho : o.op = .index T x y) (hx : ev S x = some (.agg cs.toArray)) (hy : ev S y = some (.int k i)) (ht : P.underlying T = some (.array len e)) (hE : P.underlying e = some D) (hD : aggD D = true)
    (hs : sizeP P e = some sz) (h1 : i < len) (hv : (cs.take (i * sz + sz)).drop (i * sz) = us) : Ev P n o S w (.agg us.toArray) := fun a ha => by
  simp only [execOp, ho]; rw [ha.eval hx, ha.eval hy]
  subst hv
  simp [Instr.index, asIntOf, run_underlying ht, run_sizeOf hs, h1, part, run_isAgg hE, hD, List.extract_toArray, List.drop_take]
theorem flat_at {α : Type} {sz : Nat} {enc : α → List Value} (hsz : ∀ a, (enc a).length = sz) (xs : List α) (i : Nat) (a : α) (h : xs[i]? = some a) : ((xs.flatMap enc).take (i * sz + sz)).drop (i * sz) = enc a := by
  apply List.ext_getElem?
  intro j
  rw [List.getElem?_drop, List.getElem?_take]
  by_cases hj : j < sz
  · rw [if_pos (by omega)]
    have hu : (enc a)[j]? = some ((enc a)[j]'(by rw [hsz]; exact hj)) := List.getElem?_eq_getElem _
    rw [hu]
    exact getElem?_flatMap_at hsz xs i a h j _ hu
  · rw [if_neg (by omega), List.getElem?_eq_none (by rw [hsz]; omega)]
end
end Go.Proofs.Ytehlnkhbbnddmaa
