/- Steps: an array of four numbers against zeros; an array as a slice. -/
import Derived.Test.YtjhgihgggofocaaSD
import Derived.Test.YtjhgihgggofocaaLU
import Derived.ChangeKeysEq
namespace Go.Proofs.Ytjhgihgggofocaa
open Go.RowKit
section
variable {P : Program} {n : Nat} {S : Slots} {w : World} {o : Oper}
theorem Ev.eq4 {T T' e by_ : Nat} {zz : Value} {x y : Operand} {a b c d : Int} (ho : o.op = .binOp .eql T x y T') (hx : ev S x = some (.agg ([.int .u8 a, .int .u8 b, .int .u8 c, .int .u8 d] : List Value).toArray)) (hy : ev S y = some (.agg ([.int .u8 0, .int .u8 0, .int .u8 0, .int .u8 0] : List Value).toArray))
    (ht : P.underlying T = some (.array 4 e)) (he : P.underlying e = some (.int .u8)) (hi : (P.info? e).map (fun i => (i.zero, i.size, i.bytes)) = some (some zz, 1, by_)) (hg : P.eqGuardType P.depth T = false) : Ev P n o S w (.bool (decide (a = 0 ∧ b = 0 ∧ c = 0 ∧ d = 0))) := fun act ha => by
  obtain ⟨i, hii, _, hz1, _⟩ := info_parts hi
  simp only [execOp, ho]; rw [ha.eval hx, ha.eval hy]
  have hc : P.cellsOf e = 1 := by simp [Program.cellsOf, hii, hz1]
  have h := run_equalIn_array (P := P) (w := w) 9999 ([.int .u8 a, .int .u8 b, .int .u8 c, .int .u8 d] : List Value).toArray ([.int .u8 0, .int .u8 0, .int .u8 0, .int .u8 0] : List Value).toArray ht hii
  have hI : ∀ (w : World) (p q : Int), (Op.equalIn 9999 e (.int .u8 p) (.int .u8 q)).run P w = .ok (p == q) w := fun w p q => run_equalIn_int w 9998 e .u8 .u8 p q he
  have hA : ∀ w : World, (isAgg e).run P w = .ok false w := fun w => by rw [run_isAgg he]; rfl
  have e2 : (Op.equalIn 10000 T (.agg ([.int .u8 a, .int .u8 b, .int .u8 c, .int .u8 d] : List Value).toArray) (.agg ([.int .u8 0, .int .u8 0, .int .u8 0, .int .u8 0] : List Value).toArray)).run P w = .ok (decide (a = 0 ∧ b = 0 ∧ c = 0 ∧ d = 0)) w := by
    rw [show (10000 : Nat) = 9999 + 1 from rfl, h, hc]
    simp only [List.range_succ, List.range_zero, List.nil_append, List.cons_append, Op.eqItems, part, Sem.run_bind, hA, Result.andThen_ok]
    by_cases ha : a = 0
    · by_cases hb : b = 0
      · by_cases hc : c = 0
        · by_cases hd : d = 0
          · simp [hI, hA, ha, hb, hc, hd]
          · simp [hI, hA, ha, hb, hc, hd]
        · simp [hI, hA, ha, hb, hc]
      · simp [hI, hA, ha, hb]
    · simp [hI, hA, ha]
  simp [run_eqGuard_agg w _ _ _ _ _ _ hg, run_eql_struct, e2]
theorem Ev.buildAZ {T e len sz sz' by_ : Nat} {z : Value} {zs : List Value} (ho : o.op = .build T #[]) (ht : P.underlying T = some (.array len e)) (hs : sizeP P e = some sz) (hi : (P.info? T).map (fun i => (i.zero, i.size, i.bytes)) = some (some z, sz', by_)) (hz : z.cells = zs.toArray) : Ev P n o S w (.agg zs.toArray) := fun a ha => by
  obtain ⟨i, hii, hz0, hz1, hz2⟩ := info_parts hi
  simp only [execOp, ho, Instr.build, Sem.run_bind, zeroValue, typeInfo, run_underlying ht]
  simp [hii, hz0, run_sizeOf hs, hz, Instr.fill]
theorem Ev.sliceArr {T e sz m : Nat} {x : Operand} {ad : Addr} (ho : o.op = .slice T x none none none) (hx : ev S x = some (.pointer (some ad))) (ht : P.underlying T = some (.array m e)) (hs : sizeP P e = some sz) : Ev P n o S w (.slice (some ad) m m) := fun a ha => by
  simp only [execOp, ho]; rw [ha.eval hx]
  simp [Instr.sliceAt, Instr.sureAddr, Instr.sliceBounds, run_underlying ht, run_sizeOf hs, add_zero_]
end
/-- A word of which nothing is left over. -/
theorem syn_zero {l : List Nat} : (((sy l 0 : Nat) : Int) = 0 ∧ ((sy l 1 : Nat) : Int) = 0 ∧ ((sy l 2 : Nat) : Int) = 0 ∧ ((sy l 3 : Nat) : Int) = 0) ↔ ∀ r, r < 4 → sy l r = 0 := by
  constructor
  · rintro ⟨h0, h1, h2, h3⟩ r hr
    match r, hr with
    | 0, _ => omega
    | 1, _ => omega
    | 2, _ => omega
    | 3, _ => omega
  · intro h
    have := h 0 (by omega); have := h 1 (by omega); have := h 2 (by omega); have := h 3 (by omega)
    omega
def vldB (l : List Nat) : Bool := isW l && decide (((sy l 0 : Nat) : Int) = 0 ∧ ((sy l 1 : Nat) : Int) = 0 ∧ ((sy l 2 : Nat) : Int) = 0 ∧ ((sy l 3 : Nat) : Int) = 0)
theorem vldB_iff {l : List Nat} : vldB l = true ↔ isW l = true ∧ ∀ r, r < 4 → sy l r = 0 := by unfold vldB; rw [Bool.and_eq_true, decide_eq_true_eq, syn_zero]
def encOk (l : List Nat) : Bool := decide (1 ≤ l.length) && decide (l.length ≤ 59) && areE l
theorem encOk_iff {l : List Nat} : encOk l = true ↔ 1 ≤ l.length ∧ l.length ≤ 59 ∧ El l := by
  unfold encOk; rw [Bool.and_eq_true, Bool.and_eq_true, decide_eq_true_eq, decide_eq_true_eq, areE_el, and_assoc]
theorem El.zeros (k : Nat) : El (List.replicate k 0) := fun a h => by rw [List.eq_of_mem_replicate h]; decide
end Go.Proofs.Ytjhgihgggofocaa
