/- Texts made of bytes; turned. -/
import Derived.Test.YtgafkbnlhlbmkaaBV
namespace Go.Proofs.Ytgafkbnlhlbmkaa
open Go.RowKit
section
variable {P : Program} {n : Nat} {S : Slots} {w : World} {o : Oper}
/-- s[i:j], bounds of any kind of integer. -/
theorem Ev.cutStrK {k1 k2 : IntKind} {T : TypeId} {x y z : Operand} {s : ByteArray} {i j : Nat} (ho : o.op = .slice T x (some y) (some z) none) (hx : ev S x = some (.string s)) (ht : P.underlying T = some .string)
    (hlo : ev S y = some (.int k1 i)) (hhi : ev S z = some (.int k2 j)) (hij : i ≤ j) (hj : j ≤ s.size) : Ev P n o S w (.string (s.extract i j)) := fun a ha => by
  simp only [execOp, ho]; rw [ha.eval hx]
  simp [Instr.sliceAt, Instr.slice, run_underlying ht, Instr.sliceBounds, Instr.sliceBound, ha.eval hlo, ha.eval hhi, asIntOf, hij, hj]
end
def w5 (b : UInt8) : UInt8 := ltr (b.toNat % 5)
def wrL (l : List UInt8) : List UInt8 := (l.take 190).map w5
abbrev s5 : List UInt8 := [84, 65, 68, 70, 63]
theorem s5_cut {n : Nat} (h : n < 5) : (s5.take (n + 1)).drop n = [ltr n] := by
  match n, h with
  | 0, _ => rfl
  | 1, _ => rfl
  | 2, _ => rfl
  | 3, _ => rfl
  | 4, _ => rfl
theorem take_min (l : List UInt8) (n : Nat) : (l.take (min l.length n)).drop 0 = l.take n := by rw [List.drop_zero, Nat.min_comm, ← List.take_take, List.take_length]
theorem w5_more {T : List UInt8} {i : Nat} {x : UInt8} (h : T[i]? = some x) : (T.take (i + 1)).map w5 = (T.take i).map w5 ++ [w5 x] := by rw [List.take_add_one, h, Option.toList_some, List.map_append]; rfl
theorem ltr_L (n : Nat) : isL (ltr n) = true := by unfold ltr; repeat' split
                                                   all_goals decide
theorem wrL_all (l : List UInt8) : (wrL l).all isL = true := by
  unfold wrL; rw [List.all_map, List.all_eq_true]; intro x _; exact ltr_L _
theorem wrL_len (l : List UInt8) : (wrL l).length ≤ l.length ∧ (wrL l).length ≤ 190 := by unfold wrL; rw [List.length_map, List.length_take]; omega
theorem flip_flip (c : UInt8) : flip (flip c) = c := by
  unfold flip
  by_cases h : c = 65
  · subst h; rfl
  · rw [if_neg h]
    by_cases h2 : c = 68
    · subst h2; rfl
    · rw [if_neg h2, if_neg h, if_neg h2]
theorem turn_turn (t : List UInt8) : turnL (turnL t) = t := by
  unfold turnL
  rw [List.map_reverse, List.reverse_reverse, List.map_map]
  exact (List.map_congr_left fun c _ => flip_flip c).trans (List.map_id t)
theorem turn_app (a b : List UInt8) : turnL (a ++ b) = turnL b ++ turnL a := by unfold turnL; rw [List.map_append, List.reverse_append]
theorem flip_L {c : UInt8} (h : isL c = true) : isL (flip c) = true := by
  unfold flip; split
  · decide
  · split
    · decide
    · exact h
theorem turn_all {t : List UInt8} (h : t.all isL = true) : (turnL t).all isL = true := by
  unfold turnL; rw [List.all_reverse, List.all_map, List.all_eq_true]; intro x hx; exact flip_L (List.all_eq_true.1 h x hx)
theorem err_0 {m : Nat} {t : List UInt8} (h : t.length + m ≤ 200) (ha : t.all isL = true) : errB m t = 0 := by unfold errB; rw [if_neg (by omega), if_pos ha]
theorem turnB_ok {t : List UInt8} (h : t.length ≤ 200) (ha : t.all isL = true) : turnB t = (turnL t, 0) := by unfold turnB; rw [if_pos (err_0 (by omega) ha)]
end Go.Proofs.Ytgafkbnlhlbmkaa
