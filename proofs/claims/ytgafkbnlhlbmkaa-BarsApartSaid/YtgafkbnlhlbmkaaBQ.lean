/- Plain: letters of bars, runes. -/
import Derived.Test.YtgafkbnlhlbmkaaLV
namespace Go.Proofs.Ytgafkbnlhlbmkaa
open Go.RowKit
def isL (c : UInt8) : Bool := decide (c.toNat = 84 ∨ c.toNat = 65 ∨ c.toNat = 68 ∨ c.toNat = 70 ∨ c.toNat = 63)
def errB (m : Nat) (t : List UInt8) : Int := if 200 < t.length + m then 3 else if t.all isL then 0 else 2
theorem sb_len (t : List UInt8) : (⟨t.toArray⟩ : ByteArray).size = t.length := by simp [ByteArray.size]
abbrev s4 : List UInt8 := [84, 65, 68, 70]
/-- The letters of a rune that is none of the first 128. -/
theorem enc_hi {r : Nat} (h : 128 ≤ r) : ∃ (E : List UInt8) (z : UInt8), Utf8.encode (r : Int) = ⟨E.toArray⟩ ∧ 2 ≤ E.length ∧ E.length ≤ 4 ∧ E[E.length - 1]? = some z ∧ 128 ≤ z.toNat := by
  have hb : ∀ n, n < 64 → 128 ≤ (UInt8.ofNat (0x80 + n)).toNat := fun n hn => by
    rw [UInt8.toNat_ofNat_of_lt' (show 0x80 + n < 256 by omega)]; omega
  unfold Utf8.encode
  simp only [Int.toNat_natCast]
  generalize hc : (if Utf8.valid (r : Int) = true then r else Utf8.runeError) = c
  have hc128 : 128 ≤ c := by rw [← hc]; unfold Utf8.runeError; split <;> omega
  rw [if_neg (by omega)]
  split
  · exact ⟨[_, _], _, rfl, by simp, by simp, rfl, hb _ (Nat.mod_lt _ (by omega))⟩
  · split
    · exact ⟨[_, _, _], _, rfl, by simp, by simp, rfl, hb _ (Nat.mod_lt _ (by omega))⟩
    · exact ⟨[_, _, _, _], _, rfl, by simp, by simp, rfl, hb _ (Nat.mod_lt _ (by omega))⟩
theorem idx_neg {z : UInt8} (h : 128 ≤ z.toNat) : ∀ {l : List UInt8}, (∀ c ∈ l, c.toNat < 128) → Lib.indexByte l z < 0
  | [], _ => by simp [Lib.indexByte]
  | b :: l, hl => by
    have hb := hl b (by simp)
    have ih := idx_neg h (l := l) (fun c hc => hl c (List.mem_cons_of_mem _ hc))
    have hge := Lib.indexByte_ge l z
    have hm : Lib.indexByte l z = -1 := by omega
    unfold Lib.indexByte
    rw [if_neg (by simp; intro e; subst e; omega), if_pos (by simp [hm])]
    decide
theorem s4_lo : ∀ c ∈ s4, c.toNat < 128 := by decide
theorem s4_cut (i j : Nat) : ∀ c ∈ (s4.take j).drop i, c.toNat < 128 := fun c hc => s4_lo c (List.mem_of_mem_take (List.mem_of_mem_drop hc))
theorem idx_s4 (r : Nat) (h : r < 128) : (0 ≤ Lib.indexByte s4 (UInt8.ofNat r)) ↔ (r = 84 ∨ r = 65 ∨ r = 68 ∨ r = 70) := by
  have key : ∀ r, r < 128 → ((0 ≤ Lib.indexByte s4 (UInt8.ofNat r)) ↔ (r = 84 ∨ r = 65 ∨ r = 68 ∨ r = 70)) := by decide +kernel
  exact key r h
theorem ofNat_cast {r : Nat} (h : r < 128) : ((UInt8.ofNat r).toNat : Int) = (r : Int) := by rw [UInt8.toNat_ofNat_of_lt' (show r < 256 by omega)]
theorem all_take {p : UInt8 → Bool} {t : List UInt8} {i : Nat} {c : UInt8} (h : t[i]? = some c) (ha : (t.take i).all p = true) (hp : p c = true) : (t.take (i + 1)).all p = true := by
  obtain ⟨hi, e⟩ := List.getElem?_eq_some_iff.1 h
  rw [List.take_succ_eq_append_getElem hi, List.all_append, ha, e]; simp [hp]
theorem all_not {p : UInt8 → Bool} {t : List UInt8} {i : Nat} {c : UInt8} (h : t[i]? = some c) (hp : p c = false) : t.all p = false := by
  rw [List.all_eq_false]; exact ⟨c, List.mem_of_getElem? h, by simp [hp]⟩
theorem errB_long {m : Nat} {t : List UInt8} (h : 200 < t.length + m) : errB m t = 3 := by unfold errB; rw [if_pos h]
theorem errB_bad {m : Nat} {t : List UInt8} (h : ¬ 200 < t.length + m) (ha : t.all isL = false) : errB m t = 2 := by unfold errB; rw [if_neg h, ha]; rfl
theorem errB_ok {m : Nat} {t : List UInt8} (h : ¬ 200 < t.length + m) (ha : t.all isL = true) : errB m t = 0 := by unfold errB; rw [if_neg h, ha]; rfl
theorem isL_no {c : UInt8} (h : ¬ (c.toNat = 84 ∨ c.toNat = 65 ∨ c.toNat = 68 ∨ c.toNat = 70)) (h2 : c.toNat ≠ 63) : isL c = false := by unfold isL; rw [decide_eq_false_iff_not]; omega
theorem isL_yes {c : UInt8} (h : c.toNat = 84 ∨ c.toNat = 65 ∨ c.toNat = 68 ∨ c.toNat = 70 ∨ c.toNat = 63) : isL c = true := by unfold isL; rw [decide_eq_true_eq]; exact h
end Go.Proofs.Ytgafkbnlhlbmkaa
