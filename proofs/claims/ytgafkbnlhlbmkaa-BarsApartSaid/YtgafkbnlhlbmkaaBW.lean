/- Plain: what is written is read. -/
import Derived.Test.YtgafkbnlhlbmkaaBS
namespace Go.Proofs.Ytgafkbnlhlbmkaa
open Go.RowKit
theorem ltr_num {n : Nat} (h : n < 4) : num (ltr n) = n ∧ ltr n ≠ 63 ∧ isL (ltr n) = true := by
  match n, h with
  | 0, _ => exact ⟨by decide +kernel, by decide, by decide⟩
  | 1, _ => exact ⟨by decide +kernel, by decide, by decide⟩
  | 2, _ => exact ⟨by decide +kernel, by decide, by decide⟩
  | 3, _ => exact ⟨by decide +kernel, by decide, by decide⟩
theorem w3s_all (l : List UInt8) : (l.flatMap w3).all isL = true := by
  rw [List.all_eq_true]
  intro x hx
  obtain ⟨s, _, hs⟩ := List.mem_flatMap.1 hx
  unfold w3 at hs
  rcases List.mem_cons.1 hs with rfl | hs
  · exact ltr_L _
  · rcases List.mem_cons.1 hs with rfl | hs
    · exact ltr_L _
    · rw [List.mem_singleton.1 hs]; exact ltr_L _
theorem w3s_in : ∀ {l : List UInt8} {k : Nat} {s : UInt8}, l[k]? = some s → ∀ j u, (w3 s)[j]? = some u → (l.flatMap w3)[k * 3 + j]? = some u
  | [], k, s, h, _, _, _ => by simp at h
  | x :: l, 0, s, h, j, u, hu => by
    obtain rfl : x = s := by simpa using h
    rw [List.flatMap_cons, Nat.zero_mul, Nat.zero_add, List.getElem?_append_left (List.getElem?_eq_some_iff.1 hu).1]; exact hu
  | x :: l, k + 1, s, h, j, u, hu => by
    have ih := w3s_in (l := l) (k := k) (by simpa using h) j u hu
    rw [List.flatMap_cons, List.getElem?_append_right (by rw [w3_len]; omega), w3_len, show (k + 1) * 3 + j - 3 = k * 3 + j by omega]; exact ih
theorem w3s_at {l : List UInt8} {k : Nat} {s : UInt8} (h : l[k]? = some s) : (l.flatMap w3)[3 * k]? = some (ltr (s.toNat / 16)) ∧ (l.flatMap w3)[3 * k + 1]? = some (ltr (s.toNat / 4 % 4)) ∧ (l.flatMap w3)[3 * k + 2]? = some (ltr (s.toNat % 4)) := by
  have key : ∀ j u, (w3 s)[j]? = some u → (l.flatMap w3)[k * 3 + j]? = some u := fun j u hu => w3s_in h j u hu
  rw [Nat.mul_comm 3 k]
  exact ⟨key 0 _ rfl, key 1 _ rfl, key 2 _ rfl⟩
theorem read_w3 {l : List UInt8} {k : Nat} {s : UInt8} (h : l[k]? = some s) (hs : s.toNat < 64) : unc (l.flatMap w3) k = false ∧ symB (l.flatMap w3) k = s := by
  obtain ⟨h1, h2, h3⟩ := w3s_at h
  have hp := part3 h1 h2 h3
  obtain ⟨a1, a2, _⟩ := ltr_num (show s.toNat / 16 < 4 by omega)
  obtain ⟨b1, b2, _⟩ := ltr_num (show s.toNat / 4 % 4 < 4 by omega)
  obtain ⟨c1, c2, _⟩ := ltr_num (show s.toNat % 4 < 4 by omega)
  have hu : unc (l.flatMap w3) k = false := by
    rw [unc3 hp, decide_eq_false_iff_not]
    rintro (h | h | h)
    · exact a2 h
    · exact b2 h
    · exact c2 h
  refine ⟨hu, ?_⟩
  rw [sym3 hp hu, a1, b1, c1]
  apply UInt8.toNat_inj.1
  rw [UInt8.toNat_ofNat_of_lt' (show 16 * (s.toNat / 16) + 4 * (s.toNat / 4 % 4) + s.toNat % 4 < 256 by omega)]
  omega
/-- What is written of symbols is read as they were. -/
theorem read_write {l : List UInt8} (h : l.length ≤ 66) (hs : ∀ s ∈ l, s.toNat < 64) : writeB l = (l.flatMap w3, 0) ∧ readB (l.flatMap w3) = (l, [], 0) := by
  have hlen := w3s_len l
  refine ⟨w_ok (by omega) (by rw [List.all_eq_true]; intro x hx; exact decide_eq_true (hs x hx)), ?_⟩
  rw [read_ok (err_0 (by omega) (w3s_all l)) (by omega), hlen, show 3 * l.length / 3 = l.length by omega]
  have e1 : symsL (l.flatMap w3) l.length = l := by
    apply List.ext_getElem?
    intro i
    unfold symsL
    rw [List.getElem?_map]
    rcases Nat.lt_or_ge i l.length with hi | hi
    · have hq := List.getElem?_eq_getElem hi
      rw [List.getElem?_range hi, Option.map_some, hq, (read_w3 hq (hs _ (List.getElem_mem hi))).2]
    · rw [List.getElem?_eq_none (by simpa using hi), List.getElem?_eq_none hi]; rfl
  have e2 : erasL (l.flatMap w3) l.length = [] := by
    unfold erasL
    rw [List.filter_eq_nil_iff]
    intro i hi
    have hi := List.mem_range.1 hi
    rw [(read_w3 (List.getElem?_eq_getElem hi) (hs _ (List.getElem_mem hi))).1]
    decide
  rw [e1, e2]
end Go.Proofs.Ytgafkbnlhlbmkaa
