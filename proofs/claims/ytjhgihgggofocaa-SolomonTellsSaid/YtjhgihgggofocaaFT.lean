/- Chapter 18: the tables in memory, and the error of what a function got. -/
import Derived.Test.YtjhgihgggofocaaFR
import Derived.Test.YtjhgihgggofocaaLH
namespace Go.Proofs.Ytjhgihgggofocaa
open Go.RowKit
abbrev u8s (l : List Nat) : List Value := l.map fun (n : Nat) => Value.int .u8 (n : Int)
def tabs : List Value := u8s (pwL ++ lgL)
theorem tabs_at (k n : Nat) (h : (pwL ++ lgL)[k]? = some n) : tabs[k]? = some (.int .u8 (n : Int)) := by
  unfold tabs u8s; rw [List.getElem?_map, h]; rfl
theorem tabs_lg (a : Nat) (h : a < 64) : tabs[63 + a * 1]? = some (.int .u8 (lg a : Int)) := by
  refine tabs_at _ _ ?_
  rw [List.getElem?_append_right (by show 63 ≤ _; omega), show 63 + a * 1 - pwL.length = a from by show 63 + a * 1 - 63 = a; omega]
  unfold lg; rw [List.getD_eq_getElem?_getD, List.getElem?_eq_getElem (show a < lgL.length from h)]; rfl
theorem tabs_pw (n : Nat) (h : n < 63) : tabs[0 + n * 1]? = some (.int .u8 (pw n : Int)) := by
  refine tabs_at _ _ ?_
  rw [show 0 + n * 1 = n from by omega, List.getElem?_append_left (show n < pwL.length from h)]
  unfold pw; rw [List.getD_eq_getElem?_getD, List.getElem?_eq_getElem (show n < pwL.length from h)]; rfl
theorem lgs_at (a : Nat) (h : a < 64) : (u8s lgL)[a]? = some (.int .u8 (lg a : Int)) := by
  unfold u8s lg; rw [List.getElem?_map, List.getD_eq_getElem?_getD, List.getElem?_eq_getElem (show a < lgL.length from h)]; rfl
/-- The number of the error of lists. -/
def errL (ls : List (List Nat)) : Int := if ∃ l ∈ ls, 128 < l.length then 3 else if ∃ l ∈ ls, ∃ a ∈ l, 64 ≤ a then 2 else 0
theorem errL_long {ls : List (List Nat)} {l : List Nat} (hl : l ∈ ls) (h : 128 < l.length) : errL ls = 3 := by
  unfold errL; rw [if_pos ⟨l, hl, h⟩]
theorem errL_arg {ls : List (List Nat)} {l : List Nat} {a : Nat} (h0 : ∀ l ∈ ls, l.length ≤ 128) (hl : l ∈ ls) (ha : a ∈ l) (h : 64 ≤ a) : errL ls = 2 := by
  unfold errL; rw [if_neg (fun ⟨l, hl, h⟩ => by have := h0 l hl; omega), if_pos ⟨l, hl, a, ha, h⟩]
theorem errL_ok {ls : List (List Nat)} (h0 : ∀ l ∈ ls, l.length ≤ 128) (h : ∀ l ∈ ls, El l) : errL ls = 0 := by
  unfold errL; rw [if_neg (fun ⟨l, hl, h⟩ => by have := h0 l hl; omega), if_neg (fun ⟨l, hl, a, ha, h2⟩ => by have := h l hl a ha; omega)]
theorem errL_zero {ls : List (List Nat)} (h : errL ls = 0) : ∀ l ∈ ls, l.length ≤ 128 ∧ El l := by
  unfold errL at h
  split at h
  · cases h
  · rename_i h1
    split at h
    · cases h
    · rename_i h2
      intro l hl
      exact ⟨Nat.le_of_not_lt fun hh => h1 ⟨l, hl, hh⟩, fun a ha => Nat.lt_of_not_le fun hh => h2 ⟨l, hl, a, ha, hh⟩⟩
theorem errL_zero_iff {ls : List (List Nat)} : errL ls = 0 ↔ ∀ l ∈ ls, l.length ≤ 128 ∧ El l :=
  ⟨errL_zero, fun h => errL_ok (fun l hl => (h l hl).1) fun l hl => (h l hl).2⟩
theorem dg_hit {p : List Nat} {k c : Nat} (h : p[k]? = some c) (hc : c ≠ 0) (hk : dg p ≤ k + 1) : dg p = k + 1 :=
  dg_eq p k (by rw [cf_some h]; exact hc) fun j hj => cf_ge p j (by omega)
theorem dg_miss {p : List Nat} {k : Nat} (h : p[k]? = some 0) (hk : dg p ≤ k + 1) : dg p ≤ k := by
  refine dg_le p k fun j hj => ?_
  rcases Nat.eq_or_lt_of_le hj with rfl | h'
  · exact cf_some h
  · exact cf_ge p j (by omega)
end Go.Proofs.Ytjhgihgggofocaa
