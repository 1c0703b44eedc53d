/- Chapter 05, plain: the words of a plain text, joined, are the text. -/
import Derived.Test.YtlbcjhbdkeeahaaPC
namespace Go.Proofs.Ytlbcjhbdkeeahaa
def jn : List (List UInt8) → List UInt8
  | [] => []
  | [x] => x
  | x :: y :: r => x ++ [32] ++ jn (y :: r)
/-- A rest of a plain text; b: the byte ahead is none of the blanks. -/
def Rs : Bool → List UInt8 → Prop
  | b, [] => b = true
  | b, c :: r => if c = 32 then b = true ∧ Rs false r else isPlain c.toNat = true ∧ Rs true r
theorem jn_cons {x : List UInt8} {ws : List (List UInt8)} (h : ws ≠ []) : jn (x :: ws) = x ++ [32] ++ jn ws := by
  cases ws with
  | nil => exact absurd rfl h
  | cons y r => rfl
theorem jn_wds : ∀ (l : List UInt8) (b : Bool) (cur : List UInt8), Rs b l → (b = true ↔ cur ≠ []) → jn (wds l cur) = cur ++ l ∧ wds l cur ≠ []
  | [], b, cur, h, hb => by
    have h1 : b = true := h
    have h2 := hb.1 h1
    unfold wds
    rw [if_neg h2, List.append_nil]
    exact ⟨rfl, by simp⟩
  | c :: r, b, cur, h, hb => by
    unfold Rs at h
    unfold wds
    by_cases hc : c = 32
    · rw [if_pos hc] at h ⊢
      obtain ⟨h1, h2⟩ := h
      rw [if_neg (hb.1 h1)]
      obtain ⟨h3, h4⟩ := jn_wds r false [] h2 (by simp)
      rw [jn_cons h4, h3, hc]
      exact ⟨by simp, by simp⟩
    · rw [if_neg hc] at h ⊢
      obtain ⟨h3, h4⟩ := jn_wds r true (cur ++ [c]) h.2 (by simp)
      exact ⟨by rw [h3]; simp, h4⟩
theorem all_wds : ∀ (l : List UInt8) (b : Bool) (cur : List UInt8), Rs b l → cur.all (fun x => isPlain x.toNat) = true → ∀ x ∈ wds l cur, x ≠ [] ∧ x.all (fun y => isPlain y.toNat) = true
  | [], b, cur, _, hc => fun x hx => by
    unfold wds at hx
    split at hx
    · cases hx
    · simp at hx; subst hx; exact ⟨by assumption, hc⟩
  | c :: r, b, cur, h, hcur => fun x hx => by
    unfold Rs at h
    unfold wds at hx
    by_cases hc : c = 32
    · rw [if_pos hc] at h hx
      split at hx
      · exact all_wds r false [] h.2 rfl x hx
      · rcases List.mem_cons.1 hx with rfl | hx
        · exact ⟨by assumption, hcur⟩
        · exact all_wds r false [] h.2 rfl x hx
    · rw [if_neg hc] at h hx
      exact all_wds r true (cur ++ [c]) h.2 (by rw [List.all_append, hcur]; simp [h.1]) x hx
theorem rs_of {l : List UInt8} (h : Pl l) : ∀ (m i : Nat), l.length - i = m → i ≤ l.length → 0 < l.length → Rs (decide (0 < i ∧ l[i - 1]? ≠ some 32)) (l.drop i) := by
  intro m
  induction m with
  | zero =>
    intro i hm hi h0
    have e : i = l.length := by omega
    subst e
    rw [List.drop_length]
    exact decide_eq_true ⟨h0, pl_last h⟩
  | succ m ih =>
    intro i hm hi h0
    obtain ⟨c, hc⟩ : ∃ c, l[i]? = some c := ⟨_, List.getElem?_eq_getElem (by omega)⟩
    have ih1 := ih (i + 1) (by omega) (by omega) h0
    rw [show i + 1 - 1 = i from rfl] at ih1
    rw [drop_cons hc]
    unfold Rs
    by_cases h32 : c = 32
    · rw [if_pos h32]
      subst h32
      rw [decide_eq_false (by rintro ⟨_, e⟩; exact e hc)] at ih1
      rcases h i 32 hc with h1 | ⟨_, h2, _, h4⟩
      · exact absurd rfl (plain_ne h1)
      · exact ⟨decide_eq_true ⟨h2, h4⟩, ih1⟩
    · rw [if_neg h32]
      rw [decide_eq_true (show 0 < i + 1 ∧ l[i]? ≠ some 32 from ⟨by omega, by rw [hc]; intro e; injection e with e; exact h32 e⟩)] at ih1
      rcases h i c hc with h1 | ⟨h1, _⟩
      · exact ⟨h1, ih1⟩
      · exact absurd h1 h32
theorem words_join {l : List UInt8} (h : Pl l) : jn (wordsL l) = l := by
  cases l with
  | nil => rfl
  | cons c r =>
    have := rs_of h _ 0 rfl (by omega) (by simp)
    rw [decide_eq_false (by omega)] at this
    exact (jn_wds _ _ [] this (by simp)).1
theorem words_all {l : List UInt8} (h : Pl l) : ∀ x ∈ wordsL l, x ≠ [] ∧ foldL x = x ∧ (32 : UInt8) ∉ x := by
  intro x hx
  cases l with
  | nil => cases hx
  | cons c r =>
    have hr := rs_of h _ 0 rfl (by omega) (by simp)
    have h2 := all_wds _ _ [] hr rfl x hx
    have h3 := List.all_eq_true.1 h2.2
    exact ⟨h2.1, fold_self fun i d hd => .inl (h3 d (List.mem_of_getElem? hd)), fun h32 => plain_ne (h3 32 h32) rfl⟩
end Go.Proofs.Ytlbcjhbdkeeahaa
