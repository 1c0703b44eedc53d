/- strings.Join, from the library's contract. -/
import Derived.Test.YtlbcjhbdkeeahaaPE
import Derived.Test.YtlbcjhbdkeeahaaPD
import Derived.Test.YtlbcjhbdkeeahaaPF
import Derived.Test.YtlbcjhbdkeeahaaYA
import Derived.Shelf.Strings.OnBuilder
namespace Go.Proofs.Ytlbcjhbdkeeahaa
open Go.RowKit Go.Shelf
theorem jn_join : ∀ (l : List (List UInt8)), jn l = Lib.join l [32]
  | [] => rfl
  | [x] => (Lib.join_one x [32]).symm
  | x :: y :: r => by
    have ih := jn_join (y :: r)
    rw [Lib.join_cons] at ih ⊢
    show x ++ [32] ++ jn (y :: r) = _
    rw [ih, List.append_assoc]
    unfold Lib.joinTail
    simp
theorem jn_of (l : List (List UInt8)) : (l.map (fun t => (⟨t.toArray⟩ : ByteArray))).map (·.data.toList) = l := by
  rw [List.map_map]
  exact (List.map_congr_left fun t _ => by simp).trans (List.map_id l)
theorem join_ret {B : Nat} {e : TypeId} (u : Value) (l : List (List UInt8)) (w : World) (hl : Own w B e 1 encT u l) (hlen : l.length ≤ 1000000) (hj : (jn l).length ≤ 1000000) :
    Ret Try.prog 24 [u, .string ⟨[(32 : UInt8)].toArray⟩] w (fun v w' => v = .string ⟨(jn l).toArray⟩ ∧ Ex w w') := by
  rcases Nat.eq_zero_or_pos l.length with h0 | h0
  · obtain rfl := List.eq_nil_of_length_eq_zero h0
    obtain ⟨A, c, rfl⟩ := hl.shape
    exact Calls.mono (Any.strings_Join_none lays156 bX A c ⟨[(32 : UInt8)].toArray⟩ w) fun _ w' h => by
      obtain ⟨h1, h2⟩ := h
      exact ⟨_, h1, by first | rfl | simp [jn], by rw [h2]; exact Ex.rfl_ w⟩
  · obtain ⟨g, cap, rfl, hgB, hgl⟩ := own_at hl h0
    obtain ⟨A, c, hv, h1, h2, h3⟩ := hl.rdl encT_len
    injection hv with hv1 hv2 hv3
    subst hv1 hv3
    obtain ⟨ad, had, hb, hc⟩ := h3 h0
    injection had with had
    subst had
    have hx : (l.map (fun t => (⟨t.toArray⟩ : ByteArray))).length = l.length := List.length_map ..
    have key := Any.strings_Join lays156 bX g 0 cap (l.map (fun t => (⟨t.toArray⟩ : ByteArray))) ⟨[(32 : UInt8)].toArray⟩ w (fun j x hj => by
      rw [List.getElem?_map] at hj
      cases hq : l[j]? with
      | none => rw [hq] at hj; cases hj
      | some t =>
        rw [hq] at hj
        simp only [Option.map_some, Option.some.injEq] at hj
        subst hj
        have := hc j t hq 0 _ rfl
        rw [add_of_add, add_at, Nat.mul_one, Nat.add_zero] at this
        rw [Nat.zero_add]
        exact this) hgl (by rw [hx]; omega) (by rw [hx]; exact h1) (by rw [jn_of, ← jn_join]; omega)
    rw [hx, jn_of, show (⟨[(32 : UInt8)].toArray⟩ : ByteArray).data.toList = [32] from rfl, ← jn_join] at key
    exact Calls.mono key fun _ w' h => ⟨_, h.1, rfl, h.2⟩
theorem joined_is {a b : List UInt8} : joinL (foldL a) (foldL b) = foldL (a ++ 32 :: b) := (fold_joined (by decide) (by decide +kernel) a b).symm
theorem fj_no {x : List UInt8} (h : (32 : UInt8) ∉ x) : Lib.indexByte x 32 = -1 := by
  induction x with
  | nil => rfl
  | cons c x ih =>
    unfold Lib.indexByte
    rw [if_neg (by simp; intro e; exact h (by rw [e]; simp)), if_pos (by rw [ih (fun hm => h (List.mem_cons_of_mem _ hm))]; rfl)]
theorem jn_mem : ∀ (l : List (List UInt8)) (x : List UInt8), x ∈ l → x.length ≤ (jn l).length
  | [], x, h => by cases h
  | [y], x, h => by rw [List.mem_singleton.1 h]; exact Nat.le_refl _
  | y :: z :: r, x, h => by
    have ih := jn_mem (z :: r) x
    show x.length ≤ (y ++ [32] ++ jn (z :: r)).length
    rw [List.length_append, List.length_append]
    rcases List.mem_cons.1 h with rfl | h
    · omega
    · have := ih h; omega
theorem jn_count : ∀ (l : List (List UInt8)), l.length ≤ (jn l).length + 1
  | [] => by simp
  | [y] => by simp
  | y :: z :: r => by
    have ih := jn_count (z :: r)
    show (z :: r).length + 1 ≤ (y ++ [32] ++ jn (z :: r)).length + 1
    rw [List.length_append, List.length_append, List.length_singleton]
    omega
theorem words_short {T x : List UInt8} {i : Nat} (h : Pl T) (hx : (wordsL T)[i]? = some x) : x.length ≤ T.length := by
  have := jn_mem _ x (List.mem_of_getElem? hx)
  rwa [words_join h] at this
theorem words_count {T : List UInt8} (h : Pl T) : (wordsL T).length ≤ T.length + 1 := by
  have := jn_count (wordsL T)
  rwa [words_join h] at this
end Go.Proofs.Ytlbcjhbdkeeahaa
