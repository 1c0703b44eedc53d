/- Chapter 19, the laws in plain Lean: the data that is encoded; sums, products, zeros ahead. -/
import Derived.Test.YtjhgihgggofocaaSR
namespace Go.Proofs.Ytjhgihgggofocaa
open Go.RowKit
def elsOf (l : List Nat) (m : Nat) : List Nat := (l.take m).map fun c => c % 64
theorem elsOf_el (l : List Nat) (m : Nat) : El (elsOf l m) := fun a h => by
  obtain ⟨c, _, rfl⟩ := List.mem_map.1 h
  omega
theorem elsOf_len (l : List Nat) (m : Nat) : (elsOf l m).length = min m l.length := by unfold elsOf; rw [List.length_map, List.length_take]
def dataL (l : List Nat) : List Nat := if elsOf l 59 = [] then [0] else elsOf l 59
theorem dataL_ok (l : List Nat) : encOk (dataL l) = true := by
  unfold dataL
  have h1 := elsOf_len l 59
  rw [encOk_iff]
  split
  · exact ⟨by decide, by decide, el1 (by decide)⟩
  · rename_i h
    have : (elsOf l 59).length ≠ 0 := fun e => h (List.eq_nil_of_length_eq_zero e)
    exact ⟨by omega, by omega, elsOf_el l 59⟩
theorem dataL_len (l : List Nat) : (dataL l).length = max 1 (min 59 l.length) := by
  unfold dataL
  have h1 := elsOf_len l 59
  split
  · rename_i h; rw [h] at h1; simp only [List.length_nil, List.length_singleton] at h1 ⊢; omega
  · rename_i h
    have : (elsOf l 59).length ≠ 0 := fun e => h (List.eq_nil_of_length_eq_zero e)
    omega
theorem encOk_enc (u : Value) (w : World) (l : List Nat) (hl : RdL w 1 encN u l) (hok : encOk l = true) :
    Ret Try.prog 23 [u] w (fun v w' => ∃ r c, v = .tuple #[r, .int .i64 0] ∧ Own w' w.heap.size 5 1 encN r c ∧ IsEnc l c ∧ Ex w w') := by
  obtain ⟨h1, h2, h3⟩ := encOk_iff.1 hok
  refine (encode_ret u l w hl (by omega)).mono ?_
  rintro v w' ⟨r, c', rfl, ho, he, _, hx⟩
  exact ⟨r, c', by rw [hok]; rfl, ho, he hok, hx⟩
theorem valid_is (u : Value) (w : World) (l : List Nat) (hl : RdL w 1 encN u l) (h : vldB l = true) : Ret Try.prog 25 [u] w (fun v w' => v = .bool true ∧ Ex w w') := by
  have h63 := (isW_iff.1 (vldB_iff.1 h).1).2.1
  have k := valid_ret u l w hl (by omega); rw [h] at k; exact k
theorem vld_code {n : Nat} {c : List Nat} (h : Code_ n c) (h1 : 4 < n) (h2 : n ≤ 63) : vldB c = true := vldB_iff.2 ⟨isW_iff.2 ⟨by rw [h.len]; exact h1, by rw [h.len]; exact h2, h.el⟩, h.syn⟩
/-! sums, products, zeros -/
def sumL (c d : List Nat) (i : Nat) : List Nat := (List.range i).map fun j => cf c j ^^^ cf d j
def prodL (c : List Nat) (f i : Nat) : List Nat := (List.range i).map fun j => gm (cf c j) f
theorem sumL_more (c d : List Nat) (i : Nat) : sumL c d (i + 1) = sumL c d i ++ [cf c i ^^^ cf d i] := by unfold sumL; rw [List.range_succ, List.map_append]; rfl
theorem prodL_more (c : List Nat) (f i : Nat) : prodL c f (i + 1) = prodL c f i ++ [gm (cf c i) f] := by unfold prodL; rw [List.range_succ, List.map_append]; rfl
theorem sumL_len (c d : List Nat) (i : Nat) : (sumL c d i).length = i := by simp [sumL]
theorem prodL_len (c : List Nat) (f i : Nat) : (prodL c f i).length = i := by simp [prodL]
theorem cf_map {g : Nat → Nat} {n k : Nat} (h : k < n) : cf ((List.range n).map g) k = g k := cf_some (by rw [List.getElem?_map, List.getElem?_range h]; rfl)
theorem sum_code {n : Nat} {c d : List Nat} (hc : Code_ n c) (hd : Code_ n d) : Code_ n (sumL c d n) := by
  have hel : El (sumL c d n) := fun a ha => by
    obtain ⟨j, _, rfl⟩ := List.mem_map.1 ha
    exact xor_lt64 _ _ (hc.el.cf j) (hd.el.cf j)
  refine ⟨sumL_len _ _ _, hel, fun r hr => ?_⟩
  have h1 := hc.syn r hr
  have h2 := hd.syn r hr
  rw [sy_sum hr hc.el, hc.len] at h1
  rw [sy_sum hr hd.el, hd.len] at h2
  rw [sy_sum hr hel, sumL_len]
  have e : ∀ i, i < n → gm (cf (sumL c d n) i) (al n r i) = gm (cf c i) (al n r i) ^^^ gm (cf d i) (al n r i) := fun i hi => by
    rw [show cf (sumL c d n) i = cf c i ^^^ cf d i from cf_map hi, xor_gm _ _ _ (pw64 _) (hc.el.cf i) (hd.el.cf i)]
  rw [xs_congr e, xs_xor, h1, h2]; rfl
theorem prod_code {n f : Nat} {c : List Nat} (hc : Code_ n c) (hf : f < 64) : Code_ n (prodL c f n) := by
  have hel : El (prodL c f n) := fun a ha => by
    obtain ⟨j, _, rfl⟩ := List.mem_map.1 ha
    exact gm_lt _ _
  refine ⟨prodL_len _ _ _, hel, fun r hr => ?_⟩
  have h1 := hc.syn r hr
  rw [sy_sum hr hc.el, hc.len] at h1
  rw [sy_sum hr hel, prodL_len]
  have e : ∀ i, i < n → gm (cf (prodL c f n) i) (al n r i) = gm f (gm (cf c i) (al n r i)) := fun i hi => by
    rw [show cf (prodL c f n) i = gm (cf c i) f from cf_map hi, gm_comm (cf c i) f, gm_assoc]
  rw [xs_congr e, xs_gm hf (fun i _ => gm_lt _ _), h1, gm_zr]
theorem zero_sy {l : List Nat} (hl : El l) {r : Nat} (hr : r < 4) : ∀ z, sy (List.replicate z 0 ++ l) r = sy l r
  | 0 => rfl
  | z + 1 => by
    have ih := zero_sy hl hr z
    have hz : El (List.replicate z 0 ++ l) := (El.zeros z).app hl
    unfold sy at ih ⊢
    rw [List.replicate_succ, List.cons_append, List.reverse_cons, evl_snoc (pw_lt (r + 1) (by omega)).2 (by decide) _ hz.rev, gm_zl, Nat.xor_zero, ih]
theorem zeros_code {n z : Nat} {c : List Nat} (hc : Code_ n c) : Code_ (z + n) (List.replicate z 0 ++ c) :=
  ⟨by rw [List.length_append, List.length_replicate, hc.len], (El.zeros z).app hc.el, fun r hr => by rw [zero_sy hc.el hr]; exact hc.syn r hr⟩
end Go.Proofs.Ytjhgihgggofocaa
