/- The places that are tried, in order; what the iterator's steps keep. -/
import Derived.Test.YtjhgihgggofocaaSI
namespace Go.Proofs.Ytjhgihgggofocaa
open Go.RowKit
def singL (er : List Nat) (a : Nat) : List (List Nat) := ((List.range a).filter fun i => decide (i ∉ er)).map fun i => er ++ [i]
def rowP (n a : Nat) : List (List Nat) := ((List.range n).drop (a + 1)).map fun j => [a, j]
def pairT (a b : Nat) (n : Nat) : List (List Nat) := (List.range a).flatMap (rowP n) ++ rowP b a
def candL (n : Nat) (er : List Nat) : List (List Nat) := [er] ++ (if er.length ≤ 2 then singL er n else []) ++ (if er.length = 0 then (List.range n).flatMap (rowP n) else [])
theorem rng (a : Nat) : ∀ m, ∃ t, List.range (a + m) = List.range a ++ t
  | 0 => ⟨[], by simp⟩
  | m + 1 => by
    obtain ⟨t, h⟩ := rng a m
    exact ⟨t ++ [a + m], by rw [← Nat.add_assoc, List.range_succ, h, List.append_assoc]⟩
theorem rng_le {a n : Nat} (h : a ≤ n) : ∃ t, List.range n = List.range a ++ t := by
  obtain ⟨t, ht⟩ := rng a (n - a)
  exact ⟨t, by rw [← ht, Nat.add_sub_cancel' h]⟩
theorem sing_yes {er : List Nat} {a : Nat} (h : a ∉ er) : singL er (a + 1) = singL er a ++ [er ++ [a]] := by unfold singL; rw [List.range_succ, List.filter_append, List.map_append]; simp [h]
theorem sing_no {er : List Nat} {a : Nat} (h : a ∈ er) : singL er (a + 1) = singL er a := by unfold singL; rw [List.range_succ, List.filter_append, List.map_append]; simp [h]
theorem sing_pre (er : List Nat) {a n : Nat} (h : a ≤ n) : singL er a <+: singL er n := by
  obtain ⟨t, ht⟩ := rng_le h
  refine ⟨(t.filter fun i => decide (i ∉ er)).map fun i => er ++ [i], ?_⟩
  unfold singL
  rw [ht, List.filter_append, List.map_append]
theorem row_more {a b : Nat} (h : a < b) : rowP (b + 1) a = rowP b a ++ [[a, b]] := by
  unfold rowP
  rw [List.range_succ, List.drop_append_of_le_length (by rw [List.length_range]; omega), List.map_append]; rfl
theorem row_nil {a b : Nat} (h : b ≤ a + 1) : rowP b a = [] := by unfold rowP; rw [List.drop_eq_nil_of_le (by rw [List.length_range]; exact h)]; rfl
theorem row_pre {a b n : Nat} (h : b ≤ n) : rowP b a <+: rowP n a := by
  obtain ⟨t, ht⟩ := rng_le h
  rcases Nat.lt_or_ge (a + 1) b with h2 | h2
  · refine ⟨t.map fun j => [a, j], ?_⟩
    unfold rowP
    rw [ht, List.drop_append_of_le_length (by rw [List.length_range]; omega), List.map_append]
  · rw [row_nil h2]; exact List.nil_prefix
theorem pair_more {a b n : Nat} (h : a < b) : pairT a (b + 1) n = pairT a b n ++ [[a, b]] := by unfold pairT; rw [row_more h, List.append_assoc]
theorem pair_start (a n : Nat) : pairT a (a + 1) n = (List.range a).flatMap (rowP n) := by unfold pairT; rw [row_nil (Nat.le_refl _), List.append_nil]
theorem pair_end (a n : Nat) : pairT a n n = (List.range (a + 1)).flatMap (rowP n) := by unfold pairT; rw [List.range_succ, List.flatMap_append]; simp
theorem cand_a (n : Nat) (er : List Nat) : [er] <+: candL n er := ⟨_, by unfold candL; rw [List.append_assoc]⟩
theorem cand_b {n a : Nat} {er : List Nat} (h2 : er.length ≤ 2) (ha : a < n) (hn : a ∉ er) : [er] ++ singL er a ++ [er ++ [a]] <+: candL n er := by
  unfold candL
  rw [if_pos h2, List.append_assoc, ← sing_yes hn, List.append_assoc]
  exact (List.prefix_append_right_inj _).2 (List.IsPrefix.trans (sing_pre er (show a + 1 ≤ n by omega)) (List.prefix_append _ _))
theorem cand_c {n a b : Nat} {er : List Nat} (h0 : er.length = 0) (hab : a < b) (hb : b < n) : [er] ++ singL er n ++ pairT a b n ++ [[a, b]] <+: candL n er := by
  unfold candL
  rw [if_pos (by omega), if_pos h0, List.append_assoc, ← pair_more hab]
  refine (List.prefix_append_right_inj _).2 ?_
  obtain ⟨t, ht⟩ := rng_le (show a + 1 ≤ n by omega)
  rw [ht, List.range_succ, List.flatMap_append, List.flatMap_append]
  unfold pairT
  rw [List.append_assoc]
  refine (List.prefix_append_right_inj _).2 ?_
  simp only [List.flatMap_cons, List.flatMap_nil, List.append_nil]
  exact List.IsPrefix.trans (row_pre (show b + 1 ≤ n by omega)) (List.prefix_append _ _)
theorem cand_3 {n : Nat} {er : List Nat} (h : 3 ≤ er.length) : candL n er = [er] := by unfold candL; rw [if_neg (by omega), if_neg (by omega)]; rfl
theorem cand_1 {n : Nat} {er : List Nat} (h : er.length ≤ 2) (h1 : er.length ≠ 0) : candL n er = [er] ++ singL er n := by unfold candL; rw [if_pos h, if_neg h1, List.append_nil]
theorem cand_0 {n : Nat} {er : List Nat} (h : er.length = 0) : candL n er = [er] ++ singL er n ++ (List.range n).flatMap (rowP n) := by unfold candL; rw [if_pos (by omega), if_pos h]
/-! memory -/
abbrev El2 := Value × List Nat
structure JAt (J : List El2 → World → Prop) (B : Nat) (pre : List El2) (W : World) : Prop where
  calm : Calm B J
  val : J pre W
  size : B ≤ W.heap.size
theorem JAt.ext {J : List El2 → World → Prop} {B : Nat} {pre : List El2} {W W' : World} (h : JAt J B pre W) (hx : Ex W W') : JAt J B pre W' :=
  ⟨h.calm, h.calm _ _ _ none h.val ⟨hx.os, hx.tape, hx.output, hx.size, fun k hk _ => hx.block k hk⟩ (fun r e => by cases e), Nat.le_trans h.size hx.size⟩
theorem JAt.own {J : List El2 → World → Prop} {B B' : Nat} {pre : List El2} {W W' : World} {e sz n : Nat} {v : Value} {us : List Value} (h : JAt J B pre W) (ho : W.ownsRow B' e sz v n us) (hB : B ≤ B') (hg : W.grownBy W' v.ownBlock) : JAt J B pre W' :=
  ⟨h.calm, h.calm _ _ _ _ h.val hg (fun r er => by have := (World.ownsRow.lt ho r er).1; omega), Nat.le_trans h.size hg.size⟩
theorem Own.kc {α : Type} {A A' : World} {n0 B sz : Nat} {e : TypeId} {enc : α → List Value} {v : Value} {xs : List α} (h : Own A B e sz enc v xs) (k : Kc n0 A A') : Own A' B e sz enc v xs := by
  refine ⟨h.1, ?_⟩
  rcases h.2 with h0 | ⟨g, cap, cur, h1, h2, h3, h4⟩
  · exact .inl h0
  · exact .inr ⟨g, cap, cur, h1, h2, k.2 _ _ _ _ h3, h4⟩
/-- append of one number: the list that was appended to stays as it was. -/
theorem RG.appKeep {P : Program} {ops : Array Oper} {Q : Exit → Act → World → Prop} {n : Nat} {l : List Oper} {S : Slots} {w : World} {o : Oper} {d : Nat} {T e by_ B : Nat} {z v u : Value} {x y : Operand} {c : Call} {xs : List Nat} {a : Nat} (hw : wantS ops S o = some true) (hd : o.dst = some d) (hdn : Nat.blt d n = true) (ho : o.op = .call c) (hc : c = { callee := .builtin .append, args := #[x, y], argTypes := #[T, T] })
    (hx : ev S x = some v) (hy : ev S y = some u) (ht : P.underlying T = some (.slice e)) (hi : (P.info? e).map (fun i => (i.zero, i.size, i.bytes)) = some (some z, 1, by_)) (hz : z.cells.size = 1)
    (hown : Own w B e 1 encZ v xs) (hr : RdL w 1 encZ u [a]) (hlen : xs.length ≤ 1000) (hby : by_ ≤ 1000) (hB : B ≤ w.heap.size)
    (kk : ∀ v' w', RdL w' 1 encZ v' (xs ++ [a]) → Own w' B e 1 encZ v xs → w.grownBy w' v.ownBlock → RG P ops Q n l ((d, v') :: S) w') : RG P ops Q n (o :: l) S w := by
  have hml : xs.length + [a].length ≤ maxLen := by simp only [maxLen, List.length_singleton]; omega
  have hbb : (xs.length + [a].length) * by_ ≤ 140737488355328 := by
    have := Nat.mul_le_mul (show xs.length + [a].length ≤ 1001 by simp only [List.length_singleton]; omega) hby
    omega
  rcases hown.2 with ⟨rfl, hx0⟩ | ⟨g, cap, cur, rfl, hbg, hg, hnc, hcm, hcs, htake⟩
  · refine RG.appO hw hd hdn ho hc hx hy ht hi hz rfl encZ_len (fun _ => rfl) hown hr hml hbb hB fun v' w' h2 h3 _ => kk v' w' (h2.rdl encZ_len) ?_ h3
    have : xs = [] := List.eq_nil_of_length_eq_zero hx0
    subst this
    exact Own.nil_ _ _ _ _ _
  · by_cases hroom : xs.length + 1 ≤ cap
    · obtain ⟨A, cp, rfl, hA⟩ := hr.flat encZ_len
      obtain ⟨ad, rfl, hca⟩ := hA (by simp)
      obtain ⟨i, hii, hz0, hz1, hz2⟩ := info_parts hi
      have hrun := run_append_room (P := P) w T o.type e i ht hii g xs.length cap cur hg ad 1 cp [.int .i64 (a : Int)] (by rw [hz1]; rfl) hca (fun u hu => by simp at hu; subst hu; rfl) hroom (by rw [hz1, hcs]; simp; omega)
      obtain ⟨cur', hcur'⟩ : ∃ c : Array Value, c = (cur.toList.take (xs.length * i.size) ++ [Value.int .i64 (a : Int)] ++ cur.toList.drop (xs.length * i.size + [Value.int .i64 (a : Int)].length)).toArray := ⟨_, rfl⟩
      rw [← hcur'] at hrun
      have hl1 := length_flatMap_enc encZ_len xs
      rw [hz1, Nat.mul_one] at hcur'
      rw [Nat.mul_one] at htake hcs hl1
      have hsz : cur'.size = cap := by rw [hcur']; simp; omega
      have ht1 : cur'.toList.take xs.length = xs.flatMap encZ := by
        rw [hcur', htake, List.append_assoc, List.toList_toArray, List.take_append_of_le_length (by omega), ← hl1, List.take_length]
      have ht2 : cur'.toList.take (xs.length + 1) = (xs ++ [a]).flatMap encZ := by
        rw [hcur', htake, List.toList_toArray, List.flatMap_append, List.take_append_of_le_length (by rw [List.length_append, hl1]; exact Nat.le_refl _), List.take_of_length_le (by rw [List.length_append, hl1]; exact Nat.le_refl _)]; rfl
      have hg' := setRow_heap w g cur cur' e _ hg
      have hwr := wr_setRow w g cur'
      have o1 : Own (w.setRow g cur') B e 1 encZ (.slice (some ⟨g, 0, none⟩) (xs.length + 1) cap) (xs ++ [a]) := by
        refine ⟨by rw [length_flatMap_enc encZ_len], .inr ⟨g, cap, cur', ?_, hbg, hg', by simpa using hroom, hcm, by rw [hsz, Nat.mul_one], by rw [Nat.mul_one, List.length_append]; exact ht2⟩⟩
        rw [List.length_append]; rfl
      have o2 : Own (w.setRow g cur') B e 1 encZ (.slice (some ⟨g, 0, none⟩) xs.length cap) xs := ⟨hown.1, .inr ⟨g, cap, cur', rfl, hbg, hg', hnc, hcm, by rw [hsz, Nat.mul_one], by rw [Nat.mul_one]; exact ht1⟩⟩
      refine RG.run (v := .slice (some ⟨g, 0, none⟩) (xs.length + 1) cap) (w' := w.setRow g cur') hw hd hdn (fun a ha => ?_) (kk _ _ (o1.rdl encZ_len) o2 hwr.grownBy)
      simp only [execOp, ho, hc]
      simp [resolve, invoke, builtin, ha.eval hx, ha.eval hy, hrun]
    · obtain rfl : cap = xs.length := by omega
      refine RG.appF (enc := encZ) (olds := xs.flatMap encZ) (us := [a]) hw hd hdn ho hc hx hy ht hi hz encZ_len hown.1 (World.ownsRow.cells hown rfl) hr (by simp) hml hbb fun v' w' hx2 h2 => kk v' w' (RdL.of_own (B := w.heap.size) (e := e) encZ_len (by rw [List.length_append, List.flatMap_append]; exact h2)) (hown.ext hx2) ⟨hx2.os, hx2.tape, hx2.output, hx2.size, fun k hk _ => hx2.block k hk⟩
end Go.Proofs.Ytjhgihgggofocaa
