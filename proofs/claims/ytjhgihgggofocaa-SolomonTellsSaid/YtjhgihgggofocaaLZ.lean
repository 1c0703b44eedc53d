/- append(own, make([]T, k)...): the list grows by zeros; the source of an append keeps its list. -/
import Derived.Test.YtjhgihgggofocaaLH
import Derived.Lib.AppendZerosOnto
import Derived.Laws.Cover3
namespace Go.Proofs.Ytjhgihgggofocaa
open Go.RowKit
theorem zeroCells_cells (z : Array Value) (k : Nat) (u : Value) (h : z.toList.all (·.oneCell') = true) : u ∈ (Builtin.zeroCells z k).toList → 0 < z.size → u.oneCell' = true := by
  intro hu hz
  unfold Builtin.zeroCells at hu
  rw [Array.toList_map, List.mem_map] at hu
  obtain ⟨i, _, rfl⟩ := hu
  have hlt := Nat.mod_lt i hz
  rw [getElem!_pos z (i % z.size) hlt]
  exact List.all_eq_true.1 h _ (Array.getElem_mem_toList hlt)
theorem zeroCells_one (v : Value) (k : Nat) : (Builtin.zeroCells #[v] k).toList = List.replicate k v := by
  unfold Builtin.zeroCells
  apply List.ext_getElem?
  intro i
  rw [Array.toList_map, List.getElem?_map]
  rcases Nat.lt_or_ge i k with h | h
  · rw [List.getElem?_replicate_of_lt h]
    simp [h, Nat.mod_one]
  · rw [List.getElem?_eq_none (by simpa using h), List.getElem?_eq_none (by simpa using h)]; rfl
section
variable {P : Program} (w : World)
theorem run_append_room_zeros (t tn ty e : TypeId) (i : TypeInfo) (z : Value) (kq kn : IntKind) (ht : P.underlying t = some (.slice e)) (htn : P.underlying tn = some (.int kn)) (hi : P.info? e = some i) (hz : i.zero = some z) (hzs : z.cells.size = i.size) (hz1 : z.cells.toList.all (·.oneCell') = true)
    (g n cap k : Nat) (cur : Array Value) (hg : w.heap[g]? = some (.cells cur e (0, 0))) (h0 : 0 < k) (hs : 0 < i.size) (h63 : (k : Int) ≤ 9223372036854775807) (h48 : k * i.bytes ≤ 281474976710656) (hroom : n + k ≤ cap) (hfit : n * i.size + k * i.size ≤ cur.size) :
    (Builtin.append_ #[t, tn] ty #[.slice (some ⟨g, 0, none⟩) n cap, .int kq k]).run P w =
      .ok (.slice (some ⟨g, 0, none⟩) (n + k) cap) (w.setRow g (cur.toList.take (n * i.size) ++ (Builtin.zeroCells z.cells k).toList ++ cur.toList.drop (n * i.size + k * i.size)).toArray) := by
  have hk : k ≠ 0 := by omega
  have hw : IntKind.i64.wrap (k : Int) = k := by rw [IntKind.wrap_i64]; omega
  have hl : (Builtin.zeroCells z.cells k).toList.length = k * i.size := by rw [Array.length_toList, size_zeroCells, hzs]
  have h48i : ¬ (281474976710656 < (k : Int) * (i.bytes : Int)) := by
    rw [← Int.natCast_mul]
    omega
  have hneg : ¬ ((k : Int) < 0) := by omega
  have hns : ¬ (k * i.size = 0) := Nat.mul_ne_zero hk (by omega)
  have hst := run_storeCells_at P g (n * i.size) e (Builtin.zeroCells z.cells k).toList 0 cur w hg (by rw [hl]; simpa using hfit) (fun u hu => zeroCells_cells _ _ _ hz1 hu (by omega))
  simp only [Nat.add_zero, hl] at hst
  simp [Builtin.append_, run_underlying ht, run_underlying htn, sizeOf, typeInfo, zeroValue, hi, hz, asInt, asIntOf, hw, hneg, hns, h48i, hroom, Addr.add_lit, hst]
/-- An append of zeros onto a list of the call's own. -/
theorem run_append_own_zeros (base : Nat) (t tn ty e : TypeId) (i : TypeInfo) (z : Value) (kq kn : IntKind) (ht : P.underlying t = some (.slice e)) (htn : P.underlying tn = some (.int kn)) (hi : P.info? e = some i) (hz : i.zero = some z) (hzs : z.cells.size = i.size) (hz1 : z.cells.toList.all (·.oneCell') = true) (hsz : 0 < i.size)
    (v : Value) (n k : Nat) (xs : List Value) (hown : w.ownsRow base e i.size v n xs) (h0 : 0 < k) (hn0 : 0 < n) (h63 : n + k ≤ maxLen) (hbytes : (n + k) * i.bytes ≤ 140737488355328) (hbase : base ≤ w.heap.size) :
    ∃ v' w', (Builtin.append_ #[t, tn] ty #[v, .int kq k]).run P w = .ok v' w' ∧ w'.ownsRow base e i.size v' (n + k) (xs ++ (Builtin.zeroCells z.cells k).toList) ∧ w.grownBy w' v.ownBlock ∧ (v'.ownBlock = v.ownBlock ∨ v'.ownBlock = some w.heap.size) := by
  have hl : (Builtin.zeroCells z.cells k).toList.length = k * i.size := by rw [Array.length_toList, size_zeroCells, hzs]
  have hlen : (xs ++ (Builtin.zeroCells z.cells k).toList).length = (n + k) * i.size := by rw [List.length_append, hown.1, hl, Nat.add_mul]
  have hkb : k * i.bytes ≤ 281474976710656 := by rw [Nat.add_mul] at hbytes; omega
  rcases hown.2 with ⟨rfl, h⟩ | ⟨g, cap, cur, rfl, hbg, hg, hnc, hcm, hcs, htake⟩
  · omega
  · by_cases hroom : n + k ≤ cap
    · have hfit : n * i.size + k * i.size ≤ cur.size := by rw [hcs, ← Nat.add_mul]; exact Nat.mul_le_mul_right _ hroom
      refine ⟨_, _, run_append_room_zeros w t tn ty e i z kq kn ht htn hi hz hzs hz1 g n cap k cur hg h0 hsz (by simp only [maxLen] at h63; omega) hkb hroom hfit, ⟨hlen, .inr ⟨g, cap, _, rfl, hbg, setRow_heap w g cur _ e _ hg, hroom, hcm, ?_, ?_⟩⟩, ⟨rfl, rfl, rfl, by simp, fun k _ hk => setRow_other w g k _ (fun e => hk (by simp [Value.ownBlock, e]))⟩, .inl rfl⟩
      · simp only [List.size_toArray, List.length_append, List.length_take, List.length_drop, Array.length_toList, hl] at hfit ⊢
        omega
      · rw [htake, ← hlen]
        exact List.take_left
    · have holds : ∀ j u, xs[j]? = some u → w.drew.cell? ((⟨g, 0, none⟩ : Addr).add j) = some u := hown.cells (g := g) rfl
      have hold := run_firstCells_some (P := P) w.drew i.size n ⟨g, 0, none⟩ n cap xs hown.1 holds
      have hge := grownCap_ge w (n + k) cap e
      refine ⟨_, _, Lib.run_append_grow_zeros w t tn ty e i z kq kn ht htn hi hz (some ⟨g, 0, none⟩) n cap xs hold k h0 hsz (by omega) (by simp only [maxLen] at h63; omega) hkb (growslice_fits (by omega) hbytes), ⟨hlen, .inr ⟨w.heap.size, _, _, rfl, hbase, heap_alloc_new w.drew _, hge, grownCap_le_maxLen w _ _ e h63, ?_, ?_⟩⟩, ⟨rfl, rfl, rfl, by simp, fun k hk _ => heap_alloc_old w.drew _ hk⟩, .inr rfl⟩
      · simp only [Array.size_append, List.size_toArray, size_zeroCells, hzs, hown.1, ← Nat.add_mul]
        congr 1
        omega
      · simp only [Array.toList_append, List.append_assoc]
        rw [← List.append_assoc, ← hlen]
        exact List.take_left
end
section
variable {P : Program} {ops : Array Oper} {Q : Exit → Act → World → Prop} {n : Nat} {l : List Oper} {S : Slots} {w w' : World} {o : Oper} {d g : Nat}
theorem RG.appZ {α : Type} {T tn e by_ base k : Nat} {kq kn : IntKind} {enc : α → List Value} (a : α) {z v : Value} {x y : Operand} {c : Call} {xs : List α} (hw : wantS ops S o = some true) (hd : o.dst = some d) (hdn : Nat.blt d n = true) (ho : o.op = .call c) (hc : c = { callee := .builtin .append, args := #[x, y], argTypes := #[T, tn] })
    (hx : ev S x = some v) (hy : ev S y = some (.int kq k)) (ht : P.underlying T = some (.slice e)) (htn : P.underlying tn = some (.int kn)) (hi : (P.info? e).map (fun i => (i.zero, i.size, i.bytes)) = some (some z, 1, by_)) (hz : z.cells = #[z]) (hz1 : z.oneCell' = true) (he : enc a = [z])
    (hown : Own w base e 1 enc v xs) (h0 : 0 < k) (hn0 : 0 < xs.length) (hlen : xs.length + k ≤ maxLen) (hby : (xs.length + k) * by_ ≤ 140737488355328) (hbase : base ≤ w.heap.size)
    (kk : ∀ v' w', Own w' base e 1 enc v' (xs ++ List.replicate k a) → w.grownBy w' v.ownBlock → (v'.ownBlock = v.ownBlock ∨ v'.ownBlock = some w.heap.size) → RG P ops Q n l ((d, v') :: S) w') : RG P ops Q n (o :: l) S w := by
  obtain ⟨i, hii, hz0, hz1', hz2⟩ := info_parts hi
  subst hz2
  have hown' : w.ownsRow base e i.size v xs.length (xs.flatMap enc) := by rw [hz1']; exact hown
  obtain ⟨v', w', hr, h2, h3, h4⟩ := run_append_own_zeros (P := P) w base T tn o.type e i z kq kn ht htn hii hz0 (by rw [hz, hz1']; rfl) (by rw [hz]; simp [hz1]) (by omega) v xs.length k (xs.flatMap enc) hown' h0 hn0 hlen hby hbase
  refine RG.run (w' := w') hw hd hdn (fun a ha => ?_) (kk v' w' ?_ h3 h4)
  · simp only [execOp, ho, hc]
    simp [resolve, invoke, builtin, ha.eval hx, ha.eval hy, hr]
  · rw [hz, zeroCells_one, hz1'] at h2
    have e2 : (xs ++ List.replicate k a).flatMap enc = xs.flatMap enc ++ List.replicate k z := by
      rw [List.flatMap_append]
      congr 1
      clear hown hown' h2 hlen hby hr h0 hy kk
      induction k with
      | zero => rfl
      | succ k ih =>
        show enc a ++ (List.replicate k a).flatMap enc = z :: List.replicate k z
        rw [he, ih]; rfl
    unfold Own
    rw [e2, List.length_append, List.length_replicate]; exact h2
end
section
variable {P : Program} {n : Nat} {S : Slots} {w : World} {o : Oper}
theorem Ev.eqNil {T T' e : TypeId} {x y : Operand} {A : Option Addr} {m c : Nat} (ho : o.op = .binOp .eql T x y T') (hx : ev S x = some (.slice A m c)) (hy : ev S y = some (.slice none 0 0)) (ht : P.underlying T = some (.slice e)) : Ev P n o S w (.bool A.isNone) := fun a ha => by
  simp only [execOp, ho]; rw [ha.eval hx, ha.eval hy]
  have h := run_equal_slice_nil (P := P) w T e A m c ht
  have e : eqGuard .eql T x y (.slice A m c) (.slice none 0 0) = pure () := rfl
  simp [e, binOp, h]
theorem RdL.of_none {α : Type} {sz m c : Nat} {enc : α → List Value} {l : List α} (h : RdL w sz enc (.slice none m c) l) : l = [] := by
  obtain ⟨A, c, e, _, _, h3⟩ := h
  rcases Nat.eq_zero_or_pos l.length with h0 | h0
  · exact List.eq_nil_of_length_eq_zero h0
  · obtain ⟨ad, rfl, _⟩ := h3 h0
    cases e
end
end Go.Proofs.Ytjhgihgggofocaa
