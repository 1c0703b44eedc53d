/- Lent slices: a copy with marks behind it. -/
import Derived.Test.YtjhgihgggofocaaLI
namespace Go.Proofs.Ytjhgihgggofocaa
open Go.RowKit
def mkI (k i : Int) : Int := IntKind.u8.wrap (IntKind.u64.wrap (IntKind.u64.wrap (1000003 * (k + 7) + i) * 11400714819323198485) / 2 ^ min (56 : Int).toNat IntKind.u64.bits)
def mkB (k i : Nat) : Nat := (mkI k i).toNat
theorem wrap8 (n : Int) : 0 ≤ IntKind.u8.wrap n ∧ IntKind.u8.wrap n ≤ 255 := by
  have h : IntKind.u8.wrap n = n % 256 := rfl
  rw [h]; omega
theorem mkB_cast (k i : Nat) : (mkB k i : Int) = mkI k i := Int.toNat_of_nonneg (wrap8 _).1
theorem mkB_lt (k i : Nat) : mkB k i < 256 := by have := mkB_cast k i; have := (wrap8 (IntKind.u64.wrap (IntKind.u64.wrap (1000003 * ((k : Int) + 7) + i) * 11400714819323198485) / 2 ^ min (56 : Int).toNat IntKind.u64.bits)).2; unfold mkI at *; omega
def mks (k n : Nat) : List Nat := (List.range n).map (mkB k)
theorem mks_len (k n : Nat) : (mks k n).length = n := by simp [mks]
theorem mks_more (k n : Nat) : mks k (n + 1) = mks k n ++ [mkB k n] := by unfold mks; rw [List.range_succ, List.map_append]; rfl
theorem mks_at (k n i : Nat) (h : i < n) : (mks k n)[i]? = some (mkB k i) := by unfold mks; rw [List.getElem?_map, List.getElem?_range h]; rfl
theorem kept_l {l m : List Nat} {i : Nat} (h : i < l.length) : (l ++ m)[i]? = some l[i] := by
  rw [List.getElem?_append_left h]; exact List.getElem?_eq_getElem h
theorem kept_m {l : List Nat} {i : Nat} (h1 : l.length ≤ i) (h2 : i < l.length + 12) : (l ++ mks 1 12)[i]? = some (mkB 1 (i - l.length)) := by
  rw [List.getElem?_append_right h1]; exact mks_at 1 12 _ (by omega)
section
variable {w w' : World} {B : Nat} {e : TypeId}
theorem lent_rdl {g cap n : Nat} {l m : List Nat} (hn : (l ++ m).length = n) (h : Own w B e 1 encN (.slice (some ⟨g, 0, none⟩) n cap) (l ++ m)) : RdL w 1 encN (.slice (some ⟨g, 0, none⟩) l.length cap) l := by
  subst hn
  obtain ⟨A, c, hv, h1, h2, h3⟩ := h.rdl encN_len
  injection hv with hv1 hv2 hv3
  subst hv1 hv3
  rw [List.length_append] at h1 h3
  refine ⟨_, cap, rfl, by omega, h2, fun hl => ?_⟩
  obtain ⟨ad, hA, hb, hc⟩ := h3 (by omega)
  exact ⟨ad, hA, hb, fun i a hi => hc i a (by rw [List.getElem?_append_left (List.getElem?_eq_some_iff.1 hi).1]; exact hi)⟩
theorem getElem?_one {l : List Nat} {i : Nat} (h : i < l.length) : l[i]? = some l[i] := List.getElem?_eq_getElem h
theorem lent_big {g cap : Nat} {l : List Nat} (h : Own w B e 1 encN (.slice (some ⟨g, 0, none⟩) (l.length + 12) cap) (l ++ mks 1 12)) : RdL w 1 encN (.slice (some ⟨g, 0, none⟩) (l.length + 12) cap) (l ++ mks 1 12) := h.rdl encN_len
theorem grown_tr {a b c : World} {r : Option Nat} (h : a.grownBy b r) (k : b.grownBy c r) : a.grownBy c r :=
  ⟨k.os.trans h.os, k.tape.trans h.tape, k.output.trans h.output, Nat.le_trans h.size k.size, fun i hi hne => (k.block i (Nat.lt_of_lt_of_le hi h.size) hne).trans (h.block i hi hne)⟩
theorem lent_norm {g cap : Nat} {l : List Nat} (h : Own w B e 1 encN (.slice (some ⟨g, 0, none⟩) (l.length + 12) cap) (l ++ mks 1 12)) : Own w B e 1 encN (.slice (some ⟨g, 0, none⟩) (l ++ mks 1 12).length cap) (l ++ mks 1 12) := by
  rw [show (l ++ mks 1 12).length = l.length + 12 from by rw [List.length_append, mks_len]]; exact h
theorem lent_len (l : List Nat) : (l ++ mks 1 12).length = l.length + 12 := by rw [List.length_append, mks_len]
theorem Own.cap {g n c : Nat} {l : List Nat} (h : Own w B e 1 encN (.slice (some ⟨g, 0, none⟩) n c) l) : l.length ≤ c := by
  rcases h.2 with ⟨hv, _⟩ | ⟨g', cap, cur, hv, _, _, h1, _⟩
  · injection hv with hv; cases hv
  · injection hv with _ _ hv; omega
theorem lent_cap {g cap : Nat} {l : List Nat} (h : Own w B e 1 encN (.slice (some ⟨g, 0, none⟩) (l.length + 12) cap) (l ++ mks 1 12)) : l.length + 12 ≤ cap := by have := Own.cap h; rwa [lent_len] at this
theorem lent_cap2 {g cap : Nat} {l : List Nat} (h : Own w B e 1 encN (.slice (some ⟨g, 0, none⟩) (l.length + 12) cap) (l ++ mks 1 12)) : (l ++ mks 1 12).length ≤ cap := Own.cap h
end
section
variable {α : Type} {P : Program} {ops : Array Oper} {Q : Exit → Act → World → Prop} {n : Nat} {l : List Oper} {S : Slots} {w w' : World} {o : Oper} {d : Nat}
/-- make([]T, 0, m) -/
theorem RG.make0O {T e sz by_ m : Nat} {c : Int} {z : Value} {enc : α → List Value} {x y : Operand} {kx ky : IntKind} (hw : wantS ops S o = some true) (hd : o.dst = some d) (hdn : Nat.blt d n = true) (ho : o.op = .makeSlice T x y) (hx : ev S x = some (.int kx 0)) (hy : ev S y = some (.int ky c)) (hc : c = (m : Int))
    (ht : P.underlying T = some (.slice e)) (hi : (P.info? e).map (fun i => (i.zero, i.size, i.bytes)) = some (some z, sz, by_)) (hm : m * by_ ≤ 281474976710656) (hm2 : m ≤ maxLen)
    (kk : ∀ v w', Ex w w' → Own w' w.heap.size e sz enc v ([] : List α) → (∀ k, v.ownBlock = some k → w.heap.size ≤ k) → RG P ops Q n l ((d, v) :: S) w') : RG P ops Q n (o :: l) S w := by
  subst hc
  obtain ⟨i, hii, hz0, hz1, hz2⟩ := info_parts hi
  have hb : (i.bytes : Int) * (m : Int) ≤ 281474976710656 := by
    rw [hz2, ← Int.natCast_mul, Nat.mul_comm]; omega
  have h63 : (m : Int) ≤ 9223372036854775807 := by simp [maxLen] at hm2; omega
  have hr := run_make (P := P) w T e i z ht hii hz0 kx ky 0 m (by omega) (by omega) hb h63
  simp only [Int.toNat_natCast, hz1] at hr
  refine RG.run (w' := w.alloc (.cells (madeCells z.cells (m * sz)) e)) hw hd hdn (fun a ha => ?_) (kk _ _ (Ex.of_alloc w _) (World.ownsRow_made (e := e) w (madeCells z.cells (m * sz)) m (Nat.le_refl _) hm2 (by simp [madeCells])) (fun k hk => by injection hk with hk; simp at hk; omega))
  simp only [execOp, ho]; rw [ha.eval hx, ha.eval hy]
  simp [hr]
end
end Go.Proofs.Ytjhgihgggofocaa
