/- A store of a whole element into a list of the call's own. -/
import Derived.Test.YtehlnkhbbnddmaaLI
import Derived.OpenShut
namespace Go.Proofs.Ytehlnkhbbnddmaa
open Go.RowKit
/-- Small signed integers. -/
abbrev I8 : Type := {a : Int // (Lit.int .i8 a).wf = true}
abbrev encS (x : I8) : List Value := [.int .i8 x.1]
theorem encS_len (x : I8) : (encS x).length = 1 := rfl
theorem flat_set {α : Type} {sz : Nat} {enc : α → List Value} (hsz : ∀ a, (enc a).length = sz) (b : α) : ∀ (xs : List α) (k : Nat) (tl : List Value), k < xs.length →
    (xs.flatMap enc ++ tl).take (k * sz) ++ enc b ++ (xs.flatMap enc ++ tl).drop (k * sz + sz) = (xs.set k b).flatMap enc ++ tl
  | [], _, _, h => by simp at h
  | x :: xs, 0, tl, _ => by
    rw [Nat.zero_mul, List.take_zero, Nat.zero_add, List.set_cons_zero, List.flatMap_cons, List.flatMap_cons, List.nil_append, List.append_assoc (enc x), ← hsz x, List.drop_left, List.append_assoc]
  | x :: xs, k + 1, tl, h => by
    have ih := flat_set hsz b xs k tl (by simpa using h)
    have e : (k + 1) * sz = sz + k * sz := by rw [Nat.add_mul]; omega
    rw [List.set_cons_succ, List.flatMap_cons, List.flatMap_cons, List.append_assoc (enc x) _ tl, List.append_assoc (enc x) ((xs.set k b).flatMap enc) tl, ← ih, e]
    rw [show sz + k * sz = (enc x).length + k * sz from by rw [hsz], List.append_assoc, List.take_length_add_append, Nat.add_assoc, List.drop_length_add_append]
    simp only [List.append_assoc]
section
variable {α : Type} {P : Program} {ops : Array Oper} {Q : Exit → Act → World → Prop} {n : Nat} {l : List Oper} {S : Slots} {w w' : World} {o : Oper} {g : Nat}
theorem RG.stSeg {T k : Nat} {t : TypeId} {x y : Operand} {v : Value} {us cs : List Value} (hw : wantS ops S o = some true) (hd : o.dst = none) (ho : o.op = .store T x y) (hx : ev S x = some (.pointer (some ((⟨g, 0, none⟩ : Addr).add k)))) (hy : ev S y = some v)
    (hs : sizeP P T = some us.length) (hv : v.cells = us.toArray) (h1 : us.all (·.oneCell') = true) (hb : Blk w g t cs) (hk : k + us.length ≤ cs.length)
    (kk : ∀ w', Wr w w' g → Blk w' g t (cs.take k ++ us ++ cs.drop (k + us.length)) → RG P ops Q n l S w') : RG P ops Q n (o :: l) S w := by
  have hst := run_storeCells_at P g k t us 0 cs.toArray w hb (by simpa using hk) (fun u hu => (List.all_eq_true.1 h1) u hu)
  refine RG.run0 (w' := w.setRow g (cs.take k ++ us ++ cs.drop (k + us.length)).toArray) hw hd (fun a ha => ?_) (kk _ (wr_setRow _ _ _) (blk_setRow hb))
  simp only [execOp, ho]; rw [ha.eval hx, ha.eval hy]
  rw [add_at]
  simp [Instr.storeAt, Instr.sureAddr, storeVar, run_sizeOf hs, hv, hst]
theorem RG.stOwAll {T k B sz : Nat} {e : TypeId} {enc : α → List Value} {w0v v : Value} {xs : List α} {x y : Operand} {a : α} (b : α) (hw : wantS ops S o = some true) (hd : o.dst = none) (ho : o.op = .store T x y) (hx : ev S x = some (.pointer (some ((⟨g, 0, none⟩ : Addr).add (k * sz))))) (hy : ev S y = some v)
    (hs : sizeP P T = some sz) (hv : v.cells = (enc b).toArray) (h1 : (enc b).all (·.oneCell') = true) (hsz : ∀ a, (enc a).length = sz) (hown : Own w B e sz enc w0v xs) (hg : w0v.ownBlock = some g) (hk : xs[k]? = some a)
    (kk : ∀ w', Wr w w' g → Own w' B e sz enc w0v (xs.set k b) → RG P ops Q n l S w') : RG P ops Q n (o :: l) S w := by
  have hlt : k < xs.length := (List.getElem?_eq_some_iff.1 hk).1
  obtain ⟨g', cap, cs, rfl, hB, hb, hmc, hcm, hcl, htk⟩ := own_open hown (by omega)
  have : g' = g := by simpa [Value.ownBlock] using hg
  subst this
  have hfl := length_flatMap_enc hsz xs
  have hcs : cs = xs.flatMap enc ++ cs.drop (xs.length * sz) := by rw [← htk, List.take_append_drop]
  have hks : k * sz + sz ≤ xs.length * sz := by
    calc k * sz + sz = (k + 1) * sz := by rw [Nat.add_mul]; omega
      _ ≤ _ := Nat.mul_le_mul_right _ hlt
  have hcc : xs.length * sz ≤ cap * sz := Nat.mul_le_mul_right _ hmc
  have hfs := flat_set hsz b xs k (cs.drop (xs.length * sz)) hlt
  rw [← hcs] at hfs
  refine RG.stSeg hw hd ho hx hy (by rw [hsz]; exact hs) hv h1 hb (by rw [hsz]; omega) fun w' hwr hb' => kk w' hwr ?_
  rw [hsz, hfs] at hb'
  have hl2 : ((xs.set k b).flatMap enc).length = xs.length * sz := by rw [length_flatMap_enc hsz, List.length_set]
  refine ⟨by rw [length_flatMap_enc hsz], .inr ⟨g', cap, _, by rw [List.length_set], hB, hb', by rw [List.length_set]; exact hmc, hcm, ?_, ?_⟩⟩
  · simp only [List.size_toArray, List.length_append, hl2, List.length_drop]; omega
  · rw [List.length_set, ← hl2]; exact List.take_left
end
end Go.Proofs.Ytehlnkhbbnddmaa
