/- Strings that are ranged over, lists of runes. -/
import Derived.Test.YtjhgihgggofocaaLM
import Derived.Laws.RangeAny
import Derived.Laws.IdiomStrings
import Derived.Scope
namespace Go.Proofs.Ytjhgihgggofocaa
open Go.RowKit
/-- Block r holds an iterator over s at pos. -/
def Si (w : World) (r : Nat) (s : ByteArray) (pos : Nat) : Prop := w.heap[r]? = some (.stringIter s pos)
section
variable {P : Program} {ops : Array Oper} {Q : Exit → Act → World → Prop} {n d : Nat} {l : List Oper} {S : Slots} {w : World} {o : Oper} {r : Nat} {s : ByteArray} {pos : Nat}
theorem Si.ext {w' : World} (h : Si w r s pos) (hx : Ex w w') : Si w' r s pos := (hx.block r (Array.getElem?_eq_some_iff.1 h).1).trans h
theorem Si.lt (h : Si w r s pos) : r < w.heap.size := (Array.getElem?_eq_some_iff.1 h).1
theorem Si.far {w' : World} {g : Nat} (h : Si w r s pos) (k : Wr w w' g) (hne : r ≠ g) : Si w' r s pos := (k.block r hne).trans h
theorem run_next_si {ty : TypeId} (h : Si w r s pos) (hp : pos < s.size) :
    (Instr.next (.pointer (some ⟨r, 0, none⟩)) true ty).run P w = .ok (.tuple #[.bool true, .int .i64 pos, .int .i32 (Utf8.decode s pos).1]) (ChangeMaps.setBlock w r (.stringIter s (pos + (Utf8.decode s pos).2))) := by
  unfold Si at h
  simp only [Instr.next, getObj, setObj, Sem.run_bind, Sem.run, h, Result.andThen, hp, if_true]
  simp [goInt, ChangeMaps.setBlock]
theorem run_next_si_end {ty : TypeId} (h : Si w r s pos) (hp : ¬ pos < s.size) : (Instr.next (.pointer (some ⟨r, 0, none⟩)) true ty).run P w = .ok (.tuple #[.bool false]) w := by
  unfold Si at h
  simp [Instr.next, getObj, Sem.run, h, hp]
theorem RG.sRange {T : Nat} {x : Operand} (hw : wantS ops S o = some true) (hd : o.dst = some d) (hdn : Nat.blt d n = true) (ho : o.op = .range T x) (hx : ev S x = some (.string s)) (ht : P.underlying T = some .string)
    (kk : ∀ r w', r = w.heap.size → Ex w w' → Si w' r s 0 → RG P ops Q n l ((d, .pointer (some ⟨r, 0, none⟩)) :: S) w') : RG P ops Q n (o :: l) S w := by
  refine RG.run (w' := w.iter s 0) hw hd hdn (fun a ha => ?_) (kk w.heap.size _ rfl (Ex.of_alloc w _) (World.iter_heap w s 0))
  simp only [execOp, ho]; rw [ha.eval hx]
  simp [run_range_string w T s ht]
theorem RG.sNext {x : Operand} (hw : wantS ops S o = some true) (hd : o.dst = some d) (hdn : Nat.blt d n = true) (ho : o.op = .next x true) (hx : ev S x = some (.pointer (some ⟨r, 0, none⟩))) (h : Si w r s pos)
    (k0 : s.size ≤ pos → RG P ops Q n l ((d, .tuple #[.bool false]) :: S) w)
    (k1 : ∀ w', pos < s.size → Wr w w' r → Si w' r s (pos + (Utf8.decode s pos).2) → RG P ops Q n l ((d, .tuple #[.bool true, .int .i64 pos, .int .i32 (Utf8.decode s pos).1]) :: S) w') : RG P ops Q n (o :: l) S w := by
  by_cases hp : pos < s.size
  · have hlt := h.lt
    have hs := MapKept.heap_set (o' := .stringIter s (pos + (Utf8.decode s pos).2)) (show w.heap[r]? = some (.stringIter s pos) from h)
    refine RG.run (w' := ChangeMaps.setBlock w r (.stringIter s (pos + (Utf8.decode s pos).2))) hw hd hdn (fun a ha => ?_) (k1 _ hp ⟨rfl, rfl, rfl, by simp [ChangeMaps.setBlock], fun j hj => hs.2 j hj⟩ hs.1)
    simp only [execOp, ho]; rw [ha.eval hx]
    simp [run_next_si h hp]
  · refine RG.run hw hd hdn (fun a ha => ?_) (k0 (by omega))
    simp only [execOp, ho]; rw [ha.eval hx]
    simp [run_next_si_end h hp]
/-- A byte below 128 is a rune. -/
theorem dec_lo {t : List UInt8} {i : Nat} {c : UInt8} (h : t[i]? = some c) (hc : c.toNat < 128) : Utf8.decode ⟨t.toArray⟩ i = (c.toNat, 1) := by
  obtain ⟨hi, e⟩ := List.getElem?_eq_some_iff.1 h
  have hs : i < (⟨t.toArray⟩ : ByteArray).size := by simpa [ByteArray.size] using hi
  have hb : ((⟨t.toArray⟩ : ByteArray)[i]'hs) = c := by rw [← e]; rfl
  rw [decode_ascii _ _ hs (by rw [hb]; exact hc), hb]
theorem dec_hi {t : List UInt8} {i : Nat} {c : UInt8} (h : t[i]? = some c) (hc : 128 ≤ c.toNat) : 128 ≤ (Utf8.decode ⟨t.toArray⟩ i).1 ∧ 1 ≤ (Utf8.decode ⟨t.toArray⟩ i).2 := by
  obtain ⟨hi, e⟩ := List.getElem?_eq_some_iff.1 h
  have hs : i < (⟨t.toArray⟩ : ByteArray).size := by simpa [ByteArray.size] using hi
  exact decode_high _ _ hs (by rw [show ((⟨t.toArray⟩ : ByteArray)[i]'hs) = c from by rw [← e]; rfl]; exact hc)
/-- A scope through which the run goes without a jump. -/
theorem CW.scope {c : Code} (k : CW P c (Exit.noGoto Q) n S w) : CW P (.scope c) Q n S w := fun a ha => wp_scope_straight (k a ha)
theorem QW.noGotoN (k : QW Q .normal n S w) : QW (Exit.noGoto Q) .normal n S w := k
theorem QW.noGotoR (k : QW Q .ret n S w) : QW (Exit.noGoto Q) .ret n S w := k
theorem QW.noGotoX {id : Nat} (k : QW Q (.exit id) n S w) : QW (Exit.noGoto Q) (.exit id) n S w := k
/-- Any integer as a string: its letters. -/
theorem Ev.runeStrAny {src dst : TypeId} {x : Operand} {k : IntKind} {p : Int} (ho : o.op = .convert src dst x) (hx : ev S x = some (.int k p)) (hs : P.underlying src = some (.int k)) (hd : P.underlying dst = some .string) : Ev P n o S w (.string (Utf8.encode p)) := fun a ha => by
  simp only [execOp, ho]; rw [ha.eval hx]
  simp [convert, run_underlying hs, run_underlying hd, Conv.intToString]
end
/-! []rune(s) -/
abbrev encR (r : Nat) : List Value := [.int .i32 (r : Int)]
theorem encR_len (r : Nat) : (encR r).length = 1 := rfl
theorem runes_lo {t : List UInt8} (h : ∀ c ∈ t, c.toNat < 128) : ∀ (b i : Nat) (acc : Array Value), t.length ≤ i + b → Conv.runesFrom ⟨t.toArray⟩ b i acc = acc ++ ((t.drop i).map fun c => Value.int .i32 (c.toNat : Int)).toArray
  | 0, i, acc, hb => by rw [List.drop_eq_nil_of_le (by omega)]; simp [Conv.runesFrom]
  | b + 1, i, acc, hb => by
    unfold Conv.runesFrom
    have hsz : (⟨t.toArray⟩ : ByteArray).size = t.length := by simp [ByteArray.size]
    by_cases hi : i < t.length
    · rw [if_pos (by rw [hsz]; exact hi), dec_lo (List.getElem?_eq_getElem hi) (h _ (List.getElem_mem hi))]
      show Conv.runesFrom _ b (i + 1) _ = _
      rw [runes_lo h b (i + 1) _ (by omega), List.drop_eq_getElem_cons hi]
      apply Array.ext'
      simp only [Array.toList_append, Array.toList_push, List.map_cons, List.append_assoc, List.cons_append, List.nil_append]
      rfl
    · rw [if_neg (by rw [hsz]; exact hi), List.drop_eq_nil_of_le (by omega)]
      simp
/-- A row of runes, and what lies behind it. -/
def Rn (w : World) (g e : Nat) (cap : Nat) (t : List UInt8) : Prop := Blk w g e (t.map (fun c => Value.int .i32 (c.toNat : Int)) ++ List.replicate (cap - t.length) (.int .i32 0)) ∧ t.length ≤ cap ∧ cap ≤ maxLen
theorem Rn.rdl {w : World} {g e cap : Nat} {t : List UInt8} (h : Rn w g e cap t) : RdL w 1 encR (.slice (some ⟨g, 0, none⟩) t.length cap) (t.map (·.toNat)) := by
  obtain ⟨hb, h1, h2⟩ := h
  refine ⟨_, cap, by rw [List.length_map], by rw [List.length_map]; exact h1, h2, fun hl => ⟨_, rfl, (Array.getElem?_eq_some_iff.1 hb).1, fun i a hi j u hu => ?_⟩⟩
  have hlt := (List.getElem?_eq_some_iff.1 hi).1
  rw [List.length_map] at hlt
  match j, hu with
  | 0, hu =>
    simp only [encR, List.getElem?_cons_zero, Option.some.injEq] at hu
    subst hu
    rw [add_of_add, add_at, Nat.mul_one, Nat.add_zero, hb.cell i, List.getElem?_append_left (by rw [List.length_map]; exact hlt)]
    rw [List.getElem?_map] at hi ⊢
    cases hq : t[i]? with
    | none => rw [hq] at hi; cases hi
    | some c => rw [hq] at hi; simp at hi; subst hi; rfl
  | j + 1, hu => simp [encR] at hu
section
variable {P : Program} {ops : Array Oper} {Q : Exit → Act → World → Prop} {n d : Nat} {l : List Oper} {S : Slots} {w : World} {o : Oper}
theorem RG.toRunes {src dst e : Nat} {x : Operand} {t : List UInt8} (hw : wantS ops S o = some true) (hd : o.dst = some d) (hdn : Nat.blt d n = true) (ho : o.op = .convert src dst x) (hx : ev S x = some (.string ⟨t.toArray⟩))
    (h1 : P.underlying src = some .string) (h2 : P.underlying dst = some (.slice e)) (h3 : P.underlying e = some (.int .i32)) (hl : t.length ≤ 1000000) (ha : ∀ c ∈ t, c.toNat < 128)
    (kk : ∀ g cap w', g = w.heap.size → Ex w w' → Rn w' g e cap t → RG P ops Q n l ((d, .slice (some ⟨g, 0, none⟩) t.length cap) :: S) w') : RG P ops Q n (o :: l) S w := by
  have hsz : (⟨t.toArray⟩ : ByteArray).size = t.length := by simp [ByteArray.size]
  have hr := runes_lo ha t.length 0 #[] (by omega)
  rw [List.drop_zero, Array.empty_append] at hr
  have hrs : (Conv.runesFrom ⟨t.toArray⟩ t.length 0 #[]).size = t.length := by rw [hr]; simp
  have hrun := run_runes_of_string (P := P) w src dst e ⟨t.toArray⟩ h1 h2 h3 (by rw [hsz, hrs]; omega)
  rw [hsz, hrs, hr] at hrun
  have hnew : (w.drew.alloc (.cells ((t.map fun c => Value.int .i32 (c.toNat : Int)).toArray ++ Array.replicate (grownCap w t.length 0 e - t.length) (.int .i32 0)) e)).heap[w.heap.size]? = some (.cells ((t.map fun c => Value.int .i32 (c.toNat : Int)).toArray ++ Array.replicate (grownCap w t.length 0 e - t.length) (.int .i32 0)) e) := by
    show (w.heap.push _)[w.heap.size]? = _
    simp
  have hex : Ex w (w.drew.alloc (.cells ((t.map fun c => Value.int .i32 (c.toNat : Int)).toArray ++ Array.replicate (grownCap w t.length 0 e - t.length) (.int .i32 0)) e)) :=
    ⟨rfl, rfl, rfl, by show w.heap.size ≤ (w.heap.push _).size; simp, fun k hk => Below.heap_alloc w.drew _ k hk⟩
  refine RG.run hw hd hdn (fun a ha' => ?_) (kk w.heap.size (grownCap w t.length 0 e) _ rfl hex ⟨?_, grownCap_ge _ _ _ _, grownCap_le_maxLen _ _ _ _ (by unfold maxLen; omega)⟩)
  · simp only [execOp, ho]; rw [ha'.eval hx]
    simp [hrun]
  · unfold Blk
    rw [hnew]
    congr 2
    apply Array.ext'
    simp
end
end Go.Proofs.Ytjhgihgggofocaa
