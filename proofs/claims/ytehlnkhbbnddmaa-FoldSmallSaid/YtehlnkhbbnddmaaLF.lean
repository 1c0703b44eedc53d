/- Maps with plain keys, made slices, closures, bytes and strings, results that lie in cells. -/
import Derived.Test.YtehlnkhbbnddmaaLE
import Derived.MapKept
import Derived.Maps.RangeRun
import Derived.Laws.OwnMore
import Derived.Laws.IdiomStrings
import Derived.Laws.BytesArg
import Derived.Lib.ConvBytes
import Derived.Lib.Bytealg
namespace Go.Proofs.Ytehlnkhbbnddmaa
open Go.RowKit

section
variable {κ : Type}
def ents (enc : κ → Value) : List (κ × Value) → Nat → List MapEntry
  | [], _ => []
  | p :: l, i => ⟨enc p.1, p.2, i⟩ :: ents enc l (i + 1)
/-- Block g is a map with these entries, in the order in which they came. -/
def Mp (w : World) (g : Nat) (enc : κ → Value) (kvs : List (κ × Value)) : Prop := w.heap[g]? = some (.map (ents enc kvs 0).toArray kvs.length)
/-- Keys that are compared at sight. -/
structure KeyT [DecidableEq κ] (D : TypeDesc) (enc : κ → Value) : Prop where
  key : ∀ a, MapKept.IsKey D (enc a)
  same : ∀ a b, Instr.sameNow D (enc a) (enc b) = some (decide (a = b))
def mget [DecidableEq κ] : List (κ × Value) → κ → Option Value
  | [], _ => none
  | p :: l, k => if p.1 = k then some p.2 else mget l k
theorem mget_none [DecidableEq κ] : ∀ {l : List (κ × Value)} {k : κ}, (∀ p ∈ l, p.1 ≠ k) → mget l k = none
  | [], _, _ => rfl
  | p :: l, k, h => by unfold mget; rw [if_neg (h p (by simp))]; exact mget_none fun q hq => h q (by simp [hq])
variable {D : TypeDesc} {enc : κ → Value}
theorem find_ents [DecidableEq κ] (K : KeyT D enc) (k : κ) : ∀ (l : List (κ × Value)) (i j : Nat), ∃ r, Instr.findNow D (enc k) (ents enc l i) j = some r ∧ r.map (·.2) = mget l k
  | [], _, _ => ⟨none, rfl, rfl⟩
  | p :: l, i, j => by
    have hs := K.same k p.1
    by_cases e : p.1 = k
    · refine ⟨some (j, p.2), ?_, by simp [mget, e]⟩
      rw [decide_eq_true e.symm] at hs
      simp [ents, Instr.findNow, hs]
    · obtain ⟨r, h1, h2⟩ := find_ents K k l (i + 1) (j + 1)
      refine ⟨r, ?_, by simp [mget, e, h2]⟩
      have : decide (k = p.1) = false := by simpa using fun q : k = p.1 => e q.symm
      simp [ents, Instr.findNow, hs, this, h1]
theorem ents_snoc (enc : κ → Value) (k : κ) (v : Value) : ∀ (l : List (κ × Value)) (i : Nat), ents enc (l ++ [(k, v)]) i = ents enc l i ++ [⟨enc k, v, i + l.length⟩]
  | [], i => by simp [ents]
  | p :: l, i => by rw [List.cons_append, ents, ents_snoc enc k v l (i + 1), ents, List.cons_append, show i + 1 + l.length = i + (p :: l).length from by simp; omega]
theorem ents_at (enc : κ → Value) : ∀ (l : List (κ × Value)) (i j : Nat), (ents enc l i)[j]? = (l[j]?).map fun p => ⟨enc p.1, p.2, i + j⟩
  | [], _, _ => by simp [ents]
  | p :: l, i, 0 => by simp [ents]
  | p :: l, i, j + 1 => by simp only [ents, List.getElem?_cons_succ]; rw [ents_at enc l (i + 1) j, show i + 1 + j = i + (j + 1) from by omega]
theorem ents_len (enc : κ → Value) : ∀ (l : List (κ × Value)) (i : Nat), (ents enc l i).length = l.length
  | [], _ => rfl
  | _ :: l, i => by simp [ents, ents_len enc l (i + 1)]
theorem ents_born (enc : κ → Value) : ∀ (l : List (κ × Value)) (i : Nat), (ents enc l i).map (·.born) = List.range' i l.length
  | [], _ => by simp [ents]
  | p :: l, i => by simp [ents, ents_born enc l (i + 1), List.range'_succ]
theorem keyI : KeyT (.int .i64) (fun i : Int => .int .i64 i) := ⟨fun _ => rfl, fun a b => by
  simp only [Instr.sameNow, if_true, Option.some.injEq]
  by_cases h : a = b <;> simp [h]⟩
theorem keyB : KeyT .bool (fun b : Bool => .bool b) := ⟨fun _ => trivial, fun a b => by cases a <;> cases b <;> rfl⟩

variable {P : Program} {ops : Array Oper} {Q : Exit → Act → World → Prop} {n : Nat} {l : List Oper} {S : Slots} {w w' : World} {o : Oper} {d g : Nat} {kvs : List (κ × Value)}
theorem Mp.lt (h : Mp w g enc kvs) : g < w.heap.size := (Array.getElem?_eq_some_iff.1 h).1
theorem Mp.ext (h : Mp w g enc kvs) (hx : Ex w w') : Mp w' g enc kvs := (hx.block g h.lt).trans h
theorem Mp.far {j : Nat} (h : Mp w g enc kvs) (hx : Wr w w' j) (hne : g ≠ j) : Mp w' g enc kvs := (hx.block g hne).trans h

/-- make a map -/
theorem RG.mkMap {T : Nat} (enc : κ → Value) (hw : wantS ops S o = some true) (hd : o.dst = some d) (hdn : Nat.blt d n = true) (ho : o.op = .makeMap T none)
    (kk : ∀ g w', g = w.heap.size → Ex w w' → Mp w' g enc [] → RG P ops Q n l ((d, .map (some g)) :: S) w') : RG P ops Q n (o :: l) S w := by
  refine RG.run (w' := w.alloc (.map #[] 0)) hw hd hdn (fun a ha => ?_) (kk w.heap.size _ rfl (Ex.of_alloc w _) (by unfold Mp; simpa [ents] using (MapKept.heap_alloc w (.map #[] 0)).1))
  have hr : (Instr.makeMap T none).run P w = .ok (.map (some w.heap.size)) (w.alloc (.map #[] 0)) := rfl
  simp only [execOp, ho, Option.map_none]
  rw [Sem.run_bind, hr]
  rfl

theorem look_run [DecidableEq κ] {T kt E sz by_ : Nat} {z : Value} {c : Bool} (K : KeyT D enc) (h : Mp w g enc kvs) (ht : P.underlying T = some (.map kt E)) (hk : P.underlying kt = some D) (hi : (P.info? E).map (fun i => (i.zero, i.size, i.bytes)) = some (some z, sz, by_)) (k : κ) :
    (Instr.lookup T (.map (some g)) (enc k) c).run P w = .ok (if c then .tuple #[(mget kvs k).getD z, .bool (mget kvs k).isSome] else (mget kvs k).getD z) w := by
  obtain ⟨i, hii, hz0, hz1, hz2⟩ := info_parts hi
  obtain ⟨r, h1, h2⟩ := find_ents K k kvs 0 0
  rw [← h2]
  have hc := fun e => MapKept.run_checkKey (P := P) (w := w) hk (K.key k) e 9999
  have hf := MapKept.run_findKey (P := P) (w := w) hk h1
  simp only [Instr.lookup, Sem.run_bind, run_underlying ht, Result.andThen, MapKept.run_getObj_map h, Sem.run_pure, hc, hf]
  cases r with
  | none => cases c <;> simp [zeroValue, typeInfo, hii, hz0]
  | some p => cases c <;> simp
theorem Ev.look [DecidableEq κ] {T kt E sz by_ : Nat} {z : Value} {c : Bool} {x y : Operand} {k : κ} (K : KeyT D enc) (ho : o.op = .lookup T x y c) (hx : ev S x = some (.map (some g))) (hy : ev S y = some (enc k)) (h : Mp w g enc kvs) (ht : P.underlying T = some (.map kt E)) (hk : P.underlying kt = some D)
    (hi : (P.info? E).map (fun i => (i.zero, i.size, i.bytes)) = some (some z, sz, by_)) : Ev P n o S w (if c then .tuple #[(mget kvs k).getD z, .bool (mget kvs k).isSome] else (mget kvs k).getD z) := fun a ha => by
  simp only [execOp, ho]; rw [ha.eval hx, ha.eval hy]
  simp [look_run K h ht hk hi k]
theorem Ev.lookOk [DecidableEq κ] {T kt E sz by_ : Nat} {z : Value} {x y : Operand} {k : κ} (K : KeyT D enc) (ho : o.op = .lookup T x y true) (hx : ev S x = some (.map (some g))) (hy : ev S y = some (enc k)) (h : Mp w g enc kvs) (ht : P.underlying T = some (.map kt E)) (hk : P.underlying kt = some D)
    (hi : (P.info? E).map (fun i => (i.zero, i.size, i.bytes)) = some (some z, sz, by_)) : Ev P n o S w (.tuple #[(mget kvs k).getD z, .bool (mget kvs k).isSome]) := Ev.look (c := true) K ho hx hy h ht hk hi
theorem Ev.look1 [DecidableEq κ] {T kt E sz by_ : Nat} {z : Value} {x y : Operand} {k : κ} (K : KeyT D enc) (ho : o.op = .lookup T x y false) (hx : ev S x = some (.map (some g))) (hy : ev S y = some (enc k)) (h : Mp w g enc kvs) (ht : P.underlying T = some (.map kt E)) (hk : P.underlying kt = some D)
    (hi : (P.info? E).map (fun i => (i.zero, i.size, i.bytes)) = some (some z, sz, by_)) : Ev P n o S w ((mget kvs k).getD z) := Ev.look (c := false) K ho hx hy h ht hk hi

/-- A new key. -/
theorem RG.mapPut [DecidableEq κ] {T kt E : Nat} {x y z : Operand} {k : κ} {v : Value} (K : KeyT D enc) (hw : wantS ops S o = some true) (hd : o.dst = none) (ho : o.op = .mapUpdate T x y z ∨ o.op = .insert T x y z)
    (hx : ev S x = some (.map (some g))) (hy : ev S y = some (enc k)) (hz : ev S z = some v) (ht : P.underlying T = some (.map kt E)) (hk : P.underlying kt = some D) (h : Mp w g enc kvs) (hno : mget kvs k = none)
    (kk : ∀ w', Wr w w' g → Mp w' g enc (kvs ++ [(k, v)]) → RG P ops Q n l S w') : RG P ops Q n (o :: l) S w := by
  obtain ⟨r, h1, h2⟩ := find_ents K k kvs 0 0
  rw [hno] at h2
  have hr : r = none := by cases r <;> simp at h2 ⊢
  subst hr
  have hs := MapKept.heap_set (o' := .map ((ents enc (kvs ++ [(k, v)]) 0).toArray) (kvs.length + 1)) h
  have hrun : (Instr.mapUpdate T (.map (some g)) (enc k) v).run P w = .ok () { w with heap := w.heap.setIfInBounds g (.map ((ents enc (kvs ++ [(k, v)]) 0).toArray) (kvs.length + 1)) } := by
    have hc := fun e => MapKept.run_checkKey (P := P) (w := w) hk (K.key k) e 9999
    have hf := MapKept.run_findKey (P := P) (w := w) hk h1
    simp only [Instr.mapUpdate, Sem.run_bind, run_underlying ht, Result.andThen, MapKept.run_getObj_map h, hc, hf]
    rw [MapKept.run_setObj_map _ h, ents_snoc]
    simp
  refine RG.run0 (w' := { w with heap := w.heap.setIfInBounds g (.map ((ents enc (kvs ++ [(k, v)]) 0).toArray) (kvs.length + 1)) }) hw hd (fun a ha => ?_) (kk _ ⟨rfl, rfl, rfl, by simp, fun j hj => hs.2 j hj⟩ (by unfold Mp; rw [hs.1]; simp))
  rcases ho with ho | ho <;> (simp only [execOp, ho]; rw [ha.eval hx, ha.eval hy, ha.eval hz]; simp [hrun])

/-- An iterator over a map of m entries: which of them have come. -/
def It (w : World) (r g m : Nat) (seen : List Nat) : Prop := w.heap[r]? = some (.mapIter (some g) m seen.toArray m)
theorem It.lt {r m : Nat} {seen : List Nat} (h : It w r g m seen) : r < w.heap.size := (Array.getElem?_eq_some_iff.1 h).1
theorem It.ext {r m : Nat} {seen : List Nat} (h : It w r g m seen) (hx : Ex w w') : It w' r g m seen := (hx.block r h.lt).trans h
theorem It.far {r m j : Nat} {seen : List Nat} (h : It w r g m seen) (hx : Wr w w' j) (hne : r ≠ j) : It w' r g m seen := (hx.block r hne).trans h
theorem RG.mRange {T kt E : Nat} {x : Operand} (hw : wantS ops S o = some true) (hd : o.dst = some d) (hdn : Nat.blt d n = true) (ho : o.op = .range T x) (hx : ev S x = some (.map (some g))) (ht : P.underlying T = some (.map kt E)) (h : Mp w g enc kvs)
    (kk : ∀ r w', r = w.heap.size → Ex w w' → It w' r g kvs.length [] → RG P ops Q n l ((d, .pointer (some ⟨r, 0, none⟩)) :: S) w') : RG P ops Q n (o :: l) S w := by
  refine RG.run (w' := w.alloc (.mapIter (some g) kvs.length #[] kvs.length)) hw hd hdn (fun a ha => ?_) (kk w.heap.size _ rfl (Ex.of_alloc w _) (MapKept.heap_alloc w _).1)
  simp only [execOp, ho]; rw [ha.eval hx]
  simp [run_range_map w T kt E g _ _ ht h]
theorem RG.mNext {r : Nat} {x : Operand} {seen : List Nat} (hw : wantS ops S o = some true) (hd : o.dst = some d) (hdn : Nat.blt d n = true) (ho : o.op = .next x false) (hx : ev S x = some (.pointer (some ⟨r, 0, none⟩))) (h : Mp w g enc kvs) (hi : It w r g kvs.length seen) (hgr : g ≠ r)
    (k0 : (∀ i, i < kvs.length → i ∈ seen) → RG P ops Q n l ((d, .tuple #[.bool false]) :: S) w)
    (k1 : ∀ i k v w', kvs[i]? = some (k, v) → i ∉ seen → Wr w w' r → It w' r g kvs.length (seen ++ [i]) → Mp w' g enc kvs → RG P ops Q n l ((d, .tuple #[.bool true, enc k, v]) :: S) w') : RG P ops Q n (o :: l) S w := by
  have hold : ∀ x ∈ (ents enc kvs 0).toArray.toList, x.born < kvs.length := fun x hx => by
    have : x.born ∈ (ents enc kvs 0).map (·.born) := List.mem_map.2 ⟨x, by simpa using hx, rfl⟩
    rw [ents_born] at this
    simp at this
    exact this
  rcases run_next_at (P := P) w o.type r g kvs.length kvs.length seen.toArray _ _ hi h hold (Nat.le_refl _) with ⟨h0, hrun⟩ | ⟨e, he, w1, hal, hrun⟩
  · refine RG.run hw hd hdn (fun a ha => ?_) (k0 fun i hlt => ?_)
    · simp only [execOp, ho]; rw [ha.eval hx]; simp [hrun]
    · have hz := ents_at enc kvs 0 i
      rw [List.getElem?_eq_getElem hlt, Nat.zero_add] at hz
      have hem : (⟨enc kvs[i].1, kvs[i].2, i⟩ : MapEntry) ∈ (ents enc kvs 0).toArray := by simpa using List.mem_of_getElem? hz
      rw [Array.size_eq_zero_iff] at h0
      have h1 := (Array.filter_eq_empty_iff.1 h0) _ hem
      simpa using h1
  · have he' : e ∈ ents enc kvs 0 ∧ e.born ∉ seen := by
      unfold leftOf at he
      simpa using he
    obtain ⟨i, hi'⟩ := List.mem_iff_getElem?.1 he'.1
    rw [ents_at] at hi'
    cases hp : kvs[i]? with
    | none => rw [hp] at hi'; cases hi'
    | some p =>
      rw [hp] at hi'
      simp only [Option.map_some, Option.some.injEq, Nat.zero_add] at hi'
      subst hi'
      have hr1 : w1.heap[r]? = some (.mapIter (some g) kvs.length seen.toArray kvs.length) := by rcases hal with rfl | rfl <;> exact hi
      have hs := MapKept.heap_set (o' := .mapIter (some g) kvs.length (seen.toArray.push i) kvs.length) hr1
      have hwr : Wr w (ChangeMaps.setBlock w1 r (.mapIter (some g) kvs.length (seen.toArray.push i) kvs.length)) r := by
        rcases hal with rfl | rfl
        · exact ⟨rfl, rfl, rfl, by simp [ChangeMaps.setBlock], fun j hj => hs.2 j hj⟩
        · exact ⟨rfl, rfl, rfl, by simp [ChangeMaps.setBlock], fun j hj => hs.2 j hj⟩
      refine RG.run hw hd hdn (fun a ha => ?_) (k1 i p.1 p.2 _ hp he'.2 hwr ?_ (h.far hwr hgr))
      · simp only [execOp, ho]; rw [ha.eval hx]; simp [hrun]
      · unfold It; simpa [ChangeMaps.setBlock] using hs.1
theorem Ev.mEntry {r i : Nat} {x : Operand} {seen : List Nat} {k : κ} {v : Value} (ho : o.op = .entry x) (hx : ev S x = some (.pointer (some ⟨r, 0, none⟩))) (h : Mp w g enc kvs) (hi : It w r g kvs.length (seen ++ [i])) (hp : kvs[i]? = some (k, v)) : Ev P n o S w (.tuple #[enc k, v]) := fun a ha => by
  simp only [execOp, ho]; rw [ha.eval hx]
  have hz := ents_at enc kvs 0 i
  rw [hp, Nat.zero_add] at hz
  have := run_entry_at (P := P) w r g kvs.length seen.toArray _ _ ⟨enc k, v, i⟩ (by unfold It at hi; simpa using hi) h (by simpa using List.mem_of_getElem? hz) (by
    rw [show (ents enc kvs 0).toArray.toList = ents enc kvs 0 from rfl, ents_born]
    exact List.nodup_range')
  simp [this]
end

section
variable {P : Program} {ops : Array Oper} {Q : Exit → Act → World → Prop} {n : Nat} {l : List Oper} {S : Slots} {w w' : World} {o : Oper} {d g : Nat}
/-- A made slice: its block is the call's own. -/
theorem madeOne (z : Value) (m : Nat) : (madeCells #[z] m).toList = List.replicate m z := by
  apply List.ext_getElem?
  intro i
  simp only [madeCells, Array.toList_map, Array.toList_range, List.getElem?_map, List.getElem?_replicate]
  by_cases h : i < m
  · simp [h, Nat.mod_one]
  · simp [h]
theorem RG.make1 {T e by_ m : Nat} {c : Int} {z : Value} {x y : Operand} {kx ky : IntKind} (hw : wantS ops S o = some true) (hd : o.dst = some d) (hdn : Nat.blt d n = true) (ho : o.op = .makeSlice T x y) (hx : ev S x = some (.int kx c)) (hy : ev S y = some (.int ky c)) (hc : c = (m : Int))
    (ht : P.underlying T = some (.slice e)) (hi : (P.info? e).map (fun i => (i.zero, i.size, i.bytes)) = some (some z, 1, by_)) (hz : z.oneCell' = true) (hm : m * by_ ≤ 281474976710656) (hm2 : m ≤ maxLen)
    (kk : ∀ g w', g = w.heap.size → Ex w w' → Blk w' g e (List.replicate m z) → RG P ops Q n l ((d, .slice (some ⟨g, 0, none⟩) m m) :: S) w') : RG P ops Q n (o :: l) S w := by
  subst hc
  obtain ⟨i, hii, hz0, hz1, hz2⟩ := info_parts hi
  have hb : (i.bytes : Int) * (m : Int) ≤ 281474976710656 := by
    rw [hz2, ← Int.natCast_mul, Nat.mul_comm]; omega
  have h63 : (m : Int) ≤ 9223372036854775807 := by simp [maxLen] at hm2; omega
  have hr := run_make (P := P) w T e i z ht hii hz0 kx ky m m (by omega) (Int.le_refl _) hb h63
  simp only [Int.toNat_natCast, hz1, Nat.mul_one, cells_one hz] at hr
  refine RG.run (w' := w.alloc (.cells (madeCells #[z] m) e)) hw hd hdn (fun a ha => ?_) (kk w.heap.size _ rfl (Ex.of_alloc w _) (by have := new_blk w e (madeCells #[z] m); rwa [madeOne] at this))
  simp only [execOp, ho]; rw [ha.eval hx, ha.eval hy]
  simp [hr]

theorem Ev.mkFn {f : Fn} {first cap : Array Operand} {xs ys : List Operand} {us vs : List Value} (ho : o.op = .makeFunc f first cap) (h1 : first = xs.toArray) (h2 : cap = ys.toArray) (hx : evs S xs = some us) (hy : evs S ys = some vs) : Ev P n o S w (.func f us.toArray vs.toArray) := fun a ha => by
  simp only [execOp, ho, Instr.makeFunc]
  subst h1; subst h2
  rw [List.map_toArray, List.map_toArray, ha.evals hx, ha.evals hy]
  rfl

/-- alloc and store that do not stand side by side. -/
theorem RG.alloc_ {T k by_ : Nat} {z : Value} (hw : wantS ops S o = some true) (hd : o.dst = some d) (hdn : Nat.blt d n = true) (ho : o.op = .alloc T) (hi : (P.info? T).map (fun i => (i.zero, i.size, i.bytes)) = some (some z, k, by_))
    (kk : ∀ g w', g = w.heap.size → Ex w w' → Blk w' g T z.cells.toList → RG P ops Q n l ((d, .pointer (some ⟨g, 0, none⟩)) :: S) w') : RG P ops Q n (o :: l) S w := by
  obtain ⟨i, hii, hz0, hz1, hz2⟩ := info_parts hi
  refine RG.run (v := .pointer (some ⟨w.heap.size, 0, none⟩)) (w' := w.alloc (.cells z.cells T)) hw hd hdn (fun a ha => ?_) (kk w.heap.size _ rfl (Ex.of_alloc w _) (new_blk w T z.cells))
  simp only [execOp, ho]
  simp [Instr.alloc, zeroValue, typeInfo, hii, hz0, newVar, newRow]
theorem RG.stAll {T k : Nat} {x y : Operand} {v : Value} {cs : List Value} (hw : wantS ops S o = some true) (hd : o.dst = none) (ho : o.op = .store T x y) (hx : ev S x = some (.pointer (some ⟨g, 0, none⟩))) (hy : ev S y = some v)
    (hs : sizeP P T = some k) (hv : v.cells.size = k) (hcs : cs.length = k) (h1 : v.cells.toList.all (·.oneCell') = true) (hb : Blk w g T cs)
    (kk : ∀ w', Wr w w' g → Blk w' g T v.cells.toList → RG P ops Q n l S w') : RG P ops Q n (o :: l) S w := by
  refine RG.run0 (w' := w.setRow g v.cells.toList.toArray) hw hd (fun a ha => ?_) (kk _ (wr_setRow _ _ _) (blk_setRow hb))
  simp only [execOp, ho]; rw [ha.eval hx, ha.eval hy]
  simp [Instr.storeAt, Instr.sureAddr, storeVar_blk hb v rfl hs (by simpa using hv) hcs h1]

/-- What a pointer's slot shows, whole. -/
theorem QW.retC {fn : Func} {Φ : Value → World → Prop} {t T k : Nat} {D : TypeDesc} {us : List Value} (hr : fn.results = #[.cell t T]) (hv : lk S t = some (.pointer (some ⟨g, 0, none⟩)))
    (ht : P.underlying T = some D) (hD : aggD D = true) (hs : sizeP P T = some k) (hk : us.length = k) (hb : Blk w g T us) (h : Φ (.agg us.toArray) w) :
    QW (bodyPost P fn fun e w' => ∃ v, e = .returned v ∧ Φ v w') .ret n S w := by
  intro a ha
  have hl := run_loadCells_list (P := P) w ⟨g, 0, none⟩ us (fun j v hj => hb.cells j v hj)
  have hres : (results fn a.tmps).run P w = .ok (.agg us.toArray) w := by
    have he : a.tmps[t]?.getD undef = .pointer (some ⟨g, 0, none⟩) := by
      have := ha.eval (x := .tmp t) hv
      simpa [Act.eval, Array.getD_eq_getD_getElem?] using this
    simp only [results, hr]
    simp [Sem.run_bind, Result.andThen, he, asAddr, loadVar, run_isAgg ht, hD, run_sizeOf hs, ← hk, hl]
  exact bodyPost_ret hres ha.df ⟨_, rfl, h⟩

/-- []byte(s) -/
def encB (b : UInt8) : List Value := [.int .u8 b.toNat]
theorem encB_len (b : UInt8) : (encB b).length = 1 := rfl
theorem RG.toBytes {src dst e : Nat} {x : Operand} {s : ByteArray} {D : TypeDesc} (hw : wantS ops S o = some true) (hd : o.dst = some d) (hdn : Nat.blt d n = true) (ho : o.op = .convert src dst x) (hx : ev S x = some (.string s))
    (h1 : P.underlying src = some D) (h2 : P.underlying dst = some (.slice e)) (h3 : P.underlying e = some (.int .u8)) (hl : s.size ≤ maxLen)
    (kk : ∀ v w', Ex w w' → RdL w' 1 encB v s.data.toList → RG P ops Q n l ((d, v) :: S) w') : RG P ops Q n (o :: l) S w := by
  have hex : Ex w (Lib.bytesWorld w e s) := ⟨rfl, rfl, rfl, by rw [Lib.bytesWorld_size]; omega, fun k hk => Lib.bytesWorld_at_old w e s k hk⟩
  refine RG.run (w' := Lib.bytesWorld w e s) hw hd hdn (fun a ha => ?_) (kk (.slice (some ⟨w.heap.size, 0, none⟩) s.size (grownCap w s.size 0 e)) _ hex ?_)
  · simp only [execOp, ho]; rw [ha.eval hx]
    simp [Lib.run_convert_string_bytes w src dst e s h1 h2 h3]
  · have hsz : s.data.toList.length = s.size := Array.length_toList
    refine ⟨_, _, by rw [hsz], by rw [hsz]; exact grownCap_ge _ _ _ _, grownCap_le_maxLen _ _ _ _ hl, fun _ => ⟨_, rfl, by rw [Lib.bytesWorld_size]; exact Nat.lt_succ_self _, fun i b hi j u hu => ?_⟩⟩
    have hlt : i < s.size := by rw [← hsz]; exact (List.getElem?_eq_some_iff.1 hi).1
    cases j with
    | zero =>
      simp only [encB, List.getElem?_cons_zero, Option.some.injEq] at hu
      subst hu
      rw [add_of_add, add_at, Nat.mul_one, Nat.add_zero, Lib.bytesWorld_cell w e s i hlt]
      simp [List.getD, hi]
    | succ j => simp [encB] at hu
/-- string(b) -/
theorem Ev.toStr {src dst e : Nat} {x : Operand} {v : Value} {bs : List UInt8} (ho : o.op = .convert src dst x) (hx : ev S x = some v) (h1 : P.underlying src = some (.slice e)) (h2 : P.underlying e = some (.int .u8)) (h3 : P.underlying dst = some .string)
    (h : RdL w 1 encB v bs) : Ev P n o S w (.string ⟨bs.toArray⟩) := fun a ha => by
  simp only [execOp, ho]; rw [ha.eval hx]
  obtain ⟨A, c, rfl, hc1, hc2, hc3⟩ := h
  rcases Nat.eq_zero_or_pos bs.length with h0 | h0
  · have hb : bs = [] := List.eq_nil_of_length_eq_zero h0
    subst hb
    cases A with
    | none =>
      have := run_convert_bytes_nil (P := P) (w := w) src e h1 h2 ([] : List UInt8).length c dst h3
      rw [Sem.run_bind, this]; rfl
    | some ad =>
      have := run_convert_bytes_back (P := P) w src dst e ad c [] h1 h2 h3 (fun j hj => absurd hj (by simp))
      rw [Sem.run_bind, this]; rfl
  · obtain ⟨ad, rfl, _, hcs⟩ := hc3 h0
    have := run_convert_bytes_back (P := P) w src dst e ad c bs h1 h2 h3 (fun j hj => by
      have := hcs j _ (List.getElem?_eq_getElem hj) 0 _ rfl
      rwa [add_of_add, Nat.mul_one, Nat.add_zero] at this)
    simp [this]
/-- A function that the model answers for. -/
theorem Ev.ext_ {f : FuncId} {c : Call} {xs : List Operand} {vs : List Value} {tys : Array TypeId} {v : Value} (ho : o.op = .call c) (hc : c = { callee := .value (.func f), args := xs.toArray, argTypes := tys }) (hx : evs S xs = some vs)
    (he : (callFunc f vs.toArray).run P w = .ok (.value v) w) : Ev P n o S w v := fun a ha => by
  simp only [execOp, ho, hc]
  simp only [resolve, Sem.run_bind]
  rw [ha.eval (x := .func f) (v := .func (.func f) #[] #[]) rfl]
  have hm : xs.toArray.map a.eval = vs.toArray := by rw [List.map_toArray, ha.evals hx]
  rw [hm]
  simp [Deferred.ofValue, invoke, he]
end
end Go.Proofs.Ytehlnkhbbnddmaa
