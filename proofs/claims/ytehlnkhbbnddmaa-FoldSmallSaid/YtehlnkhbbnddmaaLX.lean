/- A law's arguments, as the walks take them: structs of integers, by value and in slices. -/
import Derived.Test.YtehlnkhbbnddmaaLH
import Derived.ProofKit
import Derived.OpenShut
import Derived.ShutString
import Derived.ChangeOld
import Derived.Below
import Derived.Deep.Slices
import Derived.Deep.Fields
import Derived.ChangeSame
namespace Go.Proofs.Ytehlnkhbbnddmaa
open Go.ChangeShapes Go.WideShapes Go.ChangeAt Go.RowKit Go.Deep

section
variable {H : Type} {enc : TypeId × Value → H} {P : Program} {w : World} {base : Nat} {spare : Nat → Bool} {held : Bool}
/-- The cells of a struct whose fields are all of one kind of integer. -/
theorem ints_of_struct {t : TypeId} {fs : Array Field} {k : IntKind} {fuel : Nat} {cs : List Value} {x : DataW H × List MemPlace} (hs : P.underlying t = some (.struct fs)) (hone : oneCellFields P fs = true)
    (hk : ∀ (i : Nat) (f : Field), fs[i]? = some f → P.underlying f.type = some (.int k)) (hC : P.cellsOf t = fs.size) (h : DataW.trod enc P w base spare held fuel t cs = some x) :
    ∃ xs : List Int, xs.length = fs.size ∧ cs = xs.map (.int k) ∧ ∀ a ∈ xs, (Lit.int k a).wf = true := by
  obtain ⟨ys, m, _, _, hlen, hyl, hf⟩ := DataW.trod_struct hs h
  have key : ∀ i, i < cs.length → ∃ a : Int, cs[i]? = some (.int k a) ∧ (Lit.int k a).wf = true := by
    intro i hi
    have hfi : i < fs.size := by omega
    have hq := Array.getElem?_eq_getElem hfi
    obtain ⟨ho, hc⟩ := hone_of hone i _ hq
    have h1 := hf i _ hq
    rw [ho, hc, List.drop_eq_getElem_cons hi, List.getElem?_eq_getElem (show i < ys.length by omega)] at h1
    obtain ⟨a, ha, _, hw⟩ := DataW.trod_int (hk i _ hq) h1
    simp only [List.take_succ_cons, List.take_zero, List.cons.injEq, and_true] at ha
    exact ⟨a, by rw [List.getElem?_eq_getElem hi, ha], hw⟩
  clear hf h
  have key2 : ∃ xs : List Int, cs = xs.map (.int k) ∧ ∀ a ∈ xs, (Lit.int k a).wf = true := by
    clear hlen
    induction cs with
    | nil => exact ⟨[], rfl, by simp⟩
    | cons c cs ih =>
      obtain ⟨a, ha, hw⟩ := key 0 (by simp)
      obtain ⟨xs, hx, hws⟩ := ih fun i hi => key (i + 1) (by simpa using hi)
      simp only [List.getElem?_cons_zero, Option.some.injEq] at ha
      refine ⟨a :: xs, by rw [ha, hx]; rfl, fun b hb => ?_⟩
      rcases List.mem_cons.1 hb with rfl | hb
      · exact hw
      · exact hws b hb
  obtain ⟨xs, hx, hws⟩ := key2
  exact ⟨xs, by rw [hx, List.length_map] at hlen; omega, hx, hws⟩
/-- By value. -/
theorem open_ints_struct {r : Reach} {b0 : Nat} {t : TypeId} {fs : Array Field} {k : IntKind} {v : Value} {d : DataW H} {p : List MemPlace} (hs : P.underlying t = some (.struct fs)) (hone : oneCellFields P fs = true)
    (hk : ∀ (i : Nat) (f : Field), fs[i]? = some f → P.underlying f.type = some (.int k)) (hC : P.cellsOf t = fs.size) (hv : Value.okWide P w r b0 t v) (h : DataW.Trod enc P w base spare held t v d p) :
    ∃ xs : List Int, xs.length = fs.size ∧ v = .agg (xs.map (.int k)).toArray ∧ ∀ a ∈ xs, (Lit.int k a).wf = true := by
  obtain ⟨cs, rfl, _⟩ := okWide_struct hs hv
  obtain ⟨fuel, hf⟩ := h
  obtain ⟨xs, h1, h2, h3⟩ := ints_of_struct hs hone hk hC hf
  refine ⟨xs, h1, ?_, h3⟩
  have : cs.toList = xs.map (.int k) := h2
  rw [← this]
theorem rdl_of {α : Type} {sz len cap : Nat} {enc' : α → List Value} {a : Addr} (hsz : 0 < sz) (hne : ∀ b, (enc' b).length = sz) (hl : len ≤ cap) (hm : cap ≤ maxLen) (h : ∀ i, i < len → ∃ b : α, Cells w (a.add (i * sz)) (enc' b)) :
    ∃ l : List α, RdL w sz enc' (.slice (some a) len cap) l := by
  have key : ∀ n, n ≤ len → ∃ l : List α, l.length = n ∧ ∀ i b, l[i]? = some b → Cells w (a.add (i * sz)) (enc' b) := by
    intro n
    induction n with
    | zero => exact fun _ => ⟨[], rfl, fun i b hi => by simp at hi⟩
    | succ n ih =>
      intro hn
      obtain ⟨l, h1, h2⟩ := ih (by omega)
      obtain ⟨b, hb⟩ := h n (by omega)
      refine ⟨l ++ [b], by simp [h1], fun i c hi => ?_⟩
      rcases Nat.lt_or_ge i n with hlt | hge
      · rw [List.getElem?_append_left (by omega)] at hi; exact h2 i c hi
      · have : i < (l ++ [b]).length := (List.getElem?_eq_some_iff.1 hi).1
        have e : i = n := by simp [h1] at this; omega
        subst e
        rw [List.getElem?_append_right (by omega), h1, Nat.sub_self] at hi
        simp at hi
        subst hi; exact hb
  obtain ⟨l, h1, h2⟩ := key len (Nat.le_refl _)
  refine ⟨l, some a, cap, by rw [h1], by omega, hm, fun hpos => ⟨a, rfl, ?_, h2⟩⟩
  have hb := h2 0 l[0] (List.getElem?_eq_getElem hpos) 0 _ (List.getElem?_eq_getElem (by rw [hne]; exact hsz))
  have := World.block_lt_of_cell? w _ hb
  rwa [block_of_add, block_of_add] at this
/-- A slice of them. -/
theorem open_ints_slice {t e : TypeId} {fs : Array Field} {k : IntKind} {a : Option Addr} {len cap : Nat} {d : DataW H} {p : List MemPlace} (ht : P.underlying t = some (.slice e)) (hs : P.underlying e = some (.struct fs)) (hone : oneCellFields P fs = true)
    (hk : ∀ (i : Nat) (f : Field), fs[i]? = some f → P.underlying f.type = some (.int k)) (hC : P.cellsOf e = fs.size) (hpos : 0 < fs.size) (h : DataW.Trod enc P w base spare held t (.slice a len cap) d p) :
    ∃ l : List {xs : List Int // xs.length = fs.size}, RdL w fs.size (fun x => x.1.map (.int k)) (.slice a len cap) l := by
  obtain ⟨fuel, hf⟩ := h
  rcases open_slice ht hf with ⟨h0, _⟩ | ⟨ad, len', cap', m, n, D, Pl, hcs, hb, hl, hm, hmm, _, hi⟩
  · simp [Value.cells] at h0
    obtain ⟨rfl, rfl, rfl⟩ := h0
    exact ⟨[], RdL.nil_ w⟩
  · simp [Value.cells] at hcs
    obtain ⟨rfl, rfl, rfl⟩ := hcs
    refine rdl_of hpos (fun b => by rw [List.length_map]; exact b.2) hl hm fun i hlt => ?_
    have hlm : len ≤ m := by rw [hmm]; split <;> omega
    obtain ⟨cs', hc, htr⟩ := hi i (by omega)
    rw [hC] at hc
    obtain ⟨_, hcl, hat⟩ := World.cells?_some hc
    obtain ⟨xs, h1, h2, _⟩ := ints_of_struct hs hone hk hC htr
    refine ⟨⟨xs, h1⟩, fun j u hu => ?_⟩
    have hu' : cs'[j]? = some u := by rw [h2]; exact hu
    have hj : j < fs.size := by have := (List.getElem?_eq_some_iff.1 hu').1; omega
    rw [hat j hj, hu']
/-- A slice of integers. -/
theorem open_words_slice {t e : TypeId} {k : IntKind} {a : Option Addr} {len cap : Nat} {d : DataW H} {p : List MemPlace} (ht : P.underlying t = some (.slice e)) (he : P.underlying e = some (.int k)) (hC : P.cellsOf e = 1) (h : DataW.Trod enc P w base spare held t (.slice a len cap) d p) :
    ∃ l : List {a : Int // (Lit.int k a).wf = true}, RdL w 1 (fun x => [.int k x.1]) (.slice a len cap) l := by
  obtain ⟨fuel, hf⟩ := h
  rcases open_slice ht hf with ⟨h0, _⟩ | ⟨ad, len', cap', m, n, D, Pl, hcs, hb, hl, hm, hmm, _, hi⟩
  · simp [Value.cells] at h0
    obtain ⟨rfl, rfl, rfl⟩ := h0
    exact ⟨[], RdL.nil_ w⟩
  · simp [Value.cells] at hcs
    obtain ⟨rfl, rfl, rfl⟩ := hcs
    refine rdl_of (by omega) (fun _ => rfl) hl hm fun i hlt => ?_
    have hlm : len ≤ m := by rw [hmm]; split <;> omega
    obtain ⟨cs', hc, htr⟩ := hi i (by omega)
    rw [hC] at hc
    obtain ⟨_, hcl, hat⟩ := World.cells?_some hc
    obtain ⟨x, hx, _, hw⟩ := DataW.trod_int he htr
    refine ⟨⟨x, hw⟩, fun j u hu => ?_⟩
    have hj : j < 1 := by have := (List.getElem?_eq_some_iff.1 hu).1; simpa using this
    rw [hat j hj, hx]; exact hu
/-- Bytes of whatever sort of number. -/
theorem wf_u8 {a : Int} (h : (Lit.int .u8 a).wf = true) : 0 ≤ a ∧ a ≤ 255 := bounds_u8 h
def byteOf (x : {a : Int // (Lit.int .u8 a).wf = true}) : UInt8 := UInt8.ofNat x.1.toNat
theorem byteOf_enc (x : {a : Int // (Lit.int .u8 a).wf = true}) : encB (byteOf x) = [.int .u8 x.1] := by
  obtain ⟨a, h⟩ := x
  have := wf_u8 h
  show [Value.int .u8 ((UInt8.ofNat a.toNat).toNat : Int)] = _
  rw [UInt8.toNat_ofNat_of_lt' (show a.toNat < 256 by omega), Int.toNat_of_nonneg this.1]
def natOf (x : {a : Int // (Lit.int .u8 a).wf = true}) : Nat := x.1.toNat
theorem natOf_enc (x : {a : Int // (Lit.int .u8 a).wf = true}) : encN (natOf x) = [.int .u8 x.1] := by
  obtain ⟨a, h⟩ := x
  have := wf_u8 h
  show [Value.int .u8 ((a.toNat : Nat) : Int)] = _
  rw [Int.toNat_of_nonneg this.1]
theorem natOf_lt (l : List {a : Int // (Lit.int .u8 a).wf = true}) : ∀ c ∈ l.map natOf, c < 256 := fun c hc => by
  obtain ⟨⟨a, h⟩, _, rfl⟩ := List.mem_map.1 hc
  have := wf_u8 h
  show a.toNat < 256
  omega
theorem len1_ {α : Type} : ∀ xs : List α, xs.length = 1 → ∃ a, xs = [a]
  | [a], _ => ⟨a, rfl⟩
theorem len2_ {α : Type} : ∀ xs : List α, xs.length = 2 → ∃ a b, xs = [a, b]
  | [a, b], _ => ⟨a, b, rfl⟩
theorem len3_ {α : Type} : ∀ xs : List α, xs.length = 3 → ∃ a b c, xs = [a, b, c]
  | [a, b, c], _ => ⟨a, b, c, rfl⟩
theorem len4_ {α : Type} : ∀ xs : List α, xs.length = 4 → ∃ a b c d, xs = [a, b, c, d]
  | [a, b, c, d], _ => ⟨a, b, c, d, rfl⟩
theorem len5_ {α : Type} : ∀ xs : List α, xs.length = 5 → ∃ a b c d e, xs = [a, b, c, d, e]
  | [a, b, c, d, e], _ => ⟨a, b, c, d, e, rfl⟩
theorem len6_ {α : Type} : ∀ xs : List α, xs.length = 6 → ∃ a b c d e f, xs = [a, b, c, d, e, f]
  | [a, b, c, d, e, f], _ => ⟨a, b, c, d, e, f, rfl⟩
theorem len7_ {α : Type} : ∀ xs : List α, xs.length = 7 → ∃ a b c d e f g, xs = [a, b, c, d, e, f, g]
  | [a, b, c, d, e, f, g], _ => ⟨a, b, c, d, e, f, g, rfl⟩
theorem RdL.map_ {α β : Type} {sz : Nat} {e1 : α → List Value} {e2 : β → List Value} {v : Value} {l : List α} (f : α → β) (hf : ∀ a, e2 (f a) = e1 a) (h : RdL w sz e1 v l) : RdL w sz e2 v (l.map f) := by
  obtain ⟨A, c, rfl, h1, h2, h3⟩ := h
  refine ⟨A, c, by simp, by simpa using h1, h2, fun hl => ?_⟩
  obtain ⟨ad, rfl, hb, hc⟩ := h3 (by simpa using hl)
  refine ⟨ad, rfl, hb, fun i b hi => ?_⟩
  rw [List.getElem?_map] at hi
  cases hq : l[i]? with
  | none => rw [hq] at hi; cases hi
  | some a =>
    rw [hq] at hi
    simp only [Option.map_some, Option.some.injEq] at hi
    subst hi
    rw [hf]; exact hc i a hq
end
end Go.Proofs.Ytehlnkhbbnddmaa
