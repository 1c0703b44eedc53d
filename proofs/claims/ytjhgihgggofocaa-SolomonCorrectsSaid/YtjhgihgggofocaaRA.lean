/- A list of noise as an argument; what a word becomes that is read with noise; two code words and the places where they differ. -/
import Derived.Test.YtjhgihgggofocaaSW
import Derived.Test.YtjhgihgggofocaaLX
namespace Go.Proofs.Ytjhgihgggofocaa
open Go.ChangeShapes Go.WideShapes Go.ChangeAt Go.RowKit Go.Deep
structure Noi where
  p : Nat
  a : Nat
  e : Bool
abbrev encNoi (x : Noi) : List Value := [.int .u8 (x.p : Int), .int .u8 (x.a : Int), .bool x.e]
theorem encNoi_len (x : Noi) : (encNoi x).length = 3 := rfl
section
variable {H : Type} {enc : TypeId × Value → H} {P : Program} {w : World} {base : Nat} {spare : Nat → Bool} {held : Bool}
theorem noise_row {t t0 t1 t2 : TypeId} {fs : Array Field} {f0 f1 f2 : Field} {fuel : Nat} {cs : List Value} {x : DataW H × List MemPlace} (hs : P.underlying t = some (.struct fs)) (hfs : fs = #[f0, f1, f2]) (g0 : f0.type = t0) (g1 : f1.type = t1) (g2 : f2.type = t2) (hone : oneCellFields P fs = true)
    (h0 : P.underlying t0 = some (.int .u8)) (h1 : P.underlying t1 = some (.int .u8)) (h2 : P.underlying t2 = some .bool) (h : DataW.trod enc P w base spare held fuel t cs = some x) (hl : cs.length = 3) :
    ∃ a : Noi, cs = encNoi a ∧ a.p < 256 ∧ a.a < 256 := by
  obtain ⟨ys, m, _, _, hlen, hyl, hf⟩ := DataW.trod_struct hs h
  match cs, hl with
  | [c0, c1, c2], _ =>
    have q0 : fs[0]? = some f0 := by rw [hfs]; rfl
    have q1 : fs[1]? = some f1 := by rw [hfs]; rfl
    have q2 : fs[2]? = some f2 := by rw [hfs]; rfl
    have k0 := hf 0 _ q0
    have k1 := hf 1 _ q1
    have k2 := hf 2 _ q2
    obtain ⟨o0, c0'⟩ := hone_of hone 0 _ q0
    obtain ⟨o1, c1'⟩ := hone_of hone 1 _ q1
    obtain ⟨o2, c2'⟩ := hone_of hone 2 _ q2
    rw [o0, c0'] at k0
    rw [o1, c1'] at k1
    rw [o2, c2'] at k2
    have hys : 3 ≤ ys.length := by rw [hfs] at hyl; simp at hyl; omega
    rw [List.getElem?_eq_getElem (show 0 < ys.length by omega)] at k0
    rw [List.getElem?_eq_getElem (show 1 < ys.length by omega)] at k1
    rw [List.getElem?_eq_getElem (show 2 < ys.length by omega)] at k2
    obtain ⟨a, ha, _, wa⟩ := DataW.trod_int (g0 ▸ h0) k0
    obtain ⟨b, hb, _, wb⟩ := DataW.trod_int (g1 ▸ h1) k1
    obtain ⟨c, hc, _⟩ := DataW.trod_bool (g2 ▸ h2) k2
    have e0 : c0 = .int .u8 a := by simpa using ha
    have e1 : c1 = .int .u8 b := by simpa using hb
    have e2 : c2 = .bool c := by simpa using hc
    have := wf_u8 wa
    have := wf_u8 wb
    refine ⟨⟨a.toNat, b.toNat, c⟩, ?_, by show a.toNat < 256; omega, by show b.toNat < 256; omega⟩
    rw [e0, e1, e2]
    show [Value.int .u8 a, .int .u8 b, .bool c] = [Value.int .u8 ((a.toNat : Nat) : Int), .int .u8 ((b.toNat : Nat) : Int), .bool c]
    rw [Int.toNat_of_nonneg (by omega), Int.toNat_of_nonneg (by omega)]
/-- A slice of them. -/
theorem open_noise_slice {t e t0 t1 t2 : TypeId} {fs : Array Field} {f0 f1 f2 : Field} {a : Option Addr} {len cap : Nat} {d : DataW H} {p : List MemPlace} (ht : P.underlying t = some (.slice e)) (hs : P.underlying e = some (.struct fs)) (hfs : fs = #[f0, f1, f2]) (g0 : f0.type = t0) (g1 : f1.type = t1) (g2 : f2.type = t2) (hone : oneCellFields P fs = true)
    (h0 : P.underlying t0 = some (.int .u8)) (h1 : P.underlying t1 = some (.int .u8)) (h2 : P.underlying t2 = some .bool) (hC : P.cellsOf e = 3) (h : DataW.Trod enc P w base spare held t (.slice a len cap) d p) :
    ∃ l : List Noi, RdL w 3 encNoi (.slice a len cap) l ∧ ∀ x ∈ l, x.p < 256 ∧ x.a < 256 := by
  obtain ⟨fuel, hf⟩ := h
  rcases open_slice ht hf with ⟨h0, _⟩ | ⟨ad, len', cap', m, n, D, Pl, hcs, hb, hl, hm, hmm, _, hi⟩
  · simp [Value.cells] at h0
    obtain ⟨rfl, rfl, rfl⟩ := h0
    exact ⟨[], RdL.nil_ w, by simp⟩
  · simp [Value.cells] at hcs
    obtain ⟨rfl, rfl, rfl⟩ := hcs
    obtain ⟨l, hL⟩ : ∃ l : List {x : Noi // x.p < 256 ∧ x.a < 256}, RdL w 3 (fun x => encNoi x.1) (.slice (some ad) len cap) l := by
      refine rdl_of (by omega) (fun _ => rfl) hl hm fun i hlt => ?_
      have hlm : len ≤ m := by rw [hmm]; split <;> omega
      obtain ⟨cs', hc, htr⟩ := hi i (by omega)
      rw [hC] at hc
      obtain ⟨_, hcl, hat⟩ := World.cells?_some hc
      obtain ⟨x, hx, hp, ha⟩ := noise_row hs hfs g0 g1 g2 hone h0 h1 h2 htr (by omega)
      refine ⟨⟨x, hp, ha⟩, fun j u hu => ?_⟩
      have hu' : cs'[j]? = some u := by rw [hx]; exact hu
      have hj : j < 3 := by have := (List.getElem?_eq_some_iff.1 hu').1; omega
      rw [hat j hj, hu']
    refine ⟨l.map Subtype.val, RdL.map_ Subtype.val (fun _ => rfl) hL, fun x hx => ?_⟩
    obtain ⟨y, _, rfl⟩ := List.mem_map.1 hx
    exact y.2
end
theorem n19_min (l : List Noi) (n : Nat) : (l.take (min l.length n)).drop 0 = l.take n := by rw [List.drop_zero, Nat.min_comm, ← List.take_take, List.take_length]
/-- The places that are erased, and those that have changed. -/
def ersB (s : List Nat) (j : Nat) : Bool := decide (cf s j = 2)
def chgB (s o c : List Nat) (j : Nat) : Bool := decide (cf s j ≠ 2 ∧ cf o j ≠ cf c j)
theorem fil_yes {p : Nat → Bool} {j : Nat} (h : p j = true) : (List.range (j + 1)).filter p = (List.range j).filter p ++ [j] := by rw [List.range_succ, List.filter_append]; simp [h]
theorem fil_no {p : Nat → Bool} {j : Nat} (h : p j = false) : (List.range (j + 1)).filter p = (List.range j).filter p := by rw [List.range_succ, List.filter_append]; simp [h]
theorem fil_len (p : Nat → Bool) (j : Nat) : ((List.range j).filter p).length ≤ j := by have := List.length_filter_le p (List.range j); rw [List.length_range] at this; exact this
theorem chg_diffs (s o c : List Nat) : (List.range o.length).filter (chgB s o c) = diffs o c ((List.range o.length).filter (ersB s)) := by
  unfold diffs
  refine List.filter_congr fun i hi => ?_
  have hi := List.mem_range.1 hi
  unfold chgB
  rw [decide_eq_decide, List.mem_filter, List.mem_range]
  unfold ersB
  simp only [decide_eq_true_eq]
  constructor
  · rintro ⟨h1, h2⟩; exact ⟨fun h => h1 h.2, fun e => h2 e.symm⟩
  · rintro ⟨h1, h2⟩; exact ⟨fun h => h1 ⟨hi, h⟩, fun e => h2 e.symm⟩
theorem fil_nodup (p : Nat → Bool) (n : Nat) : ((List.range n).filter p).Nodup := List.Pairwise.filter _ List.nodup_range
theorem fil_lt {p : Nat → Bool} {n : Nat} : ∀ a ∈ (List.range n).filter p, a < n := fun _ ha => List.mem_range.1 (List.mem_filter.1 ha).1
theorem El.put {l : List Nat} (h : El l) (i : Nat) {a : Nat} (ha : a < 64) : El (l.set i a) := fun b hb => by
  rcases List.mem_or_eq_of_mem_set hb with h1 | h1
  · exact h b h1
  · rw [h1]; exact ha
/-- Data that is made of elements is encoded as it is. -/
theorem data_is {l : List Nat} (h : El l) (h1 : 0 < l.length) (h2 : l.length ≤ 59) : dataL l = l := by
  have e : elsOf l 59 = l := by
    unfold elsOf
    rw [List.take_of_length_le h2]
    conv => rhs; rw [← List.map_id l]
    exact List.map_congr_left fun a ha => Nat.mod_eq_of_lt (h a ha)
  unfold dataL
  rw [e, if_neg (fun k => by rw [k] at h1; simp at h1)]
/-- Two code words of data of one length. -/
def difB (c d : List Nat) (i : Nat) : Bool := decide (cf c i ≠ cf d i)
theorem apart_ {l m c d : List Nat} (hl : l.length ≤ 59) (hm : m.length = l.length) (hc : IsEnc l c) (hd : IsEnc m d) :
    (l = m ∧ ((List.range c.length).filter (difB c d)).length = 0) ∨ (l ≠ m ∧ 5 ≤ ((List.range c.length).filter (difB c d)).length) := by
  have hC := enc_code hc
  have hD := enc_code hd
  rw [hm] at hD
  have hcl := hc.len
  have hdl := hd.len
  by_cases h4 : ((List.range c.length).filter (difB c d)).length ≤ 4
  · have e : c = d := code_uniq (by omega) hC hD (fil_nodup _ _) h4 (fun p hp => by have := fil_lt p hp; omega) fun i hi => by
      rcases Nat.lt_or_ge i c.length with h | h
      · exact Decidable.not_not.1 fun k => hi (List.mem_filter.2 ⟨List.mem_range.2 h, decide_eq_true k⟩)
      · rw [cf_none h, cf_none (by omega)]
    refine .inl ⟨?_, ?_⟩
    · have h1 := hc.pre
      have h2 := hd.pre
      rw [hm, ← e, h1] at h2
      exact h2
    · subst e
      rw [List.length_eq_zero_iff, List.filter_eq_nil_iff]
      intro i _
      unfold difB
      simp
  · refine .inr ⟨?_, by omega⟩
    rintro rfl
    have e : c = d := enc_uniq hl hc hD hd.pre
    subst e
    apply h4
    have : (List.range c.length).filter (difB c c) = [] := by
      rw [List.filter_eq_nil_iff]
      intro i _
      unfold difB
      simp
    rw [this]
    simp
end Go.Proofs.Ytjhgihgggofocaa
