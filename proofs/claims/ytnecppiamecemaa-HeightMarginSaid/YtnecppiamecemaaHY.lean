/- Chapter 21, plain: halves made longer or shorter, noise up to the margin, bars turned round. -/
import Derived.Test.YtnecppiamecemaaHX
import Derived.Test.YtnecppiamecemaaLI
namespace Go.Proofs.Ytnecppiamecemaa
/-- Read alike. -/
structure Sim (s : Su) (b b' : Br) : Prop where
  pl : plc s b' = plc s b
  le : letter s b' = letter s b
  ib : InB b'
theorem reads_sim {s : Su} {l l' : List Br} {t : List UInt8} (h : Reads s l t) (hl : l'.length = l.length) (hs : ∀ (i : Nat) (b b' : Br), l[i]? = some b → l'[i]? = some b' → Sim s b b') : Reads s l' t := by
  have back : ∀ b' ∈ l', ∃ b ∈ l, Sim s b b' := fun b' hb' => by
    obtain ⟨i, hi⟩ := List.mem_iff_getElem?.1 hb'
    have hlt := (List.getElem?_eq_some_iff.1 hi).1
    exact ⟨l[i]'(by omega), List.getElem_mem _, hs i _ _ (List.getElem?_eq_getElem _) hi⟩
  have hmap : l'.map (plc s) = l.map (plc s) := by
    apply List.ext_getElem?
    intro i
    rw [List.getElem?_map, List.getElem?_map]
    by_cases hi : i < l.length
    · have h1 := List.getElem?_eq_getElem hi
      have h2 := List.getElem?_eq_getElem (show i < l'.length by omega)
      rw [h1, h2, Option.map_some, Option.map_some, (hs i _ _ h1 h2).pl]
    · rw [List.getElem?_eq_none (by omega), List.getElem?_eq_none (by omega)]
  refine ⟨h.tl, by rw [hl]; exact h.ll, fun b' hb' => ?_, ⟨fun b' hb' => ?_, by rw [hmap]; exact h.fit.2⟩, fun b' hb' => ?_, fun j c hj hc => ?_⟩
  · obtain ⟨b, _, hsim⟩ := back b' hb'; exact hsim.ib
  · obtain ⟨b, hb, hsim⟩ := back b' hb'; rw [hsim.pl]; exact h.fit.1 b hb
  · obtain ⟨b, hb, hsim⟩ := back b' hb'
    obtain ⟨j, c, h1, h2, h3⟩ := h.has b hb
    exact ⟨j, c, by rw [hsim.pl, h1], h2, by rw [hsim.le, h3]⟩
  · obtain ⟨b, hb, hp⟩ := h.all j c hj hc
    obtain ⟨i, hi⟩ := List.mem_iff_getElem?.1 hb
    have hlt := (List.getElem?_eq_some_iff.1 hi).1
    exact ⟨l'[i]'(by omega), List.getElem_mem _, by rw [(hs i _ _ hi (List.getElem?_eq_getElem _)).pl, hp]⟩
theorem reads_rev {s : Su} {l : List Br} {t : List UInt8} (h : Reads s l t) : Reads s l.reverse t :=
  ⟨h.tl, by rw [List.length_reverse]; exact h.ll, fun b hb => h.inb b (List.mem_reverse.1 hb), ⟨fun b hb => h.fit.1 b (List.mem_reverse.1 hb), by rw [List.map_reverse]; exact List.pairwise_reverse.2 (h.fit.2.imp fun hne e => hne e.symm)⟩,
   fun b hb => h.has b (List.mem_reverse.1 hb), fun j c hj hc => by obtain ⟨b, hb, hp⟩ := h.all j c hj hc; exact ⟨b, List.mem_reverse.2 hb, hp⟩⟩
/-- A half made longer, or shorter. -/
def LenOk (s : Su) (h h' : Int) : Prop := (h = s.hi → s.hi ≤ h' ∧ h' ≤ s.hi + 128) ∧ (h = s.lo → 0 ≤ h' ∧ h' ≤ s.lo)
structure Len (s : Su) (b b' : Br) : Prop where
  po : b'.po = b.po
  up : LenOk s b.up b'.up
  dn : LenOk s b.dn b'.dn
theorem mkb_halves (s : Su) (c : UInt8) (j : Nat) : ((mkb s c j).up = s.hi ∨ (mkb s c j).up = s.lo) ∧ ((mkb s c j).dn = s.hi ∨ (mkb s c j).dn = s.lo) := by
  unfold mkb; simp only
  constructor <;> split <;> simp
/-- What is clear stays clear. -/
theorem letter_cls (s : Su) (b b' : Br) (h1 : b'.up ≤ s.lo ↔ b.up ≤ s.lo) (h2 : s.hi ≤ b'.up ↔ s.hi ≤ b.up) (h3 : b'.dn ≤ s.lo ↔ b.dn ≤ s.lo) (h4 : s.hi ≤ b'.dn ↔ s.hi ≤ b.dn) : letter s b' = letter s b := by
  unfold letter
  have e1 : (b'.up > s.lo ∧ b'.up < s.hi ∨ b'.dn > s.lo ∧ b'.dn < s.hi) ↔ (b.up > s.lo ∧ b.up < s.hi ∨ b.dn > s.lo ∧ b.dn < s.hi) := by omega
  have e3 : b'.up ≥ s.hi ↔ b.up ≥ s.hi := h2
  have e4 : b'.dn ≥ s.hi ↔ b.dn ≥ s.hi := h4
  simp only [e1, e3, e4]
theorem plc_po (s : Su) (b b' : Br) (h : b'.po = b.po) : plc s b' = plc s b := by unfold plc; rw [h]
theorem len_sim {s : Su} {c : UInt8} {j : Nat} {b' : Br} (hs : Okay s) (hi : s.hi ≤ 1000) (hb : InB (mkb s c j)) (h : Len s (mkb s c j) b') : Sim s (mkb s c j) b' := by
  obtain ⟨a1, a2, a3, a4, a5, a6, a7, a8, a9, a10, a11⟩ := id hs
  obtain ⟨b1, b2, _⟩ := hb
  obtain ⟨h1, h2⟩ := mkb_halves s c j
  obtain ⟨p1, ⟨u1, u2⟩, d1, d2⟩ := h
  refine ⟨plc_po s _ _ p1, letter_cls s _ _ ?_ ?_ ?_ ?_, ?_⟩
  · rcases h1 with h1 | h1
    · have := u1 h1; omega
    · have := u2 h1; omega
  · rcases h1 with h1 | h1
    · have := u1 h1; omega
    · have := u2 h1; omega
  · rcases h2 with h2 | h2
    · have := d1 h2; omega
    · have := d2 h2; omega
  · rcases h2 with h2 | h2
    · have := d1 h2; omega
    · have := d2 h2; omega
  · unfold InB
    rcases h1 with h1 | h1 <;> rcases h2 with h2 | h2
    · have := u1 h1; have := d1 h2; omega
    · have := u1 h1; have := d2 h2; omega
    · have := u2 h1; have := d1 h2; omega
    · have := u2 h1; have := d2 h2; omega
theorem len_room {s : Su} {c : UInt8} {j : Nat} {b' : Br} (hs : Okay s) (hj : (j : Int) < s.pl) (h : Len s (mkb s c j) b') : 0 ≤ roomB s b' := by
  obtain ⟨a1, a2, a3, a4, a5, a6, a7, a8, a9, a10, a11⟩ := id hs
  obtain ⟨h1, h2⟩ := mkb_halves s c j
  obtain ⟨p1, ⟨u1, u2⟩, d1, d2⟩ := h
  unfold roomB
  rw [plc_po s _ _ p1, mkb_plc s c j hs hj]
  simp only
  have hpo : b'.po = s.og + (j : Int) * s.pi := p1
  have hp : 0 ≤ posB s b' j := by unfold posB; rw [hpo]; omega
  have hu : 0 ≤ room s b'.up := by
    unfold room
    rcases h1 with h1 | h1
    · have := u1 h1; rw [if_neg (by omega), if_pos (by omega)]; omega
    · have := u2 h1; rw [if_pos (by omega)]; omega
  have hd : 0 ≤ room s b'.dn := by
    unfold room
    rcases h2 with h2 | h2
    · have := d1 h2; rw [if_neg (by omega), if_pos (by omega)]; omega
    · have := d2 h2; rw [if_pos (by omega)]; omega
  omega
theorem foldl_min_le (f : Br → Int) : ∀ (l : List Br) (m : Int), l.foldl (fun m b => min m (f b)) m ≤ m ∧ ∀ b ∈ l, l.foldl (fun m b => min m (f b)) m ≤ f b
  | [], m => ⟨Int.le_refl _, fun b h => absurd h (by simp)⟩
  | x :: l, m => by
    obtain ⟨h1, h2⟩ := foldl_min_le f l (min m (f x))
    rw [List.foldl_cons]
    refine ⟨by omega, fun b hb => ?_⟩
    rcases List.mem_cons.1 hb with rfl | hb
    · omega
    · exact h2 b hb
theorem foldl_min_ge (f : Br → Int) (k : Int) : ∀ (l : List Br) (m : Int), k ≤ m → (∀ b ∈ l, k ≤ f b) → k ≤ l.foldl (fun m b => min m (f b)) m
  | [], m, h, _ => h
  | x :: l, m, h, hl => by
    rw [List.foldl_cons]
    exact foldl_min_ge f k l _ (by have := hl x (by simp); omega) fun b hb => hl b (by simp [hb])
theorem margin_le {s : Su} {l : List Br} {b : Br} (h : b ∈ l) : marginOf s l ≤ roomB s b := (foldl_min_le (roomB s) l 1048576).2 b h
theorem margin_top (s : Su) (l : List Br) : marginOf s l ≤ 1048576 := (foldl_min_le (roomB s) l 1048576).1
theorem margin_ge {s : Su} {l : List Br} (h : ∀ b ∈ l, 0 ≤ roomB s b) : 0 ≤ marginOf s l := foldl_min_ge (roomB s) 0 l _ (by omega) h
/-- A number changed by no more than m. -/
def Shk (m a a' : Int) : Prop := 0 ≤ a' ∧ a' ≤ a + 127 ∧ a - m ≤ a' ∧ a' ≤ a + m
structure ShkB (m : Int) (b b' : Br) : Prop where
  po : Shk m b.po b'.po
  up : Shk m b.up b'.up
  dn : Shk m b.dn b'.dn
theorem room_cls {s : Su} {m a a' : Int} (hs : s.lo < s.hi) (hm : m ≤ room s a) (h : Shk m a a') : (a' ≤ s.lo ↔ a ≤ s.lo) ∧ (s.hi ≤ a' ↔ s.hi ≤ a) := by
  obtain ⟨_, _, h1, h2⟩ := h
  unfold room at hm
  split at hm
  · omega
  · split at hm
    · omega
    · omega
theorem shk_sim {s : Su} {m : Int} {b b' : Br} {k : Int} (hs : Okay s) (hk : plc s b = some k) (hp : b.po ≤ 1000000) (hu : b.up ≤ 10000) (hd : b.dn ≤ 10000) (hm : m ≤ roomB s b) (h : ShkB m b b') : Sim s b b' := by
  obtain ⟨k0, k1⟩ := plc_range s b k hs hk
  have hlo := hs.2.2.2.2.2.2.2.2.2.1
  unfold roomB at hm
  rw [hk] at hm
  simp only at hm
  obtain ⟨c1, c2⟩ := room_cls (a := b.up) (a' := b'.up) hlo (by omega) h.up
  obtain ⟨c3, c4⟩ := room_cls (a := b.dn) (a' := b'.dn) hlo (by omega) h.dn
  obtain ⟨⟨p1, p2, p3, p4⟩, ⟨u1, u2, _⟩, d1, d2, _⟩ := h
  refine ⟨?_, letter_cls s _ _ c1 c2 c3 c4, ?_⟩
  · rw [hk, ← stand_iff s b' k hs k0 k1]
    have hst := (stand_iff s b k hs k0 k1).2 hk
    have hpb : m ≤ posB s b k := by omega
    unfold posB at hpb
    unfold Stand
    omega
  · unfold InB; omega
/-- The first i and the last i have changed places. -/
def swapped (l : List Br) (i j : Nat) : Option Br := if j < i ∨ l.length - i ≤ j then l.reverse[j]? else l[j]?
theorem swap_start (l : List Br) (j : Nat) : l[j]? = swapped l 0 j := by
  unfold swapped
  split
  · rw [List.getElem?_eq_none (by omega), List.getElem?_eq_none (by rw [List.length_reverse]; omega)]
  · rfl
theorem swap_step {l M : List Br} {i : Nat} {b c : Br} (hl : M.length = l.length) (hi : 2 * i + 1 < l.length) (h : ∀ j, M[j]? = swapped l i j) (hb : M[i]? = some b) (hc : M[l.length - 1 - i]? = some c) : ∀ j, ((M.set i c).set (l.length - 1 - i) b)[j]? = swapped l (i + 1) j := fun j => by
  have e1 : l[i]? = some b := by rw [← hb, h i]; unfold swapped; rw [if_neg (by omega)]
  have e2 : l[l.length - 1 - i]? = some c := by rw [← hc, h]; unfold swapped; rw [if_neg (by omega)]
  rw [List.getElem?_set, List.getElem?_set]
  unfold swapped
  by_cases h1 : l.length - 1 - i = j
  · subst h1
    rw [if_pos rfl, if_pos (by rw [List.length_set]; omega), if_pos (by omega), List.getElem?_reverse (by omega), show l.length - 1 - (l.length - 1 - i) = i from by omega, e1]
  · rw [if_neg h1]
    by_cases h2 : i = j
    · subst h2
      rw [if_pos rfl, if_pos (by omega), if_pos (by omega), List.getElem?_reverse (by omega), e2]
    · rw [if_neg h2, h j]
      unfold swapped
      by_cases h3 : j < i ∨ l.length - i ≤ j
      · rw [if_pos h3, if_pos (by omega)]
      · rw [if_neg h3, if_neg (by omega)]
theorem swap_end {l M : List Br} {i : Nat} (hi : l.length ≤ 2 * i + 1) (h : ∀ j, M[j]? = swapped l i j) : M = l.reverse := by
  apply List.ext_getElem?
  intro j
  rw [h j]
  unfold swapped
  split
  · rfl
  · by_cases hj : j < l.length
    · rw [List.getElem?_reverse hj, show l.length - 1 - j = j from by omega]
    · rw [List.getElem?_eq_none (by omega), List.getElem?_eq_none (by rw [List.length_reverse]; omega)]
end Go.Proofs.Ytnecppiamecemaa
