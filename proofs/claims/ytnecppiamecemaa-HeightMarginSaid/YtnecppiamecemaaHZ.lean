/- Chapter 21, plain: noise on one half; a margin is tight. -/
import Derived.Test.YtnecppiamecemaaHN
namespace Go.Proofs.Ytnecppiamecemaa
/-- One half changed by noise. -/
structure Nz (b b' : Br) : Prop where
  po : b'.po = b.po
  dn : b'.dn = b.dn
  u0 : 0 ≤ b'.up
  u1 : b'.up ≤ b.up + 127
theorem nz_start {s : Su} {bs : List Br} {T : List UInt8} (hR : Reads s bs T) : ∀ (j : Nat) (b b' : Br), bs[j]? = some b → bs[j]? = some b' → Nz b b' := fun j b b' h1 h2 => by
  rw [h1] at h2; injection h2 with h2; subst h2
  have := hR.inb b (List.mem_of_getElem? h1)
  unfold InB at this
  exact ⟨rfl, rfl, by omega, by omega⟩
theorem nz_step {b : Br} {x : Int} (h0 : 0 ≤ b.up) (h2 : x ≤ 127) : Nz b ⟨b.po, max (b.up + x) 0, b.dn⟩ := ⟨rfl, rfl, by show 0 ≤ max _ _; omega, by show max _ _ ≤ _; omega⟩
theorem room_ge (s : Su) (n : Int) : 0 ≤ room s n := by unfold room; split; omega; split <;> omega
theorem nz_all {s : Su} {bs L : List Br} {T : List UInt8} (hs : Okay s) (hi : s.hi ≤ 305) (hpl : s.pl ≤ 70) (hpi : s.pi ≤ 256) (hog : s.og ≤ 555) (hR : Reads s bs T) (hT : (T.length : Int) = s.pl) (hmk : ∀ (k : Nat) (b : Br), bs[k]? = some b → ∃ (j : Nat) (c : UInt8), T[j]? = some c ∧ c ≠ 63 ∧ okLetter c = true ∧ b = mkb s c j)
    (hl : L.length = bs.length) (h : ∀ (j : Nat) (b b' : Br), bs[j]? = some b → L[j]? = some b' → Nz b b') :
    errOf s L = 0 ∧ 0 ≤ marginOf s L ∧ (∀ b ∈ L, (0 ≤ b.po ∧ b.po ≤ 1000000) ∧ (0 ≤ b.up ∧ b.up ≤ 10000) ∧ 0 ≤ b.dn ∧ b.dn ≤ 10000) ∧ ∀ b ∈ L, ∃ k : Nat, (k : Int) < s.pl ∧ plc s b = some (k : Int) ∧ b.po = s.og + (k : Int) * s.pi := by
  obtain ⟨a1, a2, a3, a4, a5, a6, a7, a8, a9, a10, a11⟩ := id hs
  have back : ∀ b' ∈ L, ∃ (j : Nat) (c : UInt8), (j : Int) < s.pl ∧ Nz (mkb s c j) b' := fun b' hb' => by
    obtain ⟨i, hi⟩ := List.mem_iff_getElem?.1 hb'
    have hlt := (List.getElem?_eq_some_iff.1 hi).1
    have h1 := List.getElem?_eq_getElem (show i < bs.length by omega)
    obtain ⟨j, c, hj, _, _, e⟩ := hmk i _ h1
    have := (List.getElem?_eq_some_iff.1 hj).1
    exact ⟨j, c, by omega, by rw [← e]; exact h i _ _ h1 hi⟩
  have hmid : ∀ b ∈ L, ∃ k : Nat, (k : Int) < s.pl ∧ plc s b = some (k : Int) ∧ b.po = s.og + (k : Int) * s.pi := fun b hb => by
    obtain ⟨j, c, hj, hn⟩ := back b hb
    exact ⟨j, hj, by rw [plc_po s _ b hn.po]; exact mkb_plc s c j hs hj, by rw [hn.po]; rfl⟩
  have hbd : ∀ b ∈ L, (0 ≤ b.po ∧ b.po ≤ 1000000) ∧ (0 ≤ b.up ∧ b.up ≤ 10000) ∧ 0 ≤ b.dn ∧ b.dn ≤ 10000 := fun b hb => by
    obtain ⟨j, c, hj, hn⟩ := back b hb
    obtain ⟨h1, h2⟩ := mkb_halves s c j
    have hpo : b.po = s.og + (j : Int) * s.pi := hn.po
    have hm1 : 0 ≤ (j : Int) * s.pi := Int.mul_nonneg (by omega) (by omega)
    have hm2 : (j : Int) * s.pi ≤ 70 * 256 := Int.mul_le_mul (by omega) (by omega) (by omega) (by omega)
    obtain ⟨_, n2, n3, n4⟩ := hn
    omega
  have hmap : L.map (plc s) = bs.map (plc s) := by
    apply List.ext_getElem?
    intro i
    rw [List.getElem?_map, List.getElem?_map]
    by_cases hi : i < bs.length
    · have h1 := List.getElem?_eq_getElem hi
      have h2 := List.getElem?_eq_getElem (show i < L.length by omega)
      rw [h1, h2, Option.map_some, Option.map_some, plc_po s _ _ (h i _ _ h1 h2).po]
    · rw [List.getElem?_eq_none (by omega), List.getElem?_eq_none (by omega)]
  refine ⟨(err0_iff s L).2 ⟨by rw [hl]; exact hR.ll, hs, fun b hb => ?_, fun b hb => ?_, by rw [hmap]; exact hR.fit.2⟩, margin_ge fun b hb => ?_, hbd, hmid⟩
  · have := hbd b hb; unfold InB; omega
  · obtain ⟨k, _, hk, _⟩ := hmid b hb; rw [hk]; rfl
  · obtain ⟨k, _, hk, hp⟩ := hmid b hb
    have h1 := room_ge s b.up
    have h2 := room_ge s b.dn
    unfold roomB posB
    rw [hk]
    simp only
    omega
theorem bytes_inj {a b : List UInt8} (h : (⟨a.toArray⟩ : ByteArray) = ⟨b.toArray⟩) : a = b := by
  injection h with h
  simpa using h
theorem readOf_text {s : Su} {L : List Br} (he : errOf s L = 0) : readOf s L = textOf s L := by unfold readOf; rw [if_pos he]
theorem textOf_at (s : Su) (L : List Br) (k : Nat) (h : (k : Int) < s.pl) : (textOf s L)[k]? = some (letterAt s L k) := by
  unfold textOf
  rw [List.getElem?_map, List.getElem?_range (by omega)]; rfl
/-- As many letters as bars: no bar reads as '?'. -/
theorem count_all {s : Su} {L : List Br} (he : errOf s L = 0) (h : ((readOf s L).length : Int) - ((readOf s L).count 63 : Nat) = (L.length : Int)) : ∀ b ∈ L, letter s b ≠ 63 := by
  have hfit := ((err0_iff s L).1 he).2.2.2
  rw [readOf_text he] at h
  let J := (List.range s.pl.toNat).filter fun j => !(letterAt s L j == 63)
  have h1 : (textOf s L).length = (textOf s L).count 63 + J.length := by
    show ((List.range s.pl.toNat).map (letterAt s L)).length = ((List.range s.pl.toNat).map (letterAt s L)).count 63 + _
    rw [List.length_map, List.count_eq_countP, List.countP_map, List.length_eq_countP_add_countP (fun j => letterAt s L j == 63) (l := List.range s.pl.toNat), ← List.countP_eq_length_filter]
    congr 1
    · congr 1
      funext j
      simp
      rfl
  have hJ : J.length = L.length := by omega
  have hnd : J.Nodup := List.nodup_range.sublist List.filter_sublist
  have hsub : ∀ j ∈ J, j ∈ (L.filter fun b => !(letter s b == 63)).map fun b => ((plc s b).getD 0).toNat := fun j hj => by
    obtain ⟨h2, h3⟩ := List.mem_filter.1 hj
    have h4 : letterAt s L j ≠ 63 := by simpa using h3
    by_cases hb : ∃ b ∈ L, plc s b = some (j : Int)
    · obtain ⟨b, hb1, hb2⟩ := hb
      rw [letterAt_mem s L b j hfit hb1 hb2] at h4
      refine List.mem_map.2 ⟨b, List.mem_filter.2 ⟨hb1, by simpa using h4⟩, ?_⟩
      rw [hb2]; simp
    · exact absurd (letterAt_none s L j fun b hb' e => hb ⟨b, hb', e⟩) h4
  have hle := hnd.length_le_of_subset hsub
  rw [List.length_map, hJ] at hle
  have hfl := List.length_filter_le (fun b => !(letter s b == 63)) L
  have hall := (List.length_filter_eq_length_iff (p := fun b => !(letter s b == 63)) (l := L)).1 (by omega)
  exact fun b hb => by simpa using hall b hb
/-- One number of a bar moved beyond the margin. -/
def mv (m : Int) (b : Br) : Nat → Br
  | 0 => ⟨b.po + (m + 1), b.up, b.dn⟩
  | 1 => ⟨b.po + (-m - 1), b.up, b.dn⟩
  | 2 => ⟨b.po, b.up + (m + 1), b.dn⟩
  | 3 => ⟨b.po, b.up + (-m - 1), b.dn⟩
  | 4 => ⟨b.po, b.up, b.dn + (m + 1)⟩
  | _ => ⟨b.po, b.up, b.dn + (-m - 1)⟩
def mval (m : Int) (b : Br) (k : Nat) : Int := if k < 2 then (mv m b k).po else if k < 4 then (mv m b k).up else (mv m b k).dn
/-- This move changes nothing that is read, or is none. -/
def Dul (s : Su) (L : List Br) (i : Nat) (b : Br) (k : Nat) : Prop :=
  mval (marginOf s L) b k < 0 ∨ (errOf s (L.set i (mv (marginOf s L) b k)) = 0 ∧ readOf s (L.set i (mv (marginOf s L) b k)) = readOf s L)
theorem dul_step {P : Nat → Prop} {k : Nat} (h : ∀ j, j < k → P j) (hk : P k) : ∀ j, j < k + 1 → P j := fun j hj => by
  by_cases e : j < k
  · exact h j e
  · obtain rfl : j = k := by omega
    exact hk
theorem min_mem (f : Br → Int) : ∀ (l : List Br) (m : Int), l.foldl (fun m b => min m (f b)) m = m ∨ ∃ b ∈ l, l.foldl (fun m b => min m (f b)) m = f b
  | [], m => .inl rfl
  | x :: l, m => by
    rw [List.foldl_cons]
    rcases min_mem f l (min m (f x)) with h | ⟨b, hb, h⟩
    · rw [h]
      rcases Int.le_total m (f x) with h2 | h2
      · exact .inl (by omega)
      · exact .inr ⟨x, by simp, by omega⟩
    · exact .inr ⟨b, by simp [hb], h⟩
/-- A bar that moves, or reads as another letter, changes what is read. -/
theorem changed {s : Su} {L : List Br} {i : Nat} {b b' : Br} {k : Nat} (he : errOf s L = 0) (hb : L[i]? = some b) (hk : (k : Int) < s.pl) (hp : plc s b = some (k : Int)) (h63 : letter s b ≠ 63) (hc : plc s b' ≠ some (k : Int) ∨ (plc s b' = some (k : Int) ∧ letter s b' ≠ letter s b)) :
    ¬ (errOf s (L.set i b') = 0 ∧ readOf s (L.set i b') = readOf s L) := by
  rintro ⟨h1, h2⟩
  have hi := (List.getElem?_eq_some_iff.1 hb).1
  have hfit := ((err0_iff s L).1 he).2.2.2
  have hfit2 := ((err0_iff s _).1 h1).2.2.2
  rw [readOf_text h1, readOf_text he] at h2
  have h3 := textOf_at s (L.set i b') k hk
  rw [h2, textOf_at s L k hk, letterAt_mem s L b k hfit (List.mem_of_getElem? hb) hp] at h3
  injection h3 with h3
  rcases hc with hc | ⟨hc1, hc2⟩
  · rw [letterAt_none s (L.set i b') k fun x hx e => ?_] at h3
    · exact h63 h3
    · obtain ⟨n, hn⟩ := List.mem_iff_getElem?.1 hx
      by_cases hne : i = n
      · subst hne
        rw [List.getElem?_set_self hi] at hn
        injection hn with hn; subst hn; exact hc e
      · rw [List.getElem?_set_ne hne] at hn
        rcases Nat.lt_or_ge n i with hlt | hge
        · exact not_fit s L i n b x hb hn hlt (by rw [hp, e]) hfit
        · exact not_fit s L n i x b hn hb (by omega) (by rw [hp, e]) hfit
  · rw [letterAt_mem s (L.set i b') b' k hfit2 (List.mem_of_getElem? (i := i) (by rw [List.getElem?_set_self hi])) hc1] at h3
    exact hc2 h3.symm
theorem letter_ne_up {s : Su} {b : Br} {u : Int} (hlh : s.lo < s.hi) (hm : ¬ ((b.up > s.lo ∧ b.up < s.hi) ∨ (b.dn > s.lo ∧ b.dn < s.hi))) (h : (b.up ≤ s.lo ∧ s.lo < u) ∨ (s.hi ≤ b.up ∧ u < s.hi)) : letter s ⟨b.po, u, b.dn⟩ ≠ letter s b := by
  unfold letter
  rw [if_neg hm]
  simp only
  repeat' split
  all_goals first | decide | (exfalso; omega)
theorem letter_ne_dn {s : Su} {b : Br} {u : Int} (hlh : s.lo < s.hi) (hm : ¬ ((b.up > s.lo ∧ b.up < s.hi) ∨ (b.dn > s.lo ∧ b.dn < s.hi))) (h : (b.dn ≤ s.lo ∧ s.lo < u) ∨ (s.hi ≤ b.dn ∧ u < s.hi)) : letter s ⟨b.po, b.up, u⟩ ≠ letter s b := by
  unfold letter
  rw [if_neg hm]
  simp only
  repeat' split
  all_goals first | decide | (exfalso; omega)
theorem tight {s : Su} {L : List Br} (hs : Okay s) (hsl : s.sl ≤ 1000000) (he : errOf s L = 0) (hne : L.length ≠ 0) (hmid : ∀ b ∈ L, ∃ k : Nat, (k : Int) < s.pl ∧ plc s b = some (k : Int) ∧ b.po = s.og + (k : Int) * s.pi) (h63 : ∀ b ∈ L, letter s b ≠ 63)
    (hd : ∀ i, i < L.length → ∀ b, L[i]? = some b → ∀ k, k < 6 → Dul s L i b k) : False := by
  obtain ⟨a1, a2, a3, a4, a5, a6, a7, a8, a9, a10, a11⟩ := id hs
  have hpos : ∀ b ∈ L, roomB s b = min s.sl (min (room s b.up) (room s b.dn)) := fun b hb => by
    obtain ⟨k, _, hk, hp⟩ := hmid b hb
    unfold roomB posB
    rw [hk]
    simp only
    omega
  obtain ⟨b, hbm, hm⟩ : ∃ b ∈ L, marginOf s L = roomB s b := by
    rcases min_mem (roomB s) L 1048576 with h | h
    · have hb0 := List.getElem_mem (show 0 < L.length by omega)
      have h1 := margin_le (s := s) hb0
      have h2 := hpos _ hb0
      have h3 : marginOf s L = 1048576 := h
      omega
    · exact h
  obtain ⟨i, hb⟩ := List.mem_iff_getElem?.1 hbm
  have hi := (List.getElem?_eq_some_iff.1 hb).1
  obtain ⟨k, hk, hpk, hpo⟩ := hmid b hbm
  have hkp := Int.mul_nonneg (show 0 ≤ (k : Int) by omega) (show 0 ≤ s.pi by omega)
  have h6 := h63 b hbm
  rw [hpos b hbm] at hm
  have hdul := hd i hi b hb
  have key : ∀ k', k' < 6 → (0 ≤ mval (marginOf s L) b k') → (plc s (mv (marginOf s L) b k') ≠ some (k : Int) ∨ (plc s (mv (marginOf s L) b k') = some (k : Int) ∧ letter s (mv (marginOf s L) b k') ≠ letter s b)) → Dul s L i b k' → False := fun k' h1 h2 h3 h4 => by
    rcases h4 with h4 | h4
    · omega
    · exact changed he hb hk hpk h6 h3 h4
  have hnm : ¬ ((b.up > s.lo ∧ b.up < s.hi) ∨ (b.dn > s.lo ∧ b.dn < s.hi)) := fun h => h6 (by unfold letter; rw [if_pos h])
  rcases (show marginOf s L = s.sl ∨ marginOf s L = room s b.up ∨ marginOf s L = room s b.dn by omega) with h | h | h
  · refine key 0 (by omega) (by show 0 ≤ b.po + (marginOf s L + 1); omega) (.inl fun e => ?_) (hdul 0 (by omega))
    have h1 := (stand_iff s _ k hs (by omega) hk).2 e
    unfold Stand at h1
    have h2 : (mv (marginOf s L) b 0).po = b.po + (marginOf s L + 1) := rfl
    omega
  · unfold room at h
    by_cases hu : b.up ≤ s.lo
    · rw [if_pos hu] at h
      refine key 2 (by omega) (by show 0 ≤ b.up + (marginOf s L + 1); omega) (.inr ⟨(plc_po s b _ rfl).trans hpk, ?_⟩) (hdul 2 (by omega))
      exact letter_ne_up (by omega) hnm (.inl ⟨hu, by omega⟩)
    · rw [if_neg hu, if_pos (by omega)] at h
      refine key 3 (by omega) (by show 0 ≤ b.up + (-marginOf s L - 1); omega) (.inr ⟨(plc_po s b _ rfl).trans hpk, ?_⟩) (hdul 3 (by omega))
      exact letter_ne_up (by omega) hnm (.inr ⟨by omega, by omega⟩)
  · unfold room at h
    by_cases hu : b.dn ≤ s.lo
    · rw [if_pos hu] at h
      refine key 4 (by omega) (by show 0 ≤ b.dn + (marginOf s L + 1); omega) (.inr ⟨(plc_po s b _ rfl).trans hpk, ?_⟩) (hdul 4 (by omega))
      exact letter_ne_dn (by omega) hnm (.inl ⟨hu, by omega⟩)
    · rw [if_neg hu, if_pos (by omega)] at h
      refine key 5 (by omega) (by show 0 ≤ b.dn + (-marginOf s L - 1); omega) (.inr ⟨(plc_po s b _ rfl).trans hpk, ?_⟩) (hdul 5 (by omega))
      exact letter_ne_dn (by omega) hnm (.inr ⟨by omega, by omega⟩)
end Go.Proofs.Ytnecppiamecemaa
