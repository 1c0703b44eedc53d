/- Chapter 21, plain: what the program's own steps make of bars. -/
import Derived.Test.YtnecppiamecemaaHD
namespace Go.Proofs.Ytnecppiamecemaa

/-- What a half is. -/
def half (s : Su) (n : Int) : Nat := if n ≤ s.lo then 0 else if n ≥ s.hi then 1 else 2
theorem half_lt (s : Su) (n : Int) : half s n < 3 := by unfold half; split <;> (try split) <;> omega
def tblU : List UInt8 := [84, 68, 63, 65, 70, 63, 63, 63, 63]
def tbl : List Value := [.int .u8 84, .int .u8 68, .int .u8 63, .int .u8 65, .int .u8 70, .int .u8 63, .int .u8 63, .int .u8 63, .int .u8 63]
theorem letter_tbl (s : Su) (b : Br) (h : s.lo < s.hi) : tbl[half s b.up * 3 + half s b.dn * 1]? = some (.int .u8 (letter s b).toNat) := by
  unfold half letter
  by_cases a1 : b.up ≤ s.lo <;> by_cases a2 : b.dn ≤ s.lo
  · rw [if_pos a1, if_pos a2, if_neg (by omega), if_neg (by omega), if_neg (by omega), if_neg (by omega)]; rfl
  · by_cases a3 : b.dn ≥ s.hi
    · rw [if_pos a1, if_neg a2, if_pos a3, if_neg (by omega), if_neg (by omega), if_neg (by omega), if_pos a3]; rfl
    · rw [if_pos a1, if_neg a2, if_neg a3, if_pos (by omega)]; rfl
  · by_cases a3 : b.up ≥ s.hi
    · rw [if_neg a1, if_pos a2, if_pos a3, if_neg (by omega), if_neg (by omega), if_pos a3]; rfl
    · rw [if_neg a1, if_pos a2, if_neg a3, if_pos (by omega)]; rfl
  · by_cases a3 : b.up ≥ s.hi <;> by_cases a4 : b.dn ≥ s.hi
    · rw [if_neg a1, if_neg a2, if_pos a3, if_pos a4, if_neg (by omega), if_pos (by omega)]; rfl
    · rw [if_neg a1, if_neg a2, if_pos a3, if_neg a4, if_pos (by omega)]; rfl
    · rw [if_neg a1, if_neg a2, if_neg a3, if_pos a4, if_pos (by omega)]; rfl
    · rw [if_neg a1, if_neg a2, if_neg a3, if_neg a4, if_pos (by omega)]; rfl

abbrev kI : Int → Value := fun i : Int => Value.int .i64 i
def foundOf (s : Su) (l : List Br) : List (Int × Value) := l.map fun b => ((plc s b).getD 0, b.v)
theorem found_len (s : Su) (l : List Br) : (foundOf s l).length = l.length := by simp [foundOf]
theorem found_snoc (s : Su) (l : List Br) (i : Nat) (b : Br) (k : Int) (hk : l[i]? = some b) (hp : plc s b = some k) : foundOf s (l.take (i + 1)) = foundOf s (l.take i) ++ [(k, b.v)] := by
  unfold foundOf; rw [take_snoc l i b hk, List.map_append]; simp [hp]
theorem found_get (s : Su) (k : Int) : ∀ (l : List Br), (∀ b ∈ l, (plc s b).isSome = true) → mget (foundOf s l) k = (l.find? fun b => plc s b == some k).map Br.v
  | [], _ => rfl
  | b :: l, h => by
    have ih := found_get s k l fun x hx => h x (by simp [hx])
    obtain ⟨q, hq⟩ := Option.isSome_iff_exists.1 (h b (by simp))
    unfold foundOf at ih ⊢
    simp only [List.map_cons, mget, List.find?_cons, hq, Option.getD_some]
    by_cases e : q = k
    · subst e; simp
    · have : (q == k) = false := by simpa using e
      rw [if_neg e, ih, show (some q == some k) = false from this]
theorem found_at (s : Su) (l : List Br) (i : Nat) (k : Int) (v : Value) (hf : ∀ b ∈ l, (plc s b).isSome = true) (hp : (foundOf s l)[i]? = some (k, v)) : ∃ b, l[i]? = some b ∧ plc s b = some k ∧ v = b.v := by
  unfold foundOf at hp
  rw [List.getElem?_map] at hp
  cases hl : l[i]? with
  | none => rw [hl] at hp; cases hp
  | some b =>
    rw [hl] at hp
    simp only [Option.map_some, Option.some.injEq, Prod.mk.injEq] at hp
    obtain ⟨q, hq⟩ := Option.isSome_iff_exists.1 (hf b (List.mem_of_getElem? hl))
    exact ⟨b, rfl, by rw [hq, ← hp.1, hq]; rfl, hp.2.symm⟩
/-- The bar that is found at a place. -/
def fbo (s : Su) (l : List Br) (k : Int) : Option Br := l.find? fun b => plc s b == some k
def fb (s : Su) (l : List Br) (k : Int) : Br := (fbo s l k).getD ⟨0, 0, 0⟩
theorem found_look (s : Su) (l : List Br) (k : Int) (hf : ∀ b ∈ l, (plc s b).isSome = true) :
    Value.tuple #[(mget (foundOf s l) k).getD (.agg #[.int .i64 0, .int .i64 0, .int .i64 0]), .bool (mget (foundOf s l) k).isSome] = .tuple #[(fb s l k).v, .bool (fbo s l k).isSome] := by
  rw [found_get s k l hf]
  unfold fb fbo
  cases l.find? (fun b => plc s b == some k) <;> rfl
theorem fbo_iff (s : Su) (l : List Br) (k : Int) (hf : ∀ b ∈ l, (plc s b).isSome = true) : (mget (foundOf s l) k).isSome = (fbo s l k).isSome := by
  rw [found_get s k l hf, Option.isSome_map]; rfl
theorem letterAt_fb (s : Su) (l : List Br) (k : Nat) (h : (fbo s l k).isSome = true) : letterAt s l k = letter s (fb s l k) ∧ fb s l k ∈ l := by
  obtain ⟨b, hb⟩ := Option.isSome_iff_exists.1 h
  unfold letterAt fb
  unfold fbo at hb ⊢
  rw [hb]
  exact ⟨rfl, List.mem_of_find?_eq_some hb⟩
theorem letterAt_no (s : Su) (l : List Br) (k : Nat) (h : (fbo s l k).isSome = false) : letterAt s l k = 63 := by
  unfold letterAt
  have : (l.find? fun b => plc s b == some (k : Int)) = none := by simpa [fbo] using h
  rw [this]
/-- The text as far as it has been written. -/
def txt (s : Su) (l : List Br) (k : Nat) : List Value := (List.range s.pl.toNat).map fun j => if j < k then .int .u8 (letterAt s l j).toNat else .int .u8 0
theorem txt_len (s : Su) (l : List Br) (k : Nat) : (txt s l k).length = s.pl.toNat := by simp [txt]
theorem txt_zero (s : Su) (l : List Br) : List.replicate s.pl.toNat (Value.int .u8 0) = txt s l 0 := by
  apply List.ext_getElem?
  intro i
  unfold txt
  rw [List.getElem?_map, List.getElem?_replicate]
  by_cases h : i < s.pl.toNat
  · rw [if_pos h, List.getElem?_range h]; simp
  · rw [if_neg h, List.getElem?_eq_none (by simpa using h)]; rfl
theorem txt_set (s : Su) (l : List Br) (k : Nat) (v : Value) (hv : v = .int .u8 (letterAt s l k).toNat) : (txt s l k).set (k * 1) v = txt s l (k + 1) := by
  subst hv
  apply List.ext_getElem?
  intro i
  unfold txt
  rw [List.getElem?_set, Nat.mul_one, List.length_map, List.length_range, List.getElem?_map, List.getElem?_map]
  by_cases h : k = i
  · subst h
    rw [if_pos rfl]
    by_cases hi : k < s.pl.toNat
    · rw [if_pos hi, List.getElem?_range hi]; simp
    · rw [if_neg hi, List.getElem?_eq_none (by simpa using hi)]; rfl
  · rw [if_neg h]
    by_cases hi : i < s.pl.toNat
    · rw [List.getElem?_range hi]; simp only [Option.map_some]; congr 1
      by_cases h2 : i < k
      · rw [if_pos h2, if_pos (by omega)]
      · rw [if_neg h2, if_neg (by omega)]
    · rw [List.getElem?_eq_none (by simpa using hi)]; rfl
theorem txt_set2 (s : Su) (l : List Br) (k : Nat) (u v : Value) (hv : v = .int .u8 (letterAt s l k).toNat) : ((txt s l k).set (k * 1) u).set (k * 1) v = txt s l (k + 1) := by
  rw [List.set_set]; exact txt_set s l k v hv
theorem txt_end (s : Su) (l : List Br) : txt s l s.pl.toNat = (textOf s l).flatMap encB := by
  unfold txt textOf encB
  rw [← List.map_eq_flatMap, List.map_map]
  exact List.map_congr_left fun j hj => by rw [if_pos (List.mem_range.1 hj)]; rfl
theorem txt_rd (s : Su) (l : List Br) {w : World} {g : Nat} {t : TypeId} (h : Blk w g t (txt s l s.pl.toNat)) (hp : s.pl ≤ 200) : RdL w 1 encB (.slice (some ⟨g, 0, none⟩) s.pl.toNat s.pl.toNat) (textOf s l) := by
  have e : (textOf s l).length = s.pl.toNat := by simp [textOf]
  rw [txt_end] at h
  have := RdL.of_blk (cap := (textOf s l).length) encB_len h (Nat.le_refl _) (by rw [e]; simp only [maxLen]; omega)
  rwa [e] at this
theorem mkb_eq (s : Su) (c : UInt8) (k : Nat) (p q : Bool) (hp : p = true ↔ (c = 65 ∨ c = 70)) (hq : q = true ↔ (c = 68 ∨ c = 70)) : mkb s c k = ⟨s.og + k * s.pi, if p = true then s.hi else s.lo, if q = true then s.hi else s.lo⟩ := by
  unfold mkb
  congr 1
  · by_cases h : p = true
    · rw [if_pos h, if_pos (hp.1 h)]
    · rw [if_neg h, if_neg fun e => h (hp.2 e)]
  · by_cases h : q = true
    · rw [if_pos h, if_pos (hq.1 h)]
    · rw [if_neg h, if_neg fun e => h (hq.2 e)]
theorem selT (c d : UInt8) (h : (c.toNat : Int) = (d.toNat : Int)) : true = true ↔ (c = d ∨ c = 70) := ⟨fun _ => .inl (byte_eq h), fun _ => rfl⟩
theorem selF (c d : UInt8) (h : ¬ (c.toNat : Int) = (d.toNat : Int)) : decide ((c.toNat : Int) = 70) = true ↔ (c = d ∨ c = 70) := by
  rw [decide_eq_true_iff]
  constructor
  · intro e; exact .inr (byte_eq (d := 70) e)
  · rintro (e | e)
    · subst e; exact absurd rfl h
    · subst e; rfl
theorem textOf_len (s : Su) (l : List Br) : (textOf s l).length = s.pl.toNat := by simp [textOf]
theorem half0 (s : Su) (n : Int) (h : (half s n : Int) = 0) : room s n = s.lo - n := by
  unfold half at h
  unfold room
  split at h
  · rw [if_pos (by assumption)]
  · split at h <;> omega
theorem half1 (s : Su) (n : Int) (h : (half s n : Int) = 1) : room s n = n - s.hi := by
  unfold half at h
  unfold room
  split at h
  · omega
  · split at h
    · rw [if_neg (by assumption), if_pos (by assumption)]
    · omega
theorem half2 (s : Su) (n : Int) (h : ¬ (half s n : Int) = 0) (h1 : ¬ (half s n : Int) = 1) : room s n = min (s.hi - 1 - n) (n - s.lo - 1) := by
  unfold half at h h1
  unfold room
  split at h
  · omega
  · split at h
    · rename_i h2 h3; rw [if_neg h2, if_pos h3] at h1; omega
    · rw [if_neg (by assumption), if_neg (by assumption)]
theorem hts_look (lo hi : Int) (b : Bool) : (mget (([] ++ [(false, Value.int .i64 lo)]) ++ [(true, Value.int .i64 hi)]) b).getD (.int .i64 0) = .int .i64 (if b = true then hi else lo) := by cases b <;> rfl
theorem idx_letters (c : UInt8) : (Lib.indexByte [84, 65, 68, 70, 63] (c.toNat : Int).toNat.toUInt8 < 0) ↔ okLetter c = false := by
  rw [Int.toNat_natCast, show c.toNat.toUInt8 = c from by simp]
  unfold okLetter
  by_cases h1 : c = 84
  · subst h1; decide
  by_cases h2 : c = 65
  · subst h2; decide
  by_cases h3 : c = 68
  · subst h3; decide
  by_cases h4 : c = 70
  · subst h4; decide
  by_cases h5 : c = 63
  · subst h5; decide
  simp [Lib.indexByte, h1, h2, h3, h4, h5, Ne.symm h1, Ne.symm h2, Ne.symm h3, Ne.symm h4, Ne.symm h5]
/-- The place as the program finds it. -/
theorem plc_bad (s : Su) (b : Br) (hb : b.po - s.og + s.sl < 0 ∨ 2 * s.sl < (b.po - s.og + s.sl) % s.pi) : plc s b = none := by
  unfold plc
  simp only
  rw [if_pos hb]
theorem plc_far (s : Su) (b : Br) (hb : s.pl ≤ (b.po - s.og + s.sl) / s.pi) : plc s b = none := by
  unfold plc
  simp only
  split
  · rfl
  · rw [if_neg (by omega)]
theorem plc_good (s : Su) (b : Br) (h0 : ¬ b.po - s.og + s.sl < 0) (h1 : ¬ 2 * s.sl < (b.po - s.og + s.sl) % s.pi) (hb : ¬ s.pl ≤ (b.po - s.og + s.sl) / s.pi) : plc s b = some ((b.po - s.og + s.sl) / s.pi) := by
  unfold plc
  simp only
  rw [if_neg (by omega), if_pos (by omega)]
theorem plc_q (s : Su) (b : Br) (k : Int) (hk : plc s b = some k) : k = (b.po - s.og + s.sl) / s.pi := by
  unfold plc at hk
  simp only at hk
  split at hk
  · cases hk
  · split at hk
    · injection hk with hk; exact hk.symm
    · cases hk
/-- A place that has been found already. -/
theorem found_hit (s : Su) (l : List Br) (i : Nat) (k : Int) (hf : ∀ b ∈ l.take i, (plc s b).isSome = true) (h : (mget (foundOf s (l.take i)) k).isSome = true) : ∃ j b, j < i ∧ l[j]? = some b ∧ plc s b = some k := by
  rw [found_get s k _ hf, Option.isSome_map, List.find?_isSome] at h
  obtain ⟨b, hb, he⟩ := h
  obtain ⟨j, hj⟩ := List.mem_iff_getElem?.1 hb
  rw [List.getElem?_take] at hj
  split at hj
  · exact ⟨j, b, by assumption, hj, by simpa using he⟩
  · cases hj
theorem found_miss (s : Su) (l : List Br) (i : Nat) (k : Int) (hf : ∀ b ∈ l.take i, (plc s b).isSome = true) (h : (mget (foundOf s (l.take i)) k).isSome = false) : mget (foundOf s (l.take i)) k = none ∧ ∀ b' ∈ l.take i, plc s b' ≠ some k := by
  have hn : mget (foundOf s (l.take i)) k = none := by simpa using h
  refine ⟨hn, fun b' hb' e => ?_⟩
  rw [found_get s k _ hf, Option.map_eq_none_iff, List.find?_eq_none] at hn
  have := hn b' hb'
  simp [e] at this
/-- The margin, in whatever order the bars come. -/
theorem foldl_min (f : Br → Int) : ∀ (l : List Br) (m : Int), l.foldl (fun m b => min m (f b)) m = (l.map f).foldl min m
  | [], _ => rfl
  | b :: l, m => by simp only [List.foldl_cons, List.map_cons]; exact foldl_min f l _
def seenMin (s : Su) (l : List Br) (seen : List Nat) : Int := (seen.map fun i => match l[i]? with | some b => roomB s b | none => 0).foldl min 1048576
theorem seen_snoc (s : Su) (l : List Br) (seen : List Nat) (i : Nat) (b : Br) (h : l[i]? = some b) : seenMin s l (seen ++ [i]) = min (seenMin s l seen) (roomB s b) := by
  unfold seenMin; rw [List.map_append, List.foldl_append]; simp [h]
theorem perm_range {seen : List Nat} {n : Nat} (h1 : seen.Nodup) (h2 : ∀ i ∈ seen, i < n) (h3 : ∀ i, i < n → i ∈ seen) : seen.Perm (List.range n) :=
  (List.perm_ext_iff_of_nodup h1 List.nodup_range).2 fun i => ⟨fun h => List.mem_range.2 (h2 i h), fun h => h3 i (List.mem_range.1 h)⟩
theorem nodup_len {seen : List Nat} {n : Nat} (h1 : seen.Nodup) (h2 : ∀ i ∈ seen, i < n) : seen.length ≤ n := by
  have := h1.length_le_of_subset (l₂ := List.range n) fun i h => List.mem_range.2 (h2 i h)
  simpa using this
theorem seen_all (s : Su) (l : List Br) (seen : List Nat) (h1 : seen.Nodup) (h2 : ∀ i ∈ seen, i < l.length) (h3 : ∀ i, i < l.length → i ∈ seen) : seenMin s l seen = marginOf s l := by
  have hp := perm_range h1 h2 h3
  unfold seenMin marginOf
  rw [foldl_min]
  have e : (List.range l.length).map (fun i => match l[i]? with | some b => roomB s b | none => 0) = l.map (roomB s) := by
    apply List.ext_getElem?
    intro i
    rw [List.getElem?_map, List.getElem?_map]
    by_cases h : i < l.length
    · rw [List.getElem?_range h, List.getElem?_eq_getElem h, Option.map_some, Option.map_some, List.getElem?_eq_getElem h]
    · rw [List.getElem?_eq_none (by simpa using h), List.getElem?_eq_none (by simpa using h)]; rfl
  rw [← e]
  exact (hp.map _).foldl_eq' (fun x _ y _ z => by omega) _
end Go.Proofs.Ytnecppiamecemaa
