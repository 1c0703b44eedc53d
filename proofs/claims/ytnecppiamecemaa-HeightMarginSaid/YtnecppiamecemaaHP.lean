/- Chapter 21, plain: setups, bars, what is read of them. No program in sight. -/
import Derived.Test.YtnecppiamecemaaLD
namespace Go.Proofs.Ytnecppiamecemaa

structure Su where
  (pl og pi sl lo hi : Int)
deriving DecidableEq
abbrev Su.v (s : Su) : Value := .agg #[.int .i64 s.pl, .int .i64 s.og, .int .i64 s.pi, .int .i64 s.sl, .int .i64 s.lo, .int .i64 s.hi]
structure Br where
  (po up dn : Int)
deriving DecidableEq
abbrev Br.v (b : Br) : Value := .agg #[.int .i64 b.po, .int .i64 b.up, .int .i64 b.dn]
abbrev Br.c (b : Br) : List Value := [.int .i64 b.po, .int .i64 b.up, .int .i64 b.dn]
theorem Br.c_len (b : Br) : b.c.length = 3 := rfl

def Okay (s : Su) : Prop := 1 ≤ s.pl ∧ s.pl ≤ 200 ∧ 1 ≤ s.pi ∧ s.pi ≤ 1048576 ∧ 0 ≤ s.og ∧ s.og ≤ 1048576 ∧ 0 ≤ s.sl ∧ 2 * s.sl < s.pi ∧ 0 ≤ s.lo ∧ s.lo < s.hi ∧ s.hi ≤ 1048576
instance (s : Su) : Decidable (Okay s) := by unfold Okay; infer_instance
def InB (b : Br) : Prop := 0 ≤ b.po ∧ b.po ≤ 1073741824 ∧ 0 ≤ b.up ∧ b.up ≤ 1048576 ∧ 0 ≤ b.dn ∧ b.dn ≤ 1048576
instance (b : Br) : Decidable (InB b) := by unfold InB; infer_instance

/-- The place at which a bar stands. -/
def plc (s : Su) (b : Br) : Option Int :=
  let from_ := b.po - s.og + s.sl
  if from_ < 0 ∨ 2 * s.sl < from_ % s.pi then none else if from_ / s.pi < s.pl then some (from_ / s.pi) else none

def Stand (s : Su) (b : Br) (k : Int) : Prop := b.po ≤ s.og + k * s.pi + s.sl ∧ s.og + k * s.pi - s.sl ≤ b.po
instance (s : Su) (b : Br) (k : Int) : Decidable (Stand s b k) := by unfold Stand; infer_instance

theorem stand_iff (s : Su) (b : Br) (k : Int) (h : Okay s) (h0 : 0 ≤ k) (h1 : k < s.pl) : Stand s b k ↔ plc s b = some k := by
  obtain ⟨_, _, hp, _, _, _, hs, hsp, _⟩ := h
  have hpos : 0 < s.pi := by omega
  have e := Int.emod_add_mul_ediv (b.po - s.og + s.sl) s.pi
  have m0 := Int.emod_nonneg (b.po - s.og + s.sl) (show s.pi ≠ 0 by omega)
  have m1 := Int.emod_lt_of_pos (b.po - s.og + s.sl) hpos
  unfold Stand plc
  simp only
  generalize hf : b.po - s.og + s.sl = F at *
  generalize hr : F % s.pi = r at *
  generalize hq : F / s.pi = q at *
  constructor
  · rintro ⟨a1, a2⟩
    have hF0 : k * s.pi ≤ F := by omega
    have hF1 : F ≤ k * s.pi + 2 * s.sl := by omega
    have hF : 0 ≤ F := Int.le_trans (Int.mul_nonneg h0 (by omega)) hF0
    have hqk : q = k := by
      have c1 : q ≤ k := by
        rcases Int.lt_or_le k q with h | h
        · have : s.pi * (k + 1) ≤ s.pi * q := Int.mul_le_mul_of_nonneg_left (by omega) (by omega)
          rw [Int.mul_add, Int.mul_one, Int.mul_comm s.pi k] at this
          omega
        · exact h
      have c2 : k ≤ q := by
        rcases Int.lt_or_le q k with h | h
        · have : s.pi * (q + 1) ≤ s.pi * k := Int.mul_le_mul_of_nonneg_left (by omega) (by omega)
          rw [Int.mul_add, Int.mul_one, Int.mul_comm s.pi k] at this
          omega
        · exact h
      omega
    subst hqk
    rw [Int.mul_comm] at e
    rw [if_neg (by omega), if_pos h1]
  · split
    · intro hh; cases hh
    · split
      · intro hh
        injection hh with hh
        subst hh
        rw [Int.mul_comm] at e
        constructor <;> omega
      · intro hh; cases hh

theorem kpi (s : Su) (k : Int) (h : Okay s) (h0 : 0 ≤ k) (h1 : k ≤ 400) : 0 ≤ k * s.pi ∧ k * s.pi ≤ 419430400 := by
  obtain ⟨_, _, hp, hp2, _⟩ := h
  refine ⟨Int.mul_nonneg h0 (by omega), ?_⟩
  have := Int.mul_le_mul h1 hp2 (by omega) (by omega)
  omega
theorem plc_range (s : Su) (b : Br) (k : Int) (h : Okay s) (hk : plc s b = some k) : 0 ≤ k ∧ k < s.pl := by
  obtain ⟨_, _, hp, _⟩ := h
  unfold plc at hk
  simp only at hk
  split at hk
  · cases hk
  · rename_i hn
    split at hk
    · rename_i hl
      injection hk with hk
      subst hk
      exact ⟨Int.ediv_nonneg (by omega) (by omega), hl⟩
    · cases hk

/-- The number of the error of measured bars. -/
def errOf (s : Su) (l : List Br) : Int :=
  if 400 < l.length then 5 else if ¬ Okay s then 2 else if ¬ ∀ b ∈ l, InB b then 2
  else if (∀ b ∈ l, (plc s b).isSome = true) ∧ (l.map (plc s)).Nodup then 0 else 210

def letter (s : Su) (b : Br) : UInt8 :=
  if (b.up > s.lo ∧ b.up < s.hi) ∨ (b.dn > s.lo ∧ b.dn < s.hi) then 63
  else if b.up ≥ s.hi ∧ b.dn ≥ s.hi then 70
  else if b.up ≥ s.hi then 65 else if b.dn ≥ s.hi then 68 else 84
def letterAt (s : Su) (l : List Br) (k : Nat) : UInt8 := match l.find? (fun b => plc s b == some (k : Int)) with
  | some b => letter s b
  | none => 63
def textOf (s : Su) (l : List Br) : List UInt8 := (List.range s.pl.toNat).map (letterAt s l)
def room (s : Su) (n : Int) : Int := if n ≤ s.lo then s.lo - n else if s.hi ≤ n then n - s.hi else min (s.hi - 1 - n) (n - s.lo - 1)
/-- By how much one bar may be wrong. -/
def posB (s : Su) (b : Br) (k : Int) : Int := s.sl - max (s.og + k * s.pi - b.po) (b.po - (s.og + k * s.pi))
def roomB (s : Su) (b : Br) : Int := match plc s b with
  | some k => min (posB s b k) (min (room s b.up) (room s b.dn))
  | none => 0
def marginOf (s : Su) (l : List Br) : Int := l.foldl (fun m b => min m (roomB s b)) 1048576

/-- As far as the first i bars go, each stands at a place of its own. -/
def Fit (s : Su) (l : List Br) : Prop := (∀ b ∈ l, (plc s b).isSome = true) ∧ (l.map (plc s)).Nodup
theorem fit_nil (s : Su) : Fit s [] := ⟨fun _ h => absurd h (by simp), by simp⟩
theorem fit_snoc (s : Su) (l : List Br) (b : Br) : Fit s (l ++ [b]) ↔ Fit s l ∧ (plc s b).isSome = true ∧ ∀ b' ∈ l, plc s b' ≠ plc s b := by
  unfold Fit
  rw [List.map_append, List.nodup_append]
  simp only [List.mem_append, List.mem_singleton, List.map_cons, List.map_nil]
  constructor
  · rintro ⟨h1, h2, h3, h4⟩
    exact ⟨⟨fun b hb => h1 b (.inl hb), h2⟩, h1 b (.inr rfl), fun b' hb' => h4 _ (List.mem_map.2 ⟨b', hb', rfl⟩) _ rfl⟩
  · rintro ⟨⟨h1, h2⟩, h3, h4⟩
    refine ⟨fun x hx => ?_, h2, by simp, fun x hx y hy => ?_⟩
    · rcases hx with hx | rfl
      · exact h1 x hx
      · exact h3
    · obtain ⟨b', hb', rfl⟩ := List.mem_map.1 hx
      subst hy
      exact h4 b' hb'
theorem fit_prefix (s : Su) (l : List Br) (i : Nat) (h : Fit s l) : Fit s (l.take i) :=
  ⟨fun b hb => h.1 b (List.mem_of_mem_take hb), by rw [List.map_take]; exact h.2.sublist (List.take_sublist _ _)⟩
theorem take_snoc {α : Type} (l : List α) (i : Nat) (b : α) (h : l[i]? = some b) : l.take (i + 1) = l.take i ++ [b] := by
  rw [List.take_add_one, h]; rfl

/-- What is read: nothing where there is an error. -/
def readOf (s : Su) (l : List Br) : List UInt8 := if errOf s l = 0 then textOf s l else []
theorem err0_iff (s : Su) (l : List Br) : errOf s l = 0 ↔ l.length ≤ 400 ∧ Okay s ∧ (∀ b ∈ l, InB b) ∧ Fit s l := by
  unfold errOf Fit
  by_cases h1 : 400 < l.length
  · simp [h1]; omega
  · rw [if_neg h1]
    by_cases h2 : Okay s
    · rw [if_neg (by simpa using h2)]
      by_cases h3 : ∀ b ∈ l, InB b
      · rw [if_neg (by simpa using h3)]
        by_cases h4 : (∀ b ∈ l, (plc s b).isSome = true) ∧ (l.map (plc s)).Nodup
        · rw [if_pos h4]; exact ⟨fun _ => ⟨by omega, h2, h3, h4⟩, fun _ => rfl⟩
        · rw [if_neg h4]; exact ⟨fun h => (by cases h), fun h => absurd h.2.2.2 h4⟩
      · rw [if_pos h3]; exact ⟨fun h => (by cases h), fun h => absurd h.2.2.1 h3⟩
    · rw [if_pos h2]; exact ⟨fun h => (by cases h), fun h => absurd h.2.1 h2⟩
def marginR (s : Su) (l : List Br) : Int := if errOf s l = 0 then marginOf s l else 0
theorem marginOf_snoc (s : Su) (l : List Br) (b : Br) : marginOf s (l ++ [b]) = min (marginOf s l) (roomB s b) := by
  unfold marginOf; rw [List.foldl_append]; rfl
theorem letterAt_miss (s : Su) (l : List Br) (i k : Nat) (b : Br) (hk : l[i]? = some b) (h : plc s b ≠ some (k : Int)) : letterAt s (l.take (i + 1)) k = letterAt s (l.take i) k := by
  unfold letterAt
  rw [take_snoc l i b hk, List.find?_append]
  have : ([b].find? fun b => plc s b == some (k : Int)) = none := by simp [h]
  rw [this, Option.or_none]
theorem letterAt_hit (s : Su) (l : List Br) (i k : Nat) (b : Br) (hf : Fit s l) (hk : l[i]? = some b) (h : plc s b = some (k : Int)) : letterAt s (l.take (i + 1)) k = letter s b := by
  have hf' := fit_prefix s l (i + 1) hf
  rw [take_snoc l i b hk, fit_snoc] at hf'
  unfold letterAt
  rw [take_snoc l i b hk, List.find?_append]
  have h1 : (l.take i).find? (fun b => plc s b == some (k : Int)) = none := by
    rw [List.find?_eq_none]
    intro x hx
    have := hf'.2.2 x hx
    rw [h] at this
    simpa using this
  have h2 : ([b].find? fun b => plc s b == some (k : Int)) = some b := by simp [h]
  rw [h1, h2]; rfl
theorem bytes_snoc (a : List UInt8) (x : UInt8) : (⟨a.toArray⟩ : ByteArray) ++ ⟨#[x]⟩ = ⟨(a ++ [x]).toArray⟩ := by
  apply ByteArray.ext; simp
theorem size_bytes (a : List UInt8) : (⟨a.toArray⟩ : ByteArray).size = a.length := by simp [ByteArray.size]

def okLetter (c : UInt8) : Bool := c == 84 || c == 65 || c == 68 || c == 70 || c == 63
def drawErr (s : Su) (t : List UInt8) : Int := if Okay s ∧ (t.length : Int) = s.pl ∧ t.all okLetter = true then 0 else 2
def mkb (s : Su) (c : UInt8) (k : Nat) : Br := ⟨s.og + k * s.pi, if c = 65 ∨ c = 70 then s.hi else s.lo, if c = 68 ∨ c = 70 then s.hi else s.lo⟩
def drawL (s : Su) : List UInt8 → Nat → List Br
  | [], _ => []
  | c :: t, k => (if c = 63 then [] else [mkb s c k]) ++ drawL s t (k + 1)
def drawOf (s : Su) (t : List UInt8) : List Br := if drawErr s t = 0 then drawL s t 0 else []
theorem drawL_snoc (s : Su) (c : UInt8) : ∀ (t : List UInt8) (k : Nat), drawL s (t ++ [c]) k = drawL s t k ++ (if c = 63 then [] else [mkb s c (k + t.length)])
  | [], k => by simp [drawL]
  | x :: t, k => by rw [List.cons_append, drawL, drawL_snoc s c t (k + 1), drawL, List.append_assoc, show k + 1 + t.length = k + (x :: t).length from by simp; omega]
theorem drawL_len (s : Su) : ∀ (t : List UInt8) (k : Nat), (drawL s t k).length ≤ t.length
  | [], _ => by simp [drawL]
  | c :: t, k => by rw [drawL, List.length_append, List.length_cons]; have := drawL_len s t (k + 1); split <;> simp <;> omega

theorem drawL_step (s : Su) (t : List UInt8) (k : Nat) (c : UInt8) (hc : t[k]? = some c) (h : c ≠ 63) : drawL s (t.take (k + 1)) 0 = drawL s (t.take k) 0 ++ [mkb s c k] := by
  have hk : k < t.length := (List.getElem?_eq_some_iff.1 hc).1
  rw [take_snoc t k c hc, drawL_snoc, if_neg h, List.length_take, Nat.min_eq_left (by omega), Nat.zero_add]
theorem drawL_skip (s : Su) (t : List UInt8) (k : Nat) (c : UInt8) (hc : t[k]? = some c) (h : c = 63) : drawL s (t.take (k + 1)) 0 = drawL s (t.take k) 0 := by
  rw [take_snoc t k c hc, drawL_snoc, if_pos h, List.append_nil]
theorem drawErr_bad (s : Su) (t : List UInt8) (h : ¬ (Okay s ∧ (t.length : Int) = s.pl ∧ t.all okLetter = true)) : drawErr s t = 2 ∧ drawOf s t = [] := by
  have e : drawErr s t = 2 := by unfold drawErr; rw [if_neg h]
  exact ⟨e, by unfold drawOf; rw [e]; rfl⟩
theorem drawErr_ok (s : Su) (t : List UInt8) (h : Okay s ∧ (t.length : Int) = s.pl ∧ t.all okLetter = true) : drawErr s t = 0 ∧ drawOf s t = drawL s t 0 := by
  have e : drawErr s t = 0 := by unfold drawErr; rw [if_pos h]
  exact ⟨e, by unfold drawOf; rw [e]; rfl⟩
theorem byte_eq {c d : UInt8} (h : (c.toNat : Int) = (d.toNat : Int)) : c = d := UInt8.toNat_inj.1 (by omega)
theorem all_snoc (t : List UInt8) (k : Nat) (c : UInt8) (p : UInt8 → Bool) (hc : t[k]? = some c) (h : (t.take k).all p = true) (hp : p c = true) : (t.take (k + 1)).all p = true := by
  rw [take_snoc t k c hc, List.all_append, h]; simp [hp]
theorem okLetter_not {c : UInt8} (h : (c.toNat : Int) ≠ 65 ∧ (c.toNat : Int) ≠ 68 ∧ (c.toNat : Int) ≠ 70 ∧ (c.toNat : Int) ≠ 84 ∧ (c.toNat : Int) ≠ 63) : okLetter c = false := by
  unfold okLetter
  obtain ⟨h1, h2, h3, h4, h5⟩ := h
  have f : ∀ d : UInt8, (c.toNat : Int) ≠ (d.toNat : Int) → (c == d) = false := fun d hd => by simpa using fun e => hd (by rw [e])
  rw [f 84 h4, f 65 h1, f 68 h2, f 70 h3, f 63 h5]; rfl

theorem plc_none (s : Su) (b : Br) (hs : Okay s) (h : ∀ k : Int, plc s b = some k → s.pl ≤ k) : plc s b = none := by
  cases hp : plc s b with
  | none => rfl
  | some k => have := h k hp; have := (plc_range s b k hs hp).2; omega
theorem not_fit0 (s : Su) (l : List Br) (i : Nat) (b : Br) (hk : l[i]? = some b) (hn : plc s b = none) : ¬ Fit s l := by
  rintro ⟨h1, _⟩
  have := h1 b (List.mem_of_getElem? hk)
  rw [hn] at this
  cases this
theorem not_fit (s : Su) (l : List Br) (i j : Nat) (b b' : Br) (hk : l[i]? = some b) (hk2 : l[j]? = some b') (hij : j < i) (e : plc s b = plc s b') : ¬ Fit s l := by
  intro h
  have hf := fit_prefix s l (i + 1) h
  rw [take_snoc l i b hk, fit_snoc] at hf
  refine hf.2.2 b' ?_ e.symm
  rw [List.mem_iff_getElem?]
  exact ⟨j, by rw [List.getElem?_take, if_pos hij, hk2]⟩
/-- How many places have been found for a bar, k of them looked at. -/
def Cnt (s : Su) (b : Br) (l : List Br) (i k c : Nat) : Prop :=
  (c = 0 ∧ ∀ k' : Int, plc s b = some k' → (k : Int) ≤ k') ∨ (c = 1 ∧ (plc s b).isSome = true ∧ (∃ k', plc s b = some k' ∧ k' < k) ∧ ∀ b' ∈ l.take i, plc s b' ≠ plc s b)
theorem cnt_le {s : Su} {b : Br} {l : List Br} {i k c : Nat} (h : Cnt s b l i k c) : c ≤ 1 := by rcases h with h | h <;> omega
theorem cnt_miss (s : Su) (b : Br) (l : List Br) (i k c : Nat) (hs : Okay s) (hk : (k : Int) < s.pl) (hn : ¬ Stand s b k) (h : Cnt s b l i k c) : Cnt s b l i (k + 1) c := by
  rcases h with ⟨h1, h2⟩ | ⟨h1, h2, ⟨k', h3, h4⟩, h5⟩
  · refine .inl ⟨h1, fun k' hk' => ?_⟩
    have := h2 k' hk'
    have hne : k' ≠ k := fun e => hn ((stand_iff s b k hs (by omega) hk).2 (by rw [hk', e]))
    omega
  · exact .inr ⟨h1, h2, ⟨k', h3, by omega⟩, h5⟩
theorem cnt_hit (s : Su) (b : Br) (l : List Br) (i k c : Nat) (hs : Okay s) (hk : (k : Int) < s.pl) (hy : Stand s b k) (hno : ∀ j' b', j' < i → l[j']? = some b' → plc s b' ≠ plc s b) (h : Cnt s b l i k c) : Cnt s b l i (k + 1) (c + 1) := by
  have hp := (stand_iff s b k hs (by omega) hk).1 hy
  rcases h with ⟨h1, h2⟩ | ⟨h1, h2, ⟨k', h3, h4⟩, h5⟩
  · refine .inr ⟨by omega, by rw [hp]; rfl, ⟨k, hp, by omega⟩, fun b' hb' => ?_⟩
    obtain ⟨j, hj⟩ := List.mem_iff_getElem?.1 hb'
    rw [List.getElem?_take] at hj
    split at hj
    · exact hno j b' (by assumption) hj
    · cases hj
  · rw [hp] at h3; injection h3; omega
end Go.Proofs.Ytnecppiamecemaa
