/- Texts put together by program: HP, HA, HQ, HE, HF, HG, HU, HV, US, UR. -/
import Derived.Test.YtgjnchjkjdnidaaMBarcodeWrong4
/- Chapter 21, plain: setups, bars, what is read of them. No program in sight. -/
namespace Go.Proofs.Ytgjnchjkjdnidaa

structure Su where
  (pl og pi sl lo hi : Int)
deriving DecidableEq
abbrev Su.v (s : Su) : Value := .agg #[.int .i64 s.pl, .int .i64 s.og, .int .i64 s.pi, .int .i64 s.sl, .int .i64 s.lo, .int .i64 s.hi]
structure Br where
  (po up dn : Int)
deriving DecidableEq
abbrev Br.v (b : Br) : Value := .agg #[.int .i64 b.po, .int .i64 b.up, .int .i64 b.dn]
abbrev Br.c (b : Br) : List Value := [.int .i64 b.po, .int .i64 b.up, .int .i64 b.dn]
theorem Br.c_len (b : Br) : b.c.length = 3 := rfl

def Okay (s : Su) : Prop := 1 ≤ s.pl ∧ s.pl ≤ 200 ∧ 1 ≤ s.pi ∧ s.pi ≤ 1048576 ∧ 0 ≤ s.og ∧ s.og ≤ 1048576 ∧ 0 ≤ s.sl ∧ 2 * s.sl < s.pi ∧ 0 ≤ s.lo ∧ s.lo < s.hi ∧ s.hi ≤ 1048576
instance (s : Su) : Decidable (Okay s) := by unfold Okay; infer_instance
def InB (b : Br) : Prop := 0 ≤ b.po ∧ b.po ≤ 1073741824 ∧ 0 ≤ b.up ∧ b.up ≤ 1048576 ∧ 0 ≤ b.dn ∧ b.dn ≤ 1048576
instance (b : Br) : Decidable (InB b) := by unfold InB; infer_instance

/-- The place at which a bar stands. -/
def plc (s : Su) (b : Br) : Option Int :=
  let from_ := b.po - s.og + s.sl
  if from_ < 0 ∨ 2 * s.sl < from_ % s.pi then none else if from_ / s.pi < s.pl then some (from_ / s.pi) else none

def Stand (s : Su) (b : Br) (k : Int) : Prop := b.po ≤ s.og + k * s.pi + s.sl ∧ s.og + k * s.pi - s.sl ≤ b.po
instance (s : Su) (b : Br) (k : Int) : Decidable (Stand s b k) := by unfold Stand; infer_instance

theorem stand_iff (s : Su) (b : Br) (k : Int) (h : Okay s) (h0 : 0 ≤ k) (h1 : k < s.pl) : Stand s b k ↔ plc s b = some k := by
  obtain ⟨_, _, hp, _, _, _, hs, hsp, _⟩ := h
  have hpos : 0 < s.pi := by omega
  have e := Int.emod_add_mul_ediv (b.po - s.og + s.sl) s.pi
  have m0 := Int.emod_nonneg (b.po - s.og + s.sl) (show s.pi ≠ 0 by omega)
  have m1 := Int.emod_lt_of_pos (b.po - s.og + s.sl) hpos
  unfold Stand plc
  simp only
  generalize hf : b.po - s.og + s.sl = F at *
  generalize hr : F % s.pi = r at *
  generalize hq : F / s.pi = q at *
  constructor
  · rintro ⟨a1, a2⟩
    have hF0 : k * s.pi ≤ F := by omega
    have hF1 : F ≤ k * s.pi + 2 * s.sl := by omega
    have hF : 0 ≤ F := Int.le_trans (Int.mul_nonneg h0 (by omega)) hF0
    have hqk : q = k := by
      have c1 : q ≤ k := by
        rcases Int.lt_or_le k q with h | h
        · have : s.pi * (k + 1) ≤ s.pi * q := Int.mul_le_mul_of_nonneg_left (by omega) (by omega)
          rw [Int.mul_add, Int.mul_one, Int.mul_comm s.pi k] at this
          omega
        · exact h
      have c2 : k ≤ q := by
        rcases Int.lt_or_le q k with h | h
        · have : s.pi * (q + 1) ≤ s.pi * k := Int.mul_le_mul_of_nonneg_left (by omega) (by omega)
          rw [Int.mul_add, Int.mul_one, Int.mul_comm s.pi k] at this
          omega
        · exact h
      omega
    subst hqk
    rw [Int.mul_comm] at e
    rw [if_neg (by omega), if_pos h1]
  · split
    · intro hh; cases hh
    · split
      · intro hh
        injection hh with hh
        subst hh
        rw [Int.mul_comm] at e
        constructor <;> omega
      · intro hh; cases hh

theorem kpi (s : Su) (k : Int) (h : Okay s) (h0 : 0 ≤ k) (h1 : k ≤ 400) : 0 ≤ k * s.pi ∧ k * s.pi ≤ 419430400 := by
  obtain ⟨_, _, hp, hp2, _⟩ := h
  refine ⟨Int.mul_nonneg h0 (by omega), ?_⟩
  have := Int.mul_le_mul h1 hp2 (by omega) (by omega)
  omega
theorem plc_range (s : Su) (b : Br) (k : Int) (h : Okay s) (hk : plc s b = some k) : 0 ≤ k ∧ k < s.pl := by
  obtain ⟨_, _, hp, _⟩ := h
  unfold plc at hk
  simp only at hk
  split at hk
  · cases hk
  · rename_i hn
    split at hk
    · rename_i hl
      injection hk with hk
      subst hk
      exact ⟨Int.ediv_nonneg (by omega) (by omega), hl⟩
    · cases hk

/-- The number of the error of measured bars. -/
def errOf (s : Su) (l : List Br) : Int :=
  if 400 < l.length then 5 else if ¬ Okay s then 2 else if ¬ ∀ b ∈ l, InB b then 2
  else if (∀ b ∈ l, (plc s b).isSome = true) ∧ (l.map (plc s)).Nodup then 0 else 210

def letter (s : Su) (b : Br) : UInt8 :=
  if (b.up > s.lo ∧ b.up < s.hi) ∨ (b.dn > s.lo ∧ b.dn < s.hi) then 63
  else if b.up ≥ s.hi ∧ b.dn ≥ s.hi then 70
  else if b.up ≥ s.hi then 65 else if b.dn ≥ s.hi then 68 else 84
def letterAt (s : Su) (l : List Br) (k : Nat) : UInt8 := match l.find? (fun b => plc s b == some (k : Int)) with
  | some b => letter s b
  | none => 63
def textOf (s : Su) (l : List Br) : List UInt8 := (List.range s.pl.toNat).map (letterAt s l)
def room (s : Su) (n : Int) : Int := if n ≤ s.lo then s.lo - n else if s.hi ≤ n then n - s.hi else min (s.hi - 1 - n) (n - s.lo - 1)
/-- By how much one bar may be wrong. -/
def posB (s : Su) (b : Br) (k : Int) : Int := s.sl - max (s.og + k * s.pi - b.po) (b.po - (s.og + k * s.pi))
def roomB (s : Su) (b : Br) : Int := match plc s b with
  | some k => min (posB s b k) (min (room s b.up) (room s b.dn))
  | none => 0
def marginOf (s : Su) (l : List Br) : Int := l.foldl (fun m b => min m (roomB s b)) 1048576

/-- As far as the first i bars go, each stands at a place of its own. -/
def Fit (s : Su) (l : List Br) : Prop := (∀ b ∈ l, (plc s b).isSome = true) ∧ (l.map (plc s)).Nodup
theorem fit_nil (s : Su) : Fit s [] := ⟨fun _ h => absurd h (by simp), by simp⟩
theorem fit_snoc (s : Su) (l : List Br) (b : Br) : Fit s (l ++ [b]) ↔ Fit s l ∧ (plc s b).isSome = true ∧ ∀ b' ∈ l, plc s b' ≠ plc s b := by
  unfold Fit
  rw [List.map_append, List.nodup_append]
  simp only [List.mem_append, List.mem_singleton, List.map_cons, List.map_nil]
  constructor
  · rintro ⟨h1, h2, h3, h4⟩
    exact ⟨⟨fun b hb => h1 b (.inl hb), h2⟩, h1 b (.inr rfl), fun b' hb' => h4 _ (List.mem_map.2 ⟨b', hb', rfl⟩) _ rfl⟩
  · rintro ⟨⟨h1, h2⟩, h3, h4⟩
    refine ⟨fun x hx => ?_, h2, by simp, fun x hx y hy => ?_⟩
    · rcases hx with hx | rfl
      · exact h1 x hx
      · exact h3
    · obtain ⟨b', hb', rfl⟩ := List.mem_map.1 hx
      subst hy
      exact h4 b' hb'
theorem fit_prefix (s : Su) (l : List Br) (i : Nat) (h : Fit s l) : Fit s (l.take i) :=
  ⟨fun b hb => h.1 b (List.mem_of_mem_take hb), by rw [List.map_take]; exact h.2.sublist (List.take_sublist _ _)⟩
theorem take_snoc {α : Type} (l : List α) (i : Nat) (b : α) (h : l[i]? = some b) : l.take (i + 1) = l.take i ++ [b] := by
  rw [List.take_add_one, h]; rfl

/-- What is read: nothing where there is an error. -/
def readOf (s : Su) (l : List Br) : List UInt8 := if errOf s l = 0 then textOf s l else []
theorem err0_iff (s : Su) (l : List Br) : errOf s l = 0 ↔ l.length ≤ 400 ∧ Okay s ∧ (∀ b ∈ l, InB b) ∧ Fit s l := by
  unfold errOf Fit
  by_cases h1 : 400 < l.length
  · simp [h1]; omega
  · rw [if_neg h1]
    by_cases h2 : Okay s
    · rw [if_neg (by simpa using h2)]
      by_cases h3 : ∀ b ∈ l, InB b
      · rw [if_neg (by simpa using h3)]
        by_cases h4 : (∀ b ∈ l, (plc s b).isSome = true) ∧ (l.map (plc s)).Nodup
        · rw [if_pos h4]; exact ⟨fun _ => ⟨by omega, h2, h3, h4⟩, fun _ => rfl⟩
        · rw [if_neg h4]; exact ⟨fun h => (by cases h), fun h => absurd h.2.2.2 h4⟩
      · rw [if_pos h3]; exact ⟨fun h => (by cases h), fun h => absurd h.2.2.1 h3⟩
    · rw [if_pos h2]; exact ⟨fun h => (by cases h), fun h => absurd h.2.1 h2⟩
def marginR (s : Su) (l : List Br) : Int := if errOf s l = 0 then marginOf s l else 0
theorem marginOf_snoc (s : Su) (l : List Br) (b : Br) : marginOf s (l ++ [b]) = min (marginOf s l) (roomB s b) := by
  unfold marginOf; rw [List.foldl_append]; rfl
theorem letterAt_miss (s : Su) (l : List Br) (i k : Nat) (b : Br) (hk : l[i]? = some b) (h : plc s b ≠ some (k : Int)) : letterAt s (l.take (i + 1)) k = letterAt s (l.take i) k := by
  unfold letterAt
  rw [take_snoc l i b hk, List.find?_append]
  have : ([b].find? fun b => plc s b == some (k : Int)) = none := by simp [h]
  rw [this, Option.or_none]
theorem letterAt_hit (s : Su) (l : List Br) (i k : Nat) (b : Br) (hf : Fit s l) (hk : l[i]? = some b) (h : plc s b = some (k : Int)) : letterAt s (l.take (i + 1)) k = letter s b := by
  have hf' := fit_prefix s l (i + 1) hf
  rw [take_snoc l i b hk, fit_snoc] at hf'
  unfold letterAt
  rw [take_snoc l i b hk, List.find?_append]
  have h1 : (l.take i).find? (fun b => plc s b == some (k : Int)) = none := by
    rw [List.find?_eq_none]
    intro x hx
    have := hf'.2.2 x hx
    rw [h] at this
    simpa using this
  have h2 : ([b].find? fun b => plc s b == some (k : Int)) = some b := by simp [h]
  rw [h1, h2]; rfl
theorem bytes_snoc (a : List UInt8) (x : UInt8) : (⟨a.toArray⟩ : ByteArray) ++ ⟨#[x]⟩ = ⟨(a ++ [x]).toArray⟩ := by
  apply ByteArray.ext; simp
theorem size_bytes (a : List UInt8) : (⟨a.toArray⟩ : ByteArray).size = a.length := by simp [ByteArray.size]

def okLetter (c : UInt8) : Bool := c == 84 || c == 65 || c == 68 || c == 70 || c == 63
def drawErr (s : Su) (t : List UInt8) : Int := if Okay s ∧ (t.length : Int) = s.pl ∧ t.all okLetter = true then 0 else 2
def mkb (s : Su) (c : UInt8) (k : Nat) : Br := ⟨s.og + k * s.pi, if c = 65 ∨ c = 70 then s.hi else s.lo, if c = 68 ∨ c = 70 then s.hi else s.lo⟩
def drawL (s : Su) : List UInt8 → Nat → List Br
  | [], _ => []
  | c :: t, k => (if c = 63 then [] else [mkb s c k]) ++ drawL s t (k + 1)
def drawOf (s : Su) (t : List UInt8) : List Br := if drawErr s t = 0 then drawL s t 0 else []
theorem drawL_snoc (s : Su) (c : UInt8) : ∀ (t : List UInt8) (k : Nat), drawL s (t ++ [c]) k = drawL s t k ++ (if c = 63 then [] else [mkb s c (k + t.length)])
  | [], k => by simp [drawL]
  | x :: t, k => by rw [List.cons_append, drawL, drawL_snoc s c t (k + 1), drawL, List.append_assoc, show k + 1 + t.length = k + (x :: t).length from by simp; omega]
theorem drawL_len (s : Su) : ∀ (t : List UInt8) (k : Nat), (drawL s t k).length ≤ t.length
  | [], _ => by simp [drawL]
  | c :: t, k => by rw [drawL, List.length_append, List.length_cons]; have := drawL_len s t (k + 1); split <;> simp <;> omega

theorem drawL_step (s : Su) (t : List UInt8) (k : Nat) (c : UInt8) (hc : t[k]? = some c) (h : c ≠ 63) : drawL s (t.take (k + 1)) 0 = drawL s (t.take k) 0 ++ [mkb s c k] := by
  have hk : k < t.length := (List.getElem?_eq_some_iff.1 hc).1
  rw [take_snoc t k c hc, drawL_snoc, if_neg h, List.length_take, Nat.min_eq_left (by omega), Nat.zero_add]
theorem drawL_skip (s : Su) (t : List UInt8) (k : Nat) (c : UInt8) (hc : t[k]? = some c) (h : c = 63) : drawL s (t.take (k + 1)) 0 = drawL s (t.take k) 0 := by
  rw [take_snoc t k c hc, drawL_snoc, if_pos h, List.append_nil]
theorem drawErr_bad (s : Su) (t : List UInt8) (h : ¬ (Okay s ∧ (t.length : Int) = s.pl ∧ t.all okLetter = true)) : drawErr s t = 2 ∧ drawOf s t = [] := by
  have e : drawErr s t = 2 := by unfold drawErr; rw [if_neg h]
  exact ⟨e, by unfold drawOf; rw [e]; rfl⟩
theorem drawErr_ok (s : Su) (t : List UInt8) (h : Okay s ∧ (t.length : Int) = s.pl ∧ t.all okLetter = true) : drawErr s t = 0 ∧ drawOf s t = drawL s t 0 := by
  have e : drawErr s t = 0 := by unfold drawErr; rw [if_pos h]
  exact ⟨e, by unfold drawOf; rw [e]; rfl⟩
theorem byte_eq {c d : UInt8} (h : (c.toNat : Int) = (d.toNat : Int)) : c = d := UInt8.toNat_inj.1 (by omega)
theorem all_snoc (t : List UInt8) (k : Nat) (c : UInt8) (p : UInt8 → Bool) (hc : t[k]? = some c) (h : (t.take k).all p = true) (hp : p c = true) : (t.take (k + 1)).all p = true := by
  rw [take_snoc t k c hc, List.all_append, h]; simp [hp]
theorem okLetter_not {c : UInt8} (h : (c.toNat : Int) ≠ 65 ∧ (c.toNat : Int) ≠ 68 ∧ (c.toNat : Int) ≠ 70 ∧ (c.toNat : Int) ≠ 84 ∧ (c.toNat : Int) ≠ 63) : okLetter c = false := by
  unfold okLetter
  obtain ⟨h1, h2, h3, h4, h5⟩ := h
  have f : ∀ d : UInt8, (c.toNat : Int) ≠ (d.toNat : Int) → (c == d) = false := fun d hd => by simpa using fun e => hd (by rw [e])
  rw [f 84 h4, f 65 h1, f 68 h2, f 70 h3, f 63 h5]; rfl

theorem plc_none (s : Su) (b : Br) (hs : Okay s) (h : ∀ k : Int, plc s b = some k → s.pl ≤ k) : plc s b = none := by
  cases hp : plc s b with
  | none => rfl
  | some k => have := h k hp; have := (plc_range s b k hs hp).2; omega
theorem not_fit0 (s : Su) (l : List Br) (i : Nat) (b : Br) (hk : l[i]? = some b) (hn : plc s b = none) : ¬ Fit s l := by
  rintro ⟨h1, _⟩
  have := h1 b (List.mem_of_getElem? hk)
  rw [hn] at this
  cases this
theorem not_fit (s : Su) (l : List Br) (i j : Nat) (b b' : Br) (hk : l[i]? = some b) (hk2 : l[j]? = some b') (hij : j < i) (e : plc s b = plc s b') : ¬ Fit s l := by
  intro h
  have hf := fit_prefix s l (i + 1) h
  rw [take_snoc l i b hk, fit_snoc] at hf
  refine hf.2.2 b' ?_ e.symm
  rw [List.mem_iff_getElem?]
  exact ⟨j, by rw [List.getElem?_take, if_pos hij, hk2]⟩
/-- How many places have been found for a bar, k of them looked at. -/
def Cnt (s : Su) (b : Br) (l : List Br) (i k c : Nat) : Prop :=
  (c = 0 ∧ ∀ k' : Int, plc s b = some k' → (k : Int) ≤ k') ∨ (c = 1 ∧ (plc s b).isSome = true ∧ (∃ k', plc s b = some k' ∧ k' < k) ∧ ∀ b' ∈ l.take i, plc s b' ≠ plc s b)
theorem cnt_le {s : Su} {b : Br} {l : List Br} {i k c : Nat} (h : Cnt s b l i k c) : c ≤ 1 := by rcases h with h | h <;> omega
theorem cnt_miss (s : Su) (b : Br) (l : List Br) (i k c : Nat) (hs : Okay s) (hk : (k : Int) < s.pl) (hn : ¬ Stand s b k) (h : Cnt s b l i k c) : Cnt s b l i (k + 1) c := by
  rcases h with ⟨h1, h2⟩ | ⟨h1, h2, ⟨k', h3, h4⟩, h5⟩
  · refine .inl ⟨h1, fun k' hk' => ?_⟩
    have := h2 k' hk'
    have hne : k' ≠ k := fun e => hn ((stand_iff s b k hs (by omega) hk).2 (by rw [hk', e]))
    omega
  · exact .inr ⟨h1, h2, ⟨k', h3, by omega⟩, h5⟩
theorem cnt_hit (s : Su) (b : Br) (l : List Br) (i k c : Nat) (hs : Okay s) (hk : (k : Int) < s.pl) (hy : Stand s b k) (hno : ∀ j' b', j' < i → l[j']? = some b' → plc s b' ≠ plc s b) (h : Cnt s b l i k c) : Cnt s b l i (k + 1) (c + 1) := by
  have hp := (stand_iff s b k hs (by omega) hk).1 hy
  rcases h with ⟨h1, h2⟩ | ⟨h1, h2, ⟨k', h3, h4⟩, h5⟩
  · refine .inr ⟨by omega, by rw [hp]; rfl, ⟨k, hp, by omega⟩, fun b' hb' => ?_⟩
    obtain ⟨j, hj⟩ := List.mem_iff_getElem?.1 hb'
    rw [List.getElem?_take] at hj
    split at hj
    · exact hno j b' (by assumption) hj
    · cases hj
  · rw [hp] at h3; injection h3; omega
end Go.Proofs.Ytgjnchjkjdnidaa

/- Chapter 21: walks (HA). Written by program. -/
namespace Go.Proofs.Ytgjnchjkjdnidaa
open Go.RowKit
set_option maxRecDepth 100000 in
set_option maxHeartbeats 1000000 in
theorem right_ret (s : Su) (w : World)  :
    Ret Try.prog 34 [s.v] w (fun v w' => v = .bool (decide (Okay s)) ∧ Ex w w') := by
  have hB0 : Ex w w := Ex.rfl_ _
  refine Ret.of Try.func34 rfl Try.ntmps34 rfl ?_
  refine CW.seq ?_
  refine CW.region ?_
  refine RG.box rfl rfl rfl rfl rfl (fun g1 w1 eg1 hx1 hb1 => ?_)
  have hE2 := hx1
  refine RG.vl rfl rfl rfl (Ev.assign rfl rfl) ?_
  refine RG.done ?_
  refine QW.then_ ?_
  refine CW.seq ?_
  refine CW.region ?_
  refine RG.vl rfl rfl rfl (Ev.fld rfl rfl fld_27_0) ?_
  refine RG.vl rfl rfl rfl (Ev.ldAt rfl rfl Try.underlying3 rfl (hb1.cells) (rfl)) ?_
  refine RG.vl rfl rfl rfl (Ev.geq rfl rfl rfl) ?_
  refine RG.vl rfl rfl rfl (Ev.move rfl rfl) ?_
  refine RG.split (d := 6) rfl (fun hg3 => ?_) (fun hg3 => ?_)
  · refine RG.vl rfl rfl rfl (Ev.fld rfl rfl fld_27_0) ?_
    refine RG.vl rfl rfl rfl (Ev.ldAt rfl rfl Try.underlying3 rfl (hb1.cells) (rfl)) ?_
    refine RG.vl rfl rfl rfl (Ev.leq rfl rfl rfl) ?_
    refine RG.vl rfl rfl rfl (Ev.pickT rfl rfl rfl) ?_
    refine RG.vl rfl rfl rfl (Ev.move rfl rfl) ?_
    refine RG.split (d := 11) rfl (fun hg4 => ?_) (fun hg4 => ?_)
    · refine RG.vl rfl rfl rfl (Ev.fld rfl rfl fld_27_2) ?_
      refine RG.vl rfl rfl rfl (Ev.ldAt rfl rfl Try.underlying3 rfl (hb1.cells) (rfl)) ?_
      refine RG.vl rfl rfl rfl (Ev.geq rfl rfl rfl) ?_
      refine RG.vl rfl rfl rfl (Ev.pickT rfl rfl rfl) ?_
      refine RG.vl rfl rfl rfl (Ev.move rfl rfl) ?_
      refine RG.split (d := 16) rfl (fun hg5 => ?_) (fun hg5 => ?_)
      · refine RG.vl rfl rfl rfl (Ev.fld rfl rfl fld_27_2) ?_
        refine RG.vl rfl rfl rfl (Ev.ldAt rfl rfl Try.underlying3 rfl (hb1.cells) (rfl)) ?_
        refine RG.vl rfl rfl rfl (Ev.leq rfl rfl rfl) ?_
        refine RG.vl rfl rfl rfl (Ev.pickT rfl rfl rfl) ?_
        refine RG.vl rfl rfl rfl (Ev.move rfl rfl) ?_
        refine RG.split (d := 21) rfl (fun hg6 => ?_) (fun hg6 => ?_)
        · refine RG.vl rfl rfl rfl (Ev.fld rfl rfl fld_27_1) ?_
          refine RG.vl rfl rfl rfl (Ev.ldAt rfl rfl Try.underlying3 rfl (hb1.cells) (rfl)) ?_
          refine RG.vl rfl rfl rfl (Ev.geq rfl rfl rfl) ?_
          refine RG.vl rfl rfl rfl (Ev.pickT rfl rfl rfl) ?_
          refine RG.vl rfl rfl rfl (Ev.move rfl rfl) ?_
          refine RG.split (d := 26) rfl (fun hg7 => ?_) (fun hg7 => ?_)
          · refine RG.vl rfl rfl rfl (Ev.fld rfl rfl fld_27_1) ?_
            refine RG.vl rfl rfl rfl (Ev.ldAt rfl rfl Try.underlying3 rfl (hb1.cells) (rfl)) ?_
            refine RG.vl rfl rfl rfl (Ev.leq rfl rfl rfl) ?_
            refine RG.vl rfl rfl rfl (Ev.pickT rfl rfl rfl) ?_
            refine RG.vl rfl rfl rfl (Ev.move rfl rfl) ?_
            refine RG.split (d := 31) rfl (fun hg8 => ?_) (fun hg8 => ?_)
            · refine RG.vl rfl rfl rfl (Ev.fld rfl rfl fld_27_3) ?_
              refine RG.vl rfl rfl rfl (Ev.ldAt rfl rfl Try.underlying3 rfl (hb1.cells) (rfl)) ?_
              refine RG.vl rfl rfl rfl (Ev.geq rfl rfl rfl) ?_
              refine RG.vl rfl rfl rfl (Ev.pickT rfl rfl rfl) ?_
              refine RG.vl rfl rfl rfl (Ev.move rfl rfl) ?_
              refine RG.split (d := 36) rfl (fun hg9 => ?_) (fun hg9 => ?_)
              · refine RG.vl rfl rfl rfl (Ev.fld rfl rfl fld_27_3) ?_
                refine RG.vl rfl rfl rfl (Ev.ldAt rfl rfl Try.underlying3 rfl (hb1.cells) (rfl)) ?_
                refine RG.vl rfl rfl rfl (Ev.fld rfl rfl fld_27_2) ?_
                refine RG.vl rfl rfl rfl (Ev.ldAt rfl rfl Try.underlying3 rfl (hb1.cells) (rfl)) ?_
                refine RG.vl rfl rfl rfl (Ev.subI rfl rfl rfl (by omega)) ?_
                refine RG.vl rfl rfl rfl (Ev.quoI rfl rfl rfl (by omega)) ?_
                refine RG.vl rfl rfl rfl (Ev.leq rfl rfl rfl) ?_
                refine RG.vl rfl rfl rfl (Ev.pickT rfl rfl rfl) ?_
                refine RG.vl rfl rfl rfl (Ev.move rfl rfl) ?_
                refine RG.split (d := 45) rfl (fun hg10 => ?_) (fun hg10 => ?_)
                · refine RG.vl rfl rfl rfl (Ev.fld rfl rfl fld_27_4) ?_
                  refine RG.vl rfl rfl rfl (Ev.ldAt rfl rfl Try.underlying3 rfl (hb1.cells) (rfl)) ?_
                  refine RG.vl rfl rfl rfl (Ev.geq rfl rfl rfl) ?_
                  refine RG.vl rfl rfl rfl (Ev.pickT rfl rfl rfl) ?_
                  refine RG.vl rfl rfl rfl (Ev.move rfl rfl) ?_
                  refine RG.split (d := 50) rfl (fun hg11 => ?_) (fun hg11 => ?_)
                  · refine RG.vl rfl rfl rfl (Ev.fld rfl rfl fld_27_4) ?_
                    refine RG.vl rfl rfl rfl (Ev.ldAt rfl rfl Try.underlying3 rfl (hb1.cells) (rfl)) ?_
                    refine RG.vl rfl rfl rfl (Ev.fld rfl rfl fld_27_5) ?_
                    refine RG.vl rfl rfl rfl (Ev.ldAt rfl rfl Try.underlying3 rfl (hb1.cells) (rfl)) ?_
                    refine RG.vl rfl rfl rfl (Ev.lss rfl rfl rfl) ?_
                    refine RG.vl rfl rfl rfl (Ev.pickT rfl rfl rfl) ?_
                    refine RG.vl rfl rfl rfl (Ev.move rfl rfl) ?_
                    refine RG.split (d := 57) rfl (fun hg12 => ?_) (fun hg12 => ?_)
                    · refine RG.vl rfl rfl rfl (Ev.fld rfl rfl fld_27_5) ?_
                      refine RG.vl rfl rfl rfl (Ev.ldAt rfl rfl Try.underlying3 rfl (hb1.cells) (rfl)) ?_
                      refine RG.vl rfl rfl rfl (Ev.leq rfl rfl rfl) ?_
                      refine RG.vl rfl rfl rfl (Ev.pickT rfl rfl rfl) ?_
                      refine RG.vl rfl rfl rfl (Ev.assign rfl rfl) ?_
                      refine RG.done ?_
                      refine QW.sub (S' := [(2, _)]) ⟨rfl, trivial⟩ ?_
                      refine QW.then_ ?_
                      refine CW.ret ?_
                      refine QW.ret1 rfl rfl ?_
                      have hB := (Ex.tr hB0 hE2)
                      refine ⟨congrArg Value.bool ?_, hB⟩; rw [eq_comm]; first | (rw [decide_eq_decide]; unfold Okay; omega) | (rw [decide_eq_false_iff_not]; unfold Okay; omega)
                    · refine RG.pass rfl rfl rfl ?_
                      refine RG.pass rfl rfl rfl ?_
                      refine RG.pass rfl rfl rfl ?_
                      refine RG.vl rfl rfl rfl (Ev.pickF rfl rfl rfl) ?_
                      refine RG.vl rfl rfl rfl (Ev.assign rfl rfl) ?_
                      refine RG.done ?_
                      refine QW.sub (S' := [(2, _)]) ⟨rfl, trivial⟩ ?_
                      refine QW.then_ ?_
                      refine CW.ret ?_
                      refine QW.ret1 rfl rfl ?_
                      have hB := (Ex.tr hB0 hE2)
                      refine ⟨congrArg Value.bool ?_, hB⟩; rw [eq_comm]; first | (rw [decide_eq_decide]; unfold Okay; omega) | (rw [decide_eq_false_iff_not]; unfold Okay; omega)
                  · refine RG.pass rfl rfl rfl ?_
                    refine RG.pass rfl rfl rfl ?_
                    refine RG.pass rfl rfl rfl ?_
                    refine RG.pass rfl rfl rfl ?_
                    refine RG.pass rfl rfl rfl ?_
                    refine RG.vl rfl rfl rfl (Ev.pickF rfl rfl rfl) ?_
                    refine RG.vl rfl rfl rfl (Ev.move rfl rfl) ?_
                    refine RG.pass rfl rfl rfl ?_
                    refine RG.pass rfl rfl rfl ?_
                    refine RG.pass rfl rfl rfl ?_
                    refine RG.vl rfl rfl rfl (Ev.pickF rfl rfl rfl) ?_
                    refine RG.vl rfl rfl rfl (Ev.assign rfl rfl) ?_
                    refine RG.done ?_
                    refine QW.sub (S' := [(2, _)]) ⟨rfl, trivial⟩ ?_
                    refine QW.then_ ?_
                    refine CW.ret ?_
                    refine QW.ret1 rfl rfl ?_
                    have hB := (Ex.tr hB0 hE2)
                    refine ⟨congrArg Value.bool ?_, hB⟩; rw [eq_comm]; first | (rw [decide_eq_decide]; unfold Okay; omega) | (rw [decide_eq_false_iff_not]; unfold Okay; omega)
                · refine RG.pass rfl rfl rfl ?_
                  refine RG.pass rfl rfl rfl ?_
                  refine RG.pass rfl rfl rfl ?_
                  refine RG.vl rfl rfl rfl (Ev.pickF rfl rfl rfl) ?_
                  refine RG.vl rfl rfl rfl (Ev.move rfl rfl) ?_
                  refine RG.pass rfl rfl rfl ?_
                  refine RG.pass rfl rfl rfl ?_
                  refine RG.pass rfl rfl rfl ?_
                  refine RG.pass rfl rfl rfl ?_
                  refine RG.pass rfl rfl rfl ?_
                  refine RG.vl rfl rfl rfl (Ev.pickF rfl rfl rfl) ?_
                  refine RG.vl rfl rfl rfl (Ev.move rfl rfl) ?_
                  refine RG.pass rfl rfl rfl ?_
                  refine RG.pass rfl rfl rfl ?_
                  refine RG.pass rfl rfl rfl ?_
                  refine RG.vl rfl rfl rfl (Ev.pickF rfl rfl rfl) ?_
                  refine RG.vl rfl rfl rfl (Ev.assign rfl rfl) ?_
                  refine RG.done ?_
                  refine QW.sub (S' := [(2, _)]) ⟨rfl, trivial⟩ ?_
                  refine QW.then_ ?_
                  refine CW.ret ?_
                  refine QW.ret1 rfl rfl ?_
                  have hB := (Ex.tr hB0 hE2)
                  refine ⟨congrArg Value.bool ?_, hB⟩; rw [eq_comm]; first | (rw [decide_eq_decide]; unfold Okay; omega) | (rw [decide_eq_false_iff_not]; unfold Okay; omega)
              · refine RG.pass rfl rfl rfl ?_
                refine RG.pass rfl rfl rfl ?_
                refine RG.pass rfl rfl rfl ?_
                refine RG.pass rfl rfl rfl ?_
                refine RG.pass rfl rfl rfl ?_
                refine RG.pass rfl rfl rfl ?_
                refine RG.pass rfl rfl rfl ?_
                refine RG.vl rfl rfl rfl (Ev.pickF rfl rfl rfl) ?_
                refine RG.vl rfl rfl rfl (Ev.move rfl rfl) ?_
                refine RG.pass rfl rfl rfl ?_
                refine RG.pass rfl rfl rfl ?_
                refine RG.pass rfl rfl rfl ?_
                refine RG.vl rfl rfl rfl (Ev.pickF rfl rfl rfl) ?_
                refine RG.vl rfl rfl rfl (Ev.move rfl rfl) ?_
                refine RG.pass rfl rfl rfl ?_
                refine RG.pass rfl rfl rfl ?_
                refine RG.pass rfl rfl rfl ?_
                refine RG.pass rfl rfl rfl ?_
                refine RG.pass rfl rfl rfl ?_
                refine RG.vl rfl rfl rfl (Ev.pickF rfl rfl rfl) ?_
                refine RG.vl rfl rfl rfl (Ev.move rfl rfl) ?_
                refine RG.pass rfl rfl rfl ?_
                refine RG.pass rfl rfl rfl ?_
                refine RG.pass rfl rfl rfl ?_
                refine RG.vl rfl rfl rfl (Ev.pickF rfl rfl rfl) ?_
                refine RG.vl rfl rfl rfl (Ev.assign rfl rfl) ?_
                refine RG.done ?_
                refine QW.sub (S' := [(2, _)]) ⟨rfl, trivial⟩ ?_
                refine QW.then_ ?_
                refine CW.ret ?_
                refine QW.ret1 rfl rfl ?_
                have hB := (Ex.tr hB0 hE2)
                refine ⟨congrArg Value.bool ?_, hB⟩; rw [eq_comm]; first | (rw [decide_eq_decide]; unfold Okay; omega) | (rw [decide_eq_false_iff_not]; unfold Okay; omega)
            · refine RG.pass rfl rfl rfl ?_
              refine RG.pass rfl rfl rfl ?_
              refine RG.pass rfl rfl rfl ?_
              refine RG.vl rfl rfl rfl (Ev.pickF rfl rfl rfl) ?_
              refine RG.vl rfl rfl rfl (Ev.move rfl rfl) ?_
              refine RG.pass rfl rfl rfl ?_
              refine RG.pass rfl rfl rfl ?_
              refine RG.pass rfl rfl rfl ?_
              refine RG.pass rfl rfl rfl ?_
              refine RG.pass rfl rfl rfl ?_
              refine RG.pass rfl rfl rfl ?_
              refine RG.pass rfl rfl rfl ?_
              refine RG.vl rfl rfl rfl (Ev.pickF rfl rfl rfl) ?_
              refine RG.vl rfl rfl rfl (Ev.move rfl rfl) ?_
              refine RG.pass rfl rfl rfl ?_
              refine RG.pass rfl rfl rfl ?_
              refine RG.pass rfl rfl rfl ?_
              refine RG.vl rfl rfl rfl (Ev.pickF rfl rfl rfl) ?_
              refine RG.vl rfl rfl rfl (Ev.move rfl rfl) ?_
              refine RG.pass rfl rfl rfl ?_
              refine RG.pass rfl rfl rfl ?_
              refine RG.pass rfl rfl rfl ?_
              refine RG.pass rfl rfl rfl ?_
              refine RG.pass rfl rfl rfl ?_
              refine RG.vl rfl rfl rfl (Ev.pickF rfl rfl rfl) ?_
              refine RG.vl rfl rfl rfl (Ev.move rfl rfl) ?_
              refine RG.pass rfl rfl rfl ?_
              refine RG.pass rfl rfl rfl ?_
              refine RG.pass rfl rfl rfl ?_
              refine RG.vl rfl rfl rfl (Ev.pickF rfl rfl rfl) ?_
              refine RG.vl rfl rfl rfl (Ev.assign rfl rfl) ?_
              refine RG.done ?_
              refine QW.sub (S' := [(2, _)]) ⟨rfl, trivial⟩ ?_
              refine QW.then_ ?_
              refine CW.ret ?_
              refine QW.ret1 rfl rfl ?_
              have hB := (Ex.tr hB0 hE2)
              refine ⟨congrArg Value.bool ?_, hB⟩; rw [eq_comm]; first | (rw [decide_eq_decide]; unfold Okay; omega) | (rw [decide_eq_false_iff_not]; unfold Okay; omega)
          · refine RG.pass rfl rfl rfl ?_
            refine RG.pass rfl rfl rfl ?_
            refine RG.pass rfl rfl rfl ?_
            refine RG.vl rfl rfl rfl (Ev.pickF rfl rfl rfl) ?_
            refine RG.vl rfl rfl rfl (Ev.move rfl rfl) ?_
            refine RG.pass rfl rfl rfl ?_
            refine RG.pass rfl rfl rfl ?_
            refine RG.pass rfl rfl rfl ?_
            refine RG.vl rfl rfl rfl (Ev.pickF rfl rfl rfl) ?_
            refine RG.vl rfl rfl rfl (Ev.move rfl rfl) ?_
            refine RG.pass rfl rfl rfl ?_
            refine RG.pass rfl rfl rfl ?_
            refine RG.pass rfl rfl rfl ?_
            refine RG.pass rfl rfl rfl ?_
            refine RG.pass rfl rfl rfl ?_
            refine RG.pass rfl rfl rfl ?_
            refine RG.pass rfl rfl rfl ?_
            refine RG.vl rfl rfl rfl (Ev.pickF rfl rfl rfl) ?_
            refine RG.vl rfl rfl rfl (Ev.move rfl rfl) ?_
            refine RG.pass rfl rfl rfl ?_
            refine RG.pass rfl rfl rfl ?_
            refine RG.pass rfl rfl rfl ?_
            refine RG.vl rfl rfl rfl (Ev.pickF rfl rfl rfl) ?_
            refine RG.vl rfl rfl rfl (Ev.move rfl rfl) ?_
            refine RG.pass rfl rfl rfl ?_
            refine RG.pass rfl rfl rfl ?_
            refine RG.pass rfl rfl rfl ?_
            refine RG.pass rfl rfl rfl ?_
            refine RG.pass rfl rfl rfl ?_
            refine RG.vl rfl rfl rfl (Ev.pickF rfl rfl rfl) ?_
            refine RG.vl rfl rfl rfl (Ev.move rfl rfl) ?_
            refine RG.pass rfl rfl rfl ?_
            refine RG.pass rfl rfl rfl ?_
            refine RG.pass rfl rfl rfl ?_
            refine RG.vl rfl rfl rfl (Ev.pickF rfl rfl rfl) ?_
            refine RG.vl rfl rfl rfl (Ev.assign rfl rfl) ?_
            refine RG.done ?_
            refine QW.sub (S' := [(2, _)]) ⟨rfl, trivial⟩ ?_
            refine QW.then_ ?_
            refine CW.ret ?_
            refine QW.ret1 rfl rfl ?_
            have hB := (Ex.tr hB0 hE2)
            refine ⟨congrArg Value.bool ?_, hB⟩; rw [eq_comm]; first | (rw [decide_eq_decide]; unfold Okay; omega) | (rw [decide_eq_false_iff_not]; unfold Okay; omega)
        · refine RG.pass rfl rfl rfl ?_
          refine RG.pass rfl rfl rfl ?_
          refine RG.pass rfl rfl rfl ?_
          refine RG.vl rfl rfl rfl (Ev.pickF rfl rfl rfl) ?_
          refine RG.vl rfl rfl rfl (Ev.move rfl rfl) ?_
          refine RG.pass rfl rfl rfl ?_
          refine RG.pass rfl rfl rfl ?_
          refine RG.pass rfl rfl rfl ?_
          refine RG.vl rfl rfl rfl (Ev.pickF rfl rfl rfl) ?_
          refine RG.vl rfl rfl rfl (Ev.move rfl rfl) ?_
          refine RG.pass rfl rfl rfl ?_
          refine RG.pass rfl rfl rfl ?_
          refine RG.pass rfl rfl rfl ?_
          refine RG.vl rfl rfl rfl (Ev.pickF rfl rfl rfl) ?_
          refine RG.vl rfl rfl rfl (Ev.move rfl rfl) ?_
          refine RG.pass rfl rfl rfl ?_
          refine RG.pass rfl rfl rfl ?_
          refine RG.pass rfl rfl rfl ?_
          refine RG.pass rfl rfl rfl ?_
          refine RG.pass rfl rfl rfl ?_
          refine RG.pass rfl rfl rfl ?_
          refine RG.pass rfl rfl rfl ?_
          refine RG.vl rfl rfl rfl (Ev.pickF rfl rfl rfl) ?_
          refine RG.vl rfl rfl rfl (Ev.move rfl rfl) ?_
          refine RG.pass rfl rfl rfl ?_
          refine RG.pass rfl rfl rfl ?_
          refine RG.pass rfl rfl rfl ?_
          refine RG.vl rfl rfl rfl (Ev.pickF rfl rfl rfl) ?_
          refine RG.vl rfl rfl rfl (Ev.move rfl rfl) ?_
          refine RG.pass rfl rfl rfl ?_
          refine RG.pass rfl rfl rfl ?_
          refine RG.pass rfl rfl rfl ?_
          refine RG.pass rfl rfl rfl ?_
          refine RG.pass rfl rfl rfl ?_
          refine RG.vl rfl rfl rfl (Ev.pickF rfl rfl rfl) ?_
          refine RG.vl rfl rfl rfl (Ev.move rfl rfl) ?_
          refine RG.pass rfl rfl rfl ?_
          refine RG.pass rfl rfl rfl ?_
          refine RG.pass rfl rfl rfl ?_
          refine RG.vl rfl rfl rfl (Ev.pickF rfl rfl rfl) ?_
          refine RG.vl rfl rfl rfl (Ev.assign rfl rfl) ?_
          refine RG.done ?_
          refine QW.sub (S' := [(2, _)]) ⟨rfl, trivial⟩ ?_
          refine QW.then_ ?_
          refine CW.ret ?_
          refine QW.ret1 rfl rfl ?_
          have hB := (Ex.tr hB0 hE2)
          refine ⟨congrArg Value.bool ?_, hB⟩; rw [eq_comm]; first | (rw [decide_eq_decide]; unfold Okay; omega) | (rw [decide_eq_false_iff_not]; unfold Okay; omega)
      · refine RG.pass rfl rfl rfl ?_
        refine RG.pass rfl rfl rfl ?_
        refine RG.pass rfl rfl rfl ?_
        refine RG.vl rfl rfl rfl (Ev.pickF rfl rfl rfl) ?_
        refine RG.vl rfl rfl rfl (Ev.move rfl rfl) ?_
        refine RG.pass rfl rfl rfl ?_
        refine RG.pass rfl rfl rfl ?_
        refine RG.pass rfl rfl rfl ?_
        refine RG.vl rfl rfl rfl (Ev.pickF rfl rfl rfl) ?_
        refine RG.vl rfl rfl rfl (Ev.move rfl rfl) ?_
        refine RG.pass rfl rfl rfl ?_
        refine RG.pass rfl rfl rfl ?_
        refine RG.pass rfl rfl rfl ?_
        refine RG.vl rfl rfl rfl (Ev.pickF rfl rfl rfl) ?_
        refine RG.vl rfl rfl rfl (Ev.move rfl rfl) ?_
        refine RG.pass rfl rfl rfl ?_
        refine RG.pass rfl rfl rfl ?_
        refine RG.pass rfl rfl rfl ?_
        refine RG.vl rfl rfl rfl (Ev.pickF rfl rfl rfl) ?_
        refine RG.vl rfl rfl rfl (Ev.move rfl rfl) ?_
        refine RG.pass rfl rfl rfl ?_
        refine RG.pass rfl rfl rfl ?_
        refine RG.pass rfl rfl rfl ?_
        refine RG.pass rfl rfl rfl ?_
        refine RG.pass rfl rfl rfl ?_
        refine RG.pass rfl rfl rfl ?_
        refine RG.pass rfl rfl rfl ?_
        refine RG.vl rfl rfl rfl (Ev.pickF rfl rfl rfl) ?_
        refine RG.vl rfl rfl rfl (Ev.move rfl rfl) ?_
        refine RG.pass rfl rfl rfl ?_
        refine RG.pass rfl rfl rfl ?_
        refine RG.pass rfl rfl rfl ?_
        refine RG.vl rfl rfl rfl (Ev.pickF rfl rfl rfl) ?_
        refine RG.vl rfl rfl rfl (Ev.move rfl rfl) ?_
        refine RG.pass rfl rfl rfl ?_
        refine RG.pass rfl rfl rfl ?_
        refine RG.pass rfl rfl rfl ?_
        refine RG.pass rfl rfl rfl ?_
        refine RG.pass rfl rfl rfl ?_
        refine RG.vl rfl rfl rfl (Ev.pickF rfl rfl rfl) ?_
        refine RG.vl rfl rfl rfl (Ev.move rfl rfl) ?_
        refine RG.pass rfl rfl rfl ?_
        refine RG.pass rfl rfl rfl ?_
        refine RG.pass rfl rfl rfl ?_
        refine RG.vl rfl rfl rfl (Ev.pickF rfl rfl rfl) ?_
        refine RG.vl rfl rfl rfl (Ev.assign rfl rfl) ?_
        refine RG.done ?_
        refine QW.sub (S' := [(2, _)]) ⟨rfl, trivial⟩ ?_
        refine QW.then_ ?_
        refine CW.ret ?_
        refine QW.ret1 rfl rfl ?_
        have hB := (Ex.tr hB0 hE2)
        refine ⟨congrArg Value.bool ?_, hB⟩; rw [eq_comm]; first | (rw [decide_eq_decide]; unfold Okay; omega) | (rw [decide_eq_false_iff_not]; unfold Okay; omega)
    · refine RG.pass rfl rfl rfl ?_
      refine RG.pass rfl rfl rfl ?_
      refine RG.pass rfl rfl rfl ?_
      refine RG.vl rfl rfl rfl (Ev.pickF rfl rfl rfl) ?_
      refine RG.vl rfl rfl rfl (Ev.move rfl rfl) ?_
      refine RG.pass rfl rfl rfl ?_
      refine RG.pass rfl rfl rfl ?_
      refine RG.pass rfl rfl rfl ?_
      refine RG.vl rfl rfl rfl (Ev.pickF rfl rfl rfl) ?_
      refine RG.vl rfl rfl rfl (Ev.move rfl rfl) ?_
      refine RG.pass rfl rfl rfl ?_
      refine RG.pass rfl rfl rfl ?_
      refine RG.pass rfl rfl rfl ?_
      refine RG.vl rfl rfl rfl (Ev.pickF rfl rfl rfl) ?_
      refine RG.vl rfl rfl rfl (Ev.move rfl rfl) ?_
      refine RG.pass rfl rfl rfl ?_
      refine RG.pass rfl rfl rfl ?_
      refine RG.pass rfl rfl rfl ?_
      refine RG.vl rfl rfl rfl (Ev.pickF rfl rfl rfl) ?_
      refine RG.vl rfl rfl rfl (Ev.move rfl rfl) ?_
      refine RG.pass rfl rfl rfl ?_
      refine RG.pass rfl rfl rfl ?_
      refine RG.pass rfl rfl rfl ?_
      refine RG.vl rfl rfl rfl (Ev.pickF rfl rfl rfl) ?_
      refine RG.vl rfl rfl rfl (Ev.move rfl rfl) ?_
      refine RG.pass rfl rfl rfl ?_
      refine RG.pass rfl rfl rfl ?_
      refine RG.pass rfl rfl rfl ?_
      refine RG.pass rfl rfl rfl ?_
      refine RG.pass rfl rfl rfl ?_
      refine RG.pass rfl rfl rfl ?_
      refine RG.pass rfl rfl rfl ?_
      refine RG.vl rfl rfl rfl (Ev.pickF rfl rfl rfl) ?_
      refine RG.vl rfl rfl rfl (Ev.move rfl rfl) ?_
      refine RG.pass rfl rfl rfl ?_
      refine RG.pass rfl rfl rfl ?_
      refine RG.pass rfl rfl rfl ?_
      refine RG.vl rfl rfl rfl (Ev.pickF rfl rfl rfl) ?_
      refine RG.vl rfl rfl rfl (Ev.move rfl rfl) ?_
      refine RG.pass rfl rfl rfl ?_
      refine RG.pass rfl rfl rfl ?_
      refine RG.pass rfl rfl rfl ?_
      refine RG.pass rfl rfl rfl ?_
      refine RG.pass rfl rfl rfl ?_
      refine RG.vl rfl rfl rfl (Ev.pickF rfl rfl rfl) ?_
      refine RG.vl rfl rfl rfl (Ev.move rfl rfl) ?_
      refine RG.pass rfl rfl rfl ?_
      refine RG.pass rfl rfl rfl ?_
      refine RG.pass rfl rfl rfl ?_
      refine RG.vl rfl rfl rfl (Ev.pickF rfl rfl rfl) ?_
      refine RG.vl rfl rfl rfl (Ev.assign rfl rfl) ?_
      refine RG.done ?_
      refine QW.sub (S' := [(2, _)]) ⟨rfl, trivial⟩ ?_
      refine QW.then_ ?_
      refine CW.ret ?_
      refine QW.ret1 rfl rfl ?_
      have hB := (Ex.tr hB0 hE2)
      refine ⟨congrArg Value.bool ?_, hB⟩; rw [eq_comm]; first | (rw [decide_eq_decide]; unfold Okay; omega) | (rw [decide_eq_false_iff_not]; unfold Okay; omega)
  · refine RG.pass rfl rfl rfl ?_
    refine RG.pass rfl rfl rfl ?_
    refine RG.pass rfl rfl rfl ?_
    refine RG.vl rfl rfl rfl (Ev.pickF rfl rfl rfl) ?_
    refine RG.vl rfl rfl rfl (Ev.move rfl rfl) ?_
    refine RG.pass rfl rfl rfl ?_
    refine RG.pass rfl rfl rfl ?_
    refine RG.pass rfl rfl rfl ?_
    refine RG.vl rfl rfl rfl (Ev.pickF rfl rfl rfl) ?_
    refine RG.vl rfl rfl rfl (Ev.move rfl rfl) ?_
    refine RG.pass rfl rfl rfl ?_
    refine RG.pass rfl rfl rfl ?_
    refine RG.pass rfl rfl rfl ?_
    refine RG.vl rfl rfl rfl (Ev.pickF rfl rfl rfl) ?_
    refine RG.vl rfl rfl rfl (Ev.move rfl rfl) ?_
    refine RG.pass rfl rfl rfl ?_
    refine RG.pass rfl rfl rfl ?_
    refine RG.pass rfl rfl rfl ?_
    refine RG.vl rfl rfl rfl (Ev.pickF rfl rfl rfl) ?_
    refine RG.vl rfl rfl rfl (Ev.move rfl rfl) ?_
    refine RG.pass rfl rfl rfl ?_
    refine RG.pass rfl rfl rfl ?_
    refine RG.pass rfl rfl rfl ?_
    refine RG.vl rfl rfl rfl (Ev.pickF rfl rfl rfl) ?_
    refine RG.vl rfl rfl rfl (Ev.move rfl rfl) ?_
    refine RG.pass rfl rfl rfl ?_
    refine RG.pass rfl rfl rfl ?_
    refine RG.pass rfl rfl rfl ?_
    refine RG.vl rfl rfl rfl (Ev.pickF rfl rfl rfl) ?_
    refine RG.vl rfl rfl rfl (Ev.move rfl rfl) ?_
    refine RG.pass rfl rfl rfl ?_
    refine RG.pass rfl rfl rfl ?_
    refine RG.pass rfl rfl rfl ?_
    refine RG.pass rfl rfl rfl ?_
    refine RG.pass rfl rfl rfl ?_
    refine RG.pass rfl rfl rfl ?_
    refine RG.pass rfl rfl rfl ?_
    refine RG.vl rfl rfl rfl (Ev.pickF rfl rfl rfl) ?_
    refine RG.vl rfl rfl rfl (Ev.move rfl rfl) ?_
    refine RG.pass rfl rfl rfl ?_
    refine RG.pass rfl rfl rfl ?_
    refine RG.pass rfl rfl rfl ?_
    refine RG.vl rfl rfl rfl (Ev.pickF rfl rfl rfl) ?_
    refine RG.vl rfl rfl rfl (Ev.move rfl rfl) ?_
    refine RG.pass rfl rfl rfl ?_
    refine RG.pass rfl rfl rfl ?_
    refine RG.pass rfl rfl rfl ?_
    refine RG.pass rfl rfl rfl ?_
    refine RG.pass rfl rfl rfl ?_
    refine RG.vl rfl rfl rfl (Ev.pickF rfl rfl rfl) ?_
    refine RG.vl rfl rfl rfl (Ev.move rfl rfl) ?_
    refine RG.pass rfl rfl rfl ?_
    refine RG.pass rfl rfl rfl ?_
    refine RG.pass rfl rfl rfl ?_
    refine RG.vl rfl rfl rfl (Ev.pickF rfl rfl rfl) ?_
    refine RG.vl rfl rfl rfl (Ev.assign rfl rfl) ?_
    refine RG.done ?_
    refine QW.sub (S' := [(2, _)]) ⟨rfl, trivial⟩ ?_
    refine QW.then_ ?_
    refine CW.ret ?_
    refine QW.ret1 rfl rfl ?_
    have hB := (Ex.tr hB0 hE2)
    refine ⟨congrArg Value.bool ?_, hB⟩; rw [eq_comm]; first | (rw [decide_eq_decide]; unfold Okay; omega) | (rw [decide_eq_false_iff_not]; unfold Okay; omega)

end Go.Proofs.Ytgjnchjkjdnidaa

/- Chapter 21, plain: what the program's own steps make of bars. -/
namespace Go.Proofs.Ytgjnchjkjdnidaa

/-- What a half is. -/
def half (s : Su) (n : Int) : Nat := if n ≤ s.lo then 0 else if n ≥ s.hi then 1 else 2
theorem half_lt (s : Su) (n : Int) : half s n < 3 := by unfold half; split <;> (try split) <;> omega
def tblU : List UInt8 := [84, 68, 63, 65, 70, 63, 63, 63, 63]
def tbl : List Value := [.int .u8 84, .int .u8 68, .int .u8 63, .int .u8 65, .int .u8 70, .int .u8 63, .int .u8 63, .int .u8 63, .int .u8 63]
theorem letter_tbl (s : Su) (b : Br) (h : s.lo < s.hi) : tbl[half s b.up * 3 + half s b.dn * 1]? = some (.int .u8 (letter s b).toNat) := by
  unfold half letter
  by_cases a1 : b.up ≤ s.lo <;> by_cases a2 : b.dn ≤ s.lo
  · rw [if_pos a1, if_pos a2, if_neg (by omega), if_neg (by omega), if_neg (by omega), if_neg (by omega)]; rfl
  · by_cases a3 : b.dn ≥ s.hi
    · rw [if_pos a1, if_neg a2, if_pos a3, if_neg (by omega), if_neg (by omega), if_neg (by omega), if_pos a3]; rfl
    · rw [if_pos a1, if_neg a2, if_neg a3, if_pos (by omega)]; rfl
  · by_cases a3 : b.up ≥ s.hi
    · rw [if_neg a1, if_pos a2, if_pos a3, if_neg (by omega), if_neg (by omega), if_pos a3]; rfl
    · rw [if_neg a1, if_pos a2, if_neg a3, if_pos (by omega)]; rfl
  · by_cases a3 : b.up ≥ s.hi <;> by_cases a4 : b.dn ≥ s.hi
    · rw [if_neg a1, if_neg a2, if_pos a3, if_pos a4, if_neg (by omega), if_pos (by omega)]; rfl
    · rw [if_neg a1, if_neg a2, if_pos a3, if_neg a4, if_pos (by omega)]; rfl
    · rw [if_neg a1, if_neg a2, if_neg a3, if_pos a4, if_pos (by omega)]; rfl
    · rw [if_neg a1, if_neg a2, if_neg a3, if_neg a4, if_pos (by omega)]; rfl

abbrev kI : Int → Value := fun i : Int => Value.int .i64 i
def foundOf (s : Su) (l : List Br) : List (Int × Value) := l.map fun b => ((plc s b).getD 0, b.v)
theorem found_len (s : Su) (l : List Br) : (foundOf s l).length = l.length := by simp [foundOf]
theorem found_snoc (s : Su) (l : List Br) (i : Nat) (b : Br) (k : Int) (hk : l[i]? = some b) (hp : plc s b = some k) : foundOf s (l.take (i + 1)) = foundOf s (l.take i) ++ [(k, b.v)] := by
  unfold foundOf; rw [take_snoc l i b hk, List.map_append]; simp [hp]
theorem found_get (s : Su) (k : Int) : ∀ (l : List Br), (∀ b ∈ l, (plc s b).isSome = true) → mget (foundOf s l) k = (l.find? fun b => plc s b == some k).map Br.v
  | [], _ => rfl
  | b :: l, h => by
    have ih := found_get s k l fun x hx => h x (by simp [hx])
    obtain ⟨q, hq⟩ := Option.isSome_iff_exists.1 (h b (by simp))
    unfold foundOf at ih ⊢
    simp only [List.map_cons, mget, List.find?_cons, hq, Option.getD_some]
    by_cases e : q = k
    · subst e; simp
    · have : (q == k) = false := by simpa using e
      rw [if_neg e, ih, show (some q == some k) = false from this]
theorem found_at (s : Su) (l : List Br) (i : Nat) (k : Int) (v : Value) (hf : ∀ b ∈ l, (plc s b).isSome = true) (hp : (foundOf s l)[i]? = some (k, v)) : ∃ b, l[i]? = some b ∧ plc s b = some k ∧ v = b.v := by
  unfold foundOf at hp
  rw [List.getElem?_map] at hp
  cases hl : l[i]? with
  | none => rw [hl] at hp; cases hp
  | some b =>
    rw [hl] at hp
    simp only [Option.map_some, Option.some.injEq, Prod.mk.injEq] at hp
    obtain ⟨q, hq⟩ := Option.isSome_iff_exists.1 (hf b (List.mem_of_getElem? hl))
    exact ⟨b, rfl, by rw [hq, ← hp.1, hq]; rfl, hp.2.symm⟩
/-- The bar that is found at a place. -/
def fbo (s : Su) (l : List Br) (k : Int) : Option Br := l.find? fun b => plc s b == some k
def fb (s : Su) (l : List Br) (k : Int) : Br := (fbo s l k).getD ⟨0, 0, 0⟩
theorem found_look (s : Su) (l : List Br) (k : Int) (hf : ∀ b ∈ l, (plc s b).isSome = true) :
    Value.tuple #[(mget (foundOf s l) k).getD (.agg #[.int .i64 0, .int .i64 0, .int .i64 0]), .bool (mget (foundOf s l) k).isSome] = .tuple #[(fb s l k).v, .bool (fbo s l k).isSome] := by
  rw [found_get s k l hf]
  unfold fb fbo
  cases l.find? (fun b => plc s b == some k) <;> rfl
theorem fbo_iff (s : Su) (l : List Br) (k : Int) (hf : ∀ b ∈ l, (plc s b).isSome = true) : (mget (foundOf s l) k).isSome = (fbo s l k).isSome := by
  rw [found_get s k l hf, Option.isSome_map]; rfl
theorem letterAt_fb (s : Su) (l : List Br) (k : Nat) (h : (fbo s l k).isSome = true) : letterAt s l k = letter s (fb s l k) ∧ fb s l k ∈ l := by
  obtain ⟨b, hb⟩ := Option.isSome_iff_exists.1 h
  unfold letterAt fb
  unfold fbo at hb ⊢
  rw [hb]
  exact ⟨rfl, List.mem_of_find?_eq_some hb⟩
theorem letterAt_no (s : Su) (l : List Br) (k : Nat) (h : (fbo s l k).isSome = false) : letterAt s l k = 63 := by
  unfold letterAt
  have : (l.find? fun b => plc s b == some (k : Int)) = none := by simpa [fbo] using h
  rw [this]
/-- The text as far as it has been written. -/
def txt (s : Su) (l : List Br) (k : Nat) : List Value := (List.range s.pl.toNat).map fun j => if j < k then .int .u8 (letterAt s l j).toNat else .int .u8 0
theorem txt_len (s : Su) (l : List Br) (k : Nat) : (txt s l k).length = s.pl.toNat := by simp [txt]
theorem txt_zero (s : Su) (l : List Br) : List.replicate s.pl.toNat (Value.int .u8 0) = txt s l 0 := by
  apply List.ext_getElem?
  intro i
  unfold txt
  rw [List.getElem?_map, List.getElem?_replicate]
  by_cases h : i < s.pl.toNat
  · rw [if_pos h, List.getElem?_range h]; simp
  · rw [if_neg h, List.getElem?_eq_none (by simpa using h)]; rfl
theorem txt_set (s : Su) (l : List Br) (k : Nat) (v : Value) (hv : v = .int .u8 (letterAt s l k).toNat) : (txt s l k).set (k * 1) v = txt s l (k + 1) := by
  subst hv
  apply List.ext_getElem?
  intro i
  unfold txt
  rw [List.getElem?_set, Nat.mul_one, List.length_map, List.length_range, List.getElem?_map, List.getElem?_map]
  by_cases h : k = i
  · subst h
    rw [if_pos rfl]
    by_cases hi : k < s.pl.toNat
    · rw [if_pos hi, List.getElem?_range hi]; simp
    · rw [if_neg hi, List.getElem?_eq_none (by simpa using hi)]; rfl
  · rw [if_neg h]
    by_cases hi : i < s.pl.toNat
    · rw [List.getElem?_range hi]; simp only [Option.map_some]; congr 1
      by_cases h2 : i < k
      · rw [if_pos h2, if_pos (by omega)]
      · rw [if_neg h2, if_neg (by omega)]
    · rw [List.getElem?_eq_none (by simpa using hi)]; rfl
theorem txt_set2 (s : Su) (l : List Br) (k : Nat) (u v : Value) (hv : v = .int .u8 (letterAt s l k).toNat) : ((txt s l k).set (k * 1) u).set (k * 1) v = txt s l (k + 1) := by
  rw [List.set_set]; exact txt_set s l k v hv
theorem txt_end (s : Su) (l : List Br) : txt s l s.pl.toNat = (textOf s l).flatMap encB := by
  unfold txt textOf encB
  rw [← List.map_eq_flatMap, List.map_map]
  exact List.map_congr_left fun j hj => by rw [if_pos (List.mem_range.1 hj)]; rfl
theorem txt_rd (s : Su) (l : List Br) {w : World} {g : Nat} {t : TypeId} (h : Blk w g t (txt s l s.pl.toNat)) (hp : s.pl ≤ 200) : RdL w 1 encB (.slice (some ⟨g, 0, none⟩) s.pl.toNat s.pl.toNat) (textOf s l) := by
  have e : (textOf s l).length = s.pl.toNat := by simp [textOf]
  rw [txt_end] at h
  have := RdL.of_blk (cap := (textOf s l).length) encB_len h (Nat.le_refl _) (by rw [e]; simp only [maxLen]; omega)
  rwa [e] at this
theorem mkb_eq (s : Su) (c : UInt8) (k : Nat) (p q : Bool) (hp : p = true ↔ (c = 65 ∨ c = 70)) (hq : q = true ↔ (c = 68 ∨ c = 70)) : mkb s c k = ⟨s.og + k * s.pi, if p = true then s.hi else s.lo, if q = true then s.hi else s.lo⟩ := by
  unfold mkb
  congr 1
  · by_cases h : p = true
    · rw [if_pos h, if_pos (hp.1 h)]
    · rw [if_neg h, if_neg fun e => h (hp.2 e)]
  · by_cases h : q = true
    · rw [if_pos h, if_pos (hq.1 h)]
    · rw [if_neg h, if_neg fun e => h (hq.2 e)]
theorem selT (c d : UInt8) (h : (c.toNat : Int) = (d.toNat : Int)) : true = true ↔ (c = d ∨ c = 70) := ⟨fun _ => .inl (byte_eq h), fun _ => rfl⟩
theorem selF (c d : UInt8) (h : ¬ (c.toNat : Int) = (d.toNat : Int)) : decide ((c.toNat : Int) = 70) = true ↔ (c = d ∨ c = 70) := by
  rw [decide_eq_true_iff]
  constructor
  · intro e; exact .inr (byte_eq (d := 70) e)
  · rintro (e | e)
    · subst e; exact absurd rfl h
    · subst e; rfl
theorem textOf_len (s : Su) (l : List Br) : (textOf s l).length = s.pl.toNat := by simp [textOf]
theorem half0 (s : Su) (n : Int) (h : (half s n : Int) = 0) : room s n = s.lo - n := by
  unfold half at h
  unfold room
  split at h
  · rw [if_pos (by assumption)]
  · split at h <;> omega
theorem half1 (s : Su) (n : Int) (h : (half s n : Int) = 1) : room s n = n - s.hi := by
  unfold half at h
  unfold room
  split at h
  · omega
  · split at h
    · rw [if_neg (by assumption), if_pos (by assumption)]
    · omega
theorem half2 (s : Su) (n : Int) (h : ¬ (half s n : Int) = 0) (h1 : ¬ (half s n : Int) = 1) : room s n = min (s.hi - 1 - n) (n - s.lo - 1) := by
  unfold half at h h1
  unfold room
  split at h
  · omega
  · split at h
    · rename_i h2 h3; rw [if_neg h2, if_pos h3] at h1; omega
    · rw [if_neg (by assumption), if_neg (by assumption)]
theorem hts_look (lo hi : Int) (b : Bool) : (mget (([] ++ [(false, Value.int .i64 lo)]) ++ [(true, Value.int .i64 hi)]) b).getD (.int .i64 0) = .int .i64 (if b = true then hi else lo) := by cases b <;> rfl
theorem idx_letters (c : UInt8) : (Lib.indexByte [84, 65, 68, 70, 63] (c.toNat : Int).toNat.toUInt8 < 0) ↔ okLetter c = false := by
  rw [Int.toNat_natCast, show c.toNat.toUInt8 = c from by simp]
  unfold okLetter
  by_cases h1 : c = 84
  · subst h1; decide
  by_cases h2 : c = 65
  · subst h2; decide
  by_cases h3 : c = 68
  · subst h3; decide
  by_cases h4 : c = 70
  · subst h4; decide
  by_cases h5 : c = 63
  · subst h5; decide
  simp [Lib.indexByte, h1, h2, h3, h4, h5, Ne.symm h1, Ne.symm h2, Ne.symm h3, Ne.symm h4, Ne.symm h5]
/-- The place as the program finds it. -/
theorem plc_bad (s : Su) (b : Br) (hb : b.po - s.og + s.sl < 0 ∨ 2 * s.sl < (b.po - s.og + s.sl) % s.pi) : plc s b = none := by
  unfold plc
  simp only
  rw [if_pos hb]
theorem plc_far (s : Su) (b : Br) (hb : s.pl ≤ (b.po - s.og + s.sl) / s.pi) : plc s b = none := by
  unfold plc
  simp only
  split
  · rfl
  · rw [if_neg (by omega)]
theorem plc_good (s : Su) (b : Br) (h0 : ¬ b.po - s.og + s.sl < 0) (h1 : ¬ 2 * s.sl < (b.po - s.og + s.sl) % s.pi) (hb : ¬ s.pl ≤ (b.po - s.og + s.sl) / s.pi) : plc s b = some ((b.po - s.og + s.sl) / s.pi) := by
  unfold plc
  simp only
  rw [if_neg (by omega), if_pos (by omega)]
theorem plc_q (s : Su) (b : Br) (k : Int) (hk : plc s b = some k) : k = (b.po - s.og + s.sl) / s.pi := by
  unfold plc at hk
  simp only at hk
  split at hk
  · cases hk
  · split at hk
    · injection hk with hk; exact hk.symm
    · cases hk
/-- A place that has been found already. -/
theorem found_hit (s : Su) (l : List Br) (i : Nat) (k : Int) (hf : ∀ b ∈ l.take i, (plc s b).isSome = true) (h : (mget (foundOf s (l.take i)) k).isSome = true) : ∃ j b, j < i ∧ l[j]? = some b ∧ plc s b = some k := by
  rw [found_get s k _ hf, Option.isSome_map, List.find?_isSome] at h
  obtain ⟨b, hb, he⟩ := h
  obtain ⟨j, hj⟩ := List.mem_iff_getElem?.1 hb
  rw [List.getElem?_take] at hj
  split at hj
  · exact ⟨j, b, by assumption, hj, by simpa using he⟩
  · cases hj
theorem found_miss (s : Su) (l : List Br) (i : Nat) (k : Int) (hf : ∀ b ∈ l.take i, (plc s b).isSome = true) (h : (mget (foundOf s (l.take i)) k).isSome = false) : mget (foundOf s (l.take i)) k = none ∧ ∀ b' ∈ l.take i, plc s b' ≠ some k := by
  have hn : mget (foundOf s (l.take i)) k = none := by simpa using h
  refine ⟨hn, fun b' hb' e => ?_⟩
  rw [found_get s k _ hf, Option.map_eq_none_iff, List.find?_eq_none] at hn
  have := hn b' hb'
  simp [e] at this
/-- The margin, in whatever order the bars come. -/
theorem foldl_min (f : Br → Int) : ∀ (l : List Br) (m : Int), l.foldl (fun m b => min m (f b)) m = (l.map f).foldl min m
  | [], _ => rfl
  | b :: l, m => by simp only [List.foldl_cons, List.map_cons]; exact foldl_min f l _
def seenMin (s : Su) (l : List Br) (seen : List Nat) : Int := (seen.map fun i => match l[i]? with | some b => roomB s b | none => 0).foldl min 1048576
theorem seen_snoc (s : Su) (l : List Br) (seen : List Nat) (i : Nat) (b : Br) (h : l[i]? = some b) : seenMin s l (seen ++ [i]) = min (seenMin s l seen) (roomB s b) := by
  unfold seenMin; rw [List.map_append, List.foldl_append]; simp [h]
theorem perm_range {seen : List Nat} {n : Nat} (h1 : seen.Nodup) (h2 : ∀ i ∈ seen, i < n) (h3 : ∀ i, i < n → i ∈ seen) : seen.Perm (List.range n) :=
  (List.perm_ext_iff_of_nodup h1 List.nodup_range).2 fun i => ⟨fun h => List.mem_range.2 (h2 i h), fun h => h3 i (List.mem_range.1 h)⟩
theorem nodup_len {seen : List Nat} {n : Nat} (h1 : seen.Nodup) (h2 : ∀ i ∈ seen, i < n) : seen.length ≤ n := by
  have := h1.length_le_of_subset (l₂ := List.range n) fun i h => List.mem_range.2 (h2 i h)
  simpa using this
theorem seen_all (s : Su) (l : List Br) (seen : List Nat) (h1 : seen.Nodup) (h2 : ∀ i ∈ seen, i < l.length) (h3 : ∀ i, i < l.length → i ∈ seen) : seenMin s l seen = marginOf s l := by
  have hp := perm_range h1 h2 h3
  unfold seenMin marginOf
  rw [foldl_min]
  have e : (List.range l.length).map (fun i => match l[i]? with | some b => roomB s b | none => 0) = l.map (roomB s) := by
    apply List.ext_getElem?
    intro i
    rw [List.getElem?_map, List.getElem?_map]
    by_cases h : i < l.length
    · rw [List.getElem?_range h, List.getElem?_eq_getElem h, Option.map_some, Option.map_some, List.getElem?_eq_getElem h]
    · rw [List.getElem?_eq_none (by simpa using h), List.getElem?_eq_none (by simpa using h)]; rfl
  rw [← e]
  exact (hp.map _).foldl_eq' (fun x _ y _ z => by omega) _
end Go.Proofs.Ytgjnchjkjdnidaa

/- Walks (HE). Written by program. -/
namespace Go.Proofs.Ytgjnchjkjdnidaa
open Go.RowKit
set_option maxRecDepth 100000 in
set_option maxHeartbeats 1000000 in
theorem within_ret (n m : Int) (w : World)  :
    Ret Try.prog 36 [.int .i64 n, .int .i64 m] w (fun v w' => v = .bool (decide (0 ≤ n ∧ n ≤ m)) ∧ Ex w w') := by
  have hB0 : Ex w w := Ex.rfl_ _
  refine Ret.of Try.func36 rfl Try.ntmps36 rfl ?_
  refine CW.seq ?_
  refine CW.region ?_
  refine RG.vl rfl rfl rfl (Ev.assign rfl rfl) ?_
  refine RG.done ?_
  refine QW.then_ ?_
  refine CW.seq ?_
  refine CW.region ?_
  refine RG.vl rfl rfl rfl (Ev.move rfl rfl) ?_
  refine RG.vl rfl rfl rfl (Ev.geq rfl rfl rfl) ?_
  refine RG.vl rfl rfl rfl (Ev.move rfl rfl) ?_
  refine RG.split (d := 7) rfl (fun hg1 => ?_) (fun hg1 => ?_)
  · refine RG.vl rfl rfl rfl (Ev.move rfl rfl) ?_
    refine RG.vl rfl rfl rfl (Ev.move rfl rfl) ?_
    refine RG.vl rfl rfl rfl (Ev.leq rfl rfl rfl) ?_
    refine RG.vl rfl rfl rfl (Ev.pickT rfl rfl rfl) ?_
    refine RG.vl rfl rfl rfl (Ev.assign rfl rfl) ?_
    refine RG.done ?_
    refine QW.then_ ?_
    refine CW.ret ?_
    refine QW.ret1 rfl rfl ?_
    have hB := hB0
    refine ⟨congrArg Value.bool ?_, hB⟩; rw [eq_comm]; first | (rw [decide_eq_decide]; omega) | (rw [decide_eq_false_iff_not]; omega)
  · refine RG.pass rfl rfl rfl ?_
    refine RG.pass rfl rfl rfl ?_
    refine RG.pass rfl rfl rfl ?_
    refine RG.vl rfl rfl rfl (Ev.pickF rfl rfl rfl) ?_
    refine RG.vl rfl rfl rfl (Ev.assign rfl rfl) ?_
    refine RG.done ?_
    refine QW.then_ ?_
    refine CW.ret ?_
    refine QW.ret1 rfl rfl ?_
    have hB := hB0
    refine ⟨congrArg Value.bool ?_, hB⟩; rw [eq_comm]; first | (rw [decide_eq_decide]; omega) | (rw [decide_eq_false_iff_not]; omega)

set_option maxRecDepth 100000 in
set_option maxHeartbeats 1000000 in
theorem half_ret (s : Su) (n : Int) (g : Nat) (w : World) (hb : Blk w g 27 s.v.cells.toList) :
    Ret Try.prog 37 [.int .i64 n, .pointer (some ⟨g, 0, none⟩)] w (fun v w' => v = .int .i64 (half s n : Nat) ∧ Ex w w') := by
  have hB0 : Ex w w := Ex.rfl_ _
  refine Ret.of Try.func37 rfl Try.ntmps37 rfl ?_
  refine CW.seq ?_
  refine CW.region ?_
  refine RG.vl rfl rfl rfl (Ev.assign rfl rfl) ?_
  refine RG.done ?_
  refine QW.then_ ?_
  refine CW.seq ?_
  refine CW.block ?_
  refine CW.seq ?_
  refine CW.region ?_
  refine RG.vl rfl rfl rfl (Ev.move rfl rfl) ?_
  refine RG.vl rfl rfl rfl (Ev.fld rfl rfl fld_27_4) ?_
  refine RG.vl rfl rfl rfl (Ev.ldAt rfl rfl Try.underlying3 rfl (hb.cells) (rfl)) ?_
  refine RG.vl rfl rfl rfl (Ev.leq rfl rfl rfl) ?_
  refine RG.vl rfl rfl rfl (Ev.assign rfl rfl) ?_
  refine RG.done ?_
  refine QW.then_ ?_
  refine CW.condP rfl (fun hc1 => ?_) (fun hc1 => ?_)
  · refine CW.seq ?_
    refine CW.region ?_
    refine RG.vl rfl rfl rfl (Ev.assign rfl rfl) ?_
    refine RG.done ?_
    refine QW.then_ ?_
    refine CW.ret ?_
    refine QW.blockR ?_
    refine QW.thenRet ?_
    refine QW.ret1 rfl rfl ?_
    have hB := hB0
    refine ⟨?_, hB⟩; unfold half; rw [if_pos (by omega)]; rfl
  · refine CW.seq ?_
    refine CW.region ?_
    refine RG.vl rfl rfl rfl (Ev.move rfl rfl) ?_
    refine RG.vl rfl rfl rfl (Ev.fld rfl rfl fld_27_5) ?_
    refine RG.vl rfl rfl rfl (Ev.ldAt rfl rfl Try.underlying3 rfl (hb.cells) (rfl)) ?_
    refine RG.vl rfl rfl rfl (Ev.geq rfl rfl rfl) ?_
    refine RG.vl rfl rfl rfl (Ev.assign rfl rfl) ?_
    refine RG.done ?_
    refine QW.then_ ?_
    refine CW.condP rfl (fun hc2 => ?_) (fun hc2 => ?_)
    · refine CW.seq ?_
      refine CW.region ?_
      refine RG.vl rfl rfl rfl (Ev.assign rfl rfl) ?_
      refine RG.done ?_
      refine QW.then_ ?_
      refine CW.ret ?_
      refine QW.blockR ?_
      refine QW.thenRet ?_
      refine QW.ret1 rfl rfl ?_
      have hB := hB0
      refine ⟨?_, hB⟩; unfold half; rw [if_neg (by omega), if_pos (by omega)]; rfl
    · refine CW.skip ?_
      refine QW.blockN ?_
      refine QW.then_ ?_
      refine CW.seq ?_
      refine CW.region ?_
      refine RG.vl rfl rfl rfl (Ev.assign rfl rfl) ?_
      refine RG.done ?_
      refine QW.then_ ?_
      refine CW.ret ?_
      refine QW.ret1 rfl rfl ?_
      have hB := hB0
      refine ⟨?_, hB⟩; unfold half; rw [if_neg (by omega), if_neg (by omega)]; rfl

set_option maxRecDepth 100000 in
set_option maxHeartbeats 1000000 in
theorem halfBy_ret (s : Su) (w : World)  :
    Ret Try.prog 21 [s.v] w (fun v w' => ∃ g, v = .func (.func 37) #[] #[.pointer (some ⟨g, 0, none⟩)] ∧ w.heap.size ≤ g ∧ Blk w' g 27 s.v.cells.toList ∧ Ex w w') := by
  have hB0 : Ex w w := Ex.rfl_ _
  refine Ret.of Try.func21 rfl Try.ntmps21 rfl ?_
  refine CW.seq ?_
  refine CW.region ?_
  refine RG.box rfl rfl rfl rfl rfl (fun g1 w1 eg1 hx1 hb1 => ?_)
  have hE2 := hx1
  refine RG.vl rfl rfl rfl (Ev.assign rfl rfl) ?_
  refine RG.done ?_
  refine QW.then_ ?_
  refine CW.seq ?_
  refine CW.region ?_
  refine RG.vl rfl rfl rfl (Ev.mkFn rfl rfl rfl rfl rfl) ?_
  refine RG.vl rfl rfl rfl (Ev.assign rfl rfl) ?_
  refine RG.done ?_
  refine QW.then_ ?_
  refine CW.ret ?_
  refine QW.ret1 rfl rfl ?_
  have hB := (Ex.tr hB0 hE2)
  exact ⟨_, rfl, Nat.le_of_eq eg1.symm, hb1, hB⟩

set_option maxRecDepth 100000 in
set_option maxHeartbeats 1000000 in
theorem letters_ret  (w : World)  :
    Ret Try.prog 38 [] w (fun v w' => v = .agg tbl.toArray ∧ Ex w w') := by
  have hB0 : Ex w w := Ex.rfl_ _
  refine Ret.of Try.func38 rfl Try.ntmps38 rfl ?_
  refine CW.seq ?_
  refine CW.region ?_
  refine RG.alloc_ rfl rfl rfl rfl inf_94 (fun g1 w1 eg1 hx1 hb1 => ?_)
  have hle2 : w.heap.size ≤ g1 := by have := (Ex.rfl_ w).size; omega
  have hE3 := hx1
  refine RG.done ?_
  refine QW.then_ ?_
  refine CW.seq ?_
  refine CW.region ?_
  refine RG.vl rfl rfl rfl (Ev.buildA (len := 3) (xs := [_, _, _]) rfl rfl rfl rfl Try.underlying93 sz_5 inf_93 rfl rfl) ?_
  refine RG.vl rfl rfl rfl (Ev.buildA (len := 3) (xs := [_, _, _]) rfl rfl rfl rfl Try.underlying93 sz_5 inf_93 rfl rfl) ?_
  refine RG.vl rfl rfl rfl (Ev.buildA (len := 3) (xs := [_, _, _]) rfl rfl rfl rfl Try.underlying93 sz_5 inf_93 rfl rfl) ?_
  refine RG.vl rfl rfl rfl (Ev.buildA (len := 3) (xs := [.tmp 1, .tmp 2, .tmp 3]) rfl rfl rfl rfl Try.underlying94 sz_93 inf_94 rfl rfl) ?_
  refine RG.stAll (g := g1) rfl rfl rfl rfl rfl sz_94 rfl rfl rfl hb1 (fun ws4 hwws4 hbws4 => ?_)
  replace hE3 := Wr.below hE3 hwws4 hle2
  refine RG.done ?_
  refine QW.then_ ?_
  refine CW.ret ?_
  refine QW.retC rfl rfl Try.underlying94 rfl sz_94 rfl hbws4 ?_
  have hB := (Ex.tr hB0 hE3)
  exact ⟨rfl, hB⟩

set_option maxRecDepth 100000 in
set_option maxHeartbeats 1000000 in
theorem hidxb0_ret (s : ByteArray) (c : Int) (w : World)  :
    Ret Try.prog 62 [.string s, .int .u8 c] w (fun v w' => v = .int .i64 (Lib.indexByte s.data.toList c.toNat.toUInt8) ∧ Ex w w') := by
  have hB0 : Ex w w := Ex.rfl_ _
  refine Ret.of Try.func62 rfl Try.ntmps62 rfl ?_
  refine CW.seq ?_
  refine CW.region ?_
  refine RG.vl rfl rfl rfl (Ev.assign rfl rfl) ?_
  refine RG.done ?_
  refine QW.then_ ?_
  refine CW.seq ?_
  refine CW.region ?_
  refine RG.vl rfl rfl rfl (Ev.move rfl rfl) ?_
  refine RG.vl rfl rfl rfl (Ev.move rfl rfl) ?_
  refine RG.vl rfl rfl rfl (Ev.ext_ rfl rfl rfl (xt_89 _ _ _)) ?_
  refine RG.vl rfl rfl rfl (Ev.assign rfl rfl) ?_
  refine RG.done ?_
  refine QW.then_ ?_
  refine CW.ret ?_
  refine QW.ret1 rfl rfl ?_
  have hB := hB0
  exact ⟨rfl, hB⟩

set_option maxRecDepth 100000 in
set_option maxHeartbeats 1000000 in
theorem hidxb1_ret (s : ByteArray) (c : Int) (w : World)  :
    Ret Try.prog 35 [.string s, .int .u8 c] w (fun v w' => v = .int .i64 (Lib.indexByte s.data.toList c.toNat.toUInt8) ∧ Ex w w') := by
  have hB0 : Ex w w := Ex.rfl_ _
  refine Ret.of Try.func35 rfl Try.ntmps35 rfl ?_
  refine CW.seq ?_
  refine CW.region ?_
  refine RG.vl rfl rfl rfl (Ev.assign rfl rfl) ?_
  refine RG.done ?_
  refine QW.then_ ?_
  refine CW.seq ?_
  refine CW.region ?_
  refine RG.vl rfl rfl rfl (Ev.move rfl rfl) ?_
  refine RG.vl rfl rfl rfl (Ev.move rfl rfl) ?_
  refine RG.call rfl rfl rfl rfl rfl rfl rfl en_62 (hidxb0_ret _ _ _) ?_
  rintro _ w1 ⟨rfl, hx1⟩
  have hE2 := hx1
  refine RG.vl rfl rfl rfl (Ev.assign rfl rfl) ?_
  refine RG.done ?_
  refine QW.then_ ?_
  refine CW.ret ?_
  refine QW.ret1 rfl rfl ?_
  have hB := (Ex.tr hB0 hE2)
  exact ⟨rfl, hB⟩

end Go.Proofs.Ytgjnchjkjdnidaa

/- Walks (HF). Written by program. -/
namespace Go.Proofs.Ytgjnchjkjdnidaa
open Go.RowKit
set_option maxRecDepth 100000 in
set_option maxHeartbeats 1000000 in
theorem places_ret (s : Su) (u : Value) (l : List Br) (w : World) (hl : RdL w 3 Br.c u l) (hlen : l.length ≤ 1000) :
    Ret Try.prog 20 [s.v, u] w (fun v w' => ∃ m, v = .tuple #[m, .int .i64 (errOf s l)] ∧ (errOf s l = 0 → ∃ g, m = .map (some g) ∧ w.heap.size ≤ g ∧ Mp w' g (fun i : Int => Value.int .i64 i) (foundOf s l)) ∧ Ex w w') := by
  have hB0 : Ex w w := Ex.rfl_ _
  refine Ret.of Try.func20 rfl Try.ntmps20 rfl ?_
  refine CW.seq ?_
  refine CW.region ?_
  refine RG.box rfl rfl rfl rfl rfl (fun g1 w1 eg1 hx1 hb1 => ?_)
  have hle2 : w.heap.size ≤ g1 := by have := (Ex.rfl_ w).size; omega
  have hE3 := hx1
  refine RG.vl rfl rfl rfl (Ev.assign rfl rfl) ?_
  refine RG.vl rfl rfl rfl (Ev.assign rfl rfl) ?_
  refine RG.done ?_
  refine QW.then_ ?_
  refine CW.seq ?_
  refine CW.seq ?_
  refine CW.region ?_
  refine RG.vl rfl rfl rfl (Ev.move rfl rfl) ?_
  refine RG.vl rfl rfl rfl (Ev.lenL rfl rfl rfl Try.underlying29 ((hl.ext hE3))) ?_
  refine RG.vl rfl rfl rfl (Ev.gtr rfl rfl rfl) ?_
  refine RG.done ?_
  refine QW.then_ ?_
  refine CW.condP rfl (fun hc4 => ?_) (fun hc4 => ?_)
  · refine CW.seq ?_
    refine CW.region ?_
    refine RG.vl rfl rfl rfl (Ev.assign rfl rfl) ?_
    refine RG.vl rfl rfl rfl (Ev.assign rfl rfl) ?_
    refine RG.done ?_
    refine QW.then_ ?_
    refine CW.ret ?_
    refine QW.thenRet ?_
    refine QW.ret2 rfl rfl rfl ?_
    have hB := (Ex.tr hB0 hE3)
    have he : errOf s l = 5 := by unfold errOf; rw [if_pos (by omega)]
    exact ⟨_, by rw [he], fun h => absurd h (by rw [he]; decide), hB⟩
  · refine CW.skip ?_
    refine QW.then_ ?_
    refine CW.seq ?_
    refine CW.seq ?_
    refine CW.region ?_
    refine RG.vl rfl rfl rfl (Ev.ldAgg rfl rfl Try.underlying27 rfl sz_27 rfl (hb1.cells)) ?_
    refine RG.call rfl rfl rfl rfl rfl rfl rfl en_34 (right_ret _ _) ?_
    rintro _ w5 ⟨rfl, hx5⟩
    replace hE3 := Ex.tr hE3 hx5
    have hE6 := hx5
    refine RG.vl rfl rfl rfl (Ev.notP rfl rfl) ?_
    refine RG.done ?_
    refine QW.then_ ?_
    refine CW.condP rfl (fun hc7 => ?_) (fun hc7 => ?_)
    · refine CW.seq ?_
      have hs : ¬ Okay s := by assumption
      refine CW.region ?_
      refine RG.vl rfl rfl rfl (Ev.assign rfl rfl) ?_
      refine RG.vl rfl rfl rfl (Ev.assign rfl rfl) ?_
      refine RG.done ?_
      refine QW.then_ ?_
      refine CW.ret ?_
      refine QW.thenRet ?_
      refine QW.ret2 rfl rfl rfl ?_
      have hB := (Ex.tr hB0 hE3)
      have he : errOf s l = 2 := by unfold errOf; rw [if_neg (by omega), if_pos hs]
      exact ⟨_, by rw [he], fun h => absurd h (by rw [he]; decide), hB⟩
    · refine CW.skip ?_
      refine QW.then_ ?_
      refine CW.seq ?_
      refine CW.seq ?_
      have hs : Okay s := Decidable.not_not.1 (by assumption)
      obtain ⟨a1, a2, a3, a4, a5, a6, a7, a8, a9, a10, a11⟩ := id hs
      refine CW.region ?_
      refine RG.vl rfl rfl rfl (Ev.move rfl rfl) ?_
      refine RG.vl rfl rfl rfl (Ev.lenL rfl rfl rfl Try.underlying29 ((hl.ext hE3))) ?_
      refine RG.vl rfl rfl rfl (Ev.move rfl rfl) ?_
      refine RG.done ?_
      refine QW.then_ ?_
      refine CW.block ?_
      replace hl := (hl.ext hE3)
      replace hb1 := (hb1.ext hE6)
      have hR8 := (Ex.tr hB0 hE3)
      have hR9 := hE6
      refine CW.loop1 [(1, _), (2, _), (21, _), (22, _)] ⟨rfl, rfl, rfl, rfl, trivial⟩ (fun (i : Nat) => [(23, .int .i64 i)]) (fun i w' => (i ≤ l.length ∧ ∀ j b, j < i → l[j]? = some b → InB b) ∧ Ex w5 w') (fun i => l.length - i) (0) ⟨rfl, trivial⟩ ⟨⟨Nat.zero_le _, fun j b h => absurd h (by omega)⟩, (Ex.rfl_ _)⟩ ?_
      rintro i wl10 ⟨⟨hi, hall⟩, hxwl10⟩
      refine CW.sub (S' := [(23, _), (1, _), (2, _), (21, _), (22, _)]) ⟨rfl, rfl, rfl, rfl, rfl, trivial⟩ ?_
      refine CW.seq ?_
      refine CW.region ?_
      refine RG.vl rfl rfl rfl (Ev.lss rfl rfl rfl) ?_
      refine RG.done ?_
      refine QW.then_ ?_
      refine CW.seq ?_
      refine CW.condP rfl (fun hc11 => ?_) (fun hc11 => ?_)
      · refine CW.skip ?_
        refine QW.then_ ?_
        refine CW.seq ?_
        refine CW.block ?_
        refine CW.seq ?_
        obtain ⟨b, hk⟩ : ∃ b, l[i]? = some b := ⟨l[i]'(by omega), List.getElem?_eq_getElem _⟩
        
        refine CW.region ?_
        refine RG.idxL rfl rfl rfl rfl rfl rfl Try.underlying29 sz_35 ((hl.ext hxwl10)) (hk) (fun p12 hp12b hp12 => ?_)
        refine RG.vl rfl rfl rfl (Ev.ldAgg rfl rfl Try.underlying35 rfl sz_35 rfl (hp12)) ?_
        refine RG.local_ rfl rfl rfl rfl (fun _ => rfl) rfl rfl (fun _ => rfl) inf_35 rfl rfl rfl (fun g13 w13 eg13 hx13 hb13 => ?_)
        have hle14 : w5.heap.size ≤ g13 := by have := hxwl10.size; omega
        have hle15 : wl10.heap.size ≤ g13 := by have := (Ex.rfl_ wl10).size; omega
        have hlt16 : g1 < g13 := by have := Blk.lt (hb1.ext hxwl10); omega
        replace hxwl10 := Ex.tr hxwl10 hx13
        have hE17 := hx13
        refine RG.done ?_
        refine QW.then_ ?_
        refine CW.seq ?_
        refine CW.region ?_
        refine RG.vl rfl rfl rfl (Ev.fld rfl rfl fld_35_0) ?_
        refine RG.vl rfl rfl rfl (Ev.ldAt rfl rfl Try.underlying3 rfl (hb13.cells) (rfl)) ?_
        refine RG.call rfl rfl rfl rfl rfl rfl rfl en_36 (within_ret _ _ _) ?_
        rintro _ w18 ⟨rfl, hx18⟩
        replace hxwl10 := Ex.tr hxwl10 hx18
        replace hE17 := Ex.tr hE17 hx18
        have hE19 := hx18
        refine RG.vl rfl rfl rfl (Ev.notP rfl rfl) ?_
        refine RG.vl rfl rfl rfl (Ev.move rfl rfl) ?_
        refine RG.split (d := 31) rfl (fun hg20 => ?_) (fun hg20 => ?_)
        · refine RG.pass rfl rfl rfl ?_
          refine RG.pass rfl rfl rfl ?_
          refine RG.pass rfl rfl rfl ?_
          refine RG.pass rfl rfl rfl ?_
          refine RG.vl rfl rfl rfl (Ev.pickT rfl rfl rfl) ?_
          refine RG.vl rfl rfl rfl (Ev.move rfl rfl) ?_
          refine RG.pass rfl rfl rfl ?_
          refine RG.pass rfl rfl rfl ?_
          refine RG.pass rfl rfl rfl ?_
          refine RG.pass rfl rfl rfl ?_
          refine RG.vl rfl rfl rfl (Ev.pickT rfl rfl rfl) ?_
          refine RG.done ?_
          refine QW.sub (S' := [(1, _), (2, _), (21, _), (22, _), (23, _), (42, _)]) ⟨rfl, rfl, rfl, rfl, rfl, rfl, trivial⟩ ?_
          refine QW.then_ ?_
          refine CW.condT rfl ?_
          refine CW.seq ?_
          refine CW.region ?_
          refine RG.vl rfl rfl rfl (Ev.assign rfl rfl) ?_
          refine RG.vl rfl rfl rfl (Ev.assign rfl rfl) ?_
          refine RG.done ?_
          refine QW.then_ ?_
          refine CW.ret ?_
          refine QW.blockR ?_
          refine QW.thenRet ?_
          refine QW.thenRet ?_
          refine QW.blockR ?_
          refine QW.thenRet ?_
          refine QW.ret2 rfl rfl rfl ?_
          have hB := (Ex.tr hR8 hxwl10)
          have he : errOf s l = 2 := by unfold errOf; rw [if_neg (by omega), if_neg (by simpa using hs), if_pos]; intro hh; have := hh b (List.mem_of_getElem? hk); unfold InB at this; omega
          exact ⟨_, by rw [he], fun h => absurd h (by rw [he]; decide), hB⟩
        · refine RG.vl rfl rfl rfl (Ev.fld rfl rfl fld_35_1) ?_
          refine RG.vl rfl rfl rfl (Ev.ldAt rfl rfl Try.underlying3 rfl ((hb13.ext hE19).cells) (rfl)) ?_
          refine RG.call rfl rfl rfl rfl rfl rfl rfl en_36 (within_ret _ _ _) ?_
          rintro _ w21 ⟨rfl, hx21⟩
          replace hxwl10 := Ex.tr hxwl10 hx21
          replace hE17 := Ex.tr hE17 hx21
          replace hE19 := Ex.tr hE19 hx21
          have hE22 := hx21
          refine RG.vl rfl rfl rfl (Ev.notP rfl rfl) ?_
          refine RG.vl rfl rfl rfl (Ev.pickF rfl rfl rfl) ?_
          refine RG.vl rfl rfl rfl (Ev.move rfl rfl) ?_
          refine RG.split (d := 37) rfl (fun hg23 => ?_) (fun hg23 => ?_)
          · refine RG.pass rfl rfl rfl ?_
            refine RG.pass rfl rfl rfl ?_
            refine RG.pass rfl rfl rfl ?_
            refine RG.pass rfl rfl rfl ?_
            refine RG.vl rfl rfl rfl (Ev.pickT rfl rfl rfl) ?_
            refine RG.done ?_
            refine QW.sub (S' := [(1, _), (2, _), (21, _), (22, _), (23, _), (42, _)]) ⟨rfl, rfl, rfl, rfl, rfl, rfl, trivial⟩ ?_
            refine QW.then_ ?_
            refine CW.condT rfl ?_
            refine CW.seq ?_
            refine CW.region ?_
            refine RG.vl rfl rfl rfl (Ev.assign rfl rfl) ?_
            refine RG.vl rfl rfl rfl (Ev.assign rfl rfl) ?_
            refine RG.done ?_
            refine QW.then_ ?_
            refine CW.ret ?_
            refine QW.blockR ?_
            refine QW.thenRet ?_
            refine QW.thenRet ?_
            refine QW.blockR ?_
            refine QW.thenRet ?_
            refine QW.ret2 rfl rfl rfl ?_
            have hB := (Ex.tr hR8 hxwl10)
            have he : errOf s l = 2 := by unfold errOf; rw [if_neg (by omega), if_neg (by simpa using hs), if_pos]; intro hh; have := hh b (List.mem_of_getElem? hk); unfold InB at this; omega
            exact ⟨_, by rw [he], fun h => absurd h (by rw [he]; decide), hB⟩
          · refine RG.vl rfl rfl rfl (Ev.fld rfl rfl fld_35_2) ?_
            refine RG.vl rfl rfl rfl (Ev.ldAt rfl rfl Try.underlying3 rfl ((hb13.ext hE19).cells) (rfl)) ?_
            refine RG.call rfl rfl rfl rfl rfl rfl rfl en_36 (within_ret _ _ _) ?_
            rintro _ w24 ⟨rfl, hx24⟩
            replace hxwl10 := Ex.tr hxwl10 hx24
            replace hE17 := Ex.tr hE17 hx24
            replace hE19 := Ex.tr hE19 hx24
            replace hE22 := Ex.tr hE22 hx24
            have hE25 := hx24
            refine RG.vl rfl rfl rfl (Ev.notP rfl rfl) ?_
            refine RG.vl rfl rfl rfl (Ev.pickF rfl rfl rfl) ?_
            refine RG.done ?_
            refine QW.sub (S' := [(1, _), (2, _), (21, _), (22, _), (23, _), (42, _)]) ⟨rfl, rfl, rfl, rfl, rfl, rfl, trivial⟩ ?_
            refine QW.then_ ?_
            refine CW.condP rfl (fun hc26 => ?_) (fun hc26 => ?_)
            · refine CW.seq ?_
              refine CW.region ?_
              refine RG.vl rfl rfl rfl (Ev.assign rfl rfl) ?_
              refine RG.vl rfl rfl rfl (Ev.assign rfl rfl) ?_
              refine RG.done ?_
              refine QW.then_ ?_
              refine CW.ret ?_
              refine QW.blockR ?_
              refine QW.thenRet ?_
              refine QW.thenRet ?_
              refine QW.blockR ?_
              refine QW.thenRet ?_
              refine QW.ret2 rfl rfl rfl ?_
              have hB := (Ex.tr hR8 hxwl10)
              have he : errOf s l = 2 := by unfold errOf; rw [if_neg (by omega), if_neg (by simpa using hs), if_pos]; intro hh; have := hh b (List.mem_of_getElem? hk); unfold InB at this; omega
              exact ⟨_, by rw [he], fun h => absurd h (by rw [he]; decide), hB⟩
            · refine CW.skip ?_
              refine QW.blockN ?_
              refine QW.then_ ?_
              refine CW.region ?_
              refine RG.vl rfl rfl rfl (Ev.addI rfl rfl rfl (by omega)) ?_
              refine RG.vl rfl rfl rfl (Ev.move rfl rfl) ?_
              refine RG.done ?_
              refine QW.round1 (i + 1) ⟨rfl, trivial⟩ ⟨rfl, rfl, rfl, rfl, trivial⟩ ⟨⟨by omega, fun j b' hj hb' => by rcases Nat.lt_or_ge j i with h | h; exact hall j b' h hb'; obtain rfl : j = i := (by omega); rw [hk] at hb'; injection hb' with hb'; subst hb'; unfold InB; omega⟩, hxwl10⟩ (by omega)
      · refine CW.exit ?_
        refine QW.thenExit ?_
        refine QW.thenExit ?_
        refine QW.blockHit ?_
        refine QW.then_ ?_
        refine CW.seq ?_
        have hB9 : Ex w wl10 := (Ex.tr hR8 hxwl10)
        have hin : ∀ b ∈ l, InB b := fun b hb => by obtain ⟨j, hj, rfl⟩ := List.getElem_of_mem hb; exact hall j _ (by omega) (List.getElem?_eq_getElem _)
        refine CW.region ?_
        replace hl := (hl.ext hxwl10)
        replace hb1 := (hb1.ext hxwl10)
        have hR27 := (Ex.tr hR8 hxwl10)
        have hR28 := (Ex.tr hR9 hxwl10)
        have hR29 := hxwl10
        refine RG.mkMap (fun i : Int => Value.int .i64 i) rfl rfl rfl rfl (fun gm w30 egm hx30 hb30 => ?_)
        have hle31 : wl10.heap.size ≤ gm := by have := (Ex.rfl_ wl10).size; omega
        have hlt32 : g1 < gm := by have := Blk.lt hb1; omega
        have hE33 := hx30
        refine RG.vl rfl rfl rfl (Ev.assign rfl rfl) ?_
        refine RG.done ?_
        refine QW.then_ ?_
        refine CW.seq ?_
        refine CW.seq ?_
        refine CW.region ?_
        refine RG.vl rfl rfl rfl (Ev.move rfl rfl) ?_
        refine RG.vl rfl rfl rfl (Ev.lenL rfl rfl rfl Try.underlying29 ((hl.ext hE33))) ?_
        refine RG.vl rfl rfl rfl (Ev.move rfl rfl) ?_
        refine RG.done ?_
        refine QW.then_ ?_
        refine CW.block ?_
        refine CW.loop1 [(2, _), (8, _), (45, _), (46, _)] ⟨rfl, rfl, rfl, rfl, trivial⟩ (fun (i : Nat) => [(47, .int .i64 i)]) (fun i w' => (i ≤ l.length ∧ Fit s (l.take i) ∧ Mp w' gm (fun i : Int => Value.int .i64 i) (foundOf s (l.take i))) ∧ Ex wl10 w') (fun i => l.length - i) (0) ⟨rfl, trivial⟩ ⟨⟨Nat.zero_le _, fit_nil s, hb30⟩, hE33⟩ ?_
        rintro i wl34 ⟨⟨hi, hfit, hmp⟩, hxwl34⟩
        refine CW.sub (S' := [(47, _), (2, _), (8, _), (45, _), (46, _)]) ⟨rfl, rfl, rfl, rfl, rfl, trivial⟩ ?_
        refine CW.seq ?_
        refine CW.region ?_
        refine RG.vl rfl rfl rfl (Ev.lss rfl rfl rfl) ?_
        refine RG.done ?_
        refine QW.then_ ?_
        refine CW.seq ?_
        refine CW.condP rfl (fun hc35 => ?_) (fun hc35 => ?_)
        · refine CW.skip ?_
          refine QW.then_ ?_
          refine CW.seq ?_
          refine CW.block ?_
          refine CW.seq ?_
          obtain ⟨b, hk⟩ : ∃ b, l[i]? = some b := ⟨l[i]'(by omega), List.getElem?_eq_getElem _⟩
          
          refine CW.region ?_
          refine RG.idxL rfl rfl rfl rfl rfl rfl Try.underlying29 sz_35 ((hl.ext hxwl34)) (hk) (fun p36 hp36b hp36 => ?_)
          refine RG.vl rfl rfl rfl (Ev.ldAgg rfl rfl Try.underlying35 rfl sz_35 rfl (hp36)) ?_
          refine RG.local_ rfl rfl rfl rfl (fun _ => rfl) rfl rfl (fun _ => rfl) inf_35 rfl rfl rfl (fun g37 w37 eg37 hx37 hb37 => ?_)
          have hle38 : wl10.heap.size ≤ g37 := by have := hxwl34.size; omega
          have hle39 : wl34.heap.size ≤ g37 := by have := (Ex.rfl_ wl34).size; omega
          have hlt40 : g1 < g37 := by have := Blk.lt (hb1.ext hxwl34); omega
          have hlt41 : gm < g37 := by have := Mp.lt hmp; omega
          replace hxwl34 := Ex.tr hxwl34 hx37
          have hE42 := hx37
          refine RG.done ?_
          refine QW.then_ ?_
          refine CW.seq ?_
          have hib := hin b (List.mem_of_getElem? hk)
          obtain ⟨b1, b2, b3, b4, b5, b6⟩ := id hib
          refine CW.region ?_
          refine RG.vl rfl rfl rfl (Ev.fld rfl rfl fld_35_0) ?_
          refine RG.vl rfl rfl rfl (Ev.ldAt rfl rfl Try.underlying3 rfl (hb37.cells) (rfl)) ?_
          refine RG.vl rfl rfl rfl (Ev.fld rfl rfl fld_27_1) ?_
          refine RG.vl rfl rfl rfl (Ev.ldAt rfl rfl Try.underlying3 rfl ((hb1.ext hxwl34).cells) (rfl)) ?_
          refine RG.vl rfl rfl rfl (Ev.subI rfl rfl rfl (by omega)) ?_
          refine RG.vl rfl rfl rfl (Ev.fld rfl rfl fld_27_3) ?_
          refine RG.vl rfl rfl rfl (Ev.ldAt rfl rfl Try.underlying3 rfl ((hb1.ext hxwl34).cells) (rfl)) ?_
          refine RG.vl rfl rfl rfl (Ev.addI rfl rfl rfl (by omega)) ?_
          refine RG.vl rfl rfl rfl (Ev.assign rfl rfl) ?_
          refine RG.done ?_
          refine QW.then_ ?_
          refine CW.seq ?_
          refine CW.seq ?_
          refine CW.draw [] (.ex) 12 rfl mixed (fun wd43 hxwd43 => ?_)
          replace hxwl34 := Ex.tr hxwl34 hxwd43
          replace hE42 := Ex.tr hE42 hxwd43
          have hE44 := hxwd43
          refine AG.takeW 0 rfl (by kernel_rfl) (by kernel_rfl) rfl rfl rfl (fun _ => Ev.move rfl rfl) ?_
          refine AG.takeW 1 rfl (by kernel_rfl) (by kernel_rfl) rfl rfl rfl (fun _ => Ev.lss rfl rfl rfl) ?_
          refine AG.takeW 2 rfl (by kernel_rfl) (by kernel_rfl) rfl rfl rfl (fun _ => Ev.move rfl rfl) ?_
          refine AG.split (d := 61) rfl (fun hg45 => ?_) (fun hg45 => ?_)
          · refine AG.pass 3 rfl (by kernel_rfl) (by kernel_rfl) rfl rfl rfl ?_
            refine AG.pass 4 rfl (by kernel_rfl) (by kernel_rfl) rfl rfl rfl ?_
            refine AG.pass 5 rfl (by kernel_rfl) (by kernel_rfl) rfl rfl rfl ?_
            refine AG.pass 6 rfl (by kernel_rfl) (by kernel_rfl) rfl rfl rfl ?_
            refine AG.pass 7 rfl (by kernel_rfl) (by kernel_rfl) rfl rfl rfl ?_
            refine AG.pass 8 rfl (by kernel_rfl) (by kernel_rfl) rfl rfl rfl ?_
            refine AG.pass 9 rfl (by kernel_rfl) (by kernel_rfl) rfl rfl rfl ?_
            refine AG.pass 10 rfl (by kernel_rfl) (by kernel_rfl) rfl rfl rfl ?_
            refine AG.takeW 11 rfl (by kernel_rfl) (by kernel_rfl) rfl rfl rfl (fun _ => Ev.pickT rfl rfl rfl) ?_
            refine AG.done (by kernel_rfl) ?_
            refine QW.sub (S' := [(2, _), (8, _), (10, _), (11, _), (45, _), (46, _), (47, _), (70, _)]) ⟨rfl, rfl, rfl, rfl, rfl, rfl, rfl, rfl, trivial⟩ ?_
            refine QW.then_ ?_
            refine CW.condT rfl ?_
            refine CW.seq ?_
            refine CW.region ?_
            refine RG.vl rfl rfl rfl (Ev.assign rfl rfl) ?_
            refine RG.vl rfl rfl rfl (Ev.assign rfl rfl) ?_
            refine RG.done ?_
            refine QW.then_ ?_
            refine CW.ret ?_
            refine QW.thenRet ?_
            refine QW.blockR ?_
            refine QW.thenRet ?_
            refine QW.thenRet ?_
            refine QW.blockR ?_
            refine QW.thenRet ?_
            refine QW.ret2 rfl rfl rfl ?_
            have hB := (Ex.tr hR27 hxwl34)
            have he : errOf s l = 210 := by unfold errOf; rw [if_neg (by omega), if_neg (by simpa using hs), if_neg (by simpa using hin), if_neg]; exact not_fit0 s l i b hk (plc_bad s b (by omega))
            exact ⟨_, by rw [he], fun h => absurd h (by rw [he]; decide), hB⟩
          · refine AG.takeW 3 rfl (by kernel_rfl) (by kernel_rfl) rfl rfl rfl (fun _ => Ev.move rfl rfl) ?_
            refine AG.takeW 4 rfl (by kernel_rfl) (by kernel_rfl) rfl rfl rfl (fun _ => Ev.fld rfl rfl fld_27_2) ?_
            refine AG.take 5 rfl (by kernel_rfl) (by kernel_rfl) rfl rfl rfl (fun wq hq => Ev.ldAt rfl rfl Try.underlying3 rfl (((hb1.ext hxwl34).ext hq).cells) (rfl)) ?_
            refine AG.takeW 6 rfl (by kernel_rfl) (by kernel_rfl) rfl rfl rfl (fun _ => Ev.remI rfl rfl rfl (by omega)) ?_
            refine AG.takeW 7 rfl (by kernel_rfl) (by kernel_rfl) rfl rfl rfl (fun _ => Ev.fld rfl rfl fld_27_3) ?_
            refine AG.take 8 rfl (by kernel_rfl) (by kernel_rfl) rfl rfl rfl (fun wq hq => Ev.ldAt rfl rfl Try.underlying3 rfl (((hb1.ext hxwl34).ext hq).cells) (rfl)) ?_
            refine AG.takeW 9 rfl (by kernel_rfl) (by kernel_rfl) rfl rfl rfl (fun _ => Ev.mulI rfl rfl rfl (by omega)) ?_
            refine AG.takeW 10 rfl (by kernel_rfl) (by kernel_rfl) rfl rfl rfl (fun _ => Ev.gtr rfl rfl rfl) ?_
            refine AG.takeW 11 rfl (by kernel_rfl) (by kernel_rfl) rfl rfl rfl (fun _ => Ev.pickF rfl rfl rfl) ?_
            refine AG.done (by kernel_rfl) ?_
            refine QW.sub (S' := [(2, _), (8, _), (10, _), (11, _), (45, _), (46, _), (47, _), (70, _)]) ⟨rfl, rfl, rfl, rfl, rfl, rfl, rfl, rfl, trivial⟩ ?_
            refine QW.then_ ?_
            refine CW.condP rfl (fun hc46 => ?_) (fun hc46 => ?_)
            · refine CW.seq ?_
              refine CW.region ?_
              refine RG.vl rfl rfl rfl (Ev.assign rfl rfl) ?_
              refine RG.vl rfl rfl rfl (Ev.assign rfl rfl) ?_
              refine RG.done ?_
              refine QW.then_ ?_
              refine CW.ret ?_
              refine QW.thenRet ?_
              refine QW.blockR ?_
              refine QW.thenRet ?_
              refine QW.thenRet ?_
              refine QW.blockR ?_
              refine QW.thenRet ?_
              refine QW.ret2 rfl rfl rfl ?_
              have hB := (Ex.tr hR27 hxwl34)
              have he : errOf s l = 210 := by unfold errOf; rw [if_neg (by omega), if_neg (by simpa using hs), if_neg (by simpa using hin), if_neg]; exact not_fit0 s l i b hk (plc_bad s b (by omega))
              exact ⟨_, by rw [he], fun h => absurd h (by rw [he]; decide), hB⟩
            · refine CW.skip ?_
              refine QW.then_ ?_
              refine CW.seq ?_
              refine CW.region ?_
              refine RG.vl rfl rfl rfl (Ev.move rfl rfl) ?_
              refine RG.vl rfl rfl rfl (Ev.fld rfl rfl fld_27_2) ?_
              refine RG.vl rfl rfl rfl (Ev.ldAt rfl rfl Try.underlying3 rfl ((hb1.ext hxwl34).cells) (rfl)) ?_
              refine RG.vl rfl rfl rfl (Ev.quoI rfl rfl rfl (by omega)) ?_
              refine RG.vl rfl rfl rfl (Ev.assign rfl rfl) ?_
              refine RG.done ?_
              refine QW.then_ ?_
              refine CW.seq ?_
              refine CW.seq ?_
              refine CW.region ?_
              refine RG.vl rfl rfl rfl (Ev.move rfl rfl) ?_
              refine RG.vl rfl rfl rfl (Ev.move rfl rfl) ?_
              refine RG.vl rfl rfl rfl ((Ev.lookOk keyI rfl rfl rfl (hmp.ext hE42) Try.underlying60 Try.underlying3 inf_35).conv (found_look s (l.take i) _ hfit.1)) ?_
              refine RG.vl rfl rfl rfl (Ev.move rfl rfl) ?_
              refine RG.vl rfl rfl rfl (Ev.extract rfl rfl rfl) ?_
              refine RG.vl rfl rfl rfl (Ev.extract rfl rfl rfl) ?_
              refine RG.local_ rfl rfl rfl rfl (fun _ => rfl) rfl rfl (fun _ => rfl) inf_35 rfl rfl rfl (fun g47 w47 eg47 hx47 hb47 => ?_)
              have hle48 : wl10.heap.size ≤ g47 := by have := hxwl34.size; omega
              have hle49 : wl34.heap.size ≤ g47 := by have := hE42.size; omega
              have hle50 : w37.heap.size ≤ g47 := by have := hE44.size; omega
              have hle51 : wd43.heap.size ≤ g47 := by have := (Ex.rfl_ wd43).size; omega
              have hlt52 : g1 < g47 := by have := Blk.lt (hb1.ext hxwl34); omega
              have hlt53 : gm < g47 := by have := Mp.lt (hmp.ext hE42); omega
              have hlt54 : g37 < g47 := by have := Blk.lt (hb37.ext hE44); omega
              replace hxwl34 := Ex.tr hxwl34 hx47
              replace hE42 := Ex.tr hE42 hx47
              replace hE44 := Ex.tr hE44 hx47
              refine RG.vl rfl rfl rfl (Ev.assign rfl rfl) ?_
              refine RG.done ?_
              refine QW.then_ ?_
              refine CW.seq ?_
              refine CW.region ?_
              refine RG.vl rfl rfl rfl (Ev.move rfl rfl) ?_
              refine RG.vl rfl rfl rfl (Ev.move rfl rfl) ?_
              refine RG.splitB (d := 82) rfl (fun hg55 => ?_) (fun hg55 => ?_)
              · refine RG.pass rfl rfl rfl ?_
                refine RG.pass rfl rfl rfl ?_
                refine RG.pass rfl rfl rfl ?_
                refine RG.pass rfl rfl rfl ?_
                refine RG.vl rfl rfl rfl (Ev.pickT rfl rfl rfl) ?_
                refine RG.done ?_
                refine QW.sub (S' := [(2, _), (8, _), (10, _), (12, _), (45, _), (46, _), (47, _), (87, _)]) ⟨rfl, rfl, rfl, rfl, rfl, rfl, rfl, rfl, trivial⟩ ?_
                refine QW.then_ ?_
                refine CW.condT rfl ?_
                refine CW.seq ?_
                refine CW.region ?_
                refine RG.vl rfl rfl rfl (Ev.assign rfl rfl) ?_
                refine RG.vl rfl rfl rfl (Ev.assign rfl rfl) ?_
                refine RG.done ?_
                refine QW.then_ ?_
                refine CW.ret ?_
                refine QW.thenRet ?_
                refine QW.blockR ?_
                refine QW.thenRet ?_
                refine QW.thenRet ?_
                refine QW.blockR ?_
                refine QW.thenRet ?_
                refine QW.ret2 rfl rfl rfl ?_
                have hB := (Ex.tr hR27 hxwl34)
                have he : errOf s l = 210 := by unfold errOf; rw [if_neg (by omega), if_neg (by simpa using hs), if_neg (by simpa using hin), if_neg]; obtain ⟨j, b2, hj, hb2, he2⟩ := found_hit s l i _ hfit.1 (by rw [fbo_iff s _ _ hfit.1]; assumption); exact not_fit s l i j b b2 hk hb2 hj (by rw [he2]; exact plc_good s b (by omega) (by omega) (fun hfar => absurd ((plc_range s b2 _ hs he2).2) (by omega)))
                exact ⟨_, by rw [he], fun h => absurd h (by rw [he]; decide), hB⟩
              · refine RG.vl rfl rfl rfl (Ev.move rfl rfl) ?_
                refine RG.vl rfl rfl rfl (Ev.fld rfl rfl fld_27_0) ?_
                refine RG.vl rfl rfl rfl (Ev.ldAt rfl rfl Try.underlying3 rfl ((hb1.ext hxwl34).cells) (rfl)) ?_
                refine RG.vl rfl rfl rfl (Ev.geq rfl rfl rfl) ?_
                refine RG.vl rfl rfl rfl (Ev.pickF rfl rfl rfl) ?_
                refine RG.done ?_
                refine QW.sub (S' := [(2, _), (8, _), (10, _), (12, _), (45, _), (46, _), (47, _), (87, _)]) ⟨rfl, rfl, rfl, rfl, rfl, rfl, rfl, rfl, trivial⟩ ?_
                refine QW.then_ ?_
                refine CW.condP rfl (fun hc56 => ?_) (fun hc56 => ?_)
                · refine CW.seq ?_
                  refine CW.region ?_
                  refine RG.vl rfl rfl rfl (Ev.assign rfl rfl) ?_
                  refine RG.vl rfl rfl rfl (Ev.assign rfl rfl) ?_
                  refine RG.done ?_
                  refine QW.then_ ?_
                  refine CW.ret ?_
                  refine QW.thenRet ?_
                  refine QW.blockR ?_
                  refine QW.thenRet ?_
                  refine QW.thenRet ?_
                  refine QW.blockR ?_
                  refine QW.thenRet ?_
                  refine QW.ret2 rfl rfl rfl ?_
                  have hB := (Ex.tr hR27 hxwl34)
                  have he : errOf s l = 210 := by unfold errOf; rw [if_neg (by omega), if_neg (by simpa using hs), if_neg (by simpa using hin), if_neg]; exact not_fit0 s l i b hk (plc_far s b (by omega))
                  exact ⟨_, by rw [he], fun h => absurd h (by rw [he]; decide), hB⟩
                · refine CW.skip ?_
                  refine QW.then_ ?_
                  obtain ⟨hno, hne⟩ := found_miss s l i _ hfit.1 (by rw [fbo_iff s _ _ hfit.1]; assumption)
                  have hpg := plc_good s b (by omega) (by omega) (by omega)
                  refine CW.region ?_
                  refine RG.vl rfl rfl rfl (Ev.move rfl rfl) ?_
                  refine RG.vl rfl rfl rfl (Ev.move rfl rfl) ?_
                  refine RG.vl rfl rfl rfl (Ev.ldAgg rfl rfl Try.underlying35 rfl sz_35 rfl ((hb37.ext hE44).cells)) ?_
                  refine RG.mapPut keyI rfl rfl (.inl rfl) rfl rfl rfl Try.underlying60 Try.underlying3 (hmp.ext hE42) (hno) (fun wm57 hwm57 hbwm57 => ?_)
                  replace hb37 := Blk.far (hb37.ext hE44) hwm57 (by omega)
                  replace hb47 := Blk.far hb47 hwm57 (by omega)
                  replace hxwl34 := Wr.below hxwl34 hwm57 hle31
                  refine RG.done ?_
                  refine QW.blockN ?_
                  refine QW.then_ ?_
                  refine CW.region ?_
                  refine RG.vl rfl rfl rfl (Ev.addI rfl rfl rfl (by omega)) ?_
                  refine RG.vl rfl rfl rfl (Ev.move rfl rfl) ?_
                  refine RG.done ?_
                  refine QW.round1 (i + 1) ⟨rfl, trivial⟩ ⟨rfl, rfl, rfl, rfl, trivial⟩ ⟨⟨by omega, by rw [take_snoc l i b hk, fit_snoc]; exact ⟨hfit, by rw [hpg]; rfl, fun b' hb' => by rw [hpg]; exact hne b' hb'⟩, by rw [found_snoc s l i b _ hk hpg]; exact hbwm57⟩, hxwl34⟩ (by omega)
        · refine CW.exit ?_
          refine QW.thenExit ?_
          refine QW.thenExit ?_
          refine QW.blockHit ?_
          refine QW.then_ ?_
          refine CW.seq ?_
          refine CW.region ?_
          refine RG.vl rfl rfl rfl (Ev.move rfl rfl) ?_
          refine RG.vl rfl rfl rfl (Ev.assign rfl rfl) ?_
          refine RG.vl rfl rfl rfl (Ev.assign rfl rfl) ?_
          refine RG.done ?_
          refine QW.then_ ?_
          refine CW.ret ?_
          refine QW.ret2 rfl rfl rfl ?_
          have hB := (Ex.tr hR27 hxwl34)
          have hi2 : l.take i = l := List.take_of_length_le (by omega)
          rw [hi2] at hfit hmp
          have he : errOf s l = 0 := (err0_iff s l).2 ⟨by omega, hs, hin, hfit⟩
          exact ⟨_, by rw [he], fun _ => ⟨gm, rfl, by have := hB9.size; omega, hmp⟩, hB⟩

end Go.Proofs.Ytgjnchjkjdnidaa

/- Walks (HG). Written by program. -/
namespace Go.Proofs.Ytgjnchjkjdnidaa
open Go.RowKit
set_option maxRecDepth 100000 in
set_option maxHeartbeats 1000000 in
theorem hread_ret (s : Su) (u : Value) (l : List Br) (w : World) (hl : RdL w 3 Br.c u l) (hlen : l.length ≤ 1000) :
    Ret Try.prog 22 [s.v, u] w (fun v w' => v = .tuple #[.string ⟨(readOf s l).toArray⟩, .int .i64 (errOf s l)] ∧ Ex w w') := by
  have hB0 : Ex w w := Ex.rfl_ _
  refine Ret.of Try.func22 rfl Try.ntmps22 rfl ?_
  refine CW.seq ?_
  refine CW.region ?_
  refine RG.box rfl rfl rfl rfl rfl (fun g1 w1 eg1 hx1 hb1 => ?_)
  have hle2 : w.heap.size ≤ g1 := by have := (Ex.rfl_ w).size; omega
  have hE3 := hx1
  refine RG.vl rfl rfl rfl (Ev.assign rfl rfl) ?_
  refine RG.vl rfl rfl rfl (Ev.assign rfl rfl) ?_
  refine RG.done ?_
  refine QW.then_ ?_
  refine CW.seq ?_
  refine CW.region ?_
  refine RG.vl rfl rfl rfl (Ev.ldAgg rfl rfl Try.underlying27 rfl sz_27 rfl (hb1.cells)) ?_
  refine RG.vl rfl rfl rfl (Ev.move rfl rfl) ?_
  refine RG.call rfl rfl rfl rfl rfl rfl rfl en_20 (places_ret s _ l _ ((hl.ext hE3)) hlen) ?_
  rintro _ w4 ⟨mp4, rfl, hmap4, hx4⟩
  replace hE3 := Ex.tr hE3 hx4
  have hE5 := hx4
  refine RG.vl rfl rfl rfl (Ev.move rfl rfl) ?_
  refine RG.vl rfl rfl rfl (Ev.extract rfl rfl rfl) ?_
  refine RG.vl rfl rfl rfl (Ev.extract rfl rfl rfl) ?_
  refine RG.vl rfl rfl rfl (Ev.assign rfl rfl) ?_
  refine RG.vl rfl rfl rfl (Ev.assign rfl rfl) ?_
  refine RG.done ?_
  refine QW.then_ ?_
  refine CW.seq ?_
  refine CW.seq ?_
  refine CW.region ?_
  refine RG.vl rfl rfl rfl (Ev.move rfl rfl) ?_
  refine RG.vl rfl rfl rfl (Ev.neI rfl rfl rfl) ?_
  refine RG.done ?_
  refine QW.then_ ?_
  refine CW.condP rfl (fun hc6 => ?_) (fun hc6 => ?_)
  · refine CW.seq ?_
    refine CW.region ?_
    refine RG.vl rfl rfl rfl (Ev.move rfl rfl) ?_
    refine RG.vl rfl rfl rfl (Ev.assign rfl rfl) ?_
    refine RG.vl rfl rfl rfl (Ev.assign rfl rfl) ?_
    refine RG.done ?_
    refine QW.sub (S' := [(2, _), (4, _), (5, _), (6, _)]) ⟨rfl, rfl, rfl, rfl, trivial⟩ ?_
    refine QW.then_ ?_
    refine CW.ret ?_
    refine QW.thenRet ?_
    refine QW.ret2 rfl rfl rfl ?_
    have hB := (Ex.tr hB0 hE3)
    exact ⟨by unfold readOf; rw [if_neg (by omega)], hB⟩
  · refine CW.skip ?_
    refine QW.then_ ?_
    refine CW.seq ?_
    have he0 : errOf s l = 0 := by omega
    obtain ⟨gm, rfl, hgm, hmp⟩ := hmap4 he0
    obtain ⟨hl4, hs, hin, hfit⟩ := (err0_iff s l).1 he0
    obtain ⟨a1, a2, a3, a4, a5, a6, a7, a8, a9, a10, a11⟩ := id hs
    refine CW.region ?_
    refine RG.vl rfl rfl rfl (Ev.ldAgg rfl rfl Try.underlying27 rfl sz_27 rfl ((hb1.ext hE5).cells)) ?_
    refine RG.call rfl rfl rfl rfl rfl rfl rfl en_21 (halfBy_ret s _) ?_
    rintro _ w7 ⟨gc7, rfl, hle7, hcb7, hx7⟩
    replace hE3 := Ex.tr hE3 hx7
    replace hE5 := Ex.tr hE5 hx7
    have hE8 := hx7
    refine RG.call rfl rfl rfl rfl rfl rfl rfl en_38 (letters_ret _) ?_
    rintro _ w9 ⟨rfl, hx9⟩
    replace hE3 := Ex.tr hE3 hx9
    replace hE5 := Ex.tr hE5 hx9
    replace hE8 := Ex.tr hE8 hx9
    have hE10 := hx9
    refine RG.alloc_ rfl rfl rfl rfl inf_94 (fun g11 w11 eg11 hx11 hb11 => ?_)
    have hle12 : w.heap.size ≤ g11 := by have := hE3.size; omega
    have hle13 : w1.heap.size ≤ g11 := by have := hE5.size; omega
    have hle14 : w4.heap.size ≤ g11 := by have := hE8.size; omega
    have hle15 : w7.heap.size ≤ g11 := by have := hE10.size; omega
    have hle16 : w9.heap.size ≤ g11 := by have := (Ex.rfl_ w9).size; omega
    have hlt17 : g1 < g11 := by have := Blk.lt (hb1.ext hE5); omega
    have hlt18 : gm < g11 := by have := Mp.lt (hmp.ext hE8); omega
    have hlt19 : gc7 < g11 := by have := Blk.lt (hcb7.ext hE10); omega
    replace hE3 := Ex.tr hE3 hx11
    replace hE5 := Ex.tr hE5 hx11
    replace hE8 := Ex.tr hE8 hx11
    replace hE10 := Ex.tr hE10 hx11
    refine RG.vl rfl rfl rfl (Ev.assign rfl rfl) ?_
    refine RG.stAll (g := g11) rfl rfl rfl rfl rfl sz_94 rfl rfl rfl hb11 (fun ws20 hwws20 hbws20 => ?_)
    replace hE3 := Wr.below hE3 hwws20 hle12
    replace hE5 := Wr.below hE5 hwws20 hle13
    replace hE8 := Wr.below hE8 hwws20 hle14
    replace hE10 := Wr.below hE10 hwws20 hle15
    refine RG.done ?_
    refine QW.sub (S' := [(2, _), (4, _), (5, _), (6, _), (8, _), (9, _)]) ⟨rfl, rfl, rfl, rfl, rfl, rfl, trivial⟩ ?_
    refine QW.then_ ?_
    refine CW.seq ?_
    refine CW.region ?_
    refine RG.vl rfl rfl rfl (Ev.fld rfl rfl fld_27_0) ?_
    refine RG.vl rfl rfl rfl (Ev.ldAt rfl rfl Try.underlying3 rfl ((hb1.ext hE5).cells) (rfl)) ?_
    replace hl := (hl.ext hE3)
    replace hb1 := (hb1.ext hE5)
    replace hmp := (hmp.ext hE8)
    replace hcb7 := (hcb7.ext hE10)
    have hR21 := (Ex.tr hB0 hE3)
    have hR22 := hE5
    have hR23 := hE8
    have hR24 := hE10
    refine RG.make1 (m := s.pl.toNat) rfl rfl rfl rfl rfl rfl (by omega) Try.underlying22 inf_5 rfl (by omega) (by simp only [maxLen]; omega) (fun gT w25 egT hx25 hb25 => ?_)
    have hle26 : ws20.heap.size ≤ gT := by have := (Ex.rfl_ ws20).size; omega
    have hlt27 : g1 < gT := by have := Blk.lt hb1; omega
    have hlt28 : gm < gT := by have := Mp.lt hmp; omega
    have hlt29 : gc7 < gT := by have := Blk.lt hcb7; omega
    have hlt30 : g11 < gT := by have := Blk.lt hbws20; omega
    have hE31 := hx25
    refine RG.vl rfl rfl rfl (Ev.assign rfl rfl) ?_
    refine RG.done ?_
    refine QW.then_ ?_
    refine CW.seq ?_
    refine CW.seq ?_
    refine CW.region ?_
    refine RG.vl rfl rfl rfl (Ev.move rfl rfl) ?_
    refine RG.vl rfl rfl rfl (Ev.lenSlice rfl rfl rfl Try.underlying22) ?_
    refine RG.vl rfl rfl rfl (Ev.move rfl rfl) ?_
    refine RG.done ?_
    refine QW.then_ ?_
    refine CW.block ?_
    refine CW.loop1 [(4, _), (5, _), (6, _), (8, _), (9, _), (10, _), (30, _)] ⟨rfl, rfl, rfl, rfl, rfl, rfl, rfl, trivial⟩ (fun (k : Nat) => [(31, .int .i64 k)]) (fun k w' => (k ≤ s.pl.toNat ∧ Blk w' gT 5 (txt s l k)) ∧ Ex ws20 w') (fun k => s.pl.toNat - k) (0) ⟨rfl, trivial⟩ ⟨⟨Nat.zero_le _, by rw [← txt_zero]; exact hb25⟩, hE31⟩ ?_
    rintro k wl32 ⟨⟨hkp, hT⟩, hxwl32⟩
    refine CW.sub (S' := [(31, _), (4, _), (5, _), (6, _), (8, _), (9, _), (10, _), (30, _)]) ⟨rfl, rfl, rfl, rfl, rfl, rfl, rfl, rfl, trivial⟩ ?_
    refine CW.seq ?_
    refine CW.region ?_
    refine RG.vl rfl rfl rfl (Ev.lss rfl rfl rfl) ?_
    refine RG.done ?_
    refine QW.then_ ?_
    refine CW.seq ?_
    refine CW.condP rfl (fun hc33 => ?_) (fun hc33 => ?_)
    · refine CW.skip ?_
      refine QW.then_ ?_
      refine CW.seq ?_
      refine CW.block ?_
      refine CW.seq ?_
      refine CW.region ?_
      refine RG.vl rfl rfl rfl (Ev.move rfl rfl) ?_
      refine RG.vl rfl rfl rfl (Ev.assign rfl rfl) ?_
      refine RG.done ?_
      refine QW.then_ ?_
      refine CW.seq ?_
      refine CW.region ?_
      refine RG.vl rfl rfl rfl (Ev.move rfl rfl) ?_
      refine RG.vl rfl rfl rfl (Ev.move rfl rfl) ?_
      refine RG.vl rfl rfl rfl (Ev.idxA (i := 2) rfl rfl rfl Try.underlying94 sz_93 (by omega)) ?_
      refine RG.vl rfl rfl rfl (Ev.idxA (i := 2) rfl rfl rfl Try.underlying93 sz_5 (by omega)) ?_
      refine RG.vl rfl rfl rfl (Ev.ldAA rfl rfl Try.underlying5 rfl ((hbws20.ext hxwl32).cells) (rfl)) ?_
      refine RG.vl rfl rfl rfl (Ev.idxN rfl rfl rfl Try.underlying22 sz_5 (by omega)) ?_
      refine RG.st (g := gT) (k := _) rfl rfl rfl rfl rfl sz_5 rfl hT (by rw [Nat.blt_eq, txt_len]; omega) (fun ws34 hwws34 hbws34 => ?_)
      replace hxwl32 := Wr.below hxwl32 hwws34 hle26
      refine RG.done ?_
      refine QW.then_ ?_
      refine CW.seq ?_
      refine CW.region ?_
      refine RG.vl rfl rfl rfl (Ev.move rfl rfl) ?_
      refine RG.vl rfl rfl rfl (Ev.move rfl rfl) ?_
      refine RG.vl rfl rfl rfl ((Ev.lookOk keyI rfl rfl rfl (hmp.ext hxwl32) Try.underlying60 Try.underlying3 inf_35).conv (found_look s l _ hfit.1)) ?_
      refine RG.vl rfl rfl rfl (Ev.move rfl rfl) ?_
      refine RG.vl rfl rfl rfl (Ev.extract rfl rfl rfl) ?_
      refine RG.vl rfl rfl rfl (Ev.extract rfl rfl rfl) ?_
      refine RG.local_ rfl rfl rfl rfl (fun _ => rfl) rfl rfl (fun _ => rfl) inf_35 rfl rfl rfl (fun g35 w35 eg35 hx35 hb35 => ?_)
      have hle36 : ws20.heap.size ≤ g35 := by have := hxwl32.size; omega
      have hle37 : ws34.heap.size ≤ g35 := by have := (Ex.rfl_ ws34).size; omega
      have hlt38 : g1 < g35 := by have := Blk.lt (hb1.ext hxwl32); omega
      have hlt39 : gm < g35 := by have := Mp.lt (hmp.ext hxwl32); omega
      have hlt40 : gc7 < g35 := by have := Blk.lt (hcb7.ext hxwl32); omega
      have hlt41 : g11 < g35 := by have := Blk.lt (hbws20.ext hxwl32); omega
      have hlt42 : gT < g35 := by have := Blk.lt hbws34; omega
      replace hxwl32 := Ex.tr hxwl32 hx35
      have hE43 := hx35
      refine RG.vl rfl rfl rfl (Ev.assign rfl rfl) ?_
      refine RG.done ?_
      refine QW.sub (S' := [(4, _), (5, _), (6, _), (8, _), (9, _), (10, _), (11, _), (12, _), (13, _), (30, _), (31, _)]) ⟨rfl, rfl, rfl, rfl, rfl, rfl, rfl, rfl, rfl, rfl, rfl, trivial⟩ ?_
      refine QW.then_ ?_
      refine CW.seq ?_
      refine CW.region ?_
      refine RG.vl rfl rfl rfl (Ev.move rfl rfl) ?_
      refine RG.done ?_
      refine QW.then_ ?_
      refine CW.cond rfl (fun hc44 => ?_) (fun hc44 => ?_)
      · refine CW.draw [] (.row gT) 15 rfl mixed (fun wd45 hxwd45 => ?_)
        replace hxwl32 := Ex.tr hxwl32 hxwd45
        replace hE43 := Ex.tr hE43 hxwd45
        have hE46 := hxwd45
        refine AG.takeW 0 rfl (by kernel_rfl) (by kernel_rfl) rfl rfl rfl (fun _ => Ev.move rfl rfl) ?_
        refine AG.takeW 1 rfl (by kernel_rfl) (by kernel_rfl) rfl rfl rfl (fun _ => Ev.move rfl rfl) ?_
        refine AG.takeW 2 rfl (by kernel_rfl) (by kernel_rfl) rfl rfl rfl (fun _ => Ev.move rfl rfl) ?_
        refine AG.takeW 3 rfl (by kernel_rfl) (by kernel_rfl) rfl rfl rfl (fun _ => Ev.fld rfl rfl fld_35_1) ?_
        refine AG.take 4 rfl (by kernel_rfl) (by kernel_rfl) rfl rfl rfl (fun wq hq => Ev.ldAt rfl rfl Try.underlying3 rfl ((Blk.grown (hb35.ext hE46) hq (by simp; omega)).cells) (rfl)) ?_
        refine AG.takeW 6 rfl (by kernel_rfl) (by kernel_rfl) rfl rfl rfl (fun _ => Ev.move rfl rfl) ?_
        refine AG.takeW 7 rfl (by kernel_rfl) (by kernel_rfl) rfl rfl rfl (fun _ => Ev.fld rfl rfl fld_35_2) ?_
        refine AG.take 8 rfl (by kernel_rfl) (by kernel_rfl) rfl rfl rfl (fun wq hq => Ev.ldAt rfl rfl Try.underlying3 rfl ((Blk.grown (hb35.ext hE46) hq (by simp; omega)).cells) (rfl)) ?_
        refine AG.only 5 rfl (by kernel_rfl) ?_
        refine RG.call rfl rfl rfl rfl rfl rfl rfl en_37 (half_ret s _ gc7 _ (hcb7.ext hxwl32)) ?_
        rintro _ w48 ⟨rfl, hx48⟩
        replace hxwl32 := Ex.tr hxwl32 hx48
        replace hE43 := Ex.tr hE43 hx48
        replace hE46 := Ex.tr hE46 hx48
        have hE49 := hx48
        refine RG.done ?_
        refine QW.an (fun _ => Rr.of_ex hE49) ?_
        refine AG.takeW 10 rfl (by kernel_rfl) (by kernel_rfl) rfl rfl rfl (fun _ => Ev.idxA rfl rfl rfl Try.underlying94 sz_93 (half_lt _ _)) ?_
        refine AG.only 9 rfl (by kernel_rfl) ?_
        refine RG.call rfl rfl rfl rfl rfl rfl rfl en_37 (half_ret s _ gc7 _ (hcb7.ext hxwl32)) ?_
        rintro _ w51 ⟨rfl, hx51⟩
        replace hxwl32 := Ex.tr hxwl32 hx51
        replace hE43 := Ex.tr hE43 hx51
        replace hE46 := Ex.tr hE46 hx51
        replace hE49 := Ex.tr hE49 hx51
        have hE52 := hx51
        refine RG.done ?_
        refine QW.an (fun _ => Rr.of_ex hE52) ?_
        refine AG.takeW 11 rfl (by kernel_rfl) (by kernel_rfl) rfl rfl rfl (fun _ => Ev.idxA rfl rfl rfl Try.underlying93 sz_5 (half_lt _ _)) ?_
        refine AG.take 12 rfl (by kernel_rfl) (by kernel_rfl) rfl rfl rfl (fun wq hq => Ev.ldAA rfl rfl Try.underlying5 rfl ((Blk.grown (hbws20.ext hxwl32) hq (by simp; omega)).cells) (letter_tbl s _ (by omega))) ?_
        refine AG.takeW 13 rfl (by kernel_rfl) (by kernel_rfl) rfl rfl rfl (fun _ => Ev.idxN rfl rfl rfl Try.underlying22 sz_5 (by omega)) ?_
        refine AG.only 14 rfl (by kernel_rfl) ?_
        refine RG.st (g := gT) (k := _) rfl rfl rfl rfl rfl sz_5 rfl (hbws34.ext hE43) (by rw [Nat.blt_eq, List.length_set, txt_len]; omega) (fun ws54 hwws54 hbws54 => ?_)
        replace hb35 := Blk.far (hb35.ext hE46) hwws54 (by omega)
        replace hxwl32 := Wr.below hxwl32 hwws54 hle26
        refine RG.done ?_
        refine QW.an (fun _ => Rr.of_wr hwws54) ?_
        refine AG.done (by kernel_rfl) ?_
        refine QW.sub (S' := [(4, _), (5, _), (6, _), (8, _), (9, _), (10, _), (30, _), (31, _)]) ⟨rfl, rfl, rfl, rfl, rfl, rfl, rfl, rfl, trivial⟩ ?_
        refine QW.blockN ?_
        refine QW.then_ ?_
        refine CW.region ?_
        refine RG.vl rfl rfl rfl (Ev.addI rfl rfl rfl (by omega)) ?_
        refine RG.vl rfl rfl rfl (Ev.move rfl rfl) ?_
        refine RG.done ?_
        refine QW.round1 (k + 1) ⟨rfl, trivial⟩ ⟨rfl, rfl, rfl, rfl, rfl, rfl, rfl, trivial⟩ ⟨⟨by omega, by rw [← txt_set2 s l k (.int .u8 63) (.int .u8 (letter s (fb s l k)).toNat) (by rw [(letterAt_fb s l k (by assumption)).1])]; exact hbws54⟩, hxwl32⟩ (by omega)
      · refine CW.skip ?_
        refine QW.blockN ?_
        refine QW.then_ ?_
        refine CW.region ?_
        refine RG.vl rfl rfl rfl (Ev.addI rfl rfl rfl (by omega)) ?_
        refine RG.vl rfl rfl rfl (Ev.move rfl rfl) ?_
        refine RG.done ?_
        refine QW.round1 (k + 1) ⟨rfl, trivial⟩ ⟨rfl, rfl, rfl, rfl, rfl, rfl, rfl, trivial⟩ ⟨⟨by omega, by rw [← txt_set s l k (.int .u8 63) (by rw [letterAt_no s l k (by assumption)]; rfl)]; exact (hbws34.ext hE43)⟩, hxwl32⟩ (by omega)
    · refine CW.exit ?_
      refine QW.thenExit ?_
      refine QW.thenExit ?_
      refine QW.blockHit ?_
      refine QW.then_ ?_
      refine CW.seq ?_
      obtain rfl : k = s.pl.toNat := by omega
      have hT9 := txt_rd s l hT a2
      refine CW.region ?_
      refine RG.vl rfl rfl rfl (Ev.move rfl rfl) ?_
      refine RG.vl rfl rfl rfl (Ev.toStr rfl rfl Try.underlying22 Try.underlying5 Try.underlying9 (hT9)) ?_
      refine RG.vl rfl rfl rfl (Ev.assign rfl rfl) ?_
      refine RG.vl rfl rfl rfl (Ev.assign rfl rfl) ?_
      refine RG.done ?_
      refine QW.then_ ?_
      refine CW.ret ?_
      refine QW.ret2 rfl rfl rfl ?_
      have hB := (Ex.tr hR21 hxwl32)
      exact ⟨by unfold readOf; rw [if_pos he0, he0], hB⟩

set_option maxRecDepth 100000 in
set_option maxHeartbeats 1000000 in
theorem margin_ret (s : Su) (u : Value) (l : List Br) (w : World) (hl : RdL w 3 Br.c u l) (hlen : l.length ≤ 1000) :
    Ret Try.prog 10 [s.v, u] w (fun v w' => v = .tuple #[.int .i64 (marginR s l), .int .i64 (errOf s l)] ∧ Ex w w') := by
  have hB0 : Ex w w := Ex.rfl_ _
  refine Ret.of Try.func10 rfl Try.ntmps10 rfl ?_
  refine CW.seq ?_
  refine CW.region ?_
  refine RG.box rfl rfl rfl rfl rfl (fun g1 w1 eg1 hx1 hb1 => ?_)
  have hle2 : w.heap.size ≤ g1 := by have := (Ex.rfl_ w).size; omega
  have hE3 := hx1
  refine RG.vl rfl rfl rfl (Ev.assign rfl rfl) ?_
  refine RG.vl rfl rfl rfl (Ev.assign rfl rfl) ?_
  refine RG.done ?_
  refine QW.then_ ?_
  refine CW.seq ?_
  refine CW.region ?_
  refine RG.vl rfl rfl rfl (Ev.ldAgg rfl rfl Try.underlying27 rfl sz_27 rfl (hb1.cells)) ?_
  refine RG.vl rfl rfl rfl (Ev.move rfl rfl) ?_
  refine RG.call rfl rfl rfl rfl rfl rfl rfl en_20 (places_ret s _ l _ ((hl.ext hE3)) hlen) ?_
  rintro _ w4 ⟨mp4, rfl, hmap4, hx4⟩
  replace hE3 := Ex.tr hE3 hx4
  have hE5 := hx4
  refine RG.vl rfl rfl rfl (Ev.move rfl rfl) ?_
  refine RG.vl rfl rfl rfl (Ev.extract rfl rfl rfl) ?_
  refine RG.vl rfl rfl rfl (Ev.extract rfl rfl rfl) ?_
  refine RG.vl rfl rfl rfl (Ev.assign rfl rfl) ?_
  refine RG.vl rfl rfl rfl (Ev.assign rfl rfl) ?_
  refine RG.done ?_
  refine QW.then_ ?_
  refine CW.seq ?_
  refine CW.seq ?_
  refine CW.region ?_
  refine RG.vl rfl rfl rfl (Ev.move rfl rfl) ?_
  refine RG.vl rfl rfl rfl (Ev.neI rfl rfl rfl) ?_
  refine RG.done ?_
  refine QW.then_ ?_
  refine CW.condP rfl (fun hc6 => ?_) (fun hc6 => ?_)
  · refine CW.seq ?_
    refine CW.region ?_
    refine RG.vl rfl rfl rfl (Ev.move rfl rfl) ?_
    refine RG.vl rfl rfl rfl (Ev.assign rfl rfl) ?_
    refine RG.vl rfl rfl rfl (Ev.assign rfl rfl) ?_
    refine RG.done ?_
    refine QW.sub (S' := [(2, _), (4, _), (5, _), (6, _)]) ⟨rfl, rfl, rfl, rfl, trivial⟩ ?_
    refine QW.then_ ?_
    refine CW.ret ?_
    refine QW.thenRet ?_
    refine QW.ret2 rfl rfl rfl ?_
    have hB := (Ex.tr hB0 hE3)
    exact ⟨by unfold marginR; rw [if_neg (by omega)], hB⟩
  · refine CW.skip ?_
    refine QW.then_ ?_
    refine CW.seq ?_
    have he0 : errOf s l = 0 := by omega
    obtain ⟨gm, rfl, hgm, hmp⟩ := hmap4 he0
    obtain ⟨hl4, hs, hin, hfit⟩ := (err0_iff s l).1 he0
    obtain ⟨a1, a2, a3, a4, a5, a6, a7, a8, a9, a10, a11⟩ := id hs
    refine CW.region ?_
    refine RG.vl rfl rfl rfl (Ev.ldAgg rfl rfl Try.underlying27 rfl sz_27 rfl ((hb1.ext hE5).cells)) ?_
    refine RG.call rfl rfl rfl rfl rfl rfl rfl en_21 (halfBy_ret s _) ?_
    rintro _ w7 ⟨gc7, rfl, hle7, hcb7, hx7⟩
    replace hE3 := Ex.tr hE3 hx7
    replace hE5 := Ex.tr hE5 hx7
    have hE8 := hx7
    refine RG.vl rfl rfl rfl (Ev.assign rfl rfl) ?_
    refine RG.done ?_
    refine QW.sub (S' := [(2, _), (4, _), (5, _), (6, _), (8, _)]) ⟨rfl, rfl, rfl, rfl, rfl, trivial⟩ ?_
    refine QW.then_ ?_
    refine CW.seq ?_
    refine CW.region ?_
    refine RG.vl rfl rfl rfl (Ev.assign rfl rfl) ?_
    refine RG.done ?_
    refine QW.then_ ?_
    refine CW.seq ?_
    refine CW.seq ?_
    refine CW.region ?_
    refine RG.vl rfl rfl rfl (Ev.move rfl rfl) ?_
    replace hl := (hl.ext hE3)
    replace hb1 := (hb1.ext hE5)
    replace hmp := (hmp.ext hE8)
    have hR10 := (Ex.tr hB0 hE3)
    have hR11 := hE5
    have hR12 := hE8
    refine RG.mRange rfl rfl rfl rfl rfl Try.underlying60 hmp (fun gI w9 egI hx9 hb9 => ?_)
    have hle13 : w7.heap.size ≤ gI := by have := (Ex.rfl_ w7).size; omega
    have hlt14 : g1 < gI := by have := Blk.lt hb1; omega
    have hlt15 : gm < gI := by have := Mp.lt hmp; omega
    have hlt16 : gc7 < gI := by have := Blk.lt hcb7; omega
    have hE17 := hx9
    refine RG.done ?_
    refine QW.then_ ?_
    refine CW.block ?_
    refine CW.loop2 [(2, _), (4, _), (5, _), (8, _), (27, _)] ⟨rfl, rfl, rfl, rfl, rfl, trivial⟩ (fun (seen : List Nat) (m : Int) => [(9, .int .i64 m)]) (fun seen m w' => (seen.Nodup ∧ (∀ i ∈ seen, i < l.length) ∧ m = seenMin s l seen ∧ It w' gI gm (foundOf s l).length seen) ∧ Ex w7 w') (fun seen m => l.length - seen.length) ([]) (1048576) ⟨rfl, trivial⟩ ⟨⟨List.nodup_nil, by simp, rfl, hb9⟩, hE17⟩ ?_
    rintro seen m wl18 ⟨⟨hnd, hlt, hm, hit⟩, hxwl18⟩
    refine CW.sub (S' := [(9, _), (2, _), (4, _), (5, _), (8, _), (27, _)]) ⟨rfl, rfl, rfl, rfl, rfl, rfl, trivial⟩ ?_
    refine CW.seq ?_
    refine CW.region ?_
    refine RG.mNext rfl rfl rfl rfl rfl (hmp.ext hxwl18) hit (by omega) (fun hall => ?_) (fun ix kx vx wn19 hp hns hwn19 hiwn19 hmwn19 => ?_)
    · refine RG.vl rfl rfl rfl (Ev.extract rfl rfl rfl) ?_
      refine RG.done ?_
      refine QW.then_ ?_
      refine CW.seq ?_
      refine CW.condF rfl ?_
      refine CW.exit ?_
      refine QW.thenExit ?_
      refine QW.thenExit ?_
      refine QW.blockHit ?_
      refine QW.then_ ?_
      refine CW.seq ?_
      refine CW.region ?_
      refine RG.vl rfl rfl rfl (Ev.move rfl rfl) ?_
      refine RG.vl rfl rfl rfl (Ev.assign rfl rfl) ?_
      refine RG.vl rfl rfl rfl (Ev.assign rfl rfl) ?_
      refine RG.done ?_
      refine QW.then_ ?_
      refine CW.ret ?_
      refine QW.ret2 rfl rfl rfl ?_
      have hB := (Ex.tr hR10 hxwl18)
      exact ⟨by unfold marginR; rw [if_pos he0, hm, seen_all s l seen hnd hlt (by rw [found_len] at hall; exact hall), he0], hB⟩
    · replace hxwl18 := Wr.below hxwl18 hwn19 hle13
      refine RG.vl rfl rfl rfl (Ev.extract rfl rfl rfl) ?_
      refine RG.done ?_
      refine QW.then_ ?_
      refine CW.seq ?_
      refine CW.condT rfl ?_
      refine CW.skip ?_
      refine QW.then_ ?_
      refine CW.block ?_
      refine CW.seq ?_
      obtain ⟨b, hb, hq, rfl⟩ := found_at s l ix kx vx hfit.1 hp
      obtain ⟨b1, b2, b3, b4, b5, b6⟩ := hin b (List.mem_of_getElem? hb)
      obtain ⟨q1, q2⟩ := plc_range s b kx hs hq
      have hkp := kpi s kx hs q1 (by omega)
      have hnd2 : (seen ++ [ix]).Nodup := by rw [List.nodup_append]; exact ⟨hnd, by simp, fun a ha c hc e => by simp at hc; subst hc; subst e; exact hns ha⟩
      have hlt2 : ∀ i ∈ seen ++ [ix], i < l.length := fun i hi => by rcases List.mem_append.1 hi with h | h; exact hlt i h; simp at h; subst h; exact (List.getElem?_eq_some_iff.1 hb).1
      have hln := nodup_len hnd2 hlt2
      rw [List.length_append, List.length_singleton] at hln
      refine CW.region ?_
      refine RG.vl rfl rfl rfl (Ev.mEntry rfl rfl hmwn19 hiwn19 hp) ?_
      refine RG.vl rfl rfl rfl (Ev.extract rfl rfl rfl) ?_
      refine RG.vl rfl rfl rfl (Ev.extract rfl rfl rfl) ?_
      refine RG.alloc_ rfl rfl rfl rfl inf_35 (fun g20 w20 eg20 hx20 hb20 => ?_)
      have hle21 : w7.heap.size ≤ g20 := by have := hxwl18.size; omega
      have hle22 : wn19.heap.size ≤ g20 := by have := (Ex.rfl_ wn19).size; omega
      have hlt23 : g1 < g20 := by have := Blk.lt (hb1.ext hxwl18); omega
      have hlt24 : gm < g20 := by have := Mp.lt hmwn19; omega
      have hlt25 : gc7 < g20 := by have := Blk.lt (hcb7.ext hxwl18); omega
      have hlt26 : gI < g20 := by have := It.lt hiwn19; omega
      replace hxwl18 := Ex.tr hxwl18 hx20
      have hE27 := hx20
      refine RG.vl rfl rfl rfl (Ev.assign rfl rfl) ?_
      refine RG.stAll (g := g20) rfl rfl rfl rfl rfl sz_35 rfl rfl rfl hb20 (fun ws28 hwws28 hbws28 => ?_)
      replace hxwl18 := Wr.below hxwl18 hwws28 hle21
      replace hE27 := Wr.below hE27 hwws28 hle22
      refine RG.done ?_
      refine QW.then_ ?_
      refine CW.seq ?_
      refine CW.region ?_
      refine RG.vl rfl rfl rfl (Ev.fld rfl rfl fld_35_0) ?_
      refine RG.vl rfl rfl rfl (Ev.ldAt rfl rfl Try.underlying3 rfl (hbws28.cells) (rfl)) ?_
      refine RG.vl rfl rfl rfl (Ev.fld rfl rfl fld_27_1) ?_
      refine RG.vl rfl rfl rfl (Ev.ldAt rfl rfl Try.underlying3 rfl ((hb1.ext hxwl18).cells) (rfl)) ?_
      refine RG.vl rfl rfl rfl (Ev.move rfl rfl) ?_
      refine RG.vl rfl rfl rfl (Ev.fld rfl rfl fld_27_2) ?_
      refine RG.vl rfl rfl rfl (Ev.ldAt rfl rfl Try.underlying3 rfl ((hb1.ext hxwl18).cells) (rfl)) ?_
      refine RG.vl rfl rfl rfl (Ev.mulI rfl rfl rfl (by omega)) ?_
      refine RG.vl rfl rfl rfl (Ev.addI rfl rfl rfl (by omega)) ?_
      refine RG.vl rfl rfl rfl (Ev.subI rfl rfl rfl (by omega)) ?_
      refine RG.vl rfl rfl rfl (Ev.assign rfl rfl) ?_
      refine RG.done ?_
      refine QW.sub (S' := [(2, _), (4, _), (5, _), (8, _), (9, _), (11, _), (12, _), (27, _)]) ⟨rfl, rfl, rfl, rfl, rfl, rfl, rfl, rfl, trivial⟩ ?_
      refine QW.then_ ?_
      refine CW.seq ?_
      refine CW.region ?_
      refine RG.vl rfl rfl rfl (Ev.move rfl rfl) ?_
      refine RG.vl rfl rfl rfl (Ev.fld rfl rfl fld_27_3) ?_
      refine RG.vl rfl rfl rfl (Ev.ldAt rfl rfl Try.underlying3 rfl ((hb1.ext hxwl18).cells) (rfl)) ?_
      refine RG.vl rfl rfl rfl (Ev.move rfl rfl) ?_
      refine RG.vl rfl rfl rfl (Ev.move rfl rfl) ?_
      refine RG.vl rfl rfl rfl (Ev.negI rfl rfl (by omega)) ?_
      refine RG.vl rfl rfl rfl (Ev.max2 rfl rfl rfl rfl) ?_
      refine RG.vl rfl rfl rfl (Ev.subI rfl rfl rfl (by omega)) ?_
      refine RG.vl rfl rfl rfl (Ev.min2 rfl rfl rfl rfl) ?_
      refine RG.vl rfl rfl rfl (Ev.assign rfl rfl) ?_
      refine RG.done ?_
      refine QW.then_ ?_
      refine CW.seq ?_
      refine CW.region ?_
      refine RG.vl rfl rfl rfl (Ev.fld rfl rfl fld_35_1) ?_
      refine RG.vl rfl rfl rfl (Ev.ldAt rfl rfl Try.underlying3 rfl (hbws28.cells) (rfl)) ?_
      refine RG.vl rfl rfl rfl (Ev.fld rfl rfl fld_35_2) ?_
      refine RG.vl rfl rfl rfl (Ev.ldAt rfl rfl Try.underlying3 rfl (hbws28.cells) (rfl)) ?_
      refine RG.vl rfl rfl rfl (Ev.buildA (len := 2) (xs := [.tmp 53, .tmp 55]) rfl rfl rfl rfl Try.underlying65 sz_3 inf_65 rfl rfl) ?_
      refine RG.vl rfl rfl rfl (Ev.move rfl rfl) ?_
      refine RG.done ?_
      refine QW.sub (S' := [(2, _), (4, _), (5, _), (8, _), (9, _), (27, _), (56, _), (57, _)]) ⟨rfl, rfl, rfl, rfl, rfl, rfl, rfl, rfl, trivial⟩ ?_
      refine QW.then_ ?_
      refine CW.block ?_
      replace hl := (hl.ext hxwl18)
      replace hb1 := (hb1.ext hxwl18)
      replace hmwn19 := (hmwn19.ext hE27)
      replace hcb7 := (hcb7.ext hxwl18)
      replace hiwn19 := (hiwn19.ext hE27)
      have hR29 := (Ex.tr hR10 hxwl18)
      have hR30 := (Ex.tr hR11 hxwl18)
      have hR31 := (Ex.tr hR12 hxwl18)
      have hR32 := hxwl18
      refine CW.loop2 [(2, _), (4, _), (5, _), (8, _), (27, _), (56, _)] ⟨rfl, rfl, rfl, rfl, rfl, rfl, trivial⟩ (fun (j : Nat) (x : Int) => [(57, .int .i64 j), (9, .int .i64 x)]) (fun j x w' => (j ≤ 2 ∧ x = ([b.up, b.dn].take j).foldl (fun m h => min m (room s h)) (min m (posB s b kx))) ∧ Ex ws28 w') (fun j x => 2 - j) (0) (_) ⟨rfl, rfl, trivial⟩ ⟨⟨by omega, by simp only [List.take_zero, List.foldl_nil]; unfold posB; omega⟩, (Ex.rfl_ _)⟩ ?_
      rintro j x wl33 ⟨⟨hj, hx⟩, hxwl33⟩
      refine CW.sub (S' := [(57, _), (9, _), (2, _), (4, _), (5, _), (8, _), (27, _), (56, _)]) ⟨rfl, rfl, rfl, rfl, rfl, rfl, rfl, rfl, trivial⟩ ?_
      refine CW.seq ?_
      refine CW.region ?_
      refine RG.vl rfl rfl rfl (Ev.lss rfl rfl rfl) ?_
      refine RG.done ?_
      refine QW.then_ ?_
      refine CW.seq ?_
      refine CW.condP rfl (fun hc34 => ?_) (fun hc34 => ?_)
      · refine CW.skip ?_
        refine QW.then_ ?_
        refine CW.seq ?_
        refine CW.block ?_
        refine CW.seq ?_
        obtain ⟨h, hh2, hh, hh3, hh4⟩ : ∃ h, [b.up, b.dn][j]? = some h ∧ [Value.int .i64 b.up, .int .i64 b.dn][j]? = some (.int .i64 h) ∧ 0 ≤ h ∧ h ≤ 1048576 := by rcases (show j = 0 ∨ j = 1 by omega) with rfl | rfl; exact ⟨_, rfl, rfl, by omega, by omega⟩; exact ⟨_, rfl, rfl, by omega, by omega⟩
        refine CW.region ?_
        refine RG.vl rfl rfl rfl (Ev.idxArr rfl rfl rfl Try.underlying65 Try.underlying3 rfl sz_3 (by omega) (hh)) ?_
        refine RG.vl rfl rfl rfl (Ev.assign rfl rfl) ?_
        refine RG.done ?_
        refine QW.then_ ?_
        refine CW.seq ?_
        refine CW.region ?_
        refine RG.vl rfl rfl rfl (Ev.move rfl rfl) ?_
        refine RG.vl rfl rfl rfl (Ev.move rfl rfl) ?_
        refine RG.call rfl rfl rfl rfl rfl rfl rfl en_37 (half_ret s _ gc7 _ (hcb7.ext hxwl33)) ?_
        rintro _ w35 ⟨rfl, hx35⟩
        replace hxwl33 := Ex.tr hxwl33 hx35
        have hE36 := hx35
        refine RG.done ?_
        refine QW.then_ ?_
        refine CW.block ?_
        refine CW.seq ?_
        refine CW.region ?_
        refine RG.vl rfl rfl rfl (Ev.eqI rfl rfl rfl) ?_
        refine RG.vl rfl rfl rfl (Ev.assign rfl rfl) ?_
        refine RG.done ?_
        refine QW.then_ ?_
        refine CW.condP rfl (fun hc37 => ?_) (fun hc37 => ?_)
        · refine CW.region ?_
          refine RG.vl rfl rfl rfl (Ev.move rfl rfl) ?_
          refine RG.vl rfl rfl rfl (Ev.fld rfl rfl fld_27_4) ?_
          refine RG.vl rfl rfl rfl (Ev.ldAt rfl rfl Try.underlying3 rfl ((hb1.ext hxwl33).cells) (rfl)) ?_
          refine RG.vl rfl rfl rfl (Ev.move rfl rfl) ?_
          refine RG.vl rfl rfl rfl (Ev.subI rfl rfl rfl (by omega)) ?_
          refine RG.vl rfl rfl rfl (Ev.min2 rfl rfl rfl rfl) ?_
          refine RG.vl rfl rfl rfl (Ev.assign rfl rfl) ?_
          refine RG.done ?_
          refine QW.sub (S' := [(2, _), (4, _), (5, _), (8, _), (9, _), (27, _), (56, _), (57, _)]) ⟨rfl, rfl, rfl, rfl, rfl, rfl, rfl, rfl, trivial⟩ ?_
          refine QW.blockN ?_
          refine QW.blockN ?_
          refine QW.then_ ?_
          refine CW.region ?_
          refine RG.vl rfl rfl rfl (Ev.addI rfl rfl rfl (by omega)) ?_
          refine RG.vl rfl rfl rfl (Ev.move rfl rfl) ?_
          refine RG.done ?_
          refine QW.round2 (j + 1) (min x (s.lo - h)) ⟨rfl, rfl, trivial⟩ ⟨rfl, rfl, rfl, rfl, rfl, rfl, trivial⟩ ⟨⟨by omega, by rw [take_snoc _ j h hh2, List.foldl_append, ← hx]; show _ = min x (room s h); rw [half0 s h (by assumption)]⟩, hxwl33⟩ (by omega)
        · refine CW.seq ?_
          refine CW.region ?_
          refine RG.vl rfl rfl rfl (Ev.eqI rfl rfl rfl) ?_
          refine RG.vl rfl rfl rfl (Ev.assign rfl rfl) ?_
          refine RG.done ?_
          refine QW.then_ ?_
          refine CW.condP rfl (fun hc38 => ?_) (fun hc38 => ?_)
          · refine CW.region ?_
            refine RG.vl rfl rfl rfl (Ev.move rfl rfl) ?_
            refine RG.vl rfl rfl rfl (Ev.move rfl rfl) ?_
            refine RG.vl rfl rfl rfl (Ev.fld rfl rfl fld_27_5) ?_
            refine RG.vl rfl rfl rfl (Ev.ldAt rfl rfl Try.underlying3 rfl ((hb1.ext hxwl33).cells) (rfl)) ?_
            refine RG.vl rfl rfl rfl (Ev.subI rfl rfl rfl (by omega)) ?_
            refine RG.vl rfl rfl rfl (Ev.min2 rfl rfl rfl rfl) ?_
            refine RG.vl rfl rfl rfl (Ev.assign rfl rfl) ?_
            refine RG.done ?_
            refine QW.sub (S' := [(2, _), (4, _), (5, _), (8, _), (9, _), (27, _), (56, _), (57, _)]) ⟨rfl, rfl, rfl, rfl, rfl, rfl, rfl, rfl, trivial⟩ ?_
            refine QW.blockN ?_
            refine QW.blockN ?_
            refine QW.then_ ?_
            refine CW.region ?_
            refine RG.vl rfl rfl rfl (Ev.addI rfl rfl rfl (by omega)) ?_
            refine RG.vl rfl rfl rfl (Ev.move rfl rfl) ?_
            refine RG.done ?_
            refine QW.round2 (j + 1) (min x (h - s.hi)) ⟨rfl, rfl, trivial⟩ ⟨rfl, rfl, rfl, rfl, rfl, rfl, trivial⟩ ⟨⟨by omega, by rw [take_snoc _ j h hh2, List.foldl_append, ← hx]; show _ = min x (room s h); rw [half1 s h (by assumption)]⟩, hxwl33⟩ (by omega)
          · refine CW.region ?_
            refine RG.vl rfl rfl rfl (Ev.move rfl rfl) ?_
            refine RG.vl rfl rfl rfl (Ev.fld rfl rfl fld_27_5) ?_
            refine RG.vl rfl rfl rfl (Ev.ldAt rfl rfl Try.underlying3 rfl ((hb1.ext hxwl33).cells) (rfl)) ?_
            refine RG.vl rfl rfl rfl (Ev.subI rfl rfl rfl (by omega)) ?_
            refine RG.vl rfl rfl rfl (Ev.move rfl rfl) ?_
            refine RG.vl rfl rfl rfl (Ev.subI rfl rfl rfl (by omega)) ?_
            refine RG.vl rfl rfl rfl (Ev.move rfl rfl) ?_
            refine RG.vl rfl rfl rfl (Ev.fld rfl rfl fld_27_4) ?_
            refine RG.vl rfl rfl rfl (Ev.ldAt rfl rfl Try.underlying3 rfl ((hb1.ext hxwl33).cells) (rfl)) ?_
            refine RG.vl rfl rfl rfl (Ev.addI rfl rfl rfl (by omega)) ?_
            refine RG.vl rfl rfl rfl (Ev.subI rfl rfl rfl (by omega)) ?_
            refine RG.vl rfl rfl rfl (Ev.min3 rfl rfl rfl rfl rfl) ?_
            refine RG.vl rfl rfl rfl (Ev.assign rfl rfl) ?_
            refine RG.done ?_
            refine QW.sub (S' := [(2, _), (4, _), (5, _), (8, _), (9, _), (27, _), (56, _), (57, _)]) ⟨rfl, rfl, rfl, rfl, rfl, rfl, rfl, rfl, trivial⟩ ?_
            refine QW.blockN ?_
            refine QW.blockN ?_
            refine QW.then_ ?_
            refine CW.region ?_
            refine RG.vl rfl rfl rfl (Ev.addI rfl rfl rfl (by omega)) ?_
            refine RG.vl rfl rfl rfl (Ev.move rfl rfl) ?_
            refine RG.done ?_
            refine QW.round2 (j + 1) (_) ⟨rfl, rfl, trivial⟩ ⟨rfl, rfl, rfl, rfl, rfl, rfl, trivial⟩ ⟨⟨by omega, by rw [take_snoc _ j h hh2, List.foldl_append, ← hx]; show _ = min x (room s h); rw [half2 s h (by assumption) (by assumption)]; omega⟩, hxwl33⟩ (by omega)
      · refine CW.exit ?_
        refine QW.thenExit ?_
        refine QW.thenExit ?_
        refine QW.blockHit ?_
        refine QW.blockN ?_
        refine QW.round2 (seen ++ [ix]) (x) ⟨rfl, trivial⟩ ⟨rfl, rfl, rfl, rfl, rfl, trivial⟩ ⟨⟨hnd2, hlt2, by have e : j = 2 := (by omega); subst e; simp only [List.take, List.foldl] at hx; rw [seen_snoc s l seen ix b hb, ← hm, hx]; unfold roomB; rw [hq]; simp only; omega, (hiwn19.ext hxwl33)⟩, (Ex.tr hR32 hxwl33)⟩ (by rw [List.length_append, List.length_singleton]; omega)

set_option maxRecDepth 100000 in
set_option maxHeartbeats 1000000 in
theorem hdraw_ret (s : Su) (t : ByteArray) (w : World) (hlen : t.size ≤ 1000) :
    Ret Try.prog 19 [s.v, .string t] w (fun v w' => ∃ u, v = .tuple #[u, .int .i64 (drawErr s t.data.toList)] ∧ RdL w' 3 Br.c u (drawOf s t.data.toList) ∧ Ex w w') := by
  have hB0 : Ex w w := Ex.rfl_ _
  refine Ret.of Try.func19 rfl Try.ntmps19 rfl ?_
  refine CW.seq ?_
  refine CW.region ?_
  refine RG.box rfl rfl rfl rfl rfl (fun g1 w1 eg1 hx1 hb1 => ?_)
  have hle2 : w.heap.size ≤ g1 := by have := (Ex.rfl_ w).size; omega
  have hE3 := hx1
  refine RG.vl rfl rfl rfl (Ev.assign rfl rfl) ?_
  refine RG.vl rfl rfl rfl (Ev.assign rfl rfl) ?_
  refine RG.done ?_
  refine QW.then_ ?_
  refine CW.seq ?_
  refine CW.seq ?_
  refine CW.region ?_
  refine RG.vl rfl rfl rfl (Ev.ldAgg rfl rfl Try.underlying27 rfl sz_27 rfl (hb1.cells)) ?_
  refine RG.call rfl rfl rfl rfl rfl rfl rfl en_34 (right_ret _ _) ?_
  rintro _ w4 ⟨rfl, hx4⟩
  replace hE3 := Ex.tr hE3 hx4
  have hE5 := hx4
  refine RG.vl rfl rfl rfl (Ev.notP rfl rfl) ?_
  refine RG.vl rfl rfl rfl (Ev.move rfl rfl) ?_
  refine RG.split (d := 15) rfl (fun hg6 => ?_) (fun hg6 => ?_)
  · refine RG.pass rfl rfl rfl ?_
    refine RG.pass rfl rfl rfl ?_
    refine RG.pass rfl rfl rfl ?_
    refine RG.pass rfl rfl rfl ?_
    refine RG.pass rfl rfl rfl ?_
    refine RG.vl rfl rfl rfl (Ev.pickT rfl rfl rfl) ?_
    refine RG.done ?_
    refine QW.then_ ?_
    refine CW.condT rfl ?_
    refine CW.seq ?_
    refine CW.region ?_
    refine RG.vl rfl rfl rfl (Ev.assign rfl rfl) ?_
    refine RG.vl rfl rfl rfl (Ev.assign rfl rfl) ?_
    refine RG.done ?_
    refine QW.sub (S' := [(1, _), (2, _), (4, _), (5, _)]) ⟨rfl, rfl, rfl, rfl, trivial⟩ ?_
    refine QW.then_ ?_
    refine CW.ret ?_
    refine QW.thenRet ?_
    refine QW.ret2 rfl rfl rfl ?_
    have hB := (Ex.tr hB0 hE3)
    obtain ⟨e1, e2⟩ := drawErr_bad s t.data.toList (by rintro ⟨h1, h2, _⟩; first | exact absurd h1 (by assumption) | (rw [Array.length_toList] at h2; exact absurd (show (t.size : Int) = s.pl from h2) (by assumption)))
    exact ⟨_, by rw [e1], by rw [e2]; exact RdL.nil_ _, hB⟩
  · refine RG.vl rfl rfl rfl (Ev.move rfl rfl) ?_
    refine RG.vl rfl rfl rfl (Ev.lenStr rfl rfl rfl Try.underlying9) ?_
    refine RG.vl rfl rfl rfl (Ev.fld rfl rfl fld_27_0) ?_
    refine RG.vl rfl rfl rfl (Ev.ldAt rfl rfl Try.underlying3 rfl ((hb1.ext hE5).cells) (rfl)) ?_
    refine RG.vl rfl rfl rfl (Ev.neI rfl rfl rfl) ?_
    refine RG.vl rfl rfl rfl (Ev.pickF rfl rfl rfl) ?_
    refine RG.done ?_
    refine QW.then_ ?_
    refine CW.condP rfl (fun hc7 => ?_) (fun hc7 => ?_)
    · refine CW.seq ?_
      refine CW.region ?_
      refine RG.vl rfl rfl rfl (Ev.assign rfl rfl) ?_
      refine RG.vl rfl rfl rfl (Ev.assign rfl rfl) ?_
      refine RG.done ?_
      refine QW.sub (S' := [(1, _), (2, _), (4, _), (5, _)]) ⟨rfl, rfl, rfl, rfl, trivial⟩ ?_
      refine QW.then_ ?_
      refine CW.ret ?_
      refine QW.thenRet ?_
      refine QW.ret2 rfl rfl rfl ?_
      have hB := (Ex.tr hB0 hE3)
      obtain ⟨e1, e2⟩ := drawErr_bad s t.data.toList (by rintro ⟨h1, h2, _⟩; first | exact absurd h1 (by assumption) | (rw [Array.length_toList] at h2; exact absurd (show (t.size : Int) = s.pl from h2) (by assumption)))
      exact ⟨_, by rw [e1], by rw [e2]; exact RdL.nil_ _, hB⟩
    · refine CW.skip ?_
      refine QW.then_ ?_
      refine CW.seq ?_
      have hs : Okay s := Decidable.not_not.1 (by assumption)
      obtain ⟨a1, a2, a3, a4, a5, a6, a7, a8, a9, a10, a11⟩ := id hs
      have hlz : t.data.toList.length = t.size := Array.length_toList
      refine CW.region ?_
      refine RG.mkMap (fun b : Bool => Value.bool b) rfl rfl rfl rfl (fun gH w8 egH hx8 hb8 => ?_)
      have hle9 : w.heap.size ≤ gH := by have := hE3.size; omega
      have hle10 : w1.heap.size ≤ gH := by have := hE5.size; omega
      have hle11 : w4.heap.size ≤ gH := by have := (Ex.rfl_ w4).size; omega
      have hlt12 : g1 < gH := by have := Blk.lt (hb1.ext hE5); omega
      replace hE3 := Ex.tr hE3 hx8
      replace hE5 := Ex.tr hE5 hx8
      refine RG.vl rfl rfl rfl (Ev.fld rfl rfl fld_27_4) ?_
      refine RG.vl rfl rfl rfl (Ev.ldAt rfl rfl Try.underlying3 rfl ((hb1.ext hE5).cells) (rfl)) ?_
      refine RG.mapPut keyB rfl rfl (.inr rfl) rfl rfl rfl Try.underlying89 Try.underlying4 hb8 (rfl) (fun wm13 hwm13 hbwm13 => ?_)
      replace hE3 := Wr.below hE3 hwm13 hle9
      replace hE5 := Wr.below hE5 hwm13 hle10
      refine RG.vl rfl rfl rfl (Ev.fld rfl rfl fld_27_5) ?_
      refine RG.vl rfl rfl rfl (Ev.ldAt rfl rfl Try.underlying3 rfl ((hb1.ext hE5).cells) (rfl)) ?_
      refine RG.mapPut keyB rfl rfl (.inr rfl) rfl rfl rfl Try.underlying89 Try.underlying4 hbwm13 (rfl) (fun wm14 hwm14 hbwm14 => ?_)
      replace hE3 := Wr.below hE3 hwm14 hle9
      replace hE5 := Wr.below hE5 hwm14 hle10
      refine RG.vl rfl rfl rfl (Ev.move rfl rfl) ?_
      refine RG.vl rfl rfl rfl (Ev.assign rfl rfl) ?_
      refine RG.done ?_
      refine QW.sub (S' := [(1, _), (2, _), (4, _), (5, _), (6, _)]) ⟨rfl, rfl, rfl, rfl, rfl, trivial⟩ ?_
      refine QW.then_ ?_
      refine CW.seq ?_
      refine CW.region ?_
      refine RG.vl rfl rfl rfl (Ev.assign rfl rfl) ?_
      refine RG.done ?_
      refine QW.then_ ?_
      refine CW.seq ?_
      refine CW.seq ?_
      refine CW.region ?_
      refine RG.vl rfl rfl rfl (Ev.move rfl rfl) ?_
      refine RG.toBytes rfl rfl rfl rfl rfl Try.underlying9 Try.underlying22 Try.underlying5 (by simp only [maxLen]; omega) (fun v15 wk16 hxwk16 hrwk16 => ?_)
      replace hE3 := Ex.tr hE3 hxwk16
      replace hE5 := Ex.tr hE5 hxwk16
      have hE17 := hxwk16
      refine RG.vl rfl rfl rfl (Ev.lenL rfl rfl rfl Try.underlying22 (hrwk16)) ?_
      refine RG.vl rfl rfl rfl (Ev.move rfl rfl) ?_
      refine RG.done ?_
      refine QW.then_ ?_
      refine CW.block ?_
      replace hb1 := (hb1.ext hE5)
      replace hbwm14 := (hbwm14.ext hE17)
      have hR18 := (Ex.tr hB0 hE3)
      have hR19 := hE5
      refine CW.loop2 [(2, _), (6, _), (29, _), (30, _)] ⟨rfl, rfl, rfl, rfl, trivial⟩ (fun (k : Nat) (u : Value) => [(31, .int .i64 k), (7, u)]) (fun k u w' => (k ≤ t.size ∧ w'.ownsRow wk16.heap.size 35 3 u (drawL s (t.data.toList.take k) 0).length ((drawL s (t.data.toList.take k) 0).flatMap Br.c) ∧ (t.data.toList.take k).all okLetter = true) ∧ Ex wk16 w') (fun k u => t.size - k) (0) (.slice none 0 0) ⟨rfl, rfl, trivial⟩ ⟨⟨Nat.zero_le _, own_nil _ _ _ _, rfl⟩, (Ex.rfl_ _)⟩ ?_
      rintro k u wl20 ⟨⟨hkl, hown, hall⟩, hxwl20⟩
      refine CW.sub (S' := [(31, _), (7, _), (2, _), (6, _), (29, _), (30, _)]) ⟨rfl, rfl, rfl, rfl, rfl, rfl, trivial⟩ ?_
      refine CW.seq ?_
      refine CW.region ?_
      refine RG.vl rfl rfl rfl (Ev.lss rfl rfl rfl) ?_
      refine RG.done ?_
      refine QW.then_ ?_
      refine CW.seq ?_
      refine CW.condP rfl (fun hc21 => ?_) (fun hc21 => ?_)
      · refine CW.skip ?_
        refine QW.then_ ?_
        refine CW.seq ?_
        refine CW.block ?_
        refine CW.seq ?_
        obtain ⟨c, hc⟩ : ∃ c, t.data.toList[k]? = some c := ⟨_, List.getElem?_eq_getElem (by omega)⟩
        have hkp := kpi s k hs (by omega) (by omega)
        have hdl := drawL_len s (t.data.toList.take k) 0
        rw [List.length_take] at hdl
        refine CW.region ?_
        refine RG.vl rfl rfl rfl (Ev.move rfl rfl) ?_
        refine RG.idxL rfl rfl rfl rfl rfl rfl Try.underlying22 sz_5 ((hrwk16.ext hxwl20)) (hc) (fun p22 hp22b hp22 => ?_)
        refine RG.vl rfl rfl rfl (Ev.ld0 rfl rfl Try.underlying5 rfl (hp22) (rfl)) ?_
        refine RG.vl rfl rfl rfl (Ev.assign rfl rfl) ?_
        refine RG.vl rfl rfl rfl (Ev.assign rfl rfl) ?_
        refine RG.done ?_
        refine QW.then_ ?_
        refine CW.seq ?_
        refine CW.seq ?_
        refine CW.region ?_
        refine RG.vl rfl rfl rfl (Ev.move rfl rfl) ?_
        refine RG.call rfl rfl rfl rfl rfl rfl rfl en_35 (hidxb1_ret _ _ _) ?_
        rintro _ w23 ⟨rfl, hx23⟩
        replace hxwl20 := Ex.tr hxwl20 hx23
        have hE24 := hx23
        refine RG.vl rfl rfl rfl (Ev.lss rfl rfl rfl) ?_
        refine RG.done ?_
        refine QW.then_ ?_
        refine CW.condP rfl (fun hc25 => ?_) (fun hc25 => ?_)
        · refine CW.seq ?_
          refine CW.region ?_
          refine RG.vl rfl rfl rfl (Ev.assign rfl rfl) ?_
          refine RG.vl rfl rfl rfl (Ev.assign rfl rfl) ?_
          refine RG.done ?_
          refine QW.then_ ?_
          refine CW.ret ?_
          refine QW.thenRet ?_
          refine QW.blockR ?_
          refine QW.thenRet ?_
          refine QW.thenRet ?_
          refine QW.blockR ?_
          refine QW.thenRet ?_
          refine QW.ret2 rfl rfl rfl ?_
          have hB := (Ex.tr hR18 hxwl20)
          obtain ⟨e1, e2⟩ := drawErr_bad s t.data.toList (by rintro ⟨_, _, h3⟩; have := (List.all_eq_true.1 h3) c (List.mem_of_getElem? hc); rw [(idx_letters c).1 (by assumption)] at this; cases this)
          exact ⟨_, by rw [e1], by rw [e2]; exact RdL.nil_ _, hB⟩
        · refine CW.skip ?_
          refine QW.then_ ?_
          refine CW.seq ?_
          refine CW.region ?_
          refine RG.vl rfl rfl rfl (Ev.move rfl rfl) ?_
          refine RG.vl rfl rfl rfl (Ev.neI rfl rfl rfl) ?_
          refine RG.done ?_
          refine QW.then_ ?_
          refine CW.condP rfl (fun hc26 => ?_) (fun hc26 => ?_)
          · refine CW.seq ?_
            refine CW.region ?_
            refine RG.vl rfl rfl rfl (Ev.move rfl rfl) ?_
            refine RG.vl rfl rfl rfl (Ev.eqI rfl rfl rfl) ?_
            refine RG.vl rfl rfl rfl (Ev.move rfl rfl) ?_
            refine RG.split (d := 43) rfl (fun hg27 => ?_) (fun hg27 => ?_)
            · refine RG.pass rfl rfl rfl ?_
              refine RG.pass rfl rfl rfl ?_
              refine RG.vl rfl rfl rfl (Ev.pickT rfl rfl rfl) ?_
              refine RG.vl rfl rfl rfl (Ev.move rfl rfl) ?_
              refine RG.vl rfl rfl rfl (Ev.eqI rfl rfl rfl) ?_
              refine RG.vl rfl rfl rfl (Ev.move rfl rfl) ?_
              refine RG.split (d := 49) rfl (fun hg28 => ?_) (fun hg28 => ?_)
              · refine RG.pass rfl rfl rfl ?_
                refine RG.pass rfl rfl rfl ?_
                refine RG.vl rfl rfl rfl (Ev.pickT rfl rfl rfl) ?_
                refine RG.vl rfl rfl rfl (Ev.assign rfl rfl) ?_
                refine RG.vl rfl rfl rfl (Ev.assign rfl rfl) ?_
                refine RG.done ?_
                refine QW.sub (S' := [(2, _), (6, _), (7, _), (8, _), (10, _), (11, _), (29, _), (30, _), (31, _)]) ⟨rfl, rfl, rfl, rfl, rfl, rfl, rfl, rfl, rfl, trivial⟩ ?_
                refine QW.then_ ?_
                refine CW.region ?_
                refine RG.vl rfl rfl rfl (Ev.move rfl rfl) ?_
                refine RG.vl rfl rfl rfl (Ev.fld rfl rfl fld_27_1) ?_
                refine RG.vl rfl rfl rfl (Ev.ldAt rfl rfl Try.underlying3 rfl ((hb1.ext hxwl20).cells) (rfl)) ?_
                refine RG.vl rfl rfl rfl (Ev.move rfl rfl) ?_
                refine RG.vl rfl rfl rfl (Ev.fld rfl rfl fld_27_2) ?_
                refine RG.vl rfl rfl rfl (Ev.ldAt rfl rfl Try.underlying3 rfl ((hb1.ext hxwl20).cells) (rfl)) ?_
                refine RG.vl rfl rfl rfl (Ev.mulI rfl rfl rfl (by omega)) ?_
                refine RG.vl rfl rfl rfl (Ev.addI rfl rfl rfl (by omega)) ?_
                refine RG.vl rfl rfl rfl (Ev.move rfl rfl) ?_
                refine RG.vl rfl rfl rfl (Ev.move rfl rfl) ?_
                refine RG.vl rfl rfl rfl ((Ev.look1 keyB rfl rfl rfl (hbwm14.ext hxwl20) Try.underlying89 Try.underlying4 inf_3).conv (hts_look s.lo s.hi _)) ?_
                refine RG.vl rfl rfl rfl (Ev.move rfl rfl) ?_
                refine RG.vl rfl rfl rfl (Ev.move rfl rfl) ?_
                refine RG.vl rfl rfl rfl ((Ev.look1 keyB rfl rfl rfl (hbwm14.ext hxwl20) Try.underlying89 Try.underlying4 inf_3).conv (hts_look s.lo s.hi _)) ?_
                refine RG.vl rfl rfl rfl (Ev.build1 rfl rfl rfl inf_35 rfl rfl (by kernel_rfl) rfl) ?_
                refine RG.buildD (xs := [.tmp 67]) rfl rfl rfl rfl rfl rfl rfl Try.underlying29 inf_35 rfl rfl rfl rfl (fun g29 w29 eg29 hx29 hb29 => ?_)
                have hsep30 := own_new (own_ext hown hE24) eg29
                replace hxwl20 := Ex.tr hxwl20 hx29
                replace hE24 := Ex.tr hE24 hx29
                refine RG.app rfl rfl rfl rfl rfl rfl rfl Try.underlying29 inf_35 rfl rfl (own_ext hown hE24) rfl (fun _ => ⟨_, rfl, hb29.cells⟩) rfl (by simp only [maxLen]; omega) (by omega) (hxwl20.size) (fun v31 wa32 hown33 hgr34 hat35 => ?_)
                have hb36 := Blk.grown hb29 hgr34 hsep30.symm
                have hsep37 := sep_app hat35 hsep30 (Blk.lt hb29)
                replace hxwl20 := own_block (own_ext hown hE24) hxwl20 hgr34 (Nat.le_refl _) hxwl20.size
                refine RG.vl rfl rfl rfl (Ev.assign rfl rfl) ?_
                refine RG.done ?_
                refine QW.sub (S' := [(2, _), (6, _), (7, _), (29, _), (30, _), (31, _)]) ⟨rfl, rfl, rfl, rfl, rfl, rfl, trivial⟩ ?_
                refine QW.blockN ?_
                refine QW.then_ ?_
                refine CW.region ?_
                refine RG.vl rfl rfl rfl (Ev.addI rfl rfl rfl (by omega)) ?_
                refine RG.vl rfl rfl rfl (Ev.move rfl rfl) ?_
                refine RG.done ?_
                refine QW.round2 (k + 1) (v31) ⟨rfl, rfl, trivial⟩ ⟨rfl, rfl, rfl, rfl, trivial⟩ ⟨⟨by omega, by rw [drawL_step s _ k c hc (fun e => absurd (show (c.toNat : Int) = 63 by rw [e]; rfl) (by assumption)), mkb_eq s c k (true) (true) (selT c 65 (by assumption)) (selT c 68 (by assumption)), List.length_append, List.flatMap_append]; exact hown33, all_snoc _ k c _ hc hall (by have := mt (idx_letters c).2 (by assumption); simpa using this)⟩, hxwl20⟩ (by omega)
              · refine RG.vl rfl rfl rfl (Ev.move rfl rfl) ?_
                refine RG.vl rfl rfl rfl (Ev.eqI rfl rfl rfl) ?_
                refine RG.vl rfl rfl rfl (Ev.pickF rfl rfl rfl) ?_
                refine RG.vl rfl rfl rfl (Ev.assign rfl rfl) ?_
                refine RG.vl rfl rfl rfl (Ev.assign rfl rfl) ?_
                refine RG.done ?_
                refine QW.sub (S' := [(2, _), (6, _), (7, _), (8, _), (10, _), (11, _), (29, _), (30, _), (31, _)]) ⟨rfl, rfl, rfl, rfl, rfl, rfl, rfl, rfl, rfl, trivial⟩ ?_
                refine QW.then_ ?_
                refine CW.region ?_
                refine RG.vl rfl rfl rfl (Ev.move rfl rfl) ?_
                refine RG.vl rfl rfl rfl (Ev.fld rfl rfl fld_27_1) ?_
                refine RG.vl rfl rfl rfl (Ev.ldAt rfl rfl Try.underlying3 rfl ((hb1.ext hxwl20).cells) (rfl)) ?_
                refine RG.vl rfl rfl rfl (Ev.move rfl rfl) ?_
                refine RG.vl rfl rfl rfl (Ev.fld rfl rfl fld_27_2) ?_
                refine RG.vl rfl rfl rfl (Ev.ldAt rfl rfl Try.underlying3 rfl ((hb1.ext hxwl20).cells) (rfl)) ?_
                refine RG.vl rfl rfl rfl (Ev.mulI rfl rfl rfl (by omega)) ?_
                refine RG.vl rfl rfl rfl (Ev.addI rfl rfl rfl (by omega)) ?_
                refine RG.vl rfl rfl rfl (Ev.move rfl rfl) ?_
                refine RG.vl rfl rfl rfl (Ev.move rfl rfl) ?_
                refine RG.vl rfl rfl rfl ((Ev.look1 keyB rfl rfl rfl (hbwm14.ext hxwl20) Try.underlying89 Try.underlying4 inf_3).conv (hts_look s.lo s.hi _)) ?_
                refine RG.vl rfl rfl rfl (Ev.move rfl rfl) ?_
                refine RG.vl rfl rfl rfl (Ev.move rfl rfl) ?_
                refine RG.vl rfl rfl rfl ((Ev.look1 keyB rfl rfl rfl (hbwm14.ext hxwl20) Try.underlying89 Try.underlying4 inf_3).conv (hts_look s.lo s.hi _)) ?_
                refine RG.vl rfl rfl rfl (Ev.build1 rfl rfl rfl inf_35 rfl rfl (by kernel_rfl) rfl) ?_
                refine RG.buildD (xs := [.tmp 67]) rfl rfl rfl rfl rfl rfl rfl Try.underlying29 inf_35 rfl rfl rfl rfl (fun g38 w38 eg38 hx38 hb38 => ?_)
                have hsep39 := own_new (own_ext hown hE24) eg38
                replace hxwl20 := Ex.tr hxwl20 hx38
                replace hE24 := Ex.tr hE24 hx38
                refine RG.app rfl rfl rfl rfl rfl rfl rfl Try.underlying29 inf_35 rfl rfl (own_ext hown hE24) rfl (fun _ => ⟨_, rfl, hb38.cells⟩) rfl (by simp only [maxLen]; omega) (by omega) (hxwl20.size) (fun v40 wa41 hown42 hgr43 hat44 => ?_)
                have hb45 := Blk.grown hb38 hgr43 hsep39.symm
                have hsep46 := sep_app hat44 hsep39 (Blk.lt hb38)
                replace hxwl20 := own_block (own_ext hown hE24) hxwl20 hgr43 (Nat.le_refl _) hxwl20.size
                refine RG.vl rfl rfl rfl (Ev.assign rfl rfl) ?_
                refine RG.done ?_
                refine QW.sub (S' := [(2, _), (6, _), (7, _), (29, _), (30, _), (31, _)]) ⟨rfl, rfl, rfl, rfl, rfl, rfl, trivial⟩ ?_
                refine QW.blockN ?_
                refine QW.then_ ?_
                refine CW.region ?_
                refine RG.vl rfl rfl rfl (Ev.addI rfl rfl rfl (by omega)) ?_
                refine RG.vl rfl rfl rfl (Ev.move rfl rfl) ?_
                refine RG.done ?_
                refine QW.round2 (k + 1) (v40) ⟨rfl, rfl, trivial⟩ ⟨rfl, rfl, rfl, rfl, trivial⟩ ⟨⟨by omega, by rw [drawL_step s _ k c hc (fun e => absurd (show (c.toNat : Int) = 63 by rw [e]; rfl) (by assumption)), mkb_eq s c k (true) (decide ((c.toNat : Int) = 70)) (selT c 65 (by assumption)) (selF c 68 (by assumption)), List.length_append, List.flatMap_append]; exact hown42, all_snoc _ k c _ hc hall (by have := mt (idx_letters c).2 (by assumption); simpa using this)⟩, hxwl20⟩ (by omega)
            · refine RG.vl rfl rfl rfl (Ev.move rfl rfl) ?_
              refine RG.vl rfl rfl rfl (Ev.eqI rfl rfl rfl) ?_
              refine RG.vl rfl rfl rfl (Ev.pickF rfl rfl rfl) ?_
              refine RG.vl rfl rfl rfl (Ev.move rfl rfl) ?_
              refine RG.vl rfl rfl rfl (Ev.eqI rfl rfl rfl) ?_
              refine RG.vl rfl rfl rfl (Ev.move rfl rfl) ?_
              refine RG.split (d := 49) rfl (fun hg47 => ?_) (fun hg47 => ?_)
              · refine RG.pass rfl rfl rfl ?_
                refine RG.pass rfl rfl rfl ?_
                refine RG.vl rfl rfl rfl (Ev.pickT rfl rfl rfl) ?_
                refine RG.vl rfl rfl rfl (Ev.assign rfl rfl) ?_
                refine RG.vl rfl rfl rfl (Ev.assign rfl rfl) ?_
                refine RG.done ?_
                refine QW.sub (S' := [(2, _), (6, _), (7, _), (8, _), (10, _), (11, _), (29, _), (30, _), (31, _)]) ⟨rfl, rfl, rfl, rfl, rfl, rfl, rfl, rfl, rfl, trivial⟩ ?_
                refine QW.then_ ?_
                refine CW.region ?_
                refine RG.vl rfl rfl rfl (Ev.move rfl rfl) ?_
                refine RG.vl rfl rfl rfl (Ev.fld rfl rfl fld_27_1) ?_
                refine RG.vl rfl rfl rfl (Ev.ldAt rfl rfl Try.underlying3 rfl ((hb1.ext hxwl20).cells) (rfl)) ?_
                refine RG.vl rfl rfl rfl (Ev.move rfl rfl) ?_
                refine RG.vl rfl rfl rfl (Ev.fld rfl rfl fld_27_2) ?_
                refine RG.vl rfl rfl rfl (Ev.ldAt rfl rfl Try.underlying3 rfl ((hb1.ext hxwl20).cells) (rfl)) ?_
                refine RG.vl rfl rfl rfl (Ev.mulI rfl rfl rfl (by omega)) ?_
                refine RG.vl rfl rfl rfl (Ev.addI rfl rfl rfl (by omega)) ?_
                refine RG.vl rfl rfl rfl (Ev.move rfl rfl) ?_
                refine RG.vl rfl rfl rfl (Ev.move rfl rfl) ?_
                refine RG.vl rfl rfl rfl ((Ev.look1 keyB rfl rfl rfl (hbwm14.ext hxwl20) Try.underlying89 Try.underlying4 inf_3).conv (hts_look s.lo s.hi _)) ?_
                refine RG.vl rfl rfl rfl (Ev.move rfl rfl) ?_
                refine RG.vl rfl rfl rfl (Ev.move rfl rfl) ?_
                refine RG.vl rfl rfl rfl ((Ev.look1 keyB rfl rfl rfl (hbwm14.ext hxwl20) Try.underlying89 Try.underlying4 inf_3).conv (hts_look s.lo s.hi _)) ?_
                refine RG.vl rfl rfl rfl (Ev.build1 rfl rfl rfl inf_35 rfl rfl (by kernel_rfl) rfl) ?_
                refine RG.buildD (xs := [.tmp 67]) rfl rfl rfl rfl rfl rfl rfl Try.underlying29 inf_35 rfl rfl rfl rfl (fun g48 w48 eg48 hx48 hb48 => ?_)
                have hsep49 := own_new (own_ext hown hE24) eg48
                replace hxwl20 := Ex.tr hxwl20 hx48
                replace hE24 := Ex.tr hE24 hx48
                refine RG.app rfl rfl rfl rfl rfl rfl rfl Try.underlying29 inf_35 rfl rfl (own_ext hown hE24) rfl (fun _ => ⟨_, rfl, hb48.cells⟩) rfl (by simp only [maxLen]; omega) (by omega) (hxwl20.size) (fun v50 wa51 hown52 hgr53 hat54 => ?_)
                have hb55 := Blk.grown hb48 hgr53 hsep49.symm
                have hsep56 := sep_app hat54 hsep49 (Blk.lt hb48)
                replace hxwl20 := own_block (own_ext hown hE24) hxwl20 hgr53 (Nat.le_refl _) hxwl20.size
                refine RG.vl rfl rfl rfl (Ev.assign rfl rfl) ?_
                refine RG.done ?_
                refine QW.sub (S' := [(2, _), (6, _), (7, _), (29, _), (30, _), (31, _)]) ⟨rfl, rfl, rfl, rfl, rfl, rfl, trivial⟩ ?_
                refine QW.blockN ?_
                refine QW.then_ ?_
                refine CW.region ?_
                refine RG.vl rfl rfl rfl (Ev.addI rfl rfl rfl (by omega)) ?_
                refine RG.vl rfl rfl rfl (Ev.move rfl rfl) ?_
                refine RG.done ?_
                refine QW.round2 (k + 1) (v50) ⟨rfl, rfl, trivial⟩ ⟨rfl, rfl, rfl, rfl, trivial⟩ ⟨⟨by omega, by rw [drawL_step s _ k c hc (fun e => absurd (show (c.toNat : Int) = 63 by rw [e]; rfl) (by assumption)), mkb_eq s c k (decide ((c.toNat : Int) = 70)) (true) (selF c 65 (by assumption)) (selT c 68 (by assumption)), List.length_append, List.flatMap_append]; exact hown52, all_snoc _ k c _ hc hall (by have := mt (idx_letters c).2 (by assumption); simpa using this)⟩, hxwl20⟩ (by omega)
              · refine RG.vl rfl rfl rfl (Ev.move rfl rfl) ?_
                refine RG.vl rfl rfl rfl (Ev.eqI rfl rfl rfl) ?_
                refine RG.vl rfl rfl rfl (Ev.pickF rfl rfl rfl) ?_
                refine RG.vl rfl rfl rfl (Ev.assign rfl rfl) ?_
                refine RG.vl rfl rfl rfl (Ev.assign rfl rfl) ?_
                refine RG.done ?_
                refine QW.sub (S' := [(2, _), (6, _), (7, _), (8, _), (10, _), (11, _), (29, _), (30, _), (31, _)]) ⟨rfl, rfl, rfl, rfl, rfl, rfl, rfl, rfl, rfl, trivial⟩ ?_
                refine QW.then_ ?_
                refine CW.region ?_
                refine RG.vl rfl rfl rfl (Ev.move rfl rfl) ?_
                refine RG.vl rfl rfl rfl (Ev.fld rfl rfl fld_27_1) ?_
                refine RG.vl rfl rfl rfl (Ev.ldAt rfl rfl Try.underlying3 rfl ((hb1.ext hxwl20).cells) (rfl)) ?_
                refine RG.vl rfl rfl rfl (Ev.move rfl rfl) ?_
                refine RG.vl rfl rfl rfl (Ev.fld rfl rfl fld_27_2) ?_
                refine RG.vl rfl rfl rfl (Ev.ldAt rfl rfl Try.underlying3 rfl ((hb1.ext hxwl20).cells) (rfl)) ?_
                refine RG.vl rfl rfl rfl (Ev.mulI rfl rfl rfl (by omega)) ?_
                refine RG.vl rfl rfl rfl (Ev.addI rfl rfl rfl (by omega)) ?_
                refine RG.vl rfl rfl rfl (Ev.move rfl rfl) ?_
                refine RG.vl rfl rfl rfl (Ev.move rfl rfl) ?_
                refine RG.vl rfl rfl rfl ((Ev.look1 keyB rfl rfl rfl (hbwm14.ext hxwl20) Try.underlying89 Try.underlying4 inf_3).conv (hts_look s.lo s.hi _)) ?_
                refine RG.vl rfl rfl rfl (Ev.move rfl rfl) ?_
                refine RG.vl rfl rfl rfl (Ev.move rfl rfl) ?_
                refine RG.vl rfl rfl rfl ((Ev.look1 keyB rfl rfl rfl (hbwm14.ext hxwl20) Try.underlying89 Try.underlying4 inf_3).conv (hts_look s.lo s.hi _)) ?_
                refine RG.vl rfl rfl rfl (Ev.build1 rfl rfl rfl inf_35 rfl rfl (by kernel_rfl) rfl) ?_
                refine RG.buildD (xs := [.tmp 67]) rfl rfl rfl rfl rfl rfl rfl Try.underlying29 inf_35 rfl rfl rfl rfl (fun g57 w57 eg57 hx57 hb57 => ?_)
                have hsep58 := own_new (own_ext hown hE24) eg57
                replace hxwl20 := Ex.tr hxwl20 hx57
                replace hE24 := Ex.tr hE24 hx57
                refine RG.app rfl rfl rfl rfl rfl rfl rfl Try.underlying29 inf_35 rfl rfl (own_ext hown hE24) rfl (fun _ => ⟨_, rfl, hb57.cells⟩) rfl (by simp only [maxLen]; omega) (by omega) (hxwl20.size) (fun v59 wa60 hown61 hgr62 hat63 => ?_)
                have hb64 := Blk.grown hb57 hgr62 hsep58.symm
                have hsep65 := sep_app hat63 hsep58 (Blk.lt hb57)
                replace hxwl20 := own_block (own_ext hown hE24) hxwl20 hgr62 (Nat.le_refl _) hxwl20.size
                refine RG.vl rfl rfl rfl (Ev.assign rfl rfl) ?_
                refine RG.done ?_
                refine QW.sub (S' := [(2, _), (6, _), (7, _), (29, _), (30, _), (31, _)]) ⟨rfl, rfl, rfl, rfl, rfl, rfl, trivial⟩ ?_
                refine QW.blockN ?_
                refine QW.then_ ?_
                refine CW.region ?_
                refine RG.vl rfl rfl rfl (Ev.addI rfl rfl rfl (by omega)) ?_
                refine RG.vl rfl rfl rfl (Ev.move rfl rfl) ?_
                refine RG.done ?_
                refine QW.round2 (k + 1) (v59) ⟨rfl, rfl, trivial⟩ ⟨rfl, rfl, rfl, rfl, trivial⟩ ⟨⟨by omega, by rw [drawL_step s _ k c hc (fun e => absurd (show (c.toNat : Int) = 63 by rw [e]; rfl) (by assumption)), mkb_eq s c k (decide ((c.toNat : Int) = 70)) (decide ((c.toNat : Int) = 70)) (selF c 65 (by assumption)) (selF c 68 (by assumption)), List.length_append, List.flatMap_append]; exact hown61, all_snoc _ k c _ hc hall (by have := mt (idx_letters c).2 (by assumption); simpa using this)⟩, hxwl20⟩ (by omega)
          · refine CW.skip ?_
            refine QW.blockN ?_
            refine QW.then_ ?_
            refine CW.region ?_
            refine RG.vl rfl rfl rfl (Ev.addI rfl rfl rfl (by omega)) ?_
            refine RG.vl rfl rfl rfl (Ev.move rfl rfl) ?_
            refine RG.done ?_
            refine QW.round2 (k + 1) (u) ⟨rfl, rfl, trivial⟩ ⟨rfl, rfl, rfl, rfl, trivial⟩ ⟨⟨by omega, by rw [drawL_skip s _ k c hc (byte_eq (d := 63) (Decidable.not_not.1 (by assumption)))]; exact (own_ext hown hE24), all_snoc _ k c _ hc hall (by have := mt (idx_letters c).2 (by assumption); simpa using this)⟩, hxwl20⟩ (by omega)
      · refine CW.exit ?_
        refine QW.thenExit ?_
        refine QW.thenExit ?_
        refine QW.blockHit ?_
        refine QW.then_ ?_
        refine CW.seq ?_
        refine CW.region ?_
        refine RG.vl rfl rfl rfl (Ev.move rfl rfl) ?_
        refine RG.vl rfl rfl rfl (Ev.assign rfl rfl) ?_
        refine RG.vl rfl rfl rfl (Ev.assign rfl rfl) ?_
        refine RG.done ?_
        refine QW.then_ ?_
        refine CW.ret ?_
        refine QW.ret2 rfl rfl rfl ?_
        have hB := (Ex.tr hR18 hxwl20)
        have e : k = t.data.toList.length := by omega
        rw [e, List.take_length] at hown hall
        obtain ⟨e1, e2⟩ := drawErr_ok s t.data.toList ⟨hs, by omega, hall⟩
        exact ⟨_, by rw [e1], by rw [e2]; exact RdL.of_own Br.c_len hown, hB⟩

end Go.Proofs.Ytgjnchjkjdnidaa

/- Chapter 21, plain: what is drawn is read. -/
namespace Go.Proofs.Ytgjnchjkjdnidaa

theorem plc_mid (s : Su) (b : Br) (k : Int) (hs : Okay s) (h0 : 0 ≤ k) (h1 : k < s.pl) (hp : s.og + k * s.pi - s.sl ≤ b.po) (hq : b.po ≤ s.og + k * s.pi + s.sl) : plc s b = some k :=
  (stand_iff s b k hs h0 h1).1 ⟨hq, hp⟩
theorem mkb_plc (s : Su) (c : UInt8) (j : Nat) (hs : Okay s) (hj : (j : Int) < s.pl) : plc s (mkb s c j) = some (j : Int) := by
  have := hs.2.2.2.2.2.2.1
  exact plc_mid s _ j hs (by omega) hj (by unfold mkb; simp only; omega) (by unfold mkb; simp only; omega)
theorem mkb_in (s : Su) (c : UInt8) (j : Nat) (hs : Okay s) (hj : (j : Int) < s.pl) : InB (mkb s c j) := by
  obtain ⟨a1, a2, a3, a4, a5, a6, a7, a8, a9, a10, a11⟩ := id hs
  have := kpi s j hs (by omega) (by omega)
  unfold InB mkb
  simp only
  refine ⟨by omega, by omega, ?_, ?_, ?_, ?_⟩ <;> split <;> omega
theorem mkb_letter (s : Su) (c : UInt8) (j : Nat) (hs : Okay s) (hc : okLetter c = true) (hq : c ≠ 63) : letter s (mkb s c j) = c := by
  have h := hs.2.2.2.2.2.2.2.2.2.1
  unfold okLetter at hc
  simp only [Bool.or_eq_true, beq_iff_eq] at hc
  unfold letter mkb
  rcases hc with (((rfl | rfl) | rfl) | rfl) | rfl
  · simp [show ¬ s.lo ≥ s.hi by omega, show ¬ s.lo > s.lo by omega]
  · simp [show ¬ s.lo ≥ s.hi by omega, show s.hi > s.lo by omega]
  · simp [show ¬ s.lo ≥ s.hi by omega, show s.hi > s.lo by omega]
  · simp [show s.hi > s.lo by omega]
  · exact absurd rfl hq
theorem mem_draw (s : Su) (b : Br) : ∀ (t : List UInt8) (k : Nat), b ∈ drawL s t k ↔ ∃ j c, t[j]? = some c ∧ c ≠ 63 ∧ b = mkb s c (k + j)
  | [], k => by simp [drawL]
  | x :: t, k => by
    rw [drawL, List.mem_append, mem_draw s b t (k + 1)]
    constructor
    · rintro (h | ⟨j, c, h1, h2, h3⟩)
      · split at h
        · cases h
        · rename_i hx
          simp at h
          exact ⟨0, x, rfl, hx, h⟩
      · exact ⟨j + 1, c, by simpa using h1, h2, by rw [h3]; congr 1; omega⟩
    · rintro ⟨j, c, h1, h2, h3⟩
      cases j with
      | zero =>
        simp only [List.getElem?_cons_zero, Option.some.injEq] at h1
        subst h1
        exact .inl (by rw [if_neg h2]; simp [h3])
      | succ j => exact .inr ⟨j, c, by simpa using h1, h2, by rw [h3]; congr 1; omega⟩
/-- A letter by the one bar that stands at its place. -/
theorem letterAt_mem (s : Su) (l : List Br) (b : Br) (k : Nat) (hf : Fit s l) (hb : b ∈ l) (hk : plc s b = some (k : Int)) : letterAt s l k = letter s b := by
  obtain ⟨i, hi⟩ := List.mem_iff_getElem?.1 hb
  have h1 := letterAt_hit s l i k b hf hi hk
  have : ∀ m, i + 1 + m ≤ l.length → letterAt s (l.take (i + 1 + m)) k = letter s b := by
    intro m
    induction m with
    | zero => exact fun _ => h1
    | succ m ih =>
      intro hm
      have hg : l[i + 1 + m]? = some (l[i + 1 + m]'(by omega)) := List.getElem?_eq_getElem _
      rw [show i + 1 + (m + 1) = i + 1 + m + 1 from by omega, letterAt_miss s l (i + 1 + m) k _ hg ?_]
      · exact ih (by omega)
      · intro e
        exact not_fit s l (i + 1 + m) i _ b hg hi (by omega) (by rw [e, hk]) hf
  have hlt : i < l.length := (List.getElem?_eq_some_iff.1 hi).1
  have h2 := this (l.length - (i + 1)) (by omega)
  rwa [List.take_of_length_le (by omega)] at h2
theorem letterAt_none (s : Su) (l : List Br) (k : Nat) (h : ∀ b ∈ l, plc s b ≠ some (k : Int)) : letterAt s l k = 63 := by
  unfold letterAt
  have : (l.find? fun b => plc s b == some (k : Int)) = none := by
    rw [List.find?_eq_none]; intro b hb; simpa using h b hb
  rw [this]
/-- A row of bars made of a text: at most one for each place. -/
theorem fit_draw (s : Su) (hs : Okay s) : ∀ (t : List UInt8) (k : Nat), ((k + t.length : Nat) : Int) ≤ s.pl → Fit s (drawL s t k) ∧ ∀ b ∈ drawL s t k, ∃ j : Nat, plc s b = some (j : Int) ∧ k ≤ j
  | [], _, _ => ⟨fit_nil s, fun b h => by simp [drawL] at h⟩
  | x :: t, k, hk => by
    rw [List.length_cons] at hk
    obtain ⟨⟨h1, h2⟩, h3⟩ := fit_draw s hs t (k + 1) (by rw [show k + 1 + t.length = k + (t.length + 1) from by omega]; exact hk)
    rw [drawL]
    split
    · exact ⟨⟨h1, h2⟩, fun b hb => by obtain ⟨j, e1, e2⟩ := h3 b hb; exact ⟨j, e1, by omega⟩⟩
    · have hp := mkb_plc s x k hs (by omega)
      refine ⟨⟨fun b hb => ?_, ?_⟩, fun b hb => ?_⟩
      · rcases List.mem_cons.1 hb with rfl | hb
        · rw [hp]; rfl
        · exact h1 b hb
      · simp only [List.singleton_append, List.map_cons, List.nodup_cons]
        refine ⟨fun hm => ?_, h2⟩
        obtain ⟨b, hb, he⟩ := List.mem_map.1 hm
        obtain ⟨j, e1, e2⟩ := h3 b hb
        rw [hp, e1] at he
        injection he with he
        omega
      · rcases List.mem_cons.1 hb with rfl | hb
        · exact ⟨k, hp, Nat.le_refl _⟩
        · obtain ⟨j, e1, e2⟩ := h3 b hb; exact ⟨j, e1, by omega⟩
end Go.Proofs.Ytgjnchjkjdnidaa

/- Chapter 21, plain: bars that read as a text; one bar taken away, doubled, moved, put between. -/
namespace Go.Proofs.Ytgjnchjkjdnidaa

/-- These bars read as this text. -/
structure Reads (s : Su) (l : List Br) (t : List UInt8) : Prop where
  tl : (t.length : Int) = s.pl
  ll : l.length ≤ 400
  inb : ∀ b ∈ l, InB b
  fit : Fit s l
  has : ∀ b ∈ l, ∃ (j : Nat) (c : UInt8), plc s b = some (j : Int) ∧ t[j]? = some c ∧ letter s b = c
  all : ∀ (j : Nat) (c : UInt8), t[j]? = some c → c ≠ 63 → ∃ b ∈ l, plc s b = some (j : Int)
theorem Reads.err {s : Su} {l : List Br} {t : List UInt8} (h : Reads s l t) (hs : Okay s) : errOf s l = 0 := (err0_iff s l).2 ⟨h.ll, hs, h.inb, h.fit⟩
theorem Reads.text {s : Su} {l : List Br} {t : List UInt8} (h : Reads s l t) : textOf s l = t := by
  have hn : s.pl.toNat = t.length := by have := h.tl; omega
  apply List.ext_getElem?
  intro j
  unfold textOf
  rw [hn, List.getElem?_map]
  by_cases hj : j < t.length
  · rw [List.getElem?_range hj, List.getElem?_eq_getElem hj, Option.map_some]
    congr 1
    have hg := List.getElem?_eq_getElem hj
    by_cases hb : ∃ b ∈ l, plc s b = some (j : Int)
    · obtain ⟨b, h1, h2⟩ := hb
      rw [letterAt_mem s l b j h.fit h1 h2]
      obtain ⟨j', c, e1, e2, e3⟩ := h.has b h1
      rw [h2] at e1
      injection e1 with e1
      have : j' = j := by omega
      subst this
      rw [hg] at e2
      injection e2 with e2
      rw [e3, e2]
    · rw [letterAt_none s l j fun b hb' e => hb ⟨b, hb', e⟩]
      by_cases hc : t[j] = 63
      · exact hc.symm
      · exact absurd (h.all j _ hg hc) hb
  · rw [List.getElem?_eq_none (by simpa using hj), List.getElem?_eq_none (by omega)]; rfl
theorem Reads.read {s : Su} {l : List Br} {t : List UInt8} (h : Reads s l t) (hs : Okay s) : readOf s l = t := by
  unfold readOf; rw [if_pos (h.err hs), h.text]
theorem draw_reads (s : Su) (t : List UInt8) (hs : Okay s) (ht : (t.length : Int) = s.pl) (hok : t.all okLetter = true) : Reads s (drawL s t 0) t := by
  refine ⟨ht, ?_, fun b hb => ?_, (fit_draw s hs t 0 (by rw [Nat.zero_add]; omega)).1, fun b hb => ?_, fun j c hj hc => ?_⟩
  · have := drawL_len s t 0; have := hs.2.1; omega
  · obtain ⟨j, c, h1, h2, rfl⟩ := (mem_draw s b t 0).1 hb
    rw [Nat.zero_add]
    exact mkb_in s c j hs (by have := (List.getElem?_eq_some_iff.1 h1).1; omega)
  · obtain ⟨j, c, h1, h2, rfl⟩ := (mem_draw s b t 0).1 hb
    rw [Nat.zero_add]
    exact ⟨j, c, mkb_plc s c j hs (by have := (List.getElem?_eq_some_iff.1 h1).1; omega), h1, mkb_letter s c j hs ((List.all_eq_true.1 hok) c (List.mem_of_getElem? h1)) h2⟩
  · exact ⟨mkb s c (0 + j), (mem_draw s _ t 0).2 ⟨j, c, hj, hc, rfl⟩, by rw [Nat.zero_add]; exact mkb_plc s c j hs (by have := (List.getElem?_eq_some_iff.1 hj).1; omega)⟩
theorem err210 (s : Su) (l : List Br) (hs : Okay s) (hl : l.length ≤ 400) (hin : ∀ b ∈ l, InB b) (hf : ¬ Fit s l) : errOf s l = 210 := by
  unfold errOf
  rw [if_neg (by omega), if_neg (by simpa using hs), if_neg (by simpa using hin)]
  exact if_neg hf
/-- A bar taken away. -/
def less (l : List Br) (k : Nat) : List Br := l.take k ++ l.drop (k + 1)
theorem less_sub (l : List Br) (k : Nat) : (less l k).Sublist l := by
  have h : (l.drop (k + 1)).Sublist (l.drop k) := by rw [← List.drop_drop]; exact List.drop_sublist _ _
  have := (List.Sublist.refl (l.take k)).append h
  rwa [List.take_append_drop] at this
theorem Fit.sub {s : Su} {l m : List Br} (h : Fit s m) (hl : l.Sublist m) : Fit s l := ⟨fun b hb => h.1 b (hl.subset hb), h.2.sublist (hl.map _)⟩
theorem less_mem (l : List Br) (k : Nat) (b : Br) (hb : l[k]? = some b) (x : Br) (hx : x ∈ l) : x = b ∨ x ∈ less l k := by
  obtain ⟨i, hi⟩ := List.mem_iff_getElem?.1 hx
  unfold less
  rw [List.mem_append]
  rcases Nat.lt_trichotomy i k with h | h | h
  · refine .inr (.inl (List.mem_iff_getElem?.2 ⟨i, ?_⟩)); rw [List.getElem?_take, if_pos h, hi]
  · subst h; rw [hb] at hi; injection hi with hi; exact .inl hi.symm
  · refine .inr (.inr (List.mem_iff_getElem?.2 ⟨i - (k + 1), ?_⟩)); rw [List.getElem?_drop, show k + 1 + (i - (k + 1)) = i from by omega, hi]
theorem less_not (s : Su) (l : List Br) (k : Nat) (b : Br) (hf : Fit s l) (hb : l[k]? = some b) : ∀ x ∈ less l k, plc s x ≠ plc s b := by
  intro x hx e
  unfold less at hx
  rcases List.mem_append.1 hx with h | h
  · obtain ⟨i, hi⟩ := List.mem_iff_getElem?.1 h
    rw [List.getElem?_take] at hi
    split at hi
    · exact not_fit s l k i b x hb hi (by assumption) e.symm hf
    · cases hi
  · obtain ⟨i, hi⟩ := List.mem_iff_getElem?.1 h
    rw [List.getElem?_drop] at hi
    exact not_fit s l (k + 1 + i) k x b hi hb (by omega) e hf
theorem less_reads (s : Su) (l : List Br) (t : List UInt8) (k j : Nat) (b : Br) (h : Reads s l t) (hb : l[k]? = some b) (hj : plc s b = some (j : Int)) : Reads s (less l k) (t.set j 63) := by
  have hsub := less_sub l k
  refine ⟨by rw [List.length_set]; exact h.tl, Nat.le_trans hsub.length_le h.ll, fun x hx => h.inb x (hsub.subset hx), h.fit.sub hsub, fun x hx => ?_, fun i c hi hc => ?_⟩
  · obtain ⟨i, c, e1, e2, e3⟩ := h.has x (hsub.subset hx)
    refine ⟨i, c, e1, ?_, e3⟩
    have hne : j ≠ i := fun e => less_not s l k b h.fit hb x hx (by rw [e1, hj, e])
    rw [List.getElem?_set_ne hne, e2]
  · have hne : j ≠ i := by
      rintro rfl
      rw [List.getElem?_set_self (by have := (List.getElem?_eq_some_iff.1 hi).1; simpa using this)] at hi
      injection hi with hi
      exact hc hi.symm
    rw [List.getElem?_set_ne hne] at hi
    obtain ⟨x, hx, e⟩ := h.all i c hi hc
    rcases less_mem l k b hb x hx with rfl | hm
    · rw [hj] at e; injection e with e; omega
    · exact ⟨x, hm, e⟩
/-- One bar more. -/
theorem snoc_reads (s : Su) (l : List Br) (t : List UInt8) (j : Nat) (b : Br) (c : UInt8) (h : Reads s l t) (hl : l.length < 400) (hb : InB b) (hj : plc s b = some (j : Int)) (ht : t[j]? = some 63) (hc : letter s b = c) (hex : ¬ ∃ x ∈ l, plc s x = some (j : Int)) : Reads s (l ++ [b]) (t.set j c) := by
  have hjl : j < t.length := (List.getElem?_eq_some_iff.1 ht).1
  · refine ⟨by rw [List.length_set]; exact h.tl, by rw [List.length_append, List.length_singleton]; omega, fun x hx => ?_, (fit_snoc s l b).2 ⟨h.fit, by rw [hj]; rfl, fun x hx e => hex ⟨x, hx, by rw [e, hj]⟩⟩, fun x hx => ?_, fun i c' hi hc' => ?_⟩
    · rcases List.mem_append.1 hx with hx | hx
      · exact h.inb x hx
      · simp at hx; subst hx; exact hb
    · rcases List.mem_append.1 hx with hx | hx
      · obtain ⟨i, c', e1, e2, e3⟩ := h.has x hx
        have hne : j ≠ i := fun e => hex ⟨x, hx, by rw [e1, e]⟩
        exact ⟨i, c', e1, by rw [List.getElem?_set_ne hne, e2], e3⟩
      · simp at hx; subst hx; exact ⟨j, c, hj, by rw [List.getElem?_set_self hjl], hc⟩
    · by_cases hne : j = i
      · subst hne; exact ⟨b, by simp, hj⟩
      · rw [List.getElem?_set_ne hne] at hi
        obtain ⟨x, hx, e⟩ := h.all i c' hi hc'
        exact ⟨x, by simp [hx], e⟩
end Go.Proofs.Ytgjnchjkjdnidaa

/- Scan and Draw as they are told; what is rejected. -/
namespace Go.Proofs.Ytgjnchjkjdnidaa
open Go.RowKit
abbrev encTx (t : List UInt8) : List Value := [.string ⟨t.toArray⟩]
theorem encTx_len (t : List UInt8) : (encTx t).length = 1 := rfl
/-- What Scan finds. -/
def ScR (s : Su) (l : List Br) (x : List UInt8) (b : Bool) (es er : List Nat) (e : Int) : Prop :=
  (s.pl ≠ 64 ∧ e = 2 ∧ x = [] ∧ b = false ∧ es = [] ∧ er = []) ∨ (s.pl = 64 ∧ errOf s l ≠ 0 ∧ e = errOf s l ∧ x = [] ∧ b = false ∧ es = [] ∧ er = []) ∨ (s.pl = 64 ∧ errOf s l = 0 ∧ RdR (readOf s l) x b es er e)
/-- What Draw draws. -/
def DrR (s : Su) (t : List UInt8) (l : List Br) (e : Int) : Prop :=
  (errW t ≠ 0 ∧ e = errW t ∧ l = []) ∨ (errW t = 0 ∧ s.pl ≠ 64 ∧ e = 2 ∧ l = []) ∨ (errW t = 0 ∧ s.pl = 64 ∧ ∃ x, WrR t x ∧ e = drawErr s x ∧ l = drawOf s x)
/-- Nothing is read, with this error. -/
def NoR (x : List UInt8) (e0 : Int) : Prop := ∀ (t : List UInt8) (b : Bool) (es er : List Nat) (e : Int), RdR x t b es er e → e = e0 ∧ t = [] ∧ b = false ∧ es = [] ∧ er = []
theorem noR_len {x : List UInt8} (h : x.length ≠ 64) : NoR x 2 := fun _ _ _ _ _ hr => rd_len h hr
theorem noR_ends {x : List UInt8} {e0 : Int} (h : x.length = 64) (hu : (unframeB x).2.2 = e0) (h0 : e0 ≠ 0) : NoR x e0 := fun _ _ _ _ _ hr => rd_ends h hu h0 hr
/-- What is made of the bars of a payload: with one defect. -/
def badT (T : List UInt8) (a : Nat) : Nat → List UInt8
  | 0 => T ++ [84]
  | 1 => T.take 63
  | 2 => (T.take a ++ [120]) ++ T.drop (a + 1)
  | 3 => [63] ++ T.drop 1
  | 4 => [65, 70] ++ T.drop 2
  | 5 => T.take 63 ++ [84]
  | _ => []
def badE (q : Nat) : Int := if q = 3 ∨ q = 4 ∨ q = 5 then 200 else 2
theorem set_cut {T : List UInt8} {p : Nat} {c : UInt8} (h : p < T.length) : (T.take p ++ [c]) ++ T.drop (p + 1) = T.set p c := by
  rw [List.set_eq_take_append_cons_drop, if_pos h, List.append_assoc]
  rfl
theorem bad_no {T : List UInt8} {a q : Nat} (hT : T.all isL = true) (h60 : T.length = 60) (ha : a < 64) (hq : q < 7) : NoR (badT (frm T) a q) (badE q) := by
  have hl := frm_len T
  have bent : ∀ (p : Nat) (c : UInt8), isL c = true → (p = 0 ∨ p = 1 ∨ p = T.length + 2 ∨ p = T.length + 3) → (frm T)[p]? ≠ some c → NoR ((frm T).set p c) 200 := fun p c hc hp hne =>
    noR_ends (by rw [List.length_set]; omega) (by rw [bent_no hT (by omega) hc hp hne]) (by decide)
  obtain ⟨f0, f1, f2, f3⟩ := frm_at T
  rcases (show q = 0 ∨ q = 1 ∨ q = 2 ∨ q = 3 ∨ q = 4 ∨ q = 5 ∨ q = 6 by omega) with rfl | rfl | rfl | rfl | rfl | rfl | rfl
  · exact noR_len (by show (frm T ++ [84]).length ≠ 64; rw [List.length_append, hl]; simp; omega)
  · exact noR_len (by show ((frm T).take 63).length ≠ 64; rw [List.length_take]; omega)
  · show NoR (((frm T).take a ++ [120]) ++ (frm T).drop (a + 1)) 2
    rw [set_cut (by omega)]
    have h2 : errB 0 ((frm T).set a 120) = 2 := by
      refine errB_bad (by rw [List.length_set]; omega) ?_
      rw [← Bool.not_eq_true, List.all_eq_true]
      intro h
      have := h 120 (List.mem_of_getElem? (List.getElem?_set_self (by omega)))
      exact absurd this (by decide)
    exact noR_ends (by rw [List.length_set]; omega) (by rw [unf_err (by rw [h2]; decide), h2]) (by decide)
  · have e : [63] ++ (frm T).drop 1 = (frm T).set 0 63 := set_cut (p := 0) (by omega)
    show NoR ([63] ++ (frm T).drop 1) 200
    rw [e]
    exact bent 0 63 rfl (.inl rfl) (by rw [f0]; decide)
  · have e : [65, 70] ++ (frm T).drop 2 = (frm T).set 1 70 := rfl
    show NoR ([65, 70] ++ (frm T).drop 2) 200
    rw [e]
    exact bent 1 70 rfl (.inr (.inl rfl)) (by rw [f1]; decide)
  · have e : (frm T).take 63 ++ [84] = (frm T).set 63 84 := by
      have h := set_cut (T := frm T) (p := 63) (c := 84) (by omega)
      rwa [List.drop_of_length_le (by omega), List.append_nil] at h
    show NoR ((frm T).take 63 ++ [84]) 200
    rw [e]
    exact bent 63 84 rfl (.inr (.inr (.inr (by omega)))) (by rw [show 63 = T.length + 3 by omega, f3]; decide)
  · exact noR_len (by show ([] : List UInt8).length ≠ 64; decide)
/-- The texts that are no payloads. -/
abbrev noPays : List (List UInt8) := [[97], [49, 32], [45, 49], [49, 46], [0], [49, 255], [120]]
theorem noPays_bad : ∀ d ∈ noPays, errW d = 2 ∧ d.length ≤ 1000 := by decide
abbrev longPay : List UInt8 := [49, 50, 51, 52, 53, 54, 55, 56, 57, 48, 49, 50, 51, 52, 53, 54, 55, 56, 57, 48, 49, 50, 51, 52, 53, 54, 55, 56, 57]
/-- Nothing is scanned. -/
def NoS (s : Su) (l : List Br) (e0 : Int) : Prop := ∀ (t : List UInt8) (b : Bool) (es er : List Nat) (e : Int), ScR s l t b es er e → e = e0 ∧ t = [] ∧ b = false ∧ es = [] ∧ er = []
theorem noS_pl {s : Su} {l : List Br} (h : s.pl ≠ 64) : NoS s l 2 := fun _ _ _ _ _ hr => by
  rcases hr with ⟨_, h⟩ | ⟨h2, _⟩ | ⟨h2, _⟩
  · exact h
  · exact absurd h2 h
  · exact absurd h2 h
theorem noS_none : NoS ⟨64, 0, 1, 0, 0, 1⟩ [] 200 := fun t b es er e hr => by
  have h0 : errOf ⟨64, 0, 1, 0, 0, 1⟩ [] = 0 := by decide
  rcases hr with ⟨h, _⟩ | ⟨_, h, _⟩ | ⟨_, _, h⟩
  · exact absurd rfl h
  · exact absurd h0 h
  · have e1 : readOf ⟨64, 0, 1, 0, 0, 1⟩ [] = List.replicate 64 63 := by decide +kernel
    rw [e1] at h
    exact rd_ends (e0 := 200) (by decide) (by decide +kernel) (by decide) h
theorem wrD2_ret (w : World) {t : List UInt8} (he : errW t = 0) (hl : t.length ≤ 1000) : Ret Try.prog 13 [.string ⟨t.toArray⟩] w (fun v w' => ∃ c, IsEnc (b64 (numT t)) c ∧ v = .tuple #[.string ⟨(frm (wd c)).toArray⟩, .int .i64 0] ∧ Ex w w') := by
  refine (bwr_ret t w hl).mono ?_
  rintro v w' ⟨y, rfl, hy, hx⟩
  obtain ⟨c, hc, rfl⟩ := hy.1 he
  exact ⟨c, hc, by rw [he]; rfl, hx⟩
theorem wr_len {t x : List UInt8} (h : WrR t x) : x.length ≤ 64 := by
  by_cases h0 : errW t = 0
  · obtain ⟨c, hc, rfl⟩ := h.1 h0
    rw [barsT_len, enc20 hc]; omega
  · rw [h.2 h0]; simp
theorem brd_no2 {x : List UInt8} {e0 : Int} (w : World) (h : NoR x e0) :
    Ret Try.prog 16 [.string ⟨x.toArray⟩] w (fun v w' => ∃ A B C D, v = .tuple #[.agg ([.string ⟨#[]⟩, .bool false, .slice A 0 B, .slice C 0 D] : List Value).toArray, .int .i64 e0] ∧ Own w' w.heap.size 3 1 encZ (.slice A 0 B) [] ∧ Own w' w.heap.size 3 1 encZ (.slice C 0 D) [] ∧ Ex w w') := by
  refine (brd_ret x w).mono ?_
  rintro v w' ⟨t', b', y, z, es', er', e, rfl, hy, hz, hrd, hx⟩
  obtain ⟨rfl, rfl, rfl, rfl, rfl⟩ := h _ _ _ _ _ hrd
  obtain ⟨A, B, rfl⟩ := hy.shape
  obtain ⟨C, D, rfl⟩ := hz.shape
  exact ⟨A, B, C, D, rfl, hy, hz, hx⟩
theorem bwr_no {t : List UInt8} {e0 : Int} (w : World) (h : errW t = e0) (h0 : e0 ≠ 0) (hl : t.length ≤ 1000) : Ret Try.prog 13 [.string ⟨t.toArray⟩] w (fun v w' => v = .tuple #[.string ⟨([] : List UInt8).toArray⟩, .int .i64 e0] ∧ Ex w w') := by
  refine (bwr_ret t w hl).mono ?_
  rintro v w' ⟨y, rfl, hy, hx⟩
  rw [hy.2 (by rw [h]; exact h0), h]
  exact ⟨rfl, hx⟩
end Go.Proofs.Ytgjnchjkjdnidaa

/- Walks (UR). Written by program. -/
namespace Go.Proofs.Ytgjnchjkjdnidaa
open Go.RowKit
set_option maxRecDepth 100000 in
set_option maxHeartbeats 4000000 in
theorem scan_ret (s : Su) (u : Value) (l : List Br) (w : World) (hl : RdL w 3 Br.c u l) (hlen : l.length ≤ 1000) :
    Ret Try.prog 11 [s.v, u] w (fun v w' => ∃ x b y z es er e, v = .tuple #[.agg ([.string ⟨x.toArray⟩, .bool b, y, z] : List Value).toArray, .int .i64 e] ∧ Own w' w.heap.size 3 1 encZ y es ∧ Own w' w.heap.size 3 1 encZ z er ∧ ScR s l x b es er e ∧ Ex w w') := by
  have hB0 : Ex w w := Ex.rfl_ _
  refine Ret.of Try.func11 rfl Try.ntmps11 rfl ?_
  refine CW.seq ?_
  refine CW.region ?_
  refine RG.box rfl rfl rfl rfl rfl (fun g1 w1 eg1 hx1 hb1 => ?_)
  have hle2 : w.heap.size ≤ g1 := by have := (Ex.rfl_ w).size; omega
  have hE3 := hx1
  refine RG.alloc_ rfl rfl rfl rfl inf_43 (fun gR w4 egR hx4 hb4 => ?_)
  have hle5 : w.heap.size ≤ gR := by have := hE3.size; omega
  have hle6 : w1.heap.size ≤ gR := by have := (Ex.rfl_ w1).size; omega
  have hlt7 : g1 < gR := by have := Blk.lt hb1; omega
  replace hE3 := Ex.tr hE3 hx4
  have hE8 := hx4
  refine RG.vl rfl rfl rfl (Ev.assign rfl rfl) ?_
  refine RG.done ?_
  refine QW.then_ ?_
  refine CW.seq ?_
  refine CW.seq ?_
  refine CW.region ?_
  refine RG.vl rfl rfl rfl (Ev.fld rfl rfl fld_27_0) ?_
  refine RG.vl rfl rfl rfl (Ev.ldAt rfl rfl Try.underlying3 rfl ((hb1.ext hE8).cells) (rfl)) ?_
  refine RG.vl rfl rfl rfl (Ev.neI rfl rfl rfl) ?_
  refine RG.done ?_
  refine QW.then_ ?_
  refine CW.condP rfl (fun hc9 => ?_) (fun hc9 => ?_)
  · refine CW.seq ?_
    refine CW.region ?_
    refine RG.vl rfl rfl rfl (Ev.build1 rfl rfl rfl inf_43 rfl rfl (by kernel_rfl) rfl) ?_
    refine RG.stAll (g := gR) rfl rfl rfl rfl rfl sz_43 rfl rfl rfl hb4 (fun ws10 hwws10 hbws10 => ?_)
    replace hE3 := Wr.below hE3 hwws10 hle5
    replace hE8 := Wr.below hE8 hwws10 hle6
    refine RG.vl rfl rfl rfl (Ev.assign rfl rfl) ?_
    refine RG.done ?_
    refine QW.then_ ?_
    refine CW.ret ?_
    refine QW.thenRet ?_
    refine QW.retCT rfl rfl rfl Try.underlying43 rfl sz_43 (us := [.string _, .bool _, _, _]) rfl hbws10 ?_
    have hB := (Ex.tr hB0 hE3)
    exact ⟨[], false, _, _, [], [], 2, rfl, Own.nil_ _ _ _ _ _, Own.nil_ _ _ _ _ _, .inl ⟨by omega, rfl, rfl, rfl, rfl, rfl⟩, hB⟩
  · refine CW.skip ?_
    refine QW.then_ ?_
    refine CW.seq ?_
    refine CW.region ?_
    refine RG.vl rfl rfl rfl (Ev.ldAgg rfl rfl Try.underlying27 rfl sz_27 rfl ((hb1.ext hE8).cells)) ?_
    refine RG.vl rfl rfl rfl (Ev.move rfl rfl) ?_
    refine RG.call rfl rfl rfl rfl rfl rfl rfl en_22 (hread_ret _ _ _ _ ((hl.ext hE3)) (by omega)) ?_
    rintro _ w11 ⟨rfl, hx11⟩
    replace hE3 := Ex.tr hE3 hx11
    replace hE8 := Ex.tr hE8 hx11
    have hE12 := hx11
    refine RG.vl rfl rfl rfl (Ev.move rfl rfl) ?_
    refine RG.vl rfl rfl rfl (Ev.extract rfl rfl rfl) ?_
    refine RG.vl rfl rfl rfl (Ev.extract rfl rfl rfl) ?_
    refine RG.vl rfl rfl rfl (Ev.assign rfl rfl) ?_
    refine RG.vl rfl rfl rfl (Ev.assign rfl rfl) ?_
    refine RG.done ?_
    refine QW.sub (S' := [(4, _), (5, _), (6, _), (7, _)]) ⟨rfl, rfl, rfl, rfl, trivial⟩ ?_
    refine QW.then_ ?_
    refine CW.seq ?_
    refine CW.seq ?_
    refine CW.region ?_
    refine RG.vl rfl rfl rfl (Ev.move rfl rfl) ?_
    refine RG.vl rfl rfl rfl (Ev.neI rfl rfl rfl) ?_
    refine RG.done ?_
    refine QW.then_ ?_
    refine CW.condP rfl (fun hc13 => ?_) (fun hc13 => ?_)
    · refine CW.seq ?_
      refine CW.region ?_
      refine RG.vl rfl rfl rfl (Ev.build1 rfl rfl rfl inf_43 rfl rfl (by kernel_rfl) rfl) ?_
      refine RG.vl rfl rfl rfl (Ev.move rfl rfl) ?_
      refine RG.stAll (g := gR) rfl rfl rfl rfl rfl sz_43 rfl rfl rfl (hb4.ext hE12) (fun ws14 hwws14 hbws14 => ?_)
      replace hE3 := Wr.below hE3 hwws14 hle5
      replace hE8 := Wr.below hE8 hwws14 hle6
      refine RG.vl rfl rfl rfl (Ev.assign rfl rfl) ?_
      refine RG.done ?_
      refine QW.then_ ?_
      refine CW.ret ?_
      refine QW.thenRet ?_
      refine QW.retCT rfl rfl rfl Try.underlying43 rfl sz_43 (us := [.string _, .bool _, _, _]) rfl hbws14 ?_
      have hB := (Ex.tr hB0 hE3)
      exact ⟨[], false, _, _, [], [], _, rfl, Own.nil_ _ _ _ _ _, Own.nil_ _ _ _ _ _, .inr (.inl ⟨by omega, by omega, rfl, rfl, rfl, rfl, rfl⟩), hB⟩
    · refine CW.skip ?_
      refine QW.then_ ?_
      refine CW.seq ?_
      refine CW.region ?_
      refine RG.vl rfl rfl rfl (Ev.move rfl rfl) ?_
      refine RG.call rfl rfl rfl rfl rfl rfl rfl en_16 (brd_ret _ _) ?_
      have hpre15 := (Ex.tr hB0 hE3)
      rintro _ w15 ⟨rx, rb, ry, rz, rs, re, rn, rfl, hoy, hoz, hrd, hx15⟩
      have hsb16 := fun e => sep_blk (hb1.ext hE8) (Nat.le_refl _) hoy e
      have hsb17 := fun e => sep_blk (hb4.ext hE12) (Nat.le_refl _) hoy e
      have hsb18 := fun e => sep_blk (hb1.ext hE8) (Nat.le_refl _) hoz e
      have hsb19 := fun e => sep_blk (hb4.ext hE12) (Nat.le_refl _) hoz e
      replace hoy := Own.low (B' := w.heap.size) hoy (by have := (Ex.tr hB0 hE3).size; omega)
      replace hoz := Own.low (B' := w.heap.size) hoz (by have := (Ex.tr hB0 hE3).size; omega)
      replace hE3 := Ex.tr hE3 hx15
      replace hE8 := Ex.tr hE8 hx15
      replace hE12 := Ex.tr hE12 hx15
      have hE20 := hx15
      obtain ⟨yA, yC, rfl⟩ := hoy.shape
      obtain ⟨zA, zC, rfl⟩ := hoz.shape
      refine RG.vl rfl rfl rfl (Ev.extract rfl rfl rfl) ?_
      refine RG.vl rfl rfl rfl (Ev.extract rfl rfl rfl) ?_
      refine RG.stAll (g := gR) rfl rfl rfl rfl rfl sz_43 rfl rfl rfl (hb4.ext hE12) (fun ws21 hwws21 hbws21 => ?_)
      replace hoy := Own.far hoy hwws21 hsb17
      replace hoz := Own.far hoz hwws21 hsb19
      replace hE3 := Wr.below hE3 hwws21 hle5
      replace hE8 := Wr.below hE8 hwws21 hle6
      refine RG.vl rfl rfl rfl (Ev.assign rfl rfl) ?_
      refine RG.done ?_
      refine QW.then_ ?_
      refine CW.ret ?_
      refine QW.retCT rfl rfl rfl Try.underlying43 rfl sz_43 (us := [.string _, .bool _, _, _]) rfl hbws21 ?_
      have hB := (Ex.tr hB0 hE3)
      exact ⟨_, _, _, _, _, _, _, rfl, hoy, hoz, .inr (.inr ⟨by omega, by omega, hrd⟩), hB⟩

set_option maxRecDepth 100000 in
set_option maxHeartbeats 1000000 in
theorem draw_own (s : Su) (t : ByteArray) (w : World) (hlen : t.size ≤ 1000) :
    Ret Try.prog 19 [s.v, .string t] w (fun v w' => ∃ u, v = .tuple #[u, .int .i64 (drawErr s t.data.toList)] ∧ Own w' w.heap.size 35 3 Br.c u (drawOf s t.data.toList) ∧ Ex w w') := by
  have hB0 : Ex w w := Ex.rfl_ _
  refine Ret.of Try.func19 rfl Try.ntmps19 rfl ?_
  refine CW.seq ?_
  refine CW.region ?_
  refine RG.box rfl rfl rfl rfl rfl (fun g1 w1 eg1 hx1 hb1 => ?_)
  have hle2 : w.heap.size ≤ g1 := by have := (Ex.rfl_ w).size; omega
  have hE3 := hx1
  refine RG.vl rfl rfl rfl (Ev.assign rfl rfl) ?_
  refine RG.vl rfl rfl rfl (Ev.assign rfl rfl) ?_
  refine RG.done ?_
  refine QW.then_ ?_
  refine CW.seq ?_
  refine CW.seq ?_
  refine CW.region ?_
  refine RG.vl rfl rfl rfl (Ev.ldAgg rfl rfl Try.underlying27 rfl sz_27 rfl (hb1.cells)) ?_
  refine RG.call rfl rfl rfl rfl rfl rfl rfl en_34 (right_ret _ _) ?_
  rintro _ w4 ⟨rfl, hx4⟩
  replace hE3 := Ex.tr hE3 hx4
  have hE5 := hx4
  refine RG.vl rfl rfl rfl (Ev.notP rfl rfl) ?_
  refine RG.vl rfl rfl rfl (Ev.move rfl rfl) ?_
  refine RG.split (d := 15) rfl (fun hg6 => ?_) (fun hg6 => ?_)
  · refine RG.pass rfl rfl rfl ?_
    refine RG.pass rfl rfl rfl ?_
    refine RG.pass rfl rfl rfl ?_
    refine RG.pass rfl rfl rfl ?_
    refine RG.pass rfl rfl rfl ?_
    refine RG.vl rfl rfl rfl (Ev.pickT rfl rfl rfl) ?_
    refine RG.done ?_
    refine QW.then_ ?_
    refine CW.condT rfl ?_
    refine CW.seq ?_
    refine CW.region ?_
    refine RG.vl rfl rfl rfl (Ev.assign rfl rfl) ?_
    refine RG.vl rfl rfl rfl (Ev.assign rfl rfl) ?_
    refine RG.done ?_
    refine QW.sub (S' := [(1, _), (2, _), (4, _), (5, _)]) ⟨rfl, rfl, rfl, rfl, trivial⟩ ?_
    refine QW.then_ ?_
    refine CW.ret ?_
    refine QW.thenRet ?_
    refine QW.ret2 rfl rfl rfl ?_
    have hB := (Ex.tr hB0 hE3)
    obtain ⟨e1, e2⟩ := drawErr_bad s t.data.toList (by rintro ⟨h1, h2, _⟩; first | exact absurd h1 (by assumption) | (rw [Array.length_toList] at h2; exact absurd (show (t.size : Int) = s.pl from h2) (by assumption)))
    exact ⟨_, by rw [e1], by rw [e2]; exact Own.nil_ _ _ _ _ _, hB⟩
  · refine RG.vl rfl rfl rfl (Ev.move rfl rfl) ?_
    refine RG.vl rfl rfl rfl (Ev.lenStr rfl rfl rfl Try.underlying9) ?_
    refine RG.vl rfl rfl rfl (Ev.fld rfl rfl fld_27_0) ?_
    refine RG.vl rfl rfl rfl (Ev.ldAt rfl rfl Try.underlying3 rfl ((hb1.ext hE5).cells) (rfl)) ?_
    refine RG.vl rfl rfl rfl (Ev.neI rfl rfl rfl) ?_
    refine RG.vl rfl rfl rfl (Ev.pickF rfl rfl rfl) ?_
    refine RG.done ?_
    refine QW.then_ ?_
    refine CW.condP rfl (fun hc7 => ?_) (fun hc7 => ?_)
    · refine CW.seq ?_
      refine CW.region ?_
      refine RG.vl rfl rfl rfl (Ev.assign rfl rfl) ?_
      refine RG.vl rfl rfl rfl (Ev.assign rfl rfl) ?_
      refine RG.done ?_
      refine QW.sub (S' := [(1, _), (2, _), (4, _), (5, _)]) ⟨rfl, rfl, rfl, rfl, trivial⟩ ?_
      refine QW.then_ ?_
      refine CW.ret ?_
      refine QW.thenRet ?_
      refine QW.ret2 rfl rfl rfl ?_
      have hB := (Ex.tr hB0 hE3)
      obtain ⟨e1, e2⟩ := drawErr_bad s t.data.toList (by rintro ⟨h1, h2, _⟩; first | exact absurd h1 (by assumption) | (rw [Array.length_toList] at h2; exact absurd (show (t.size : Int) = s.pl from h2) (by assumption)))
      exact ⟨_, by rw [e1], by rw [e2]; exact Own.nil_ _ _ _ _ _, hB⟩
    · refine CW.skip ?_
      refine QW.then_ ?_
      refine CW.seq ?_
      have hs : Okay s := Decidable.not_not.1 (by assumption)
      obtain ⟨a1, a2, a3, a4, a5, a6, a7, a8, a9, a10, a11⟩ := id hs
      have hlz : t.data.toList.length = t.size := Array.length_toList
      refine CW.region ?_
      refine RG.mkMap (fun b : Bool => Value.bool b) rfl rfl rfl rfl (fun gH w8 egH hx8 hb8 => ?_)
      have hle9 : w.heap.size ≤ gH := by have := hE3.size; omega
      have hle10 : w1.heap.size ≤ gH := by have := hE5.size; omega
      have hle11 : w4.heap.size ≤ gH := by have := (Ex.rfl_ w4).size; omega
      have hlt12 : g1 < gH := by have := Blk.lt (hb1.ext hE5); omega
      replace hE3 := Ex.tr hE3 hx8
      replace hE5 := Ex.tr hE5 hx8
      refine RG.vl rfl rfl rfl (Ev.fld rfl rfl fld_27_4) ?_
      refine RG.vl rfl rfl rfl (Ev.ldAt rfl rfl Try.underlying3 rfl ((hb1.ext hE5).cells) (rfl)) ?_
      refine RG.mapPut keyB rfl rfl (.inr rfl) rfl rfl rfl Try.underlying89 Try.underlying4 hb8 (rfl) (fun wm13 hwm13 hbwm13 => ?_)
      replace hE3 := Wr.below hE3 hwm13 hle9
      replace hE5 := Wr.below hE5 hwm13 hle10
      refine RG.vl rfl rfl rfl (Ev.fld rfl rfl fld_27_5) ?_
      refine RG.vl rfl rfl rfl (Ev.ldAt rfl rfl Try.underlying3 rfl ((hb1.ext hE5).cells) (rfl)) ?_
      refine RG.mapPut keyB rfl rfl (.inr rfl) rfl rfl rfl Try.underlying89 Try.underlying4 hbwm13 (rfl) (fun wm14 hwm14 hbwm14 => ?_)
      replace hE3 := Wr.below hE3 hwm14 hle9
      replace hE5 := Wr.below hE5 hwm14 hle10
      refine RG.vl rfl rfl rfl (Ev.move rfl rfl) ?_
      refine RG.vl rfl rfl rfl (Ev.assign rfl rfl) ?_
      refine RG.done ?_
      refine QW.sub (S' := [(1, _), (2, _), (4, _), (5, _), (6, _)]) ⟨rfl, rfl, rfl, rfl, rfl, trivial⟩ ?_
      refine QW.then_ ?_
      refine CW.seq ?_
      refine CW.region ?_
      refine RG.vl rfl rfl rfl (Ev.assign rfl rfl) ?_
      refine RG.done ?_
      refine QW.then_ ?_
      refine CW.seq ?_
      refine CW.seq ?_
      refine CW.region ?_
      refine RG.vl rfl rfl rfl (Ev.move rfl rfl) ?_
      refine RG.toBytes rfl rfl rfl rfl rfl Try.underlying9 Try.underlying22 Try.underlying5 (by simp only [maxLen]; omega) (fun v15 wk16 hxwk16 hrwk16 => ?_)
      replace hE3 := Ex.tr hE3 hxwk16
      replace hE5 := Ex.tr hE5 hxwk16
      have hE17 := hxwk16
      refine RG.vl rfl rfl rfl (Ev.lenL rfl rfl rfl Try.underlying22 (hrwk16)) ?_
      refine RG.vl rfl rfl rfl (Ev.move rfl rfl) ?_
      refine RG.done ?_
      refine QW.then_ ?_
      refine CW.block ?_
      replace hb1 := (hb1.ext hE5)
      replace hbwm14 := (hbwm14.ext hE17)
      have hR18 := (Ex.tr hB0 hE3)
      have hR19 := hE5
      refine CW.loop2 [(2, _), (6, _), (29, _), (30, _)] ⟨rfl, rfl, rfl, rfl, trivial⟩ (fun (k : Nat) (u : Value) => [(31, .int .i64 k), (7, u)]) (fun k u w' => (k ≤ t.size ∧ w'.ownsRow wk16.heap.size 35 3 u (drawL s (t.data.toList.take k) 0).length ((drawL s (t.data.toList.take k) 0).flatMap Br.c) ∧ (t.data.toList.take k).all okLetter = true) ∧ Ex wk16 w') (fun k u => t.size - k) (0) (.slice none 0 0) ⟨rfl, rfl, trivial⟩ ⟨⟨Nat.zero_le _, own_nil _ _ _ _, rfl⟩, (Ex.rfl_ _)⟩ ?_
      rintro k u wl20 ⟨⟨hkl, hown, hall⟩, hxwl20⟩
      refine CW.sub (S' := [(31, _), (7, _), (2, _), (6, _), (29, _), (30, _)]) ⟨rfl, rfl, rfl, rfl, rfl, rfl, trivial⟩ ?_
      refine CW.seq ?_
      refine CW.region ?_
      refine RG.vl rfl rfl rfl (Ev.lss rfl rfl rfl) ?_
      refine RG.done ?_
      refine QW.then_ ?_
      refine CW.seq ?_
      refine CW.condP rfl (fun hc21 => ?_) (fun hc21 => ?_)
      · refine CW.skip ?_
        refine QW.then_ ?_
        refine CW.seq ?_
        refine CW.block ?_
        refine CW.seq ?_
        obtain ⟨c, hc⟩ : ∃ c, t.data.toList[k]? = some c := ⟨_, List.getElem?_eq_getElem (by omega)⟩
        have hkp := kpi s k hs (by omega) (by omega)
        have hdl := drawL_len s (t.data.toList.take k) 0
        rw [List.length_take] at hdl
        refine CW.region ?_
        refine RG.vl rfl rfl rfl (Ev.move rfl rfl) ?_
        refine RG.idxL rfl rfl rfl rfl rfl rfl Try.underlying22 sz_5 ((hrwk16.ext hxwl20)) (hc) (fun p22 hp22b hp22 => ?_)
        refine RG.vl rfl rfl rfl (Ev.ld0 rfl rfl Try.underlying5 rfl (hp22) (rfl)) ?_
        refine RG.vl rfl rfl rfl (Ev.assign rfl rfl) ?_
        refine RG.vl rfl rfl rfl (Ev.assign rfl rfl) ?_
        refine RG.done ?_
        refine QW.then_ ?_
        refine CW.seq ?_
        refine CW.seq ?_
        refine CW.region ?_
        refine RG.vl rfl rfl rfl (Ev.move rfl rfl) ?_
        refine RG.call rfl rfl rfl rfl rfl rfl rfl en_35 (hidxb1_ret _ _ _) ?_
        rintro _ w23 ⟨rfl, hx23⟩
        replace hxwl20 := Ex.tr hxwl20 hx23
        have hE24 := hx23
        refine RG.vl rfl rfl rfl (Ev.lss rfl rfl rfl) ?_
        refine RG.done ?_
        refine QW.then_ ?_
        refine CW.condP rfl (fun hc25 => ?_) (fun hc25 => ?_)
        · refine CW.seq ?_
          refine CW.region ?_
          refine RG.vl rfl rfl rfl (Ev.assign rfl rfl) ?_
          refine RG.vl rfl rfl rfl (Ev.assign rfl rfl) ?_
          refine RG.done ?_
          refine QW.then_ ?_
          refine CW.ret ?_
          refine QW.thenRet ?_
          refine QW.blockR ?_
          refine QW.thenRet ?_
          refine QW.thenRet ?_
          refine QW.blockR ?_
          refine QW.thenRet ?_
          refine QW.ret2 rfl rfl rfl ?_
          have hB := (Ex.tr hR18 hxwl20)
          obtain ⟨e1, e2⟩ := drawErr_bad s t.data.toList (by rintro ⟨_, _, h3⟩; have := (List.all_eq_true.1 h3) c (List.mem_of_getElem? hc); rw [(idx_letters c).1 (by assumption)] at this; cases this)
          exact ⟨_, by rw [e1], by rw [e2]; exact Own.nil_ _ _ _ _ _, hB⟩
        · refine CW.skip ?_
          refine QW.then_ ?_
          refine CW.seq ?_
          refine CW.region ?_
          refine RG.vl rfl rfl rfl (Ev.move rfl rfl) ?_
          refine RG.vl rfl rfl rfl (Ev.neI rfl rfl rfl) ?_
          refine RG.done ?_
          refine QW.then_ ?_
          refine CW.condP rfl (fun hc26 => ?_) (fun hc26 => ?_)
          · refine CW.seq ?_
            refine CW.region ?_
            refine RG.vl rfl rfl rfl (Ev.move rfl rfl) ?_
            refine RG.vl rfl rfl rfl (Ev.eqI rfl rfl rfl) ?_
            refine RG.vl rfl rfl rfl (Ev.move rfl rfl) ?_
            refine RG.split (d := 43) rfl (fun hg27 => ?_) (fun hg27 => ?_)
            · refine RG.pass rfl rfl rfl ?_
              refine RG.pass rfl rfl rfl ?_
              refine RG.vl rfl rfl rfl (Ev.pickT rfl rfl rfl) ?_
              refine RG.vl rfl rfl rfl (Ev.move rfl rfl) ?_
              refine RG.vl rfl rfl rfl (Ev.eqI rfl rfl rfl) ?_
              refine RG.vl rfl rfl rfl (Ev.move rfl rfl) ?_
              refine RG.split (d := 49) rfl (fun hg28 => ?_) (fun hg28 => ?_)
              · refine RG.pass rfl rfl rfl ?_
                refine RG.pass rfl rfl rfl ?_
                refine RG.vl rfl rfl rfl (Ev.pickT rfl rfl rfl) ?_
                refine RG.vl rfl rfl rfl (Ev.assign rfl rfl) ?_
                refine RG.vl rfl rfl rfl (Ev.assign rfl rfl) ?_
                refine RG.done ?_
                refine QW.sub (S' := [(2, _), (6, _), (7, _), (8, _), (10, _), (11, _), (29, _), (30, _), (31, _)]) ⟨rfl, rfl, rfl, rfl, rfl, rfl, rfl, rfl, rfl, trivial⟩ ?_
                refine QW.then_ ?_
                refine CW.region ?_
                refine RG.vl rfl rfl rfl (Ev.move rfl rfl) ?_
                refine RG.vl rfl rfl rfl (Ev.fld rfl rfl fld_27_1) ?_
                refine RG.vl rfl rfl rfl (Ev.ldAt rfl rfl Try.underlying3 rfl ((hb1.ext hxwl20).cells) (rfl)) ?_
                refine RG.vl rfl rfl rfl (Ev.move rfl rfl) ?_
                refine RG.vl rfl rfl rfl (Ev.fld rfl rfl fld_27_2) ?_
                refine RG.vl rfl rfl rfl (Ev.ldAt rfl rfl Try.underlying3 rfl ((hb1.ext hxwl20).cells) (rfl)) ?_
                refine RG.vl rfl rfl rfl (Ev.mulI rfl rfl rfl (by omega)) ?_
                refine RG.vl rfl rfl rfl (Ev.addI rfl rfl rfl (by omega)) ?_
                refine RG.vl rfl rfl rfl (Ev.move rfl rfl) ?_
                refine RG.vl rfl rfl rfl (Ev.move rfl rfl) ?_
                refine RG.vl rfl rfl rfl ((Ev.look1 keyB rfl rfl rfl (hbwm14.ext hxwl20) Try.underlying89 Try.underlying4 inf_3).conv (hts_look s.lo s.hi _)) ?_
                refine RG.vl rfl rfl rfl (Ev.move rfl rfl) ?_
                refine RG.vl rfl rfl rfl (Ev.move rfl rfl) ?_
                refine RG.vl rfl rfl rfl ((Ev.look1 keyB rfl rfl rfl (hbwm14.ext hxwl20) Try.underlying89 Try.underlying4 inf_3).conv (hts_look s.lo s.hi _)) ?_
                refine RG.vl rfl rfl rfl (Ev.build1 rfl rfl rfl inf_35 rfl rfl (by kernel_rfl) rfl) ?_
                refine RG.buildD (xs := [.tmp 67]) rfl rfl rfl rfl rfl rfl rfl Try.underlying29 inf_35 rfl rfl rfl rfl (fun g29 w29 eg29 hx29 hb29 => ?_)
                have hsep30 := own_new (own_ext hown hE24) eg29
                replace hxwl20 := Ex.tr hxwl20 hx29
                replace hE24 := Ex.tr hE24 hx29
                refine RG.app rfl rfl rfl rfl rfl rfl rfl Try.underlying29 inf_35 rfl rfl (own_ext hown hE24) rfl (fun _ => ⟨_, rfl, hb29.cells⟩) rfl (by simp only [maxLen]; omega) (by omega) (hxwl20.size) (fun v31 wa32 hown33 hgr34 hat35 => ?_)
                have hb36 := Blk.grown hb29 hgr34 hsep30.symm
                have hsep37 := sep_app hat35 hsep30 (Blk.lt hb29)
                replace hxwl20 := own_block (own_ext hown hE24) hxwl20 hgr34 (Nat.le_refl _) hxwl20.size
                refine RG.vl rfl rfl rfl (Ev.assign rfl rfl) ?_
                refine RG.done ?_
                refine QW.sub (S' := [(2, _), (6, _), (7, _), (29, _), (30, _), (31, _)]) ⟨rfl, rfl, rfl, rfl, rfl, rfl, trivial⟩ ?_
                refine QW.blockN ?_
                refine QW.then_ ?_
                refine CW.region ?_
                refine RG.vl rfl rfl rfl (Ev.addI rfl rfl rfl (by omega)) ?_
                refine RG.vl rfl rfl rfl (Ev.move rfl rfl) ?_
                refine RG.done ?_
                refine QW.round2 (k + 1) (v31) ⟨rfl, rfl, trivial⟩ ⟨rfl, rfl, rfl, rfl, trivial⟩ ⟨⟨by omega, by rw [drawL_step s _ k c hc (fun e => absurd (show (c.toNat : Int) = 63 by rw [e]; rfl) (by assumption)), mkb_eq s c k (true) (true) (selT c 65 (by assumption)) (selT c 68 (by assumption)), List.length_append, List.flatMap_append]; exact hown33, all_snoc _ k c _ hc hall (by have := mt (idx_letters c).2 (by assumption); simpa using this)⟩, hxwl20⟩ (by omega)
              · refine RG.vl rfl rfl rfl (Ev.move rfl rfl) ?_
                refine RG.vl rfl rfl rfl (Ev.eqI rfl rfl rfl) ?_
                refine RG.vl rfl rfl rfl (Ev.pickF rfl rfl rfl) ?_
                refine RG.vl rfl rfl rfl (Ev.assign rfl rfl) ?_
                refine RG.vl rfl rfl rfl (Ev.assign rfl rfl) ?_
                refine RG.done ?_
                refine QW.sub (S' := [(2, _), (6, _), (7, _), (8, _), (10, _), (11, _), (29, _), (30, _), (31, _)]) ⟨rfl, rfl, rfl, rfl, rfl, rfl, rfl, rfl, rfl, trivial⟩ ?_
                refine QW.then_ ?_
                refine CW.region ?_
                refine RG.vl rfl rfl rfl (Ev.move rfl rfl) ?_
                refine RG.vl rfl rfl rfl (Ev.fld rfl rfl fld_27_1) ?_
                refine RG.vl rfl rfl rfl (Ev.ldAt rfl rfl Try.underlying3 rfl ((hb1.ext hxwl20).cells) (rfl)) ?_
                refine RG.vl rfl rfl rfl (Ev.move rfl rfl) ?_
                refine RG.vl rfl rfl rfl (Ev.fld rfl rfl fld_27_2) ?_
                refine RG.vl rfl rfl rfl (Ev.ldAt rfl rfl Try.underlying3 rfl ((hb1.ext hxwl20).cells) (rfl)) ?_
                refine RG.vl rfl rfl rfl (Ev.mulI rfl rfl rfl (by omega)) ?_
                refine RG.vl rfl rfl rfl (Ev.addI rfl rfl rfl (by omega)) ?_
                refine RG.vl rfl rfl rfl (Ev.move rfl rfl) ?_
                refine RG.vl rfl rfl rfl (Ev.move rfl rfl) ?_
                refine RG.vl rfl rfl rfl ((Ev.look1 keyB rfl rfl rfl (hbwm14.ext hxwl20) Try.underlying89 Try.underlying4 inf_3).conv (hts_look s.lo s.hi _)) ?_
                refine RG.vl rfl rfl rfl (Ev.move rfl rfl) ?_
                refine RG.vl rfl rfl rfl (Ev.move rfl rfl) ?_
                refine RG.vl rfl rfl rfl ((Ev.look1 keyB rfl rfl rfl (hbwm14.ext hxwl20) Try.underlying89 Try.underlying4 inf_3).conv (hts_look s.lo s.hi _)) ?_
                refine RG.vl rfl rfl rfl (Ev.build1 rfl rfl rfl inf_35 rfl rfl (by kernel_rfl) rfl) ?_
                refine RG.buildD (xs := [.tmp 67]) rfl rfl rfl rfl rfl rfl rfl Try.underlying29 inf_35 rfl rfl rfl rfl (fun g38 w38 eg38 hx38 hb38 => ?_)
                have hsep39 := own_new (own_ext hown hE24) eg38
                replace hxwl20 := Ex.tr hxwl20 hx38
                replace hE24 := Ex.tr hE24 hx38
                refine RG.app rfl rfl rfl rfl rfl rfl rfl Try.underlying29 inf_35 rfl rfl (own_ext hown hE24) rfl (fun _ => ⟨_, rfl, hb38.cells⟩) rfl (by simp only [maxLen]; omega) (by omega) (hxwl20.size) (fun v40 wa41 hown42 hgr43 hat44 => ?_)
                have hb45 := Blk.grown hb38 hgr43 hsep39.symm
                have hsep46 := sep_app hat44 hsep39 (Blk.lt hb38)
                replace hxwl20 := own_block (own_ext hown hE24) hxwl20 hgr43 (Nat.le_refl _) hxwl20.size
                refine RG.vl rfl rfl rfl (Ev.assign rfl rfl) ?_
                refine RG.done ?_
                refine QW.sub (S' := [(2, _), (6, _), (7, _), (29, _), (30, _), (31, _)]) ⟨rfl, rfl, rfl, rfl, rfl, rfl, trivial⟩ ?_
                refine QW.blockN ?_
                refine QW.then_ ?_
                refine CW.region ?_
                refine RG.vl rfl rfl rfl (Ev.addI rfl rfl rfl (by omega)) ?_
                refine RG.vl rfl rfl rfl (Ev.move rfl rfl) ?_
                refine RG.done ?_
                refine QW.round2 (k + 1) (v40) ⟨rfl, rfl, trivial⟩ ⟨rfl, rfl, rfl, rfl, trivial⟩ ⟨⟨by omega, by rw [drawL_step s _ k c hc (fun e => absurd (show (c.toNat : Int) = 63 by rw [e]; rfl) (by assumption)), mkb_eq s c k (true) (decide ((c.toNat : Int) = 70)) (selT c 65 (by assumption)) (selF c 68 (by assumption)), List.length_append, List.flatMap_append]; exact hown42, all_snoc _ k c _ hc hall (by have := mt (idx_letters c).2 (by assumption); simpa using this)⟩, hxwl20⟩ (by omega)
            · refine RG.vl rfl rfl rfl (Ev.move rfl rfl) ?_
              refine RG.vl rfl rfl rfl (Ev.eqI rfl rfl rfl) ?_
              refine RG.vl rfl rfl rfl (Ev.pickF rfl rfl rfl) ?_
              refine RG.vl rfl rfl rfl (Ev.move rfl rfl) ?_
              refine RG.vl rfl rfl rfl (Ev.eqI rfl rfl rfl) ?_
              refine RG.vl rfl rfl rfl (Ev.move rfl rfl) ?_
              refine RG.split (d := 49) rfl (fun hg47 => ?_) (fun hg47 => ?_)
              · refine RG.pass rfl rfl rfl ?_
                refine RG.pass rfl rfl rfl ?_
                refine RG.vl rfl rfl rfl (Ev.pickT rfl rfl rfl) ?_
                refine RG.vl rfl rfl rfl (Ev.assign rfl rfl) ?_
                refine RG.vl rfl rfl rfl (Ev.assign rfl rfl) ?_
                refine RG.done ?_
                refine QW.sub (S' := [(2, _), (6, _), (7, _), (8, _), (10, _), (11, _), (29, _), (30, _), (31, _)]) ⟨rfl, rfl, rfl, rfl, rfl, rfl, rfl, rfl, rfl, trivial⟩ ?_
                refine QW.then_ ?_
                refine CW.region ?_
                refine RG.vl rfl rfl rfl (Ev.move rfl rfl) ?_
                refine RG.vl rfl rfl rfl (Ev.fld rfl rfl fld_27_1) ?_
                refine RG.vl rfl rfl rfl (Ev.ldAt rfl rfl Try.underlying3 rfl ((hb1.ext hxwl20).cells) (rfl)) ?_
                refine RG.vl rfl rfl rfl (Ev.move rfl rfl) ?_
                refine RG.vl rfl rfl rfl (Ev.fld rfl rfl fld_27_2) ?_
                refine RG.vl rfl rfl rfl (Ev.ldAt rfl rfl Try.underlying3 rfl ((hb1.ext hxwl20).cells) (rfl)) ?_
                refine RG.vl rfl rfl rfl (Ev.mulI rfl rfl rfl (by omega)) ?_
                refine RG.vl rfl rfl rfl (Ev.addI rfl rfl rfl (by omega)) ?_
                refine RG.vl rfl rfl rfl (Ev.move rfl rfl) ?_
                refine RG.vl rfl rfl rfl (Ev.move rfl rfl) ?_
                refine RG.vl rfl rfl rfl ((Ev.look1 keyB rfl rfl rfl (hbwm14.ext hxwl20) Try.underlying89 Try.underlying4 inf_3).conv (hts_look s.lo s.hi _)) ?_
                refine RG.vl rfl rfl rfl (Ev.move rfl rfl) ?_
                refine RG.vl rfl rfl rfl (Ev.move rfl rfl) ?_
                refine RG.vl rfl rfl rfl ((Ev.look1 keyB rfl rfl rfl (hbwm14.ext hxwl20) Try.underlying89 Try.underlying4 inf_3).conv (hts_look s.lo s.hi _)) ?_
                refine RG.vl rfl rfl rfl (Ev.build1 rfl rfl rfl inf_35 rfl rfl (by kernel_rfl) rfl) ?_
                refine RG.buildD (xs := [.tmp 67]) rfl rfl rfl rfl rfl rfl rfl Try.underlying29 inf_35 rfl rfl rfl rfl (fun g48 w48 eg48 hx48 hb48 => ?_)
                have hsep49 := own_new (own_ext hown hE24) eg48
                replace hxwl20 := Ex.tr hxwl20 hx48
                replace hE24 := Ex.tr hE24 hx48
                refine RG.app rfl rfl rfl rfl rfl rfl rfl Try.underlying29 inf_35 rfl rfl (own_ext hown hE24) rfl (fun _ => ⟨_, rfl, hb48.cells⟩) rfl (by simp only [maxLen]; omega) (by omega) (hxwl20.size) (fun v50 wa51 hown52 hgr53 hat54 => ?_)
                have hb55 := Blk.grown hb48 hgr53 hsep49.symm
                have hsep56 := sep_app hat54 hsep49 (Blk.lt hb48)
                replace hxwl20 := own_block (own_ext hown hE24) hxwl20 hgr53 (Nat.le_refl _) hxwl20.size
                refine RG.vl rfl rfl rfl (Ev.assign rfl rfl) ?_
                refine RG.done ?_
                refine QW.sub (S' := [(2, _), (6, _), (7, _), (29, _), (30, _), (31, _)]) ⟨rfl, rfl, rfl, rfl, rfl, rfl, trivial⟩ ?_
                refine QW.blockN ?_
                refine QW.then_ ?_
                refine CW.region ?_
                refine RG.vl rfl rfl rfl (Ev.addI rfl rfl rfl (by omega)) ?_
                refine RG.vl rfl rfl rfl (Ev.move rfl rfl) ?_
                refine RG.done ?_
                refine QW.round2 (k + 1) (v50) ⟨rfl, rfl, trivial⟩ ⟨rfl, rfl, rfl, rfl, trivial⟩ ⟨⟨by omega, by rw [drawL_step s _ k c hc (fun e => absurd (show (c.toNat : Int) = 63 by rw [e]; rfl) (by assumption)), mkb_eq s c k (decide ((c.toNat : Int) = 70)) (true) (selF c 65 (by assumption)) (selT c 68 (by assumption)), List.length_append, List.flatMap_append]; exact hown52, all_snoc _ k c _ hc hall (by have := mt (idx_letters c).2 (by assumption); simpa using this)⟩, hxwl20⟩ (by omega)
              · refine RG.vl rfl rfl rfl (Ev.move rfl rfl) ?_
                refine RG.vl rfl rfl rfl (Ev.eqI rfl rfl rfl) ?_
                refine RG.vl rfl rfl rfl (Ev.pickF rfl rfl rfl) ?_
                refine RG.vl rfl rfl rfl (Ev.assign rfl rfl) ?_
                refine RG.vl rfl rfl rfl (Ev.assign rfl rfl) ?_
                refine RG.done ?_
                refine QW.sub (S' := [(2, _), (6, _), (7, _), (8, _), (10, _), (11, _), (29, _), (30, _), (31, _)]) ⟨rfl, rfl, rfl, rfl, rfl, rfl, rfl, rfl, rfl, trivial⟩ ?_
                refine QW.then_ ?_
                refine CW.region ?_
                refine RG.vl rfl rfl rfl (Ev.move rfl rfl) ?_
                refine RG.vl rfl rfl rfl (Ev.fld rfl rfl fld_27_1) ?_
                refine RG.vl rfl rfl rfl (Ev.ldAt rfl rfl Try.underlying3 rfl ((hb1.ext hxwl20).cells) (rfl)) ?_
                refine RG.vl rfl rfl rfl (Ev.move rfl rfl) ?_
                refine RG.vl rfl rfl rfl (Ev.fld rfl rfl fld_27_2) ?_
                refine RG.vl rfl rfl rfl (Ev.ldAt rfl rfl Try.underlying3 rfl ((hb1.ext hxwl20).cells) (rfl)) ?_
                refine RG.vl rfl rfl rfl (Ev.mulI rfl rfl rfl (by omega)) ?_
                refine RG.vl rfl rfl rfl (Ev.addI rfl rfl rfl (by omega)) ?_
                refine RG.vl rfl rfl rfl (Ev.move rfl rfl) ?_
                refine RG.vl rfl rfl rfl (Ev.move rfl rfl) ?_
                refine RG.vl rfl rfl rfl ((Ev.look1 keyB rfl rfl rfl (hbwm14.ext hxwl20) Try.underlying89 Try.underlying4 inf_3).conv (hts_look s.lo s.hi _)) ?_
                refine RG.vl rfl rfl rfl (Ev.move rfl rfl) ?_
                refine RG.vl rfl rfl rfl (Ev.move rfl rfl) ?_
                refine RG.vl rfl rfl rfl ((Ev.look1 keyB rfl rfl rfl (hbwm14.ext hxwl20) Try.underlying89 Try.underlying4 inf_3).conv (hts_look s.lo s.hi _)) ?_
                refine RG.vl rfl rfl rfl (Ev.build1 rfl rfl rfl inf_35 rfl rfl (by kernel_rfl) rfl) ?_
                refine RG.buildD (xs := [.tmp 67]) rfl rfl rfl rfl rfl rfl rfl Try.underlying29 inf_35 rfl rfl rfl rfl (fun g57 w57 eg57 hx57 hb57 => ?_)
                have hsep58 := own_new (own_ext hown hE24) eg57
                replace hxwl20 := Ex.tr hxwl20 hx57
                replace hE24 := Ex.tr hE24 hx57
                refine RG.app rfl rfl rfl rfl rfl rfl rfl Try.underlying29 inf_35 rfl rfl (own_ext hown hE24) rfl (fun _ => ⟨_, rfl, hb57.cells⟩) rfl (by simp only [maxLen]; omega) (by omega) (hxwl20.size) (fun v59 wa60 hown61 hgr62 hat63 => ?_)
                have hb64 := Blk.grown hb57 hgr62 hsep58.symm
                have hsep65 := sep_app hat63 hsep58 (Blk.lt hb57)
                replace hxwl20 := own_block (own_ext hown hE24) hxwl20 hgr62 (Nat.le_refl _) hxwl20.size
                refine RG.vl rfl rfl rfl (Ev.assign rfl rfl) ?_
                refine RG.done ?_
                refine QW.sub (S' := [(2, _), (6, _), (7, _), (29, _), (30, _), (31, _)]) ⟨rfl, rfl, rfl, rfl, rfl, rfl, trivial⟩ ?_
                refine QW.blockN ?_
                refine QW.then_ ?_
                refine CW.region ?_
                refine RG.vl rfl rfl rfl (Ev.addI rfl rfl rfl (by omega)) ?_
                refine RG.vl rfl rfl rfl (Ev.move rfl rfl) ?_
                refine RG.done ?_
                refine QW.round2 (k + 1) (v59) ⟨rfl, rfl, trivial⟩ ⟨rfl, rfl, rfl, rfl, trivial⟩ ⟨⟨by omega, by rw [drawL_step s _ k c hc (fun e => absurd (show (c.toNat : Int) = 63 by rw [e]; rfl) (by assumption)), mkb_eq s c k (decide ((c.toNat : Int) = 70)) (decide ((c.toNat : Int) = 70)) (selF c 65 (by assumption)) (selF c 68 (by assumption)), List.length_append, List.flatMap_append]; exact hown61, all_snoc _ k c _ hc hall (by have := mt (idx_letters c).2 (by assumption); simpa using this)⟩, hxwl20⟩ (by omega)
          · refine CW.skip ?_
            refine QW.blockN ?_
            refine QW.then_ ?_
            refine CW.region ?_
            refine RG.vl rfl rfl rfl (Ev.addI rfl rfl rfl (by omega)) ?_
            refine RG.vl rfl rfl rfl (Ev.move rfl rfl) ?_
            refine RG.done ?_
            refine QW.round2 (k + 1) (u) ⟨rfl, rfl, trivial⟩ ⟨rfl, rfl, rfl, rfl, trivial⟩ ⟨⟨by omega, by rw [drawL_skip s _ k c hc (byte_eq (d := 63) (Decidable.not_not.1 (by assumption)))]; exact (own_ext hown hE24), all_snoc _ k c _ hc hall (by have := mt (idx_letters c).2 (by assumption); simpa using this)⟩, hxwl20⟩ (by omega)
      · refine CW.exit ?_
        refine QW.thenExit ?_
        refine QW.thenExit ?_
        refine QW.blockHit ?_
        refine QW.then_ ?_
        refine CW.seq ?_
        refine CW.region ?_
        refine RG.vl rfl rfl rfl (Ev.move rfl rfl) ?_
        refine RG.vl rfl rfl rfl (Ev.assign rfl rfl) ?_
        refine RG.vl rfl rfl rfl (Ev.assign rfl rfl) ?_
        refine RG.done ?_
        refine QW.then_ ?_
        refine CW.ret ?_
        refine QW.ret2 rfl rfl rfl ?_
        have hB := (Ex.tr hR18 hxwl20)
        have e : k = t.data.toList.length := by omega
        rw [e, List.take_length] at hown hall
        obtain ⟨e1, e2⟩ := drawErr_ok s t.data.toList ⟨hs, by omega, hall⟩
        have hsz := hR18.size
        exact ⟨_, by rw [e1], by rw [e2]; exact Own.low (xs := drawL s t.data.toList 0) (enc := Br.c) hown (by omega), hB⟩

set_option maxRecDepth 100000 in
set_option maxHeartbeats 1000000 in
theorem bdraw_ret (s : Su) (t : List UInt8) (w : World) (hlen : t.length ≤ 1000) :
    Ret Try.prog 9 [s.v, .string ⟨t.toArray⟩] w (fun v w' => ∃ u l e, v = .tuple #[u, .int .i64 e] ∧ Own w' w.heap.size 35 3 Br.c u l ∧ DrR s t l e ∧ Ex w w') := by
  have hts := sb_len t
  have hB0 : Ex w w := Ex.rfl_ _
  refine Ret.of Try.func9 rfl Try.ntmps9 rfl ?_
  refine CW.seq ?_
  refine CW.region ?_
  refine RG.box rfl rfl rfl rfl rfl (fun g1 w1 eg1 hx1 hb1 => ?_)
  have hle2 : w.heap.size ≤ g1 := by have := (Ex.rfl_ w).size; omega
  have hE3 := hx1
  refine RG.vl rfl rfl rfl (Ev.assign rfl rfl) ?_
  refine RG.vl rfl rfl rfl (Ev.assign rfl rfl) ?_
  refine RG.done ?_
  refine QW.then_ ?_
  refine CW.seq ?_
  refine CW.region ?_
  refine RG.vl rfl rfl rfl (Ev.move rfl rfl) ?_
  refine RG.call rfl rfl rfl rfl rfl rfl rfl en_13 (bwr_ret _ _ (by omega)) ?_
  rintro _ w4 ⟨wx1, rfl, hwr1, hx4⟩
  replace hE3 := Ex.tr hE3 hx4
  have hE5 := hx4
  refine RG.vl rfl rfl rfl (Ev.move rfl rfl) ?_
  refine RG.vl rfl rfl rfl (Ev.extract rfl rfl rfl) ?_
  refine RG.vl rfl rfl rfl (Ev.extract rfl rfl rfl) ?_
  refine RG.vl rfl rfl rfl (Ev.assign rfl rfl) ?_
  refine RG.vl rfl rfl rfl (Ev.assign rfl rfl) ?_
  refine RG.done ?_
  refine QW.then_ ?_
  refine CW.seq ?_
  refine CW.seq ?_
  refine CW.region ?_
  refine RG.vl rfl rfl rfl (Ev.move rfl rfl) ?_
  refine RG.vl rfl rfl rfl (Ev.neI rfl rfl rfl) ?_
  refine RG.done ?_
  refine QW.then_ ?_
  refine CW.condP rfl (fun hc6 => ?_) (fun hc6 => ?_)
  · refine CW.seq ?_
    refine CW.region ?_
    refine RG.vl rfl rfl rfl (Ev.move rfl rfl) ?_
    refine RG.vl rfl rfl rfl (Ev.assign rfl rfl) ?_
    refine RG.vl rfl rfl rfl (Ev.assign rfl rfl) ?_
    refine RG.done ?_
    refine QW.sub (S' := [(2, _), (4, _), (5, _), (6, _)]) ⟨rfl, rfl, rfl, rfl, trivial⟩ ?_
    refine QW.then_ ?_
    refine CW.ret ?_
    refine QW.thenRet ?_
    refine QW.ret2 rfl rfl rfl ?_
    have hB := (Ex.tr hB0 hE3)
    exact ⟨_, [], _, rfl, Own.nil_ _ _ _ _ _, .inl ⟨by omega, rfl, rfl⟩, hB⟩
  · refine CW.skip ?_
    refine QW.then_ ?_
    refine CW.seq ?_
    refine CW.seq ?_
    refine CW.region ?_
    refine RG.vl rfl rfl rfl (Ev.fld rfl rfl fld_27_0) ?_
    refine RG.vl rfl rfl rfl (Ev.ldAt rfl rfl Try.underlying3 rfl ((hb1.ext hE5).cells) (rfl)) ?_
    refine RG.vl rfl rfl rfl (Ev.neI rfl rfl rfl) ?_
    refine RG.done ?_
    refine QW.sub (S' := [(2, _), (4, _), (5, _), (6, _), (18, _)]) ⟨rfl, rfl, rfl, rfl, rfl, trivial⟩ ?_
    refine QW.then_ ?_
    refine CW.condP rfl (fun hc7 => ?_) (fun hc7 => ?_)
    · refine CW.seq ?_
      refine CW.region ?_
      refine RG.vl rfl rfl rfl (Ev.assign rfl rfl) ?_
      refine RG.vl rfl rfl rfl (Ev.assign rfl rfl) ?_
      refine RG.done ?_
      refine QW.then_ ?_
      refine CW.ret ?_
      refine QW.thenRet ?_
      refine QW.ret2 rfl rfl rfl ?_
      have hB := (Ex.tr hB0 hE3)
      exact ⟨_, [], _, rfl, Own.nil_ _ _ _ _ _, .inr (.inl ⟨by omega, by omega, rfl, rfl⟩), hB⟩
    · refine CW.skip ?_
      refine QW.then_ ?_
      refine CW.seq ?_
      refine CW.region ?_
      refine RG.vl rfl rfl rfl (Ev.ldAgg rfl rfl Try.underlying27 rfl sz_27 rfl ((hb1.ext hE5).cells)) ?_
      refine RG.vl rfl rfl rfl (Ev.move rfl rfl) ?_
      refine RG.call rfl rfl rfl rfl rfl rfl rfl en_19 (draw_own _ ⟨wx1.toArray⟩ _ (by rw [sb_len]; have := wr_len hwr1; omega)) ?_
      have hpre8 := (Ex.tr hB0 hE3)
      rintro _ w8 ⟨du, rfl, hod, hx8⟩
      replace hod := Own.low (B' := w.heap.size) hod (by have := (Ex.tr hB0 hE3).size; omega)
      replace hE3 := Ex.tr hE3 hx8
      replace hE5 := Ex.tr hE5 hx8
      have hE9 := hx8
      refine RG.vl rfl rfl rfl (Ev.extract rfl rfl rfl) ?_
      refine RG.vl rfl rfl rfl (Ev.extract rfl rfl rfl) ?_
      refine RG.vl rfl rfl rfl (Ev.assign rfl rfl) ?_
      refine RG.vl rfl rfl rfl (Ev.assign rfl rfl) ?_
      refine RG.done ?_
      refine QW.then_ ?_
      refine CW.ret ?_
      refine QW.ret2 rfl rfl rfl ?_
      have hB := (Ex.tr hB0 hE3)
      exact ⟨_, _, _, rfl, hod, .inr (.inr ⟨by omega, by omega, wx1, hwr1, rfl, rfl⟩), hB⟩

end Go.Proofs.Ytgjnchjkjdnidaa

