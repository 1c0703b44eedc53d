/- Check digits in plain terms: systems, sums, products of permuted digits, texts. -/
import Derived.Test.YtnhkhpnkhkagaaaDoorLM
import Derived.KernelRfl
namespace Go.Proofs.YtnhkhpnkhkagaaaDoor

def okW (k : Nat) (w : Int) : Bool := decide (1 ≤ w) && decide (w ≤ if k = 1 then 9 else 10)
def rightD (k : Nat) (ws : List Int) : Bool :=
  if k = 1 ∨ k = 2 then decide (1 ≤ ws.length) && decide (ws.length ≤ 10) && ws.all (okW k)
  else decide (k = 3 ∨ k = 4) && decide (ws.length = 0)
def mostD (k : Nat) : Nat := if k = 2 then 10 else 9
theorem mostD_le (k : Nat) : mostD k ≤ 10 := by unfold mostD; split <;> omega
theorem mostD_ge (k : Nat) : 9 ≤ mostD k := by unfold mostD; split <;> omega

/-- The weight of a place. -/
def wt (ws : List Int) (p : Nat) : Int := if p = 0 then 1 else ws.getD ((p - 1) % ws.length) 0
def sumD (ws : List Int) : Nat → List Nat → Int
  | _, [] => 0
  | p, v :: vs => v * wt ws p + sumD ws (p + 1) vs
def lu (p v : Nat) : Nat := if p % 2 = 1 then 2 * v / 10 + 2 * v % 10 else v
def luhnD : Nat → List Nat → Nat
  | _, [] => 0
  | p, v :: vs => lu p v + luhnD (p + 1) vs
def tmT : List (List Nat) := [[0, 1, 2, 3, 4, 5, 6, 7, 8, 9], [1, 2, 3, 4, 0, 6, 7, 8, 9, 5], [2, 3, 4, 0, 1, 7, 8, 9, 5, 6], [3, 4, 0, 1, 2, 8, 9, 5, 6, 7], [4, 0, 1, 2, 3, 9, 5, 6, 7, 8],
  [5, 9, 8, 7, 6, 0, 4, 3, 2, 1], [6, 5, 9, 8, 7, 1, 0, 4, 3, 2], [7, 6, 5, 9, 8, 2, 1, 0, 4, 3], [8, 7, 6, 5, 9, 3, 2, 1, 0, 4], [9, 8, 7, 6, 5, 4, 3, 2, 1, 0]]
def tnT : List (List Nat) := [[0, 1, 2, 3, 4, 5, 6, 7, 8, 9], [1, 5, 7, 6, 2, 8, 3, 0, 9, 4], [5, 8, 0, 3, 7, 9, 6, 1, 4, 2], [8, 9, 1, 6, 0, 4, 3, 5, 2, 7],
  [9, 4, 5, 3, 1, 2, 6, 8, 7, 0], [4, 2, 8, 6, 5, 7, 3, 9, 0, 1], [2, 7, 9, 3, 8, 0, 6, 4, 1, 5], [7, 0, 4, 6, 9, 1, 3, 2, 5, 8]]
def tm (x y : Nat) : Nat := (tmT.getD x []).getD y 0
def tn (i x : Nat) : Nat := (tnT.getD i []).getD x 0
def permD : Nat → Nat → List Nat → Nat
  | q, _, [] => q
  | q, p, v :: vs => permD (tm q (tn (p % 8) v)) (p + 1) vs
/-- Do values pass. -/
def passD (k : Nat) (ws : List Int) (vs : List Nat) : Bool :=
  if k = 1 then decide (sumD ws 0 vs % 10 = 0) else if k = 2 then decide (sumD ws 0 vs % 11 = 0) else if k = 3 then decide (luhnD 0 vs % 10 = 0) else decide (permD 0 0 vs = 0)
/-- The first one, from v on, n of them. -/
def fstD (f : Nat → Bool) : Nat → Nat → Nat
  | _, 0 => 0
  | v, n + 1 => if f v then v else fstD f (v + 1) n
def checkD (k : Nat) (ws : List Int) (vs : List Nat) : Nat := fstD (fun v => passD k ws (vs.set 0 v)) 0 (mostD k + 1)

def isDig (c : UInt8) : Bool := decide (48 ≤ c.toNat) && decide (c.toNat ≤ 57)
def valC (c : UInt8) : Nat := if c.toNat = 88 then 10 else c.toNat - 48
def chr (v : Nat) : UInt8 := if v = 10 then 88 else UInt8.ofNat (48 + v)
def isPay (t : List UInt8) : Bool := decide (t ≠ []) && t.all isDig
def isEnd (k : Nat) (c : UInt8) : Bool := isDig c || (decide (c.toNat = 88) && decide (k = 2))
def isChk (k : Nat) (t : List UInt8) : Bool := isPay t.dropLast && isEnd k (t.getLast?.getD 0)
def vals (t : List UInt8) : List Nat := (t.map valC).reverse

/-- What the functions return: a value and an error. -/
def checkR (k : Nat) (ws : List Int) (t : List UInt8) : UInt8 × Int :=
  if !rightD k ws then (0, 160) else if 30 < t.length then (0, 3) else if !isPay t then (0, 161) else (chr (checkD k ws (vals (t ++ [48]))), 0)
def appendR (k : Nat) (ws : List Int) (t : List UInt8) : List UInt8 × Int :=
  if (checkR k ws t).2 = 0 then (t ++ [(checkR k ws t).1], 0) else ([], (checkR k ws t).2)
def testR (k : Nat) (ws : List Int) (t : List UInt8) : Bool × Int :=
  if !rightD k ws then (false, 160) else if 31 < t.length then (false, 3) else if !isChk k t then (false, 161) else (passD k ws (vals t), 0)
/-- The first ? becomes a 0. -/
def zeroQ : List UInt8 → List UInt8
  | [] => []
  | c :: t => if c = 63 then 48 :: t else c :: zeroQ t
def qAt (t : List UInt8) : Nat := t.findIdx (· == 63)
/-- The characters with f, from the value v on, n of them. -/
def chs (f : Nat → Bool) : Nat → Nat → List UInt8
  | _, 0 => []
  | v, n + 1 => if f v then chr v :: chs f (v + 1) n else chs f (v + 1) n
def fillR (k : Nat) (ws : List Int) (t : List UInt8) : List UInt8 × Int :=
  if !rightD k ws then ([], 160) else if 31 < t.length then ([], 3) else if t.count 63 ≠ 1 ∨ isChk k (zeroQ t) = false then ([], 161)
  else (chs (fun v => passD k ws ((vals (zeroQ t)).set (t.length - 1 - qAt t) v)) 0 ((if t.length - 1 - qAt t = 0 then mostD k else 9) + 1), 0)
/-- An error that is looked for: exchanged or not, where, two digits. -/
abbrev MissT := Bool × Nat × Nat × Nat
def mis1 (n : Nat) (m : MissT) : List Nat := if m.1 then ((List.replicate (n + 1) 0).set (m.2.1 + 1) m.2.2.1).set m.2.1 m.2.2.2 else (List.replicate (n + 1) 0).set m.2.1 m.2.2.1
def mis2 (vs : List Nat) (m : MissT) : List Nat := if m.1 then (vs.set (m.2.1 + 1) m.2.2.2).set m.2.1 m.2.2.1 else vs.set m.2.1 m.2.2.2
def missD (k : Nat) (ws : List Int) (n : Nat) (m : MissT) : Bool := passD k ws (mis2 ((mis1 n m).set 0 (checkD k ws (mis1 n m))) m)
def missB (k : Nat) (ws : List Int) (n : Nat) (sw : Bool) (at_ a : Nat) : List MissT := ((List.range 10).filter fun b => decide (a < b) && missD k ws n (sw, at_, a, b)).map fun b => (sw, at_, a, b)
def missA (k : Nat) (ws : List Int) (n : Nat) (sw : Bool) (at_ : Nat) : List MissT := (List.range 10).flatMap (missB k ws n sw at_)
def missS (k : Nat) (ws : List Int) (n : Nat) (sw : Bool) : List MissT := (List.range (if sw then n - 1 else n)).flatMap fun i => missA k ws n sw (i + 1)
def missL (k : Nat) (ws : List Int) (n : Nat) : List MissT := missS k ws n false ++ missS k ws n true
def missR (k : Nat) (ws : List Int) (n : Int) : List MissT × Int :=
  if !rightD k ws then ([], 160) else if n < 1 ∨ 30 < n then ([], 2) else (missL k ws n.toNat, 0)

/-! values -/
theorem valC_dig {c : UInt8} (h : isDig c = true) : valC c < 10 ∧ (valC c : Int) = (c.toNat : Int) - 48 := by
  simp only [isDig, Bool.and_eq_true, decide_eq_true_eq] at h
  unfold valC; rw [if_neg (by omega)]; omega
theorem valC_end {k : Nat} {c : UInt8} (h : isEnd k c = true) : valC c ≤ mostD k := by
  simp only [isEnd, Bool.or_eq_true, Bool.and_eq_true, decide_eq_true_eq] at h
  rcases h with h | ⟨h1, h2⟩
  · have := (valC_dig h).1; have := mostD_ge k; omega
  · unfold valC mostD; rw [if_pos h1, if_pos h2]; exact Nat.le_refl _
theorem chr_toNat {v : Nat} (h : v ≤ 10) : (chr v).toNat = if v = 10 then 88 else 48 + v := by
  unfold chr; split
  · rfl
  · exact UInt8.toNat_ofNat_of_lt' (show 48 + v < 256 by omega)
theorem valC_chr {v : Nat} (h : v ≤ 10) : valC (chr v) = v := by
  unfold valC; rw [chr_toNat h]; split <;> split at * <;> omega
theorem vals_len (t : List UInt8) : (vals t).length = t.length := by simp [vals]
theorem vals_snoc (t : List UInt8) (c : UInt8) : vals (t ++ [c]) = valC c :: vals t := by simp [vals]
theorem vals_app (s t : List UInt8) : vals (s ++ t) = vals t ++ vals s := by simp [vals]
theorem vals_cons (c : UInt8) (t : List UInt8) : vals (c :: t) = vals t ++ [valC c] := by simp [vals]
theorem vals_at (t : List UInt8) (i : Nat) (h : i < t.length) : (vals t)[t.length - 1 - i]? = some (valC t[i]) := by
  unfold vals
  rw [List.getElem?_reverse (by simp; omega), List.getElem?_map, List.length_map, show t.length - 1 - (t.length - 1 - i) = i by omega, List.getElem?_eq_getElem h]; rfl
theorem isPay_iff (t : List UInt8) : isPay t = true ↔ t ≠ [] ∧ ∀ c ∈ t, isDig c = true := by simp [isPay]
theorem pay_vals {t : List UInt8} (h : ∀ c ∈ t, isDig c = true) : ∀ v ∈ vals t, v < 10 := fun v hv => by
  simp only [vals, List.mem_reverse, List.mem_map] at hv
  obtain ⟨c, hc, rfl⟩ := hv
  exact (valC_dig (h c hc)).1
theorem isChk_snoc (k : Nat) (t : List UInt8) (c : UInt8) : isChk k (t ++ [c]) = (isPay t && isEnd k c) := by simp [isChk]
theorem isChk_nil (k : Nat) : isChk k [] = false := by simp [isChk, isPay]
/-- What is checked is a payload and an end. -/
theorem isChk_iff (k : Nat) (t : List UInt8) : isChk k t = true ↔ ∃ s c, t = s ++ [c] ∧ s ≠ [] ∧ (∀ d ∈ s, isDig d = true) ∧ isEnd k c = true := by
  rcases List.eq_nil_or_concat t with rfl | ⟨s, c, rfl⟩
  · simp [isChk_nil]
  · rw [List.concat_eq_append, isChk_snoc, Bool.and_eq_true, isPay_iff]
    constructor
    · rintro ⟨⟨h1, h2⟩, h3⟩; exact ⟨s, c, rfl, h1, h2, h3⟩
    · rintro ⟨s', c', he, h1, h2, h3⟩
      obtain ⟨rfl, rfl⟩ : s = s' ∧ c = c' := by simpa using List.append_inj' he (by simp)
      exact ⟨⟨h1, h2⟩, h3⟩
/-- The values of what is checked. -/
theorem chk_vals {k : Nat} {t : List UInt8} (h : isChk k t = true) : (∀ v ∈ vals t, v ≤ 10) ∧ ∀ p, 0 < p → ∀ v, (vals t)[p]? = some v → v < 10 := by
  obtain ⟨s, c, rfl, h1, h2, h3⟩ := (isChk_iff k t).1 h
  rw [vals_snoc]
  refine ⟨fun v hv => ?_, fun p hp v hv => ?_⟩
  · rcases List.mem_cons.1 hv with rfl | hv
    · have := valC_end h3; have := mostD_le k; omega
    · have := pay_vals h2 v hv; omega
  · obtain ⟨p, rfl⟩ : ∃ q, p = q + 1 := ⟨p - 1, by omega⟩
    rw [List.getElem?_cons_succ] at hv
    exact pay_vals h2 v (List.mem_of_getElem? hv)

/-! tables -/
theorem tm_lt : ∀ x < 10, ∀ y < 10, tm x y < 10 := by decide
theorem tn_lt : ∀ i < 8, ∀ x < 10, tn i x < 10 := by decide
theorem tm_flat : ∀ x < 10, ∀ y < 10, (tmT.flatten)[x * 10 + y]? = some (tm x y) := by decide
theorem tn_flat : ∀ i < 8, ∀ x < 10, (tnT.flatten)[i * 10 + x]? = some (tn i x) := by decide
theorem right_kind {k : Nat} {ws : List Int} (h : rightD k ws = true) : k = 1 ∨ k = 2 ∨ k = 3 ∨ k = 4 := by
  unfold rightD at h; split at h
  · omega
  · simp at h; omega
theorem right_ws {k : Nat} {ws : List Int} (h : rightD k ws = true) (hk : k = 1 ∨ k = 2) : 1 ≤ ws.length ∧ ws.length ≤ 10 ∧ ∀ w ∈ ws, 1 ≤ w ∧ w ≤ if k = 1 then 9 else 10 := by
  unfold rightD at h; rw [if_pos hk] at h
  simp [okW] at h
  exact ⟨by omega, h.1.2, fun w hw => h.2 w hw⟩
theorem right_ws10 {k : Nat} {ws : List Int} (h : rightD k ws = true) (hk : k = 1 ∨ k = 2) : ∀ w ∈ ws, 1 ≤ w ∧ w ≤ 10 := fun w hw => by
  have := (right_ws h hk).2.2 w hw; split at this <;> omega
theorem right_ws0 {k : Nat} {ws : List Int} (h : rightD k ws = true) (hk : k = 3 ∨ k = 4) : ws = [] := by
  unfold rightD at h; rw [if_neg (by omega)] at h
  simp at h; exact h.2
theorem wt_at {ws : List Int} {p : Nat} (hw : 1 ≤ ws.length) (hp : p ≠ 0) : ws[(p - 1) % ws.length]? = some (wt ws p) := by
  have hlt : (p - 1) % ws.length < ws.length := Nat.mod_lt _ (by omega)
  unfold wt; rw [if_neg hp, List.getD_eq_getElem?_getD, List.getElem?_eq_getElem hlt]; rfl
theorem wt_b {k : Nat} {ws : List Int} (h : rightD k ws = true) (hk : k = 1 ∨ k = 2) (p : Nat) : 1 ≤ wt ws p ∧ wt ws p ≤ 10 := by
  by_cases hp : p = 0
  · unfold wt; rw [if_pos hp]; omega
  · exact right_ws10 h hk _ (List.mem_of_getElem? (wt_at (right_ws h hk).1 hp))
end Go.Proofs.YtnhkhpnkhkagaaaDoor
