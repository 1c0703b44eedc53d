/- Chapter 05, plain: folding a text. -/
import Derived.Test.YtehlnkhbbnddmaaLM
namespace Go.Proofs.Ytehlnkhbbnddmaa
/-- The letters of a base letter, by its second byte. -/
def letsU (c : Nat) : List UInt8 :=
  if c = 128 ∨ c = 129 ∨ c = 130 ∨ c = 131 ∨ c = 133 then [65]
  else if c = 132 ∨ c = 134 then [65, 69]
  else if c = 135 then [67]
  else if c = 136 ∨ c = 137 ∨ c = 138 ∨ c = 139 then [69]
  else if c = 140 ∨ c = 141 ∨ c = 142 ∨ c = 143 then [73]
  else if c = 144 then [68]
  else if c = 145 then [78]
  else if c = 146 ∨ c = 147 ∨ c = 148 ∨ c = 149 ∨ c = 152 then [79]
  else if c = 150 then [79, 69]
  else if c = 153 ∨ c = 154 ∨ c = 155 then [85]
  else if c = 156 then [85, 69]
  else if c = 157 then [89]
  else if c = 158 then [84, 72] else []
def lets (a b : Nat) : List UInt8 :=
  if a = 197 then (if b = 146 ∨ b = 147 then [79, 69] else if b = 160 ∨ b = 161 then [83] else if b = 189 ∨ b = 190 then [90] else [])
  else if a = 195 then (if b = 159 then [83, 83] else if b = 191 then [89] else letsU (if 160 ≤ b ∧ b ≤ 190 then b - 32 else b))
  else []
def isPlain (c : Nat) : Bool := (65 ≤ c && c ≤ 90) || (48 ≤ c && c ≤ 57) || c == 45 || c == 47
/-- The first letters, and how many bytes they take. -/
def one1 (c : UInt8) (r : List UInt8) : List UInt8 × Nat :=
  if isPlain c.toNat then ([c], 1) else if 97 ≤ c.toNat ∧ c.toNat ≤ 122 then ([UInt8.ofNat (c.toNat - 32)], 1)
  else match r with
    | d :: _ => if lets c.toNat d.toNat = [] then ([], 1) else (lets c.toNat d.toNat, 2)
    | [] => ([], 1)
def put (gap : Bool) (out t : List UInt8) : List UInt8 := if gap = true ∧ out ≠ [] then out ++ [32] ++ t else out ++ t
def fo : Nat → List UInt8 → Bool → List UInt8 → List UInt8
  | 0, _, _, out => out
  | _ + 1, [], _, out => out
  | n + 1, c :: r, gap, out => if (one1 c r).1 = [] then fo n ((c :: r).drop (one1 c r).2) true out else fo n ((c :: r).drop (one1 c r).2) false (put gap out (one1 c r).1)
def foldL (l : List UInt8) : List UInt8 := fo l.length l false []
theorem one1_n (c : UInt8) (r : List UInt8) : 1 ≤ (one1 c r).2 ∧ (one1 c r).2 ≤ (c :: r).length ∧ (one1 c r).2 ≤ 2 := by
  unfold one1
  split
  · simp
  · split
    · simp
    · split
      · split <;> simp
      · simp
theorem ite2 {c : Prop} [Decidable c] {a b : List UInt8} (ha : a.length ≤ 2) (hb : b.length ≤ 2) : (if c then a else b).length ≤ 2 := by split <;> assumption
theorem letsU_len (c : Nat) : (letsU c).length ≤ 2 := by
  unfold letsU
  iterate 13 (refine ite2 (by decide) ?_)
  decide
theorem lets_len (a b : Nat) : (lets a b).length ≤ 2 := by
  unfold lets
  split
  · repeat' split
    all_goals simp
  · split
    · split
      · simp
      · split
        · simp
        · exact letsU_len _
    · simp
theorem one1_len (c : UInt8) (r : List UInt8) : (one1 c r).1.length ≤ 2 := by
  unfold one1
  split
  · simp
  · split
    · simp
    · split
      · split
        · simp
        · exact lets_len _ _
      · simp
/-- More fuel changes nothing. -/
theorem fo_fuel : ∀ (n : Nat) (l : List UInt8) (gap : Bool) (out : List UInt8), l.length ≤ n → fo (n + 1) l gap out = fo n l gap out
  | 0, [], _, _, _ => rfl
  | 0, c :: r, _, _, h => by simp at h
  | n + 1, [], _, _, _ => rfl
  | n + 1, c :: r, gap, out, h => by
    have h1 := one1_n c r
    have h2 : ((c :: r).drop (one1 c r).2).length ≤ n := by rw [List.length_drop]; omega
    show (if (one1 c r).1 = [] then fo (n + 1) _ true out else fo (n + 1) _ false (put gap out (one1 c r).1)) = (if (one1 c r).1 = [] then fo n _ true out else fo n _ false (put gap out (one1 c r).1))
    rw [fo_fuel n _ true out h2, fo_fuel n _ false _ h2]
theorem fo_nil : ∀ (n : Nat) (gap : Bool) (out : List UInt8), fo n [] gap out = out
  | 0, _, _ => rfl
  | _ + 1, _, _ => rfl
theorem fo_step {n : Nat} {c : UInt8} {r : List UInt8} {gap : Bool} {out : List UInt8} (h : (c :: r).length ≤ n) :
    fo n (c :: r) gap out = if (one1 c r).1 = [] then fo n ((c :: r).drop (one1 c r).2) true out else fo n ((c :: r).drop (one1 c r).2) false (put gap out (one1 c r).1) := by
  cases n with
  | zero => simp at h
  | succ n =>
    have h1 := one1_n c r
    have h2 : ((c :: r).drop (one1 c r).2).length ≤ n := by rw [List.length_drop]; omega
    rw [fo_fuel n _ true out h2, fo_fuel n _ false _ h2]
    rfl
/-- The loop's step, at place i. -/
theorem drop_cons {l : List UInt8} {i : Nat} {c : UInt8} (h : l[i]? = some c) : l.drop i = c :: l.drop (i + 1) := by
  have hi := (List.getElem?_eq_some_iff.1 h).1
  rw [List.drop_eq_getElem_cons hi]
  rw [List.getElem?_eq_getElem hi] at h
  injection h with h
  rw [h]
theorem fo_gap {l out : List UInt8} {i : Nat} {c : UInt8} {gap : Bool} {res : List UInt8} (hc : l[i]? = some c) (h : fo l.length (l.drop i) gap out = res) (ht : (one1 c (l.drop (i + 1))).1 = []) : fo l.length (l.drop (i + (one1 c (l.drop (i + 1))).2)) true out = res := by
  rw [drop_cons hc, fo_step (by rw [← drop_cons hc, List.length_drop]; omega), if_pos ht, ← drop_cons hc, List.drop_drop] at h
  exact h
theorem fo_put {l out : List UInt8} {i : Nat} {c : UInt8} {gap : Bool} {res : List UInt8} (hc : l[i]? = some c) (h : fo l.length (l.drop i) gap out = res) (ht : (one1 c (l.drop (i + 1))).1 ≠ []) : fo l.length (l.drop (i + (one1 c (l.drop (i + 1))).2)) false (put gap out (one1 c (l.drop (i + 1))).1) = res := by
  rw [drop_cons hc, fo_step (by rw [← drop_cons hc, List.length_drop]; omega), if_neg ht, ← drop_cons hc, List.drop_drop] at h
  exact h
theorem one1_at {l : List UInt8} {i : Nat} {c : UInt8} (h : l[i]? = some c) : (one1 c (l.drop (i + 1))).2 ≤ l.length - i := by
  have h1 := (one1_n c (l.drop (i + 1))).2.1
  rw [← drop_cons h, List.length_drop] at h1; exact h1
theorem sbytes (a : List UInt8) : (⟨a.toArray⟩ : ByteArray).size = a.length := by simp [ByteArray.size]
theorem binj {a b : List UInt8} : ((⟨a.toArray⟩ : ByteArray) = ⟨b.toArray⟩) ↔ a = b := ⟨fun h => by injection h with h; simpa using h, fun h => by rw [h]⟩
theorem bext {l : List UInt8} {i : Nat} {c : UInt8} (h : l[i]? = some c) : (⟨l.toArray⟩ : ByteArray).extract i (i + 1) = ⟨[c].toArray⟩ := by
  rw [bx_cut]
  congr 2
  rw [List.drop_take, show i + 1 - i = 1 from by omega, drop_cons h]; rfl
theorem isPlain_iff (c : Nat) : isPlain c = true ↔ (65 ≤ c ∧ c ≤ 90) ∨ (48 ≤ c ∧ c ≤ 57) ∨ c = 45 ∨ c = 47 := by
  unfold isPlain; simp; omega
theorem one1_plain {c : UInt8} {r : List UInt8} (h : (65 ≤ c.toNat ∧ c.toNat ≤ 90) ∨ (48 ≤ c.toNat ∧ c.toNat ≤ 57) ∨ c.toNat = 45 ∨ c.toNat = 47) : one1 c r = ([c], 1) := by
  unfold one1; rw [if_pos ((isPlain_iff _).2 h)]
theorem one1_small {c : UInt8} {r : List UInt8} (h : 97 ≤ c.toNat ∧ c.toNat ≤ 122) : one1 c r = ([UInt8.ofNat (c.toNat - 32)], 1) := by
  unfold one1; rw [if_neg (fun e => by have := (isPlain_iff _).1 e; omega), if_pos h]
theorem one1_two {c d : UInt8} {r : List UInt8} (h : ¬ ((65 ≤ c.toNat ∧ c.toNat ≤ 90) ∨ (48 ≤ c.toNat ∧ c.toNat ≤ 57) ∨ c.toNat = 45 ∨ c.toNat = 47)) (h2 : ¬ (97 ≤ c.toNat ∧ c.toNat ≤ 122)) (hd : r[0]? = some d) (hl : lets c.toNat d.toNat ≠ []) : one1 c r = (lets c.toNat d.toNat, 2) := by
  unfold one1; rw [if_neg (fun e => h ((isPlain_iff _).1 e)), if_neg h2]
  cases r with
  | nil => simp at hd
  | cons x r => simp at hd; subst hd; simp only; rw [if_neg hl]
theorem one1_none {c d : UInt8} {r : List UInt8} (h : ¬ ((65 ≤ c.toNat ∧ c.toNat ≤ 90) ∨ (48 ≤ c.toNat ∧ c.toNat ≤ 57) ∨ c.toNat = 45 ∨ c.toNat = 47)) (h2 : ¬ (97 ≤ c.toNat ∧ c.toNat ≤ 122)) (hd : r[0]? = some d) (hl : lets c.toNat d.toNat = []) : one1 c r = ([], 1) := by
  unfold one1; rw [if_neg (fun e => h ((isPlain_iff _).1 e)), if_neg h2]
  cases r with
  | nil => rfl
  | cons x r => simp at hd; subst hd; simp only; rw [if_pos hl]
theorem one1_end {c : UInt8} {r : List UInt8} (h : ¬ ((65 ≤ c.toNat ∧ c.toNat ≤ 90) ∨ (48 ≤ c.toNat ∧ c.toNat ≤ 57) ∨ c.toNat = 45 ∨ c.toNat = 47)) (h2 : ¬ (97 ≤ c.toNat ∧ c.toNat ≤ 122)) (hr : r = []) : one1 c r = ([], 1) := by
  unfold one1; rw [if_neg (fun e => h ((isPlain_iff _).1 e)), if_neg h2, hr]
theorem put_sp {gap : Bool} {out t : List UInt8} (h1 : gap = true) (h2 : out ≠ []) : put gap out t = out ++ [32] ++ t := if_pos ⟨h1, h2⟩
theorem put_no {gap : Bool} {out t : List UInt8} (h : ¬ (gap = true ∧ out ≠ [])) : put gap out t = out ++ t := if_neg h
end Go.Proofs.Ytehlnkhbbnddmaa
