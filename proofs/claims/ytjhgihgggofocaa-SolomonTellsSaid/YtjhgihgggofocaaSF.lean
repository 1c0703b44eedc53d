/- Plain: sums, equations in four rows, what the steps of the elimination keep. -/
import Derived.Test.YtjhgihgggofocaaSE
namespace Go.Proofs.Ytjhgihgggofocaa
open Go.RowKit
def xs_ : Nat → (Nat → Nat) → Nat
  | 0, _ => 0
  | n + 1, f => xs_ n f ^^^ f n
theorem xs_congr {f g : Nat → Nat} : ∀ {n : Nat}, (∀ j, j < n → f j = g j) → xs_ n f = xs_ n g
  | 0, _ => rfl
  | n + 1, h => by rw [xs_, xs_, xs_congr (fun j hj => h j (by omega)), h n (by omega)]
theorem xs_lt {f : Nat → Nat} : ∀ {n : Nat}, (∀ j, j < n → f j < 64) → xs_ n f < 64
  | 0, _ => by show 0 < 64; omega
  | n + 1, h => xor_lt64 _ _ (xs_lt fun j hj => h j (by omega)) (h n (by omega))
theorem xor4 (a b c d : Nat) : (a ^^^ b) ^^^ (c ^^^ d) = (a ^^^ c) ^^^ (b ^^^ d) := by
  rw [Nat.xor_assoc, Nat.xor_assoc, ← Nat.xor_assoc b, Nat.xor_comm b c, Nat.xor_assoc c]
theorem xs_xor (f g : Nat → Nat) : ∀ n, xs_ n (fun j => f j ^^^ g j) = xs_ n f ^^^ xs_ n g
  | 0 => by simp [xs_]
  | n + 1 => by rw [xs_, xs_, xs_, xs_xor f g n, xor4]
theorem xs_gm {a : Nat} (ha : a < 64) {f : Nat → Nat} : ∀ {n : Nat}, (∀ j, j < n → f j < 64) → xs_ n (fun j => gm a (f j)) = gm a (xs_ n f)
  | 0, _ => (gm_zr a).symm
  | n + 1, h => by
    have h1 : ∀ j, j < n → f j < 64 := fun j hj => h j (by omega)
    rw [xs_, xs_, xs_gm ha h1, gm_xor _ _ _ ha (xs_lt h1) (h n (by omega))]
theorem xs_zero {f : Nat → Nat} {n : Nat} (h : ∀ j, j < n → f j = 0) : xs_ n f = 0 := by
  rw [xs_congr (g := fun _ => 0) h]
  clear h
  induction n with
  | zero => rfl
  | succ n ih => rw [xs_, ih]; rfl
theorem xs_one {f : Nat → Nat} {i : Nat} : ∀ {n : Nat}, i < n → (∀ j, j < n → j ≠ i → f j = 0) → xs_ n f = f i
  | 0, h, _ => absurd h (by omega)
  | n + 1, h, hz => by
    rw [xs_]
    by_cases e : i = n
    · subst e; rw [xs_zero fun j hj => hz j (by omega) (by omega), Nat.zero_xor]
    · rw [xs_one (by omega) (fun j hj => hz j (by omega)), hz n (by omega) (by omega), Nat.xor_zero]
/-! equations -/
abbrev Mx := Nat → Nat → Nat
def EM (M : Mx) : Prop := ∀ r c, r < 4 → c < 5 → M r c < 64
def EX (x : Nat → Nat) : Prop := ∀ j, x j < 64
def dot (M : Mx) (k r : Nat) (x : Nat → Nat) : Nat := xs_ k fun j => gm (M r j) (x j)
def Sol (M : Mx) (k : Nat) (x : Nat → Nat) : Prop := ∀ r, r < 4 → dot M k r x = M r 4
def Hom (M : Mx) (k : Nat) (x : Nat → Nat) : Prop := ∀ r, r < 4 → dot M k r x = 0
theorem dot_lt (M : Mx) (k r : Nat) (x : Nat → Nat) : dot M k r x < 64 := xs_lt fun _ _ => gm_lt _ _
theorem dot_congr {M M' : Mx} {k r r' : Nat} {x : Nat → Nat} (h : ∀ c, c < k → M r c = M' r' c) : dot M k r x = dot M' k r' x := xs_congr fun j hj => by rw [h j hj]
def upd (M : Mx) (r c v : Nat) : Mx := fun r' c' => if r' = r ∧ c' = c then v else M r' c'
def updR (M : Mx) (r : Nat) (f : Nat → Nat) : Mx := fun r' c => if r' = r then f c else M r' c
def subTo (M : Mx) (r i t k : Nat) : Mx := fun r' c => if r' = r ∧ c < k then M r c ^^^ gm t (M i c) else M r' c
def scTo (M : Mx) (i t k : Nat) : Mx := fun r c => if r = i ∧ c < k then gm (M r c) t else M r c
def swp (M : Mx) (i row : Nat) : Mx := updR (updR M i (M row)) row (M i)
def pivM (M : Mx) (i row : Nat) : Mx := scTo (swp M i row) i (gi (M row i)) 5
theorem subTo_zero (M : Mx) (r i t : Nat) : subTo M r i t 0 = M := by funext a b; unfold subTo; rw [if_neg (by omega)]
theorem scTo_zero (M : Mx) (i t : Nat) : scTo M i t 0 = M := by funext a b; unfold scTo; rw [if_neg (by omega)]
theorem subTo_more (M : Mx) (r i t k : Nat) : upd (subTo M r i t k) r k (M r k ^^^ gm t (M i k)) = subTo M r i t (k + 1) := by
  funext a b
  unfold upd subTo
  by_cases h1 : a = r
  · subst h1
    by_cases h2 : b = k
    · subst h2; rw [if_pos ⟨rfl, rfl⟩, if_pos ⟨rfl, by omega⟩]
    · rw [if_neg (fun h => h2 h.2)]
      by_cases h3 : b < k
      · rw [if_pos ⟨rfl, h3⟩, if_pos ⟨rfl, by omega⟩]
      · rw [if_neg (fun h => h3 h.2), if_neg (by omega)]
  · rw [if_neg (fun h => h1 h.1), if_neg (fun h => h1 h.1), if_neg (fun h => h1 h.1)]
theorem scTo_more (M : Mx) (i t k : Nat) : upd (scTo M i t k) i k (gm (M i k) t) = scTo M i t (k + 1) := by
  funext a b
  unfold upd scTo
  by_cases h1 : a = i
  · subst h1
    by_cases h2 : b = k
    · subst h2; rw [if_pos ⟨rfl, rfl⟩, if_pos ⟨rfl, by omega⟩]
    · rw [if_neg (fun h => h2 h.2)]
      by_cases h3 : b < k
      · rw [if_pos ⟨rfl, h3⟩, if_pos ⟨rfl, by omega⟩]
      · rw [if_neg (fun h => h3 h.2), if_neg (by omega)]
  · rw [if_neg (fun h => h1 h.1), if_neg (fun h => h1 h.1), if_neg (fun h => h1 h.1)]
theorem swp_at (M : Mx) (i row r c : Nat) : swp M i row r c = if r = row then M i c else if r = i then M row c else M r c := by
  unfold swp updR; rfl
theorem swp_i (M : Mx) (i row c : Nat) : swp M i row i c = M row c := by
  rw [swp_at]; by_cases h : i = row
  · rw [if_pos h, h]
  · rw [if_neg h, if_pos rfl]
theorem EM.swp {M : Mx} (h : EM M) {i row : Nat} (hi : i < 4) (hr : row < 4) : EM (swp M i row) := fun r c h1 h2 => by
  rw [swp_at]; split
  · exact h i c hi h2
  · split
    · exact h row c hr h2
    · exact h r c h1 h2
theorem EM.scTo {M : Mx} (h : EM M) (i t k : Nat) : EM (scTo M i t k) := fun r c h1 h2 => by
  unfold Go.Proofs.Ytjhgihgggofocaa.scTo; split
  · exact gm_lt _ _
  · exact h r c h1 h2
theorem EM.subTo {M : Mx} (h : EM M) {r i : Nat} (t k : Nat) (hr : r < 4) : EM (subTo M r i t k) := fun r' c h1 h2 => by
  unfold Go.Proofs.Ytjhgihgggofocaa.subTo; split
  · exact xor_lt64 _ _ (h r c hr h2) (gm_lt _ _)
  · exact h r' c h1 h2
/-- The elimination at work: what has the equations' solutions, the columns ahead of i those of the unit. -/
structure Gs (M0 : Mx) (k : Nat) (M : Mx) (i : Nat) : Prop where
  el : EM M
  sol : ∀ x, EX x → (Sol M k x ↔ Sol M0 k x)
  hom : ∀ x, EX x → (Hom M k x ↔ Hom M0 k x)
  unit : ∀ j r, j < i → r < 4 → M r j = if r = j then 1 else 0
structure Gr (M0 : Mx) (k : Nat) (M : Mx) (i row : Nat) : Prop extends Gs M0 k M i where
  one : M i i = 1
  zer : ∀ r, r < row → r < 4 → r ≠ i → M r i = 0
theorem xor_cancel {a b c : Nat} : a ^^^ c = b ^^^ c ↔ a = b := by
  constructor
  · intro h
    have := congrArg (· ^^^ c) h
    simpa [Nat.xor_assoc] using this
  · rintro rfl; rfl
/-- The equations hold of swapped and scaled rows just where they hold. -/
theorem piv_dot {M : Mx} {k i row : Nat} (hM : EM M) (hi : i < 4) (hr : row < 4) (hk : k ≤ 4) (h0 : M row i ≠ 0) (b : Nat → Nat) (x : Nat → Nat) (hb : ∀ r, r < 4 → b r < 64)
    (b' : Nat → Nat) (hb' : ∀ r, b' r = if r = i then gm (if i = row then b i else b row) (gi (M row i)) else if r = row then b i else b r) :
    (∀ r, r < 4 → dot (pivM M i row) k r x = b' r) ↔ ∀ r, r < 4 → dot M k r x = b r := by
  have hg := gi_lt (M row i)
  have hgi := gm_gi (M row i) (hM row i hr (by omega)) h0
  have di : dot (pivM M i row) k i x = gm (gi (M row i)) (dot M k row x) := by
    unfold dot
    rw [← xs_gm hg.2 fun j _ => gm_lt _ _]
    refine xs_congr fun j hj => ?_
    show gm (scTo (swp M i row) i (gi (M row i)) 5 i j) (x j) = _
    unfold scTo
    rw [if_pos ⟨rfl, by omega⟩, swp_i, ← gm_assoc, gm_comm (gi _)]
  have dr : ∀ r, r ≠ i → dot (pivM M i row) k r x = dot M k (if r = row then i else r) x := fun r hr => dot_congr fun c _ => by
    show scTo (swp M i row) i (gi (M row i)) 5 r c = _
    unfold scTo
    rw [if_neg (fun h => hr h.1), swp_at]
    by_cases e : r = row
    · rw [if_pos e, if_pos e]
    · rw [if_neg e, if_neg e, if_neg hr]
  have cancel : ∀ a c, a < 64 → c < 64 → (gm (gi (M row i)) a = gm c (gi (M row i)) ↔ a = c) := fun a c h1 h2 => by
    rw [gm_comm c]
    exact ⟨fun h => gm_cancel _ _ _ hg.2 h1 h2 (by omega) h, fun h => by rw [h]⟩
  constructor
  · intro h
    have hrow : dot M k row x = b row := by
      have := h i hi
      rw [di, hb', if_pos rfl] at this
      by_cases e : i = row
      · rw [if_pos e] at this; subst e; exact (cancel _ _ (dot_lt _ _ _ _) (hb _ hi)).1 this
      · rw [if_neg e] at this; exact (cancel _ _ (dot_lt _ _ _ _) (hb _ hr)).1 this
    intro r hr4
    by_cases e1 : r = row
    · rw [e1]; exact hrow
    · by_cases e2 : r = i
      · subst e2
        have := h row hr
        rw [dr row (fun e => e1 e.symm), if_pos rfl, hb', if_neg (fun e => e1 e.symm), if_pos rfl] at this
        exact this
      · have := h r hr4
        rw [dr r e2, if_neg e1, hb', if_neg e2, if_neg e1] at this
        exact this
  · intro h r hr4
    rw [hb']
    by_cases e2 : r = i
    · subst e2
      rw [if_pos rfl, di, h row hr]
      by_cases e : r = row
      · rw [if_pos e, e]; exact gm_comm _ _
      · rw [if_neg e]; exact gm_comm _ _
    · rw [if_neg e2, dr r e2]
      by_cases e1 : r = row
      · rw [if_pos e1, if_pos e1]; exact h i hi
      · rw [if_neg e1, if_neg e1]; exact h r hr4
theorem gs_piv {M0 M : Mx} {k i row : Nat} (h : Gs M0 k M i) (hk : k ≤ 4) (hi : i < k) (hir : i ≤ row) (hr : row < 4) (h0 : M row i ≠ 0) : Gr M0 k (pivM M i row) i 0 := by
  have hg := gi_lt (M row i)
  have piv4 : ∀ c, c < 5 → ∀ r, pivM M i row r c = if r = i then gm (M row c) (gi (M row i)) else if r = row then M i c else M r c := fun c hc r => by
    show scTo (swp M i row) i (gi (M row i)) 5 r c = _
    unfold scTo
    by_cases e : r = i
    · subst e; rw [if_pos ⟨rfl, hc⟩, if_pos rfl, swp_i]
    · rw [if_neg (fun h => e h.1), if_neg e, swp_at]
      by_cases e2 : r = row
      · rw [if_pos e2, if_pos e2]
      · rw [if_neg e2, if_neg e2, if_neg e]
  refine ⟨⟨(h.el.swp (by omega) hr).scTo _ _ _, fun x hx => ?_, fun x hx => ?_, fun j r hj hr4 => ?_⟩, ?_, fun r h => absurd h (by omega)⟩
  · rw [← h.sol x hx]
    exact piv_dot h.el (by omega) hr hk h0 (fun r => M r 4) x (fun r hr => h.el r 4 hr (by omega)) _ fun r => by
      rw [piv4 4 (by omega)]
      by_cases e : i = row
      · subst e; rw [if_pos rfl]
      · rw [if_neg e]
  · rw [← h.hom x hx]
    exact piv_dot h.el (by omega) hr hk h0 (fun _ => 0) x (fun r _ => by omega) (fun _ => 0) fun r => by
      simp only [ite_self, gm_zl]
  · rw [piv4 j (by omega), h.unit j row hj hr, if_neg (show ¬ row = j by omega), gm_zl, h.unit j i hj (by omega), if_neg (show ¬ i = j by omega), h.unit j r hj hr4]
    by_cases e1 : r = i
    · rw [if_pos e1, if_neg (by omega)]
    · rw [if_neg e1]
      by_cases e2 : r = row
      · rw [if_pos e2, if_neg (by omega)]
      · rw [if_neg e2]
  · rw [piv4 i (by omega), if_pos rfl]
    exact gm_gi _ (h.el row i hr (by omega)) h0
/-- A row less some times another. -/
theorem sub_dot {M : Mx} {k r i t : Nat} (hM : EM M) (hr : r < 4) (hi : i < 4) (hne : r ≠ i) (ht : t < 64) (hk : k ≤ 4) (b b' x : Nat → Nat) (hx : EX x) (hb' : ∀ r', b' r' = if r' = r then b r ^^^ gm t (b i) else b r') :
    (∀ r', r' < 4 → dot (subTo M r i t 5) k r' x = b' r') ↔ ∀ r', r' < 4 → dot M k r' x = b r' := by
  have d1 : dot (subTo M r i t 5) k r x = dot M k r x ^^^ gm t (dot M k i x) := by
    unfold dot
    rw [← xs_gm ht fun j _ => gm_lt _ _, ← xs_xor]
    refine xs_congr fun j hj => ?_
    show gm (subTo M r i t 5 r j) (x j) = _
    unfold subTo
    rw [if_pos ⟨rfl, by omega⟩, xor_gm _ _ _ (hx j) (hM r j hr (by omega)) (gm_lt _ _), gm_assoc]
  have d2 : ∀ r', r' ≠ r → dot (subTo M r i t 5) k r' x = dot M k r' x := fun r' h => dot_congr fun c _ => by
    unfold subTo; rw [if_neg (fun e => h e.1)]
  constructor
  · intro h r' hr'
    have hi' := h i hi
    rw [d2 i (Ne.symm hne), hb', if_neg (Ne.symm hne)] at hi'
    by_cases e : r' = r
    · subst e
      have := h r' hr'
      rw [d1, hb', if_pos rfl, hi'] at this
      exact xor_cancel.1 this
    · have := h r' hr'
      rw [d2 r' e, hb', if_neg e] at this; exact this
  · intro h r' hr'
    rw [hb']
    by_cases e : r' = r
    · subst e; rw [if_pos rfl, d1, h r' hr', h i hi]
    · rw [if_neg e, d2 r' e, h r' hr']
theorem gr_sub {M0 M : Mx} {k i row : Nat} (h : Gr M0 k M i row) (hk : k ≤ 4) (hi : i < k) (hr : row < 4) (hne : row ≠ i) : Gr M0 k (subTo M row i (M row i) 5) i (row + 1) := by
  have ht := h.el row i hr (by omega)
  have s5 : ∀ c, c < 5 → ∀ r, subTo M row i (M row i) 5 r c = if r = row then M row c ^^^ gm (M row i) (M i c) else M r c := fun c hc r => by
    unfold subTo
    by_cases e : r = row
    · rw [if_pos ⟨e, hc⟩, if_pos e]
    · rw [if_neg (fun h => e h.1), if_neg e]
  refine ⟨⟨h.el.subTo _ _ hr, fun x hx => ?_, fun x hx => ?_, fun j r hj hr4 => ?_⟩, ?_, fun r h1 h2 h3 => ?_⟩
  · rw [← h.sol x hx]
    exact sub_dot h.el hr (by omega) hne ht hk (fun r => M r 4) _ x hx fun r => s5 4 (by omega) r
  · rw [← h.hom x hx]
    exact sub_dot h.el hr (by omega) hne ht hk (fun _ => 0) (fun _ => 0) x hx fun r => by simp only [gm_zr, Nat.xor_zero, ite_self]
  · rw [s5 j (by omega), h.unit j i hj (by omega), if_neg (show ¬ i = j by omega), gm_zr, Nat.xor_zero]
    by_cases e : r = row
    · rw [if_pos e, ← e]; exact h.unit j r hj hr4
    · rw [if_neg e]; exact h.unit j r hj hr4
  · rw [s5 i (by omega), if_neg (Ne.symm hne)]; exact h.one
  · rw [s5 i (by omega)]
    by_cases e : r = row
    · rw [if_pos e, h.one, gm_one _ ht, Nat.xor_self]
    · rw [if_neg e]; exact h.zer r (by omega) h2 h3
theorem gr_skip {M0 M : Mx} {k i row : Nat} (h : Gr M0 k M i row) (h0 : row = i ∨ M row i = 0) : Gr M0 k M i (row + 1) :=
  ⟨h.toGs, h.one, fun r h1 h2 h3 => by
    by_cases e : r = row
    · subst e; rcases h0 with h0 | h0
      · exact absurd h0 h3
      · exact h0
    · exact h.zer r (by omega) h2 h3⟩
theorem gr_end {M0 M : Mx} {k i : Nat} (h : Gr M0 k M i 4) (hi : i < 4) : Gs M0 k M (i + 1) :=
  ⟨h.el, h.sol, h.hom, fun j r hj hr => by
    by_cases e : j = i
    · subst e
      by_cases e2 : r = j
      · rw [if_pos e2, e2]; exact h.one
      · rw [if_neg e2]; exact h.zer r hr hr e2
    · exact h.unit j r (by omega) hr⟩
theorem gs_start {M : Mx} {k : Nat} (h : EM M) : Gs M k M 0 := ⟨h, fun _ _ => Iff.rfl, fun _ _ => Iff.rfl, fun j _ h => absurd h (by omega)⟩
/-- What solve says. -/
def SolvR (M0 : Mx) (k : Nat) (b : Bool) (M : Mx) : Prop :=
  (b = true → EM M ∧ ∀ x, EX x → (Sol M0 k x ↔ ∀ j, j < k → x j = M j 4)) ∧ (b = false → (∀ x, EX x → ¬ Sol M0 k x) ∨ ∃ x, EX x ∧ Hom M0 k x ∧ ∃ j, j < k ∧ x j ≠ 0)
/-- No pivot: the columns are not independent. -/
theorem gs_none {M0 M : Mx} {k i : Nat} (h : Gs M0 k M i) (hk : k ≤ 4) (hi : i < k) (h0 : ∀ r, i ≤ r → r < 4 → M r i = 0) : SolvR M0 k false M := by
  refine ⟨(fun h => by cases h), fun _ => .inr ⟨fun j => if j < i then M j i else if j = i then 1 else 0, fun j => ?_, ?_, i, hi, ?_⟩⟩
  · show (if j < i then M j i else if j = i then 1 else 0) < 64
    split
    · exact h.el j i (by omega) (by omega)
    · split <;> omega
  · refine (h.hom _ fun j => ?_).1 fun r hr => ?_
    · show (if j < i then M j i else if j = i then 1 else 0) < 64
      split
      · exact h.el j i (by omega) (by omega)
      · split <;> omega
    · unfold dot
      have e : ∀ j, j < k → gm (M r j) (if j < i then M j i else if j = i then 1 else 0) = (if j = r ∧ r < i then M r i else 0) ^^^ (if j = i then M r i else 0) := fun j hj => by
        by_cases e1 : j < i
        · rw [if_pos e1, h.unit j r e1 hr, if_neg (show ¬ j = i by omega), Nat.xor_zero]
          by_cases e2 : r = j
          · subst e2; rw [if_pos rfl, if_pos ⟨rfl, e1⟩, one_gm _ (h.el r i hr (by omega))]
          · rw [if_neg e2, gm_zl, if_neg (by omega)]
        · rw [if_neg e1]
          by_cases e2 : j = i
          · subst e2; rw [if_pos rfl, if_pos rfl, gm_one _ (h.el r j hr (by omega)), if_neg (by omega), Nat.zero_xor]
          · rw [if_neg e2, if_neg e2, gm_zr, if_neg (by omega)]; rfl
      rw [xs_congr e, xs_xor, xs_one (i := i) (f := fun j => if j = i then M r i else 0) hi (fun j _ hj => if_neg hj)]
      show _ ^^^ (if i = i then M r i else 0) = 0
      rw [if_pos rfl]
      by_cases e3 : r < i
      · rw [xs_one (i := r) (f := fun j => if j = r ∧ r < i then M r i else 0) (by omega) (fun j _ hj => if_neg (fun h => hj h.1))]
        show (if r = r ∧ r < i then M r i else 0) ^^^ _ = 0
        rw [if_pos ⟨rfl, e3⟩, Nat.xor_self]
      · rw [xs_zero fun j _ => if_neg (fun h => e3 h.2), h0 r (by omega) hr]; rfl
  · show (if i < i then M i i else if i = i then 1 else 0) ≠ 0
    rw [if_neg (by omega), if_pos rfl]; omega
theorem gs_dot {M0 M : Mx} {k : Nat} (h : Gs M0 k M k) (x : Nat → Nat) (hx : EX x) {r : Nat} (hr : r < 4) : dot M k r x = if r < k then x r else 0 := by
  unfold dot
  have e : ∀ j, j < k → gm (M r j) (x j) = if j = r then x r else 0 := fun j hj => by
    rw [h.unit j r hj hr]
    by_cases e : r = j
    · subst e; rw [if_pos rfl, if_pos rfl, one_gm _ (hx r)]
    · rw [if_neg e, gm_zl, if_neg (Ne.symm e)]
  rw [xs_congr e]
  by_cases e2 : r < k
  · rw [if_pos e2, xs_one (i := r) (f := fun j => if j = r then x r else 0) e2 (fun j _ hj => if_neg hj)]
    show (if r = r then x r else 0) = x r
    rw [if_pos rfl]
  · rw [if_neg e2]; exact xs_zero fun j hj => if_neg (by omega)
theorem gs_no {M0 M : Mx} {k row : Nat} (h : Gs M0 k M k) (hk : k ≤ row) (hr : row < 4) (h0 : M row 4 ≠ 0) : SolvR M0 k false M :=
  ⟨(fun h => by cases h), fun _ => .inl fun x hx hs => by
    have := (h.sol x hx).2 hs row hr
    rw [gs_dot h x hx hr, if_neg (by omega)] at this
    exact h0 this.symm⟩
theorem gs_yes {M0 M : Mx} {k : Nat} (h : Gs M0 k M k) (hk : k ≤ 4) (h0 : ∀ r, k ≤ r → r < 4 → M r 4 = 0) : SolvR M0 k true M :=
  ⟨fun _ => ⟨h.el, fun x hx => by
    rw [← h.sol x hx]
    constructor
    · intro hs j hj
      have := hs j (by omega)
      rw [gs_dot h x hx (by omega), if_pos hj] at this; exact this
    · intro hx2 r hr
      rw [gs_dot h x hx hr]
      by_cases e : r < k
      · rw [if_pos e]; exact hx2 r e
      · rw [if_neg e]; exact (h0 r (by omega) hr).symm⟩, (fun h => by cases h)⟩
/-! the equations in memory -/
def mc (M : Mx) : List Value := (List.range 20).map fun k => .int .u8 ((M (k / 5) (k % 5) : Nat) : Int)
def rowV (f : Nat → Nat) : List Value := (List.range 5).map fun c => .int .u8 ((f c : Nat) : Int)
theorem mc_len (M : Mx) : (mc M).length = 20 := by simp [mc]
theorem rowV_len (f : Nat → Nat) : (rowV f).length = 5 := by simp [rowV]
theorem rowV_one (f : Nat → Nat) : (rowV f).all (·.oneCell') = true := by simp [rowV, List.range_succ, Value.oneCell']
theorem mc_get (M : Mx) {k : Nat} (h : k < 20) : (mc M)[k]? = some (.int .u8 ((M (k / 5) (k % 5) : Nat) : Int)) := by unfold mc; rw [List.getElem?_map, List.getElem?_range h]; rfl
theorem mc_at (M : Mx) {r c : Nat} (hr : r < 4) (hc : c < 5) : (mc M)[r * 5 + c * 1]? = some (.int .u8 ((M r c : Nat) : Int)) := by
  rw [mc_get M (by omega), show (r * 5 + c * 1) / 5 = r by omega, show (r * 5 + c * 1) % 5 = c by omega]
theorem mc_ext {M M' : Mx} (h : ∀ r c, r < 4 → c < 5 → M r c = M' r c) : mc M = mc M' := by
  unfold mc
  refine List.map_congr_left fun k hk => ?_
  have := List.mem_range.1 hk
  rw [h _ _ (by omega) (by omega)]
theorem mc_set (M : Mx) {r c : Nat} (v : Nat) (hc : c < 5) : (mc M).set (r * 5 + c * 1) (.int .u8 (v : Int)) = mc (upd M r c v) := by
  apply List.ext_getElem?
  intro k
  rcases Nat.lt_or_ge k 20 with h | h
  · rw [List.getElem?_set, mc_len, mc_get _ h, mc_get _ h]
    unfold upd
    by_cases e : r * 5 + c * 1 = k
    · rw [if_pos e, if_pos (by omega), if_pos ⟨by omega, by omega⟩]
    · rw [if_neg e, if_neg (fun h2 => e (by omega))]
  · rw [List.getElem?_eq_none (by rw [List.length_set, mc_len]; exact h), List.getElem?_eq_none (by rw [mc_len]; exact h)]
theorem mc_zero : List.replicate 20 (Value.int .u8 0) = mc (fun _ _ => 0) := by
  apply List.ext_getElem?
  intro k
  rcases Nat.lt_or_ge k 20 with h | h
  · rw [mc_get _ h, List.getElem?_replicate_of_lt h]; rfl
  · rw [List.getElem?_eq_none (by simpa using h), List.getElem?_eq_none (by rw [mc_len]; exact h)]
theorem mc_row (M : Mx) {r : Nat} (hr : r < 4) : ((mc M).drop (r * 5)).take 5 = rowV (M r) := by
  apply List.ext_getElem?
  intro k
  rcases Nat.lt_or_ge k 5 with h | h
  · rw [List.getElem?_take_of_lt h, List.getElem?_drop, mc_get _ (by omega)]
    unfold rowV
    rw [List.getElem?_map, List.getElem?_range h, show (r * 5 + k) / 5 = r by omega, show (r * 5 + k) % 5 = k by omega]; rfl
  · rw [List.getElem?_eq_none (by rw [List.length_take]; omega), List.getElem?_eq_none (by rw [rowV_len]; exact h)]
theorem mc_put (M : Mx) {r : Nat} (f : Nat → Nat) (hr : r < 4) : (mc M).take (r * 5) ++ rowV f ++ (mc M).drop (r * 5 + 5) = mc (updR M r f) := by
  apply List.ext_getElem?
  intro k
  have h1 : ((mc M).take (r * 5)).length = r * 5 := by rw [List.length_take, mc_len]; omega
  rcases Nat.lt_or_ge k 20 with h | h
  · rw [mc_get _ h]
    unfold updR
    by_cases e1 : k < r * 5
    · rw [List.append_assoc, List.getElem?_append_left (by rw [h1]; exact e1), List.getElem?_take_of_lt e1, mc_get _ h, if_neg (by omega)]
    · by_cases e2 : k < r * 5 + 5
      · rw [List.getElem?_append_left (by rw [List.length_append, h1, rowV_len]; exact e2), List.getElem?_append_right (by rw [h1]; omega), h1]
        unfold rowV
        rw [List.getElem?_map, List.getElem?_range (by omega), if_pos (by omega), show k % 5 = k - r * 5 by omega]; rfl
      · rw [List.getElem?_append_right (by rw [List.length_append, h1, rowV_len]; omega), List.length_append, h1, rowV_len, List.getElem?_drop, show r * 5 + 5 + (k - (r * 5 + 5)) = k by omega, mc_get _ h, if_neg (by omega)]
  · rw [List.getElem?_eq_none (by rw [List.length_append, List.length_append, h1, rowV_len, List.length_drop, mc_len]; omega), List.getElem?_eq_none (by rw [mc_len]; exact h)]
section
variable {P : Program} {ops : Array Oper} {Q : Exit → Act → World → Prop} {n : Nat} {l : List Oper} {S : Slots} {w w' : World} {o : Oper} {d g : Nat}
/-- A row of the equations is loaded. -/
theorem Ev.ldRow {T r : Nat} {t : TypeId} {D : TypeDesc} {x : Operand} {M : Mx} (ho : o.op = .load T x) (hx : ev S x = some (.pointer (some ((⟨g, 0, none⟩ : Addr).add (r * 5))))) (ht : P.underlying T = some D) (hD : aggD D = true) (hs : sizeP P T = some 5) (hb : Blk w g t (mc M)) (hr : r < 4) : Ev P n o S w (.agg (rowV (M r)).toArray) :=
  Ev.ldAgg ho hx ht hD hs (rowV_len _) fun j u hu => by
    rw [add_of_add]
    refine hb.cells _ u ?_
    rw [← mc_row M hr] at hu
    have hj : j < 5 := by
      have := (List.getElem?_eq_some_iff.1 hu).1
      rw [List.length_take] at this; omega
    rw [List.getElem?_take_of_lt hj, List.getElem?_drop] at hu; exact hu
/-- A row of the equations is written. -/
theorem RG.stRow {T r : Nat} {t : TypeId} {x y : Operand} {M : Mx} (f : Nat → Nat) (hw : wantS ops S o = some true) (hd : o.dst = none) (ho : o.op = .store T x y) (hx : ev S x = some (.pointer (some ((⟨g, 0, none⟩ : Addr).add (r * 5))))) (hy : ev S y = some (.agg (rowV f).toArray))
    (hs : sizeP P T = some 5) (hb : Blk w g t (mc M)) (hr : r < 4)
    (kk : ∀ w', Wr w w' g → Blk w' g t (mc (updR M r f)) → RG P ops Q n l S w') : RG P ops Q n (o :: l) S w := by
  have hst := run_storeCells_at P g (r * 5) t (rowV f) 0 (mc M).toArray w hb (by rw [rowV_len, List.size_toArray, mc_len]; omega) (fun u hu => List.all_eq_true.1 (rowV_one f) u hu)
  simp only [Nat.add_zero, rowV_len] at hst
  rw [mc_put M f hr] at hst
  refine RG.run0 (w' := w.setRow g (mc (updR M r f)).toArray) hw hd (fun a ha => ?_) (kk _ (wr_setRow _ _ _) (blk_setRow hb))
  simp only [execOp, ho]; rw [ha.eval hx, ha.eval hy]
  rw [add_at]
  have hc : (Value.agg (rowV f).toArray).cells = (rowV f).toArray := rfl
  simp [Instr.storeAt, Instr.sureAddr, storeVar, run_sizeOf hs, hc, rowV_len, hst]
end
end Go.Proofs.Ytjhgihgggofocaa
