/- Texts put together by program: SF, SH, SA, SB, SC, LY, SI, SJ, LP, SK, LR, SM, SN, UQ, UA, UB. -/
import Derived.OrdersIn
import Derived.ChangeKeysEq
import Derived.Test.YtgjnchjkjdnidaaGreatMBarcodeScans2
/- Plain: sums, equations in four rows, what the steps of the elimination keep. -/
namespace Go.Proofs.YtgjnchjkjdnidaaGreat
open Go.RowKit
def xs_ : Nat → (Nat → Nat) → Nat
  | 0, _ => 0
  | n + 1, f => xs_ n f ^^^ f n
theorem xs_congr {f g : Nat → Nat} : ∀ {n : Nat}, (∀ j, j < n → f j = g j) → xs_ n f = xs_ n g
  | 0, _ => rfl
  | n + 1, h => by rw [xs_, xs_, xs_congr (fun j hj => h j (by omega)), h n (by omega)]
theorem xs_lt {f : Nat → Nat} : ∀ {n : Nat}, (∀ j, j < n → f j < 64) → xs_ n f < 64
  | 0, _ => by show 0 < 64; omega
  | n + 1, h => xor_lt64 _ _ (xs_lt fun j hj => h j (by omega)) (h n (by omega))
theorem xor4 (a b c d : Nat) : (a ^^^ b) ^^^ (c ^^^ d) = (a ^^^ c) ^^^ (b ^^^ d) := by
  rw [Nat.xor_assoc, Nat.xor_assoc, ← Nat.xor_assoc b, Nat.xor_comm b c, Nat.xor_assoc c]
theorem xs_xor (f g : Nat → Nat) : ∀ n, xs_ n (fun j => f j ^^^ g j) = xs_ n f ^^^ xs_ n g
  | 0 => by simp [xs_]
  | n + 1 => by rw [xs_, xs_, xs_, xs_xor f g n, xor4]
theorem xs_gm {a : Nat} (ha : a < 64) {f : Nat → Nat} : ∀ {n : Nat}, (∀ j, j < n → f j < 64) → xs_ n (fun j => gm a (f j)) = gm a (xs_ n f)
  | 0, _ => (gm_zr a).symm
  | n + 1, h => by
    have h1 : ∀ j, j < n → f j < 64 := fun j hj => h j (by omega)
    rw [xs_, xs_, xs_gm ha h1, gm_xor _ _ _ ha (xs_lt h1) (h n (by omega))]
theorem xs_zero {f : Nat → Nat} {n : Nat} (h : ∀ j, j < n → f j = 0) : xs_ n f = 0 := by
  rw [xs_congr (g := fun _ => 0) h]
  clear h
  induction n with
  | zero => rfl
  | succ n ih => rw [xs_, ih]; rfl
theorem xs_one {f : Nat → Nat} {i : Nat} : ∀ {n : Nat}, i < n → (∀ j, j < n → j ≠ i → f j = 0) → xs_ n f = f i
  | 0, h, _ => absurd h (by omega)
  | n + 1, h, hz => by
    rw [xs_]
    by_cases e : i = n
    · subst e; rw [xs_zero fun j hj => hz j (by omega) (by omega), Nat.zero_xor]
    · rw [xs_one (by omega) (fun j hj => hz j (by omega)), hz n (by omega) (by omega), Nat.xor_zero]
/-! equations -/
abbrev Mx := Nat → Nat → Nat
def EM (M : Mx) : Prop := ∀ r c, r < 4 → c < 5 → M r c < 64
def EX (x : Nat → Nat) : Prop := ∀ j, x j < 64
def dot (M : Mx) (k r : Nat) (x : Nat → Nat) : Nat := xs_ k fun j => gm (M r j) (x j)
def Sol (M : Mx) (k : Nat) (x : Nat → Nat) : Prop := ∀ r, r < 4 → dot M k r x = M r 4
def Hom (M : Mx) (k : Nat) (x : Nat → Nat) : Prop := ∀ r, r < 4 → dot M k r x = 0
theorem dot_lt (M : Mx) (k r : Nat) (x : Nat → Nat) : dot M k r x < 64 := xs_lt fun _ _ => gm_lt _ _
theorem dot_congr {M M' : Mx} {k r r' : Nat} {x : Nat → Nat} (h : ∀ c, c < k → M r c = M' r' c) : dot M k r x = dot M' k r' x := xs_congr fun j hj => by rw [h j hj]
def upd (M : Mx) (r c v : Nat) : Mx := fun r' c' => if r' = r ∧ c' = c then v else M r' c'
def updR (M : Mx) (r : Nat) (f : Nat → Nat) : Mx := fun r' c => if r' = r then f c else M r' c
def subTo (M : Mx) (r i t k : Nat) : Mx := fun r' c => if r' = r ∧ c < k then M r c ^^^ gm t (M i c) else M r' c
def scTo (M : Mx) (i t k : Nat) : Mx := fun r c => if r = i ∧ c < k then gm (M r c) t else M r c
def swp (M : Mx) (i row : Nat) : Mx := updR (updR M i (M row)) row (M i)
def pivM (M : Mx) (i row : Nat) : Mx := scTo (swp M i row) i (gi (M row i)) 5
theorem subTo_zero (M : Mx) (r i t : Nat) : subTo M r i t 0 = M := by funext a b; unfold subTo; rw [if_neg (by omega)]
theorem scTo_zero (M : Mx) (i t : Nat) : scTo M i t 0 = M := by funext a b; unfold scTo; rw [if_neg (by omega)]
theorem subTo_more (M : Mx) (r i t k : Nat) : upd (subTo M r i t k) r k (M r k ^^^ gm t (M i k)) = subTo M r i t (k + 1) := by
  funext a b
  unfold upd subTo
  by_cases h1 : a = r
  · subst h1
    by_cases h2 : b = k
    · subst h2; rw [if_pos ⟨rfl, rfl⟩, if_pos ⟨rfl, by omega⟩]
    · rw [if_neg (fun h => h2 h.2)]
      by_cases h3 : b < k
      · rw [if_pos ⟨rfl, h3⟩, if_pos ⟨rfl, by omega⟩]
      · rw [if_neg (fun h => h3 h.2), if_neg (by omega)]
  · rw [if_neg (fun h => h1 h.1), if_neg (fun h => h1 h.1), if_neg (fun h => h1 h.1)]
theorem scTo_more (M : Mx) (i t k : Nat) : upd (scTo M i t k) i k (gm (M i k) t) = scTo M i t (k + 1) := by
  funext a b
  unfold upd scTo
  by_cases h1 : a = i
  · subst h1
    by_cases h2 : b = k
    · subst h2; rw [if_pos ⟨rfl, rfl⟩, if_pos ⟨rfl, by omega⟩]
    · rw [if_neg (fun h => h2 h.2)]
      by_cases h3 : b < k
      · rw [if_pos ⟨rfl, h3⟩, if_pos ⟨rfl, by omega⟩]
      · rw [if_neg (fun h => h3 h.2), if_neg (by omega)]
  · rw [if_neg (fun h => h1 h.1), if_neg (fun h => h1 h.1), if_neg (fun h => h1 h.1)]
theorem swp_at (M : Mx) (i row r c : Nat) : swp M i row r c = if r = row then M i c else if r = i then M row c else M r c := by
  unfold swp updR; rfl
theorem swp_i (M : Mx) (i row c : Nat) : swp M i row i c = M row c := by
  rw [swp_at]; by_cases h : i = row
  · rw [if_pos h, h]
  · rw [if_neg h, if_pos rfl]
theorem EM.swp {M : Mx} (h : EM M) {i row : Nat} (hi : i < 4) (hr : row < 4) : EM (swp M i row) := fun r c h1 h2 => by
  rw [swp_at]; split
  · exact h i c hi h2
  · split
    · exact h row c hr h2
    · exact h r c h1 h2
theorem EM.scTo {M : Mx} (h : EM M) (i t k : Nat) : EM (scTo M i t k) := fun r c h1 h2 => by
  unfold Go.Proofs.YtgjnchjkjdnidaaGreat.scTo; split
  · exact gm_lt _ _
  · exact h r c h1 h2
theorem EM.subTo {M : Mx} (h : EM M) {r i : Nat} (t k : Nat) (hr : r < 4) : EM (subTo M r i t k) := fun r' c h1 h2 => by
  unfold Go.Proofs.YtgjnchjkjdnidaaGreat.subTo; split
  · exact xor_lt64 _ _ (h r c hr h2) (gm_lt _ _)
  · exact h r' c h1 h2
structure Gs (M0 : Mx) (k : Nat) (M : Mx) (i : Nat) : Prop where
  el : EM M
  sol : ∀ x, EX x → (Sol M k x ↔ Sol M0 k x)
  hom : ∀ x, EX x → (Hom M k x ↔ Hom M0 k x)
  unit : ∀ j r, j < i → r < 4 → M r j = if r = j then 1 else 0
structure Gr (M0 : Mx) (k : Nat) (M : Mx) (i row : Nat) : Prop extends Gs M0 k M i where
  one : M i i = 1
  zer : ∀ r, r < row → r < 4 → r ≠ i → M r i = 0
theorem xor_cancel {a b c : Nat} : a ^^^ c = b ^^^ c ↔ a = b := by
  constructor
  · intro h
    have := congrArg (· ^^^ c) h
    simpa [Nat.xor_assoc] using this
  · rintro rfl; rfl
theorem piv_dot {M : Mx} {k i row : Nat} (hM : EM M) (hi : i < 4) (hr : row < 4) (hk : k ≤ 4) (h0 : M row i ≠ 0) (b : Nat → Nat) (x : Nat → Nat) (hb : ∀ r, r < 4 → b r < 64)
    (b' : Nat → Nat) (hb' : ∀ r, b' r = if r = i then gm (if i = row then b i else b row) (gi (M row i)) else if r = row then b i else b r) :
    (∀ r, r < 4 → dot (pivM M i row) k r x = b' r) ↔ ∀ r, r < 4 → dot M k r x = b r := by
  have hg := gi_lt (M row i)
  have hgi := gm_gi (M row i) (hM row i hr (by omega)) h0
  have di : dot (pivM M i row) k i x = gm (gi (M row i)) (dot M k row x) := by
    unfold dot
    rw [← xs_gm hg.2 fun j _ => gm_lt _ _]
    refine xs_congr fun j hj => ?_
    show gm (scTo (swp M i row) i (gi (M row i)) 5 i j) (x j) = _
    unfold scTo
    rw [if_pos ⟨rfl, by omega⟩, swp_i, ← gm_assoc, gm_comm (gi _)]
  have dr : ∀ r, r ≠ i → dot (pivM M i row) k r x = dot M k (if r = row then i else r) x := fun r hr => dot_congr fun c _ => by
    show scTo (swp M i row) i (gi (M row i)) 5 r c = _
    unfold scTo
    rw [if_neg (fun h => hr h.1), swp_at]
    by_cases e : r = row
    · rw [if_pos e, if_pos e]
    · rw [if_neg e, if_neg e, if_neg hr]
  have cancel : ∀ a c, a < 64 → c < 64 → (gm (gi (M row i)) a = gm c (gi (M row i)) ↔ a = c) := fun a c h1 h2 => by
    rw [gm_comm c]
    exact ⟨fun h => gm_cancel _ _ _ hg.2 h1 h2 (by omega) h, fun h => by rw [h]⟩
  constructor
  · intro h
    have hrow : dot M k row x = b row := by
      have := h i hi
      rw [di, hb', if_pos rfl] at this
      by_cases e : i = row
      · rw [if_pos e] at this; subst e; exact (cancel _ _ (dot_lt _ _ _ _) (hb _ hi)).1 this
      · rw [if_neg e] at this; exact (cancel _ _ (dot_lt _ _ _ _) (hb _ hr)).1 this
    intro r hr4
    by_cases e1 : r = row
    · rw [e1]; exact hrow
    · by_cases e2 : r = i
      · subst e2
        have := h row hr
        rw [dr row (fun e => e1 e.symm), if_pos rfl, hb', if_neg (fun e => e1 e.symm), if_pos rfl] at this
        exact this
      · have := h r hr4
        rw [dr r e2, if_neg e1, hb', if_neg e2, if_neg e1] at this
        exact this
  · intro h r hr4
    rw [hb']
    by_cases e2 : r = i
    · subst e2
      rw [if_pos rfl, di, h row hr]
      by_cases e : r = row
      · rw [if_pos e, e]; exact gm_comm _ _
      · rw [if_neg e]; exact gm_comm _ _
    · rw [if_neg e2, dr r e2]
      by_cases e1 : r = row
      · rw [if_pos e1, if_pos e1]; exact h i hi
      · rw [if_neg e1, if_neg e1]; exact h r hr4
theorem gs_piv {M0 M : Mx} {k i row : Nat} (h : Gs M0 k M i) (hk : k ≤ 4) (hi : i < k) (hir : i ≤ row) (hr : row < 4) (h0 : M row i ≠ 0) : Gr M0 k (pivM M i row) i 0 := by
  have hg := gi_lt (M row i)
  have piv4 : ∀ c, c < 5 → ∀ r, pivM M i row r c = if r = i then gm (M row c) (gi (M row i)) else if r = row then M i c else M r c := fun c hc r => by
    show scTo (swp M i row) i (gi (M row i)) 5 r c = _
    unfold scTo
    by_cases e : r = i
    · subst e; rw [if_pos ⟨rfl, hc⟩, if_pos rfl, swp_i]
    · rw [if_neg (fun h => e h.1), if_neg e, swp_at]
      by_cases e2 : r = row
      · rw [if_pos e2, if_pos e2]
      · rw [if_neg e2, if_neg e2, if_neg e]
  refine ⟨⟨(h.el.swp (by omega) hr).scTo _ _ _, fun x hx => ?_, fun x hx => ?_, fun j r hj hr4 => ?_⟩, ?_, fun r h => absurd h (by omega)⟩
  · rw [← h.sol x hx]
    exact piv_dot h.el (by omega) hr hk h0 (fun r => M r 4) x (fun r hr => h.el r 4 hr (by omega)) _ fun r => by
      rw [piv4 4 (by omega)]
      by_cases e : i = row
      · subst e; rw [if_pos rfl]
      · rw [if_neg e]
  · rw [← h.hom x hx]
    exact piv_dot h.el (by omega) hr hk h0 (fun _ => 0) x (fun r _ => by omega) (fun _ => 0) fun r => by
      simp only [ite_self, gm_zl]
  · rw [piv4 j (by omega), h.unit j row hj hr, if_neg (show ¬ row = j by omega), gm_zl, h.unit j i hj (by omega), if_neg (show ¬ i = j by omega), h.unit j r hj hr4]
    by_cases e1 : r = i
    · rw [if_pos e1, if_neg (by omega)]
    · rw [if_neg e1]
      by_cases e2 : r = row
      · rw [if_pos e2, if_neg (by omega)]
      · rw [if_neg e2]
  · rw [piv4 i (by omega), if_pos rfl]
    exact gm_gi _ (h.el row i hr (by omega)) h0
theorem sub_dot {M : Mx} {k r i t : Nat} (hM : EM M) (hr : r < 4) (hi : i < 4) (hne : r ≠ i) (ht : t < 64) (hk : k ≤ 4) (b b' x : Nat → Nat) (hx : EX x) (hb' : ∀ r', b' r' = if r' = r then b r ^^^ gm t (b i) else b r') :
    (∀ r', r' < 4 → dot (subTo M r i t 5) k r' x = b' r') ↔ ∀ r', r' < 4 → dot M k r' x = b r' := by
  have d1 : dot (subTo M r i t 5) k r x = dot M k r x ^^^ gm t (dot M k i x) := by
    unfold dot
    rw [← xs_gm ht fun j _ => gm_lt _ _, ← xs_xor]
    refine xs_congr fun j hj => ?_
    show gm (subTo M r i t 5 r j) (x j) = _
    unfold subTo
    rw [if_pos ⟨rfl, by omega⟩, xor_gm _ _ _ (hx j) (hM r j hr (by omega)) (gm_lt _ _), gm_assoc]
  have d2 : ∀ r', r' ≠ r → dot (subTo M r i t 5) k r' x = dot M k r' x := fun r' h => dot_congr fun c _ => by
    unfold subTo; rw [if_neg (fun e => h e.1)]
  constructor
  · intro h r' hr'
    have hi' := h i hi
    rw [d2 i (Ne.symm hne), hb', if_neg (Ne.symm hne)] at hi'
    by_cases e : r' = r
    · subst e
      have := h r' hr'
      rw [d1, hb', if_pos rfl, hi'] at this
      exact xor_cancel.1 this
    · have := h r' hr'
      rw [d2 r' e, hb', if_neg e] at this; exact this
  · intro h r' hr'
    rw [hb']
    by_cases e : r' = r
    · subst e; rw [if_pos rfl, d1, h r' hr', h i hi]
    · rw [if_neg e, d2 r' e, h r' hr']
theorem gr_sub {M0 M : Mx} {k i row : Nat} (h : Gr M0 k M i row) (hk : k ≤ 4) (hi : i < k) (hr : row < 4) (hne : row ≠ i) : Gr M0 k (subTo M row i (M row i) 5) i (row + 1) := by
  have ht := h.el row i hr (by omega)
  have s5 : ∀ c, c < 5 → ∀ r, subTo M row i (M row i) 5 r c = if r = row then M row c ^^^ gm (M row i) (M i c) else M r c := fun c hc r => by
    unfold subTo
    by_cases e : r = row
    · rw [if_pos ⟨e, hc⟩, if_pos e]
    · rw [if_neg (fun h => e h.1), if_neg e]
  refine ⟨⟨h.el.subTo _ _ hr, fun x hx => ?_, fun x hx => ?_, fun j r hj hr4 => ?_⟩, ?_, fun r h1 h2 h3 => ?_⟩
  · rw [← h.sol x hx]
    exact sub_dot h.el hr (by omega) hne ht hk (fun r => M r 4) _ x hx fun r => s5 4 (by omega) r
  · rw [← h.hom x hx]
    exact sub_dot h.el hr (by omega) hne ht hk (fun _ => 0) (fun _ => 0) x hx fun r => by simp only [gm_zr, Nat.xor_zero, ite_self]
  · rw [s5 j (by omega), h.unit j i hj (by omega), if_neg (show ¬ i = j by omega), gm_zr, Nat.xor_zero]
    by_cases e : r = row
    · rw [if_pos e, ← e]; exact h.unit j r hj hr4
    · rw [if_neg e]; exact h.unit j r hj hr4
  · rw [s5 i (by omega), if_neg (Ne.symm hne)]; exact h.one
  · rw [s5 i (by omega)]
    by_cases e : r = row
    · rw [if_pos e, h.one, gm_one _ ht, Nat.xor_self]
    · rw [if_neg e]; exact h.zer r (by omega) h2 h3
theorem gr_skip {M0 M : Mx} {k i row : Nat} (h : Gr M0 k M i row) (h0 : row = i ∨ M row i = 0) : Gr M0 k M i (row + 1) :=
  ⟨h.toGs, h.one, fun r h1 h2 h3 => by
    by_cases e : r = row
    · subst e; rcases h0 with h0 | h0
      · exact absurd h0 h3
      · exact h0
    · exact h.zer r (by omega) h2 h3⟩
theorem gr_end {M0 M : Mx} {k i : Nat} (h : Gr M0 k M i 4) (hi : i < 4) : Gs M0 k M (i + 1) :=
  ⟨h.el, h.sol, h.hom, fun j r hj hr => by
    by_cases e : j = i
    · subst e
      by_cases e2 : r = j
      · rw [if_pos e2, e2]; exact h.one
      · rw [if_neg e2]; exact h.zer r hr hr e2
    · exact h.unit j r (by omega) hr⟩
theorem gs_start {M : Mx} {k : Nat} (h : EM M) : Gs M k M 0 := ⟨h, fun _ _ => Iff.rfl, fun _ _ => Iff.rfl, fun j _ h => absurd h (by omega)⟩
def SolvR (M0 : Mx) (k : Nat) (b : Bool) (M : Mx) : Prop :=
  (b = true → EM M ∧ ∀ x, EX x → (Sol M0 k x ↔ ∀ j, j < k → x j = M j 4)) ∧ (b = false → (∀ x, EX x → ¬ Sol M0 k x) ∨ ∃ x, EX x ∧ Hom M0 k x ∧ ∃ j, j < k ∧ x j ≠ 0)
theorem gs_none {M0 M : Mx} {k i : Nat} (h : Gs M0 k M i) (hk : k ≤ 4) (hi : i < k) (h0 : ∀ r, i ≤ r → r < 4 → M r i = 0) : SolvR M0 k false M := by
  refine ⟨(fun h => by cases h), fun _ => .inr ⟨fun j => if j < i then M j i else if j = i then 1 else 0, fun j => ?_, ?_, i, hi, ?_⟩⟩
  · show (if j < i then M j i else if j = i then 1 else 0) < 64
    split
    · exact h.el j i (by omega) (by omega)
    · split <;> omega
  · refine (h.hom _ fun j => ?_).1 fun r hr => ?_
    · show (if j < i then M j i else if j = i then 1 else 0) < 64
      split
      · exact h.el j i (by omega) (by omega)
      · split <;> omega
    · unfold dot
      have e : ∀ j, j < k → gm (M r j) (if j < i then M j i else if j = i then 1 else 0) = (if j = r ∧ r < i then M r i else 0) ^^^ (if j = i then M r i else 0) := fun j hj => by
        by_cases e1 : j < i
        · rw [if_pos e1, h.unit j r e1 hr, if_neg (show ¬ j = i by omega), Nat.xor_zero]
          by_cases e2 : r = j
          · subst e2; rw [if_pos rfl, if_pos ⟨rfl, e1⟩, one_gm _ (h.el r i hr (by omega))]
          · rw [if_neg e2, gm_zl, if_neg (by omega)]
        · rw [if_neg e1]
          by_cases e2 : j = i
          · subst e2; rw [if_pos rfl, if_pos rfl, gm_one _ (h.el r j hr (by omega)), if_neg (by omega), Nat.zero_xor]
          · rw [if_neg e2, if_neg e2, gm_zr, if_neg (by omega)]; rfl
      rw [xs_congr e, xs_xor, xs_one (i := i) (f := fun j => if j = i then M r i else 0) hi (fun j _ hj => if_neg hj)]
      show _ ^^^ (if i = i then M r i else 0) = 0
      rw [if_pos rfl]
      by_cases e3 : r < i
      · rw [xs_one (i := r) (f := fun j => if j = r ∧ r < i then M r i else 0) (by omega) (fun j _ hj => if_neg (fun h => hj h.1))]
        show (if r = r ∧ r < i then M r i else 0) ^^^ _ = 0
        rw [if_pos ⟨rfl, e3⟩, Nat.xor_self]
      · rw [xs_zero fun j _ => if_neg (fun h => e3 h.2), h0 r (by omega) hr]; rfl
  · show (if i < i then M i i else if i = i then 1 else 0) ≠ 0
    rw [if_neg (by omega), if_pos rfl]; omega
theorem gs_dot {M0 M : Mx} {k : Nat} (h : Gs M0 k M k) (x : Nat → Nat) (hx : EX x) {r : Nat} (hr : r < 4) : dot M k r x = if r < k then x r else 0 := by
  unfold dot
  have e : ∀ j, j < k → gm (M r j) (x j) = if j = r then x r else 0 := fun j hj => by
    rw [h.unit j r hj hr]
    by_cases e : r = j
    · subst e; rw [if_pos rfl, if_pos rfl, one_gm _ (hx r)]
    · rw [if_neg e, gm_zl, if_neg (Ne.symm e)]
  rw [xs_congr e]
  by_cases e2 : r < k
  · rw [if_pos e2, xs_one (i := r) (f := fun j => if j = r then x r else 0) e2 (fun j _ hj => if_neg hj)]
    show (if r = r then x r else 0) = x r
    rw [if_pos rfl]
  · rw [if_neg e2]; exact xs_zero fun j hj => if_neg (by omega)
theorem gs_no {M0 M : Mx} {k row : Nat} (h : Gs M0 k M k) (hk : k ≤ row) (hr : row < 4) (h0 : M row 4 ≠ 0) : SolvR M0 k false M :=
  ⟨(fun h => by cases h), fun _ => .inl fun x hx hs => by
    have := (h.sol x hx).2 hs row hr
    rw [gs_dot h x hx hr, if_neg (by omega)] at this
    exact h0 this.symm⟩
theorem gs_yes {M0 M : Mx} {k : Nat} (h : Gs M0 k M k) (hk : k ≤ 4) (h0 : ∀ r, k ≤ r → r < 4 → M r 4 = 0) : SolvR M0 k true M :=
  ⟨fun _ => ⟨h.el, fun x hx => by
    rw [← h.sol x hx]
    constructor
    · intro hs j hj
      have := hs j (by omega)
      rw [gs_dot h x hx (by omega), if_pos hj] at this; exact this
    · intro hx2 r hr
      rw [gs_dot h x hx hr]
      by_cases e : r < k
      · rw [if_pos e]; exact hx2 r e
      · rw [if_neg e]; exact (h0 r (by omega) hr).symm⟩, (fun h => by cases h)⟩
/-! the equations in memory -/
def mc (M : Mx) : List Value := (List.range 20).map fun k => .int .u8 ((M (k / 5) (k % 5) : Nat) : Int)
def rowV (f : Nat → Nat) : List Value := (List.range 5).map fun c => .int .u8 ((f c : Nat) : Int)
theorem mc_len (M : Mx) : (mc M).length = 20 := by simp [mc]
theorem rowV_len (f : Nat → Nat) : (rowV f).length = 5 := by simp [rowV]
theorem rowV_one (f : Nat → Nat) : (rowV f).all (·.oneCell') = true := by simp [rowV, List.range_succ, Value.oneCell']
theorem mc_get (M : Mx) {k : Nat} (h : k < 20) : (mc M)[k]? = some (.int .u8 ((M (k / 5) (k % 5) : Nat) : Int)) := by unfold mc; rw [List.getElem?_map, List.getElem?_range h]; rfl
theorem mc_at (M : Mx) {r c : Nat} (hr : r < 4) (hc : c < 5) : (mc M)[r * 5 + c * 1]? = some (.int .u8 ((M r c : Nat) : Int)) := by
  rw [mc_get M (by omega), show (r * 5 + c * 1) / 5 = r by omega, show (r * 5 + c * 1) % 5 = c by omega]
theorem mc_ext {M M' : Mx} (h : ∀ r c, r < 4 → c < 5 → M r c = M' r c) : mc M = mc M' := by
  unfold mc
  refine List.map_congr_left fun k hk => ?_
  have := List.mem_range.1 hk
  rw [h _ _ (by omega) (by omega)]
theorem mc_set (M : Mx) {r c : Nat} (v : Nat) (hc : c < 5) : (mc M).set (r * 5 + c * 1) (.int .u8 (v : Int)) = mc (upd M r c v) := by
  apply List.ext_getElem?
  intro k
  rcases Nat.lt_or_ge k 20 with h | h
  · rw [List.getElem?_set, mc_len, mc_get _ h, mc_get _ h]
    unfold upd
    by_cases e : r * 5 + c * 1 = k
    · rw [if_pos e, if_pos (by omega), if_pos ⟨by omega, by omega⟩]
    · rw [if_neg e, if_neg (fun h2 => e (by omega))]
  · rw [List.getElem?_eq_none (by rw [List.length_set, mc_len]; exact h), List.getElem?_eq_none (by rw [mc_len]; exact h)]
theorem mc_zero : List.replicate 20 (Value.int .u8 0) = mc (fun _ _ => 0) := by
  apply List.ext_getElem?
  intro k
  rcases Nat.lt_or_ge k 20 with h | h
  · rw [mc_get _ h, List.getElem?_replicate_of_lt h]; rfl
  · rw [List.getElem?_eq_none (by simpa using h), List.getElem?_eq_none (by rw [mc_len]; exact h)]
theorem mc_row (M : Mx) {r : Nat} (hr : r < 4) : ((mc M).drop (r * 5)).take 5 = rowV (M r) := by
  apply List.ext_getElem?
  intro k
  rcases Nat.lt_or_ge k 5 with h | h
  · rw [List.getElem?_take_of_lt h, List.getElem?_drop, mc_get _ (by omega)]
    unfold rowV
    rw [List.getElem?_map, List.getElem?_range h, show (r * 5 + k) / 5 = r by omega, show (r * 5 + k) % 5 = k by omega]; rfl
  · rw [List.getElem?_eq_none (by rw [List.length_take]; omega), List.getElem?_eq_none (by rw [rowV_len]; exact h)]
theorem mc_put (M : Mx) {r : Nat} (f : Nat → Nat) (hr : r < 4) : (mc M).take (r * 5) ++ rowV f ++ (mc M).drop (r * 5 + 5) = mc (updR M r f) := by
  apply List.ext_getElem?
  intro k
  have h1 : ((mc M).take (r * 5)).length = r * 5 := by rw [List.length_take, mc_len]; omega
  rcases Nat.lt_or_ge k 20 with h | h
  · rw [mc_get _ h]
    unfold updR
    by_cases e1 : k < r * 5
    · rw [List.append_assoc, List.getElem?_append_left (by rw [h1]; exact e1), List.getElem?_take_of_lt e1, mc_get _ h, if_neg (by omega)]
    · by_cases e2 : k < r * 5 + 5
      · rw [List.getElem?_append_left (by rw [List.length_append, h1, rowV_len]; exact e2), List.getElem?_append_right (by rw [h1]; omega), h1]
        unfold rowV
        rw [List.getElem?_map, List.getElem?_range (by omega), if_pos (by omega), show k % 5 = k - r * 5 by omega]; rfl
      · rw [List.getElem?_append_right (by rw [List.length_append, h1, rowV_len]; omega), List.length_append, h1, rowV_len, List.getElem?_drop, show r * 5 + 5 + (k - (r * 5 + 5)) = k by omega, mc_get _ h, if_neg (by omega)]
  · rw [List.getElem?_eq_none (by rw [List.length_append, List.length_append, h1, rowV_len, List.length_drop, mc_len]; omega), List.getElem?_eq_none (by rw [mc_len]; exact h)]
section
variable {P : Program} {ops : Array Oper} {Q : Exit → Act → World → Prop} {n : Nat} {l : List Oper} {S : Slots} {w w' : World} {o : Oper} {d g : Nat}
theorem Ev.ldRow {T r : Nat} {t : TypeId} {D : TypeDesc} {x : Operand} {M : Mx} (ho : o.op = .load T x) (hx : ev S x = some (.pointer (some ((⟨g, 0, none⟩ : Addr).add (r * 5))))) (ht : P.underlying T = some D) (hD : aggD D = true) (hs : sizeP P T = some 5) (hb : Blk w g t (mc M)) (hr : r < 4) : Ev P n o S w (.agg (rowV (M r)).toArray) :=
  Ev.ldAgg ho hx ht hD hs (rowV_len _) fun j u hu => by
    rw [add_of_add]
    refine hb.cells _ u ?_
    rw [← mc_row M hr] at hu
    have hj : j < 5 := by
      have := (List.getElem?_eq_some_iff.1 hu).1
      rw [List.length_take] at this; omega
    rw [List.getElem?_take_of_lt hj, List.getElem?_drop] at hu; exact hu
theorem RG.stRow {T r : Nat} {t : TypeId} {x y : Operand} {M : Mx} (f : Nat → Nat) (hw : wantS ops S o = some true) (hd : o.dst = none) (ho : o.op = .store T x y) (hx : ev S x = some (.pointer (some ((⟨g, 0, none⟩ : Addr).add (r * 5))))) (hy : ev S y = some (.agg (rowV f).toArray))
    (hs : sizeP P T = some 5) (hb : Blk w g t (mc M)) (hr : r < 4)
    (kk : ∀ w', Wr w w' g → Blk w' g t (mc (updR M r f)) → RG P ops Q n l S w') : RG P ops Q n (o :: l) S w := by
  have hst := run_storeCells_at P g (r * 5) t (rowV f) 0 (mc M).toArray w hb (by rw [rowV_len, List.size_toArray, mc_len]; omega) (fun u hu => List.all_eq_true.1 (rowV_one f) u hu)
  simp only [Nat.add_zero, rowV_len] at hst
  rw [mc_put M f hr] at hst
  refine RG.run0 (w' := w.setRow g (mc (updR M r f)).toArray) hw hd (fun a ha => ?_) (kk _ (wr_setRow _ _ _) (blk_setRow hb))
  simp only [execOp, ho]; rw [ha.eval hx, ha.eval hy]
  rw [add_at]
  have hc : (Value.agg (rowV f).toArray).cells = (rowV f).toArray := rfl
  simp [Instr.storeAt, Instr.sureAddr, storeVar, run_sizeOf hs, hc, rowV_len, hst]
end
end Go.Proofs.YtgjnchjkjdnidaaGreat

/- Plain: the equations of what was added at some places; the places that are erased. -/
namespace Go.Proofs.YtgjnchjkjdnidaaGreat
open Go.RowKit
def eqM (n : Nat) (P sL : List Nat) : Mx := fun r c => if c = 4 then cf sL r else if c < P.length then pw ((r + 1) * (n - 1 - cf P c) % 63) else 0
def stO (n : Nat) (P sL : List Nat) (row : Nat) : Mx := fun r c => if r < row then eqM n P sL r c else 0
def stI (n : Nat) (P sL : List Nat) (row j : Nat) : Mx := fun r c => if r < row ∨ r = row ∧ c < j then eqM n P sL r c else 0
theorem stO_zero (n : Nat) (P sL : List Nat) : stO n P sL 0 = fun _ _ => 0 := by funext r c; unfold stO; rw [if_neg (by omega)]
theorem stO_end (n : Nat) (P sL : List Nat) : mc (stO n P sL 4) = mc (eqM n P sL) := mc_ext fun r c hr _ => by unfold stO; rw [if_pos hr]
theorem stI_zero (n : Nat) (P sL : List Nat) (row : Nat) : stI n P sL row 0 = stO n P sL row := by
  funext r c; unfold stI stO
  by_cases h : r < row
  · rw [if_pos (.inl h), if_pos h]
  · rw [if_neg (by omega), if_neg h]
theorem stI_more {n : Nat} {P sL : List Nat} {row j p : Nat} (hP : P.length ≤ 4) (hp : P[j]? = some p) : upd (stI n P sL row j) row j (pw ((row + 1) * (n - 1 - p) % 63)) = stI n P sL row (j + 1) := by
  have hj := (List.getElem?_eq_some_iff.1 hp).1
  have hc := cf_some hp
  funext r c
  unfold upd stI
  by_cases e : r = row ∧ c = j
  · rw [if_pos e, if_pos (by omega)]
    obtain ⟨rfl, rfl⟩ := e
    unfold eqM
    rw [if_neg (by omega), if_pos hj, hc]
  · rw [if_neg e]
    by_cases h : r < row ∨ r = row ∧ c < j
    · rw [if_pos h, if_pos (by omega)]
    · rw [if_neg h, if_neg (by omega)]
theorem stI_end {n : Nat} {P sL : List Nat} {row : Nat} : mc (upd (stI n P sL row P.length) row 4 (cf sL row)) = mc (stO n P sL (row + 1)) := mc_ext fun r c _ hc => by
  unfold upd stI stO
  by_cases e : r = row ∧ c = 4
  · rw [if_pos e, if_pos (by omega)]
    obtain ⟨rfl, rfl⟩ := e
    unfold eqM; rw [if_pos rfl]
  · rw [if_neg e]
    by_cases h : r < row ∨ r = row ∧ c < P.length
    · rw [if_pos h, if_pos (by omega)]
    · rw [if_neg h]
      by_cases h2 : r < row + 1
      · rw [if_pos h2]
        unfold eqM
        rw [if_neg (by omega), if_neg (by omega)]
      · rw [if_neg h2]
theorem pw64 (n : Nat) : pw (n % 63) < 64 := (pw_lt _ (Nat.mod_lt _ (by omega))).2
theorem eqM_el {n : Nat} {P sL : List Nat} (h : El sL) : EM (eqM n P sL) := fun r c _ _ => by
  unfold eqM; split
  · exact h.cf r
  · split
    · exact pw64 _
    · decide
def goneC (er : List Nat) : List Value := (List.range 63).map fun i => .bool (decide (i ∈ er))
theorem goneC_len (er : List Nat) : (goneC er).length = 63 := by simp [goneC]
theorem goneC_at (er : List Nat) {i : Nat} (h : i < 63) : (goneC er)[i]? = some (.bool (decide (i ∈ er))) := by unfold goneC; rw [List.getElem?_map, List.getElem?_range h]; rfl
theorem goneC_nil : List.replicate 63 (Value.bool false) = goneC [] := by
  apply List.ext_getElem?
  intro i
  rcases Nat.lt_or_ge i 63 with h | h
  · rw [goneC_at _ h, List.getElem?_replicate_of_lt h]; simp
  · rw [List.getElem?_eq_none (by simpa using h), List.getElem?_eq_none (by rw [goneC_len]; exact h)]
theorem goneC_set (er : List Nat) (p : Nat) : (goneC er).set (p * 1) (.bool true) = goneC (er ++ [p]) := by
  apply List.ext_getElem?
  intro i
  rcases Nat.lt_or_ge i 63 with h | h
  · rw [List.getElem?_set, goneC_len, goneC_at _ h, goneC_at _ h]
    by_cases e : p * 1 = i
    · rw [if_pos e, if_pos (by omega), decide_eq_true (show i ∈ er ++ [p] by simp; omega)]
    · rw [if_neg e]
      congr 2
      rw [decide_eq_decide]
      simp; omega
  · rw [List.getElem?_eq_none (by rw [List.length_set, goneC_len]; exact h), List.getElem?_eq_none (by rw [goneC_len]; exact h)]
end Go.Proofs.YtgjnchjkjdnidaaGreat

/- Walks (SA). Written by program. -/
namespace Go.Proofs.YtgjnchjkjdnidaaGreat
open Go.RowKit
set_option maxRecDepth 100000 in
set_option maxHeartbeats 1000000 in
theorem clone_ret (u : Value) (l : List Nat) (w : World) (hl : RdL w 1 encN u l) (hlen : l.length ≤ 100000) :
  Ret Tryz.prog 59 [u] w (fun v w' => Own w' w.heap.size 5 1 encN v l ∧ Ex w w') := by
 obtain ⟨uA, uC, rfl⟩ := hl.shape
 have hB0 : Ex w w := Ex.rfl_ _
 refine Ret.of Tryz.func59 rfl Tryz.ntmps59 rfl ?_
 refine CW.seq (CW.region ?_)
 refine RG.vl rfl rfl rfl (Ev.assign rfl rfl) ?_
 refine RG.done (QW.then_ (CW.seq (CW.seq (CW.region ?_))))
 refine RG.vl rfl rfl rfl (Ev.move rfl rfl) ?_
 refine RG.vl rfl rfl rfl (Ev.eqNil rfl rfl rfl Tryz.underlying58) ?_
 refine RG.done (QW.then_ ?_)
 refine CW.cond rfl (fun hc1 => ?_) (fun hc1 => ?_)
 ·refine CW.seq (CW.region ?_)
  refine RG.vl rfl rfl rfl (Ev.assign rfl rfl) ?_
  refine RG.done (QW.then_ (CW.ret (QW.thenRet ?_)))
  refine QW.ret1 rfl rfl ?_
  have hB := hB0
  obtain rfl : uA = none := Option.isNone_iff_eq_none.1 (by assumption)
  have hl0 := RdL.of_none hl
  subst hl0
  exact ⟨Own.nil_ _ _ _ _ _, hB⟩
 ·refine CW.skip (QW.then_ (CW.seq ?_))
  have hn0 : ([] : List Nat).length = 0 := rfl
  refine CW.region ?_
  refine RG.build0O (enc := encN) rfl rfl rfl rfl rfl Tryz.underlying58 sz_5 (fun v2 wk3 hxwk3 hown4 hnew5 => ?_)
  have hE6 := hxwk3
  refine RG.vl rfl rfl rfl (Ev.move rfl rfl) ?_
  refine RG.appO rfl rfl rfl rfl rfl rfl rfl Tryz.underlying58 inf_5 rfl rfl encN_len (fun _ => rfl) hown4 ((hl.ext hE6)) (by simp only [maxLen]; omega) (by omega) (hE6.size) (fun v7 wa8 hown9 hgr10 hat11 => ?_)
  replace hE6 := own_block hown4 hE6 hgr10 (Nat.le_refl _) hE6.size
  refine RG.vl rfl rfl rfl (Ev.assign rfl rfl) ?_
  refine RG.done (QW.then_ (CW.ret ?_))
  refine QW.ret1 rfl rfl ?_
  have hB := (Ex.tr hB0 hE6)
  exact ⟨(show Own _ _ _ _ _ _ l from hown9).low (by have := hB0.size; omega), hB⟩

set_option maxRecDepth 100000 in
set_option maxHeartbeats 1000000 in
theorem cloneI_ret (u : Value) (l : List Nat) (w : World) (hl : RdL w 1 encZ u l) (hlen : l.length ≤ 100000) :
  Ret Tryz.prog 111 [u] w (fun v w' => Own w' w.heap.size 3 1 encZ v l ∧ Ex w w') := by
 obtain ⟨uA, uC, rfl⟩ := hl.shape
 have hB0 : Ex w w := Ex.rfl_ _
 refine Ret.of Tryz.func111 rfl Tryz.ntmps111 rfl ?_
 refine CW.seq (CW.region ?_)
 refine RG.vl rfl rfl rfl (Ev.assign rfl rfl) ?_
 refine RG.done (QW.then_ (CW.seq (CW.seq (CW.region ?_))))
 refine RG.vl rfl rfl rfl (Ev.move rfl rfl) ?_
 refine RG.vl rfl rfl rfl (Ev.eqNil rfl rfl rfl Tryz.underlying29) ?_
 refine RG.done (QW.then_ ?_)
 refine CW.cond rfl (fun hc1 => ?_) (fun hc1 => ?_)
 ·refine CW.seq (CW.region ?_)
  refine RG.vl rfl rfl rfl (Ev.assign rfl rfl) ?_
  refine RG.done (QW.then_ (CW.ret (QW.thenRet ?_)))
  refine QW.ret1 rfl rfl ?_
  have hB := hB0
  obtain rfl : uA = none := Option.isNone_iff_eq_none.1 (by assumption)
  have hl0 := RdL.of_none hl
  subst hl0
  exact ⟨Own.nil_ _ _ _ _ _, hB⟩
 ·refine CW.skip (QW.then_ (CW.seq ?_))
  have hn0 : ([] : List Nat).length = 0 := rfl
  refine CW.region ?_
  refine RG.build0O (enc := encZ) rfl rfl rfl rfl rfl Tryz.underlying29 sz_3 (fun v2 wk3 hxwk3 hown4 hnew5 => ?_)
  have hE6 := hxwk3
  refine RG.vl rfl rfl rfl (Ev.move rfl rfl) ?_
  refine RG.appO rfl rfl rfl rfl rfl rfl rfl Tryz.underlying29 inf_3 rfl rfl encZ_len (fun _ => rfl) hown4 ((hl.ext hE6)) (by simp only [maxLen]; omega) (by omega) (hE6.size) (fun v7 wa8 hown9 hgr10 hat11 => ?_)
  replace hE6 := own_block hown4 hE6 hgr10 (Nat.le_refl _) hE6.size
  refine RG.vl rfl rfl rfl (Ev.assign rfl rfl) ?_
  refine RG.done (QW.then_ (CW.ret ?_))
  refine QW.ret1 rfl rfl ?_
  have hB := (Ex.tr hB0 hE6)
  exact ⟨(show Own _ _ _ _ _ _ l from hown9).low (by have := hB0.size; omega), hB⟩

set_option maxRecDepth 100000 in
set_option maxHeartbeats 1000000 in
theorem reverse_ret (w0 : World) (x : Value) (l : List Nat) (w : World) (hx0 : Ex w0 w) (hown : Own w w0.heap.size 5 1 encN x l) (hlen : l.length ≤ 100000) :
  Ret Tryz.prog 104 [x] w (fun v w' => v = .tuple #[] ∧ Own w' w0.heap.size 5 1 encN x l.reverse ∧ Ex w0 w') := by
 have hB0 : Ex w w := Ex.rfl_ _
 refine Ret.of Tryz.func104 rfl Tryz.ntmps104 rfl ?_
 refine CW.seq (CW.region ?_)
 refine RG.vl rfl rfl rfl (Ev.move rfl rfl) ?_
 refine RG.vl rfl rfl rfl (Ev.lenL rfl rfl rfl Tryz.underlying58 ((hown.rdl encN_len))) ?_
 refine RG.vl rfl rfl rfl (Ev.subI rfl rfl rfl (by omega)) ?_
 refine RG.vl rfl rfl rfl (Ev.assign rfl rfl) ?_
 refine RG.vl rfl rfl rfl (Ev.assign rfl rfl) ?_
 refine RG.done (QW.then_ (CW.block ?_))
 refine CW.loop1 [(0, _)] ⟨rfl, trivial⟩ (fun (i : Nat) => [(2, .int .i64 (i : Int)), (3, .int .i64 ((l.length : Int) - 1 - (i : Int)))]) (fun i w' => (2 * i ≤ l.length + 1 ∧ Own w' w0.heap.size 5 1 encN x (rvS l i)) ∧ Ex w0 w') (fun i => l.length - i) (0) ⟨rfl, congrArg (fun x => some (Value.int .i64 x)) (by omega), trivial⟩ ⟨⟨by omega, by rw [rvS_zero]; exact hown⟩, hx0⟩ ?_
 rintro i wl1 ⟨⟨hi, hoL⟩, hxwl1⟩
 refine CW.sub (S' := [(2, _), (3, _), (0, _)]) ⟨rfl, rfl, rfl, trivial⟩ ?_
 refine CW.seq (CW.seq (CW.region ?_))
 refine RG.vl rfl rfl rfl (Ev.move rfl rfl) ?_
 refine RG.vl rfl rfl rfl (Ev.move rfl rfl) ?_
 refine RG.vl rfl rfl rfl (Ev.lss rfl rfl rfl) ?_
 refine RG.done (QW.then_ ?_)
 refine CW.condP rfl (fun hc2 => ?_) (fun hc2 => ?_)
 ·refine CW.skip (QW.then_ (CW.seq (CW.block ?_)))
  obtain ⟨j, hj⟩ : ∃ j, j = l.length - 1 - i := ⟨_, rfl⟩
  have hji : 2 * i + 1 < l.length := by omega
  have ha1 : (rvS l i)[i]? = some (cf l i) := by rw [rvS_at (by omega), if_neg (by omega)]
  have ha2 : (rvS l i)[j]? = some (cf l j) := by rw [rvS_at (by omega), if_neg (by omega)]
  have hcj : ((l.length : Int) - 1 - (i : Int)) = (j : Int) := by omega
  rw [hcj]
  have hrl := rvS_len l i
  have ha3 : ((rvS l i).set i (cf l j))[j]? = some (cf l j) := by rw [List.getElem?_set_ne (by omega)]; exact ha2
  refine CW.draw [13, 15] (.ex) 16 rfl mixed (fun wd3 hxwd3 => ?_)
  replace hxwl1 := Ex.tr hxwl1 hxwd3
  have hE4 := hxwd3
  refine AG.takeW 0 rfl (by kernel_rfl) (by kernel_rfl) rfl rfl rfl (fun _ => Ev.move rfl rfl) ?_
  refine AG.takeW 1 rfl (by kernel_rfl) (by kernel_rfl) rfl rfl rfl (fun _ => Ev.move rfl rfl) ?_
  refine AG.takeW 2 rfl (by kernel_rfl) (by kernel_rfl) rfl rfl rfl (fun _ => Ev.move rfl rfl) ?_
  refine AG.takeW 3 rfl (by kernel_rfl) (by kernel_rfl) rfl rfl rfl (fun _ => Ev.move rfl rfl) ?_
  refine AG.takeW 4 rfl (by kernel_rfl) (by kernel_rfl) rfl rfl rfl (fun _ => Ev.move rfl rfl) ?_
  refine AG.takeW 5 rfl (by kernel_rfl) (by kernel_rfl) rfl rfl rfl (fun _ => Ev.move rfl rfl) ?_
  refine AG.idxO _ 6 rfl (by kernel_rfl) (by kernel_rfl) rfl rfl rfl rfl rfl rfl Tryz.underlying58 sz_5 encN_len ((Own.ext hoL hE4)) (ha2) (fun g6 hg6 hBg6 hp5b hp5 => ?_)
  refine AG.take 7 rfl (by kernel_rfl) (by kernel_rfl) rfl rfl rfl (fun wq hq => Ev.ld0 rfl rfl Tryz.underlying5 rfl (hp5.ext hq hp5b) (rfl)) ?_
  refine AG.takeW 8 rfl (by kernel_rfl) (by kernel_rfl) rfl rfl rfl (fun _ => Ev.move rfl rfl) ?_
  refine AG.takeW 9 rfl (by kernel_rfl) (by kernel_rfl) rfl rfl rfl (fun _ => Ev.move rfl rfl) ?_
  refine AG.idxO _ 10 rfl (by kernel_rfl) (by kernel_rfl) rfl rfl rfl rfl rfl rfl Tryz.underlying58 sz_5 encN_len ((Own.ext hoL hE4)) (ha1) (fun g8 hg8 hBg8 hp7b hp7 => ?_)
  refine AG.take 11 rfl (by kernel_rfl) (by kernel_rfl) rfl rfl rfl (fun wq hq => Ev.ld0 rfl rfl Tryz.underlying5 rfl (hp7.ext hq hp7b) (rfl)) ?_
  refine AG.idxO _ 12 rfl (by kernel_rfl) (by kernel_rfl) rfl rfl rfl rfl rfl rfl Tryz.underlying58 sz_5 encN_len ((Own.ext hoL hE4)) (ha1) (fun g10 hg10 hBg10 hp9b hp9 => ?_)
  refine AG.only 13 rfl (by kernel_rfl) ?_
  refine RG.stOw0 (g := g10) (cf l j) rfl rfl rfl rfl rfl sz_5 rfl (fun _ => rfl) (Own.ext hoL hE4) hg10 (ha1) rfl (rfl) (fun ws12 hwws12 hown13 => ?_)
  replace hxwl1 := Wr.below hxwl1 hwws12 hBg10
  refine RG.done ?_
  refine QW.an (fun h => by simp at h) ?_
  refine AG.idxO _ 14 rfl (by kernel_rfl) (by kernel_rfl) rfl rfl rfl rfl rfl rfl Tryz.underlying58 sz_5 encN_len (hown13) (ha3) (fun g15 hg15 hBg15 hp14b hp14 => ?_)
  refine AG.only 15 rfl (by kernel_rfl) ?_
  refine RG.stOw0 (g := g15) (cf l i) rfl rfl rfl rfl rfl sz_5 rfl (fun _ => rfl) hown13 hg15 (ha3) rfl (rfl) (fun ws17 hwws17 hown18 => ?_)
  replace hxwl1 := Wr.below hxwl1 hwws17 hBg15
  refine RG.done ?_
  refine QW.an (fun h => by simp at h) ?_
  refine AG.done (by kernel_rfl) ?_
  refine QW.sub (S' := [(0, _), (2, _), (3, _)]) ⟨rfl, rfl, rfl, trivial⟩ ?_
  refine QW.blockN (QW.then_ (CW.region ?_))
  refine RG.vl rfl rfl rfl (Ev.move rfl rfl) ?_
  refine RG.vl rfl rfl rfl (Ev.addI rfl rfl rfl (by omega)) ?_
  refine RG.vl rfl rfl rfl (Ev.move rfl rfl) ?_
  refine RG.vl rfl rfl rfl (Ev.subI rfl rfl rfl (by omega)) ?_
  refine RG.vl rfl rfl rfl (Ev.assign rfl rfl) ?_
  refine RG.vl rfl rfl rfl (Ev.assign rfl rfl) ?_
  refine RG.done ?_
  refine QW.round1 (i + 1) ⟨rfl, congrArg (fun x => some (Value.int .i64 x)) (by omega), trivial⟩ ⟨rfl, trivial⟩ ⟨⟨by omega, by rw [← rvS_step hji, ← hj]; exact hown18⟩, hxwl1⟩ (by omega)
 ·refine CW.exit (QW.thenExit (QW.thenExit (QW.blockHit ?_)))
  refine QW.end0 rfl ?_
  rw [rvS_end (by omega)] at hoL
  exact ⟨rfl, hoL, hxwl1⟩

set_option maxRecDepth 100000 in
set_option maxHeartbeats 1000000 in
theorem areE1_ret (a : Nat) (w : World)  :
  Ret Tryz.prog 97 [.int .u8 (a : Int)] w (fun v w' => v = .bool (decide ((64 : Int) ≤ (a : Int))) ∧ Ex w w') := by
 have hB0 : Ex w w := Ex.rfl_ _
 refine Ret.of Tryz.func97 rfl Tryz.ntmps97 rfl ?_
 refine CW.seq (CW.region ?_)
 refine RG.vl rfl rfl rfl (Ev.assign rfl rfl) ?_
 refine RG.done (QW.then_ (CW.seq (CW.region ?_)))
 refine RG.vl rfl rfl rfl (Ev.move rfl rfl) ?_
 refine RG.vl rfl rfl rfl (Ev.geq rfl rfl rfl) ?_
 refine RG.vl rfl rfl rfl (Ev.assign rfl rfl) ?_
 refine RG.done (QW.then_ (CW.ret ?_))
 refine QW.ret1 rfl rfl ?_
 have hB := hB0
 exact ⟨rfl, hB⟩

set_option maxRecDepth 100000 in
set_option maxHeartbeats 1000000 in
theorem indexF_ret (u : Value) (l : List Nat) (w : World) (hl : RdL w 1 encN u l) (hlen : l.length ≤ 100000) :
  Ret Tryz.prog 122 [u, .func (.func 97) #[] #[]] w (fun v w' => ∃ k : Int, v = .int .i64 k ∧ (0 ≤ k ↔ areE l = false) ∧ Ex w w') := by
 have hB0 : Ex w w := Ex.rfl_ _
 refine Ret.of Tryz.func122 rfl Tryz.ntmps122 rfl ?_
 refine CW.seq (CW.region ?_)
 refine RG.vl rfl rfl rfl (Ev.assign rfl rfl) ?_
 refine RG.done (QW.then_ (CW.seq (CW.seq (CW.region ?_))))
 refine RG.vl rfl rfl rfl (Ev.move rfl rfl) ?_
 refine RG.vl rfl rfl rfl (Ev.lenL rfl rfl rfl Tryz.underlying58 (hl)) ?_
 refine RG.vl rfl rfl rfl (Ev.move rfl rfl) ?_
 refine RG.done (QW.then_ (CW.block ?_))
 refine CW.loop1 [(0, _), (1, _), (7, _)] ⟨rfl, rfl, rfl, trivial⟩ (fun (i : Nat) => [(8, .int .i64 i)]) (fun i w' => (i ≤ l.length ∧ ∀ j a, j < i → l[j]? = some a → a < 64) ∧ Ex w w') (fun i => l.length - i) (0) ⟨rfl, trivial⟩ ⟨⟨Nat.zero_le _, fun j a h => absurd h (by omega)⟩, hB0⟩ ?_
 rintro i wl1 ⟨⟨hi, hall⟩, hxwl1⟩
 refine CW.sub (S' := [(8, _), (0, _), (1, _), (7, _)]) ⟨rfl, rfl, rfl, rfl, trivial⟩ ?_
 refine CW.seq (CW.region ?_)
 refine RG.vl rfl rfl rfl (Ev.lss rfl rfl rfl) ?_
 refine RG.done (QW.then_ (CW.seq ?_))
 refine CW.condP rfl (fun hc2 => ?_) (fun hc2 => ?_)
 ·refine CW.skip (QW.then_ (CW.seq (CW.block (CW.seq (CW.region ?_)))))
  refine RG.vl rfl rfl rfl (Ev.move rfl rfl) ?_
  refine RG.vl rfl rfl rfl (Ev.assign rfl rfl) ?_
  refine RG.done (QW.then_ (CW.seq ?_))
  obtain ⟨x, hx⟩ : ∃ x, l[i]? = some x := ⟨_, List.getElem?_eq_getElem (by omega)⟩
  refine CW.region ?_
  refine RG.vl rfl rfl rfl (Ev.move rfl rfl) ?_
  refine RG.vl rfl rfl rfl (Ev.move rfl rfl) ?_
  refine RG.vl rfl rfl rfl (Ev.move rfl rfl) ?_
  refine RG.idxL rfl rfl rfl rfl rfl rfl Tryz.underlying58 sz_5 ((hl.ext hxwl1)) (hx) (fun p3 hp3b hp3 => ?_)
  refine RG.vl rfl rfl rfl (Ev.ld0 rfl rfl Tryz.underlying5 rfl (hp3) (rfl)) ?_
  refine RG.call rfl rfl rfl rfl rfl rfl rfl en_97 (areE1_ret _ _) ?_
  rintro _ w4 ⟨rfl, hx4⟩
  replace hxwl1 := Ex.tr hxwl1 hx4
  have hE5 := hx4
  refine RG.done (QW.then_ ?_)
  refine CW.condP rfl (fun hc6 => ?_) (fun hc6 => ?_)
  ·refine CW.seq (CW.region ?_)
   refine RG.vl rfl rfl rfl (Ev.move rfl rfl) ?_
   refine RG.vl rfl rfl rfl (Ev.assign rfl rfl) ?_
   refine RG.done (QW.then_ (CW.ret (QW.blockR (QW.thenRet (QW.thenRet (QW.blockR ?_))))))
   refine QW.thenRet ?_
   refine QW.ret1 rfl rfl ?_
   have hB := (Ex.tr hB0 hxwl1)
   exact ⟨_, rfl, ⟨fun _ => areE_no hx (by omega), fun _ => by omega⟩, hB⟩
  ·refine CW.skip (QW.blockN (QW.then_ (CW.region ?_)))
   refine RG.vl rfl rfl rfl (Ev.addI rfl rfl rfl (by omega)) ?_
   refine RG.vl rfl rfl rfl (Ev.move rfl rfl) ?_
   refine RG.done ?_
   refine QW.round1 (i + 1) ⟨rfl, trivial⟩ ⟨rfl, rfl, rfl, trivial⟩ ⟨⟨by omega, fun j a hj hja => by rcases Nat.lt_or_ge j i with h | h; exact hall j a h hja; obtain rfl : j = i := (by omega); rw [hx] at hja; injection hja with hja; omega⟩, (Ex.tr hB0 hxwl1)⟩ (by omega)
 ·refine CW.exit (QW.thenExit (QW.thenExit (QW.blockHit (QW.then_ (CW.seq (CW.region ?_))))))
  refine RG.vl rfl rfl rfl (Ev.assign rfl rfl) ?_
  refine RG.done (QW.then_ (CW.ret ?_))
  refine QW.ret1 rfl rfl ?_
  have hB := (Ex.tr hB0 hxwl1)
  have hy := areE_yes (l := l) (fun j a hj => hall j a (by omega))
  exact ⟨_, rfl, ⟨fun h => absurd h (by decide), fun h => by rw [hy] at h; cases h⟩, hB⟩

set_option maxRecDepth 100000 in
set_option maxHeartbeats 1000000 in
theorem containsF_ret (u : Value) (l : List Nat) (w : World) (hl : RdL w 1 encN u l) (hlen : l.length ≤ 100000) :
  Ret Tryz.prog 96 [u, .func (.func 97) #[] #[]] w (fun v w' => v = .bool (!areE l) ∧ Ex w w') := by
 have hB0 : Ex w w := Ex.rfl_ _
 refine Ret.of Tryz.func96 rfl Tryz.ntmps96 rfl ?_
 refine CW.seq (CW.region ?_)
 refine RG.vl rfl rfl rfl (Ev.assign rfl rfl) ?_
 refine RG.done (QW.then_ (CW.seq (CW.region ?_)))
 refine RG.vl rfl rfl rfl (Ev.move rfl rfl) ?_
 refine RG.vl rfl rfl rfl (Ev.move rfl rfl) ?_
 refine RG.call rfl rfl rfl rfl rfl rfl rfl en_122 (indexF_ret _ l _ (hl) hlen) ?_
 rintro _ w1 ⟨k, rfl, hk, hx1⟩
 have hE2 := hx1
 refine RG.vl rfl rfl rfl (Ev.geq rfl rfl rfl) ?_
 refine RG.vl rfl rfl rfl (Ev.assign rfl rfl) ?_
 refine RG.done (QW.then_ (CW.ret ?_))
 refine QW.ret1 rfl rfl ?_
 have hB := (Ex.tr hB0 hE2)
 refine ⟨congrArg Value.bool ?_, hB⟩
 cases h : areE l with
 | true => exact decide_eq_false fun h2 => by have := hk.1 h2; rw [h] at this; cases this
 | false => exact decide_eq_true (hk.2 h)

set_option maxRecDepth 100000 in
set_option maxHeartbeats 1000000 in
theorem areE_ret (u : Value) (l : List Nat) (w : World) (hl : RdL w 1 encN u l) (hlen : l.length ≤ 100000) :
  Ret Tryz.prog 58 [u] w (fun v w' => v = .bool (areE l) ∧ Ex w w') := by
 have hB0 : Ex w w := Ex.rfl_ _
 refine Ret.of Tryz.func58 rfl Tryz.ntmps58 rfl ?_
 refine CW.seq (CW.region ?_)
 refine RG.vl rfl rfl rfl (Ev.assign rfl rfl) ?_
 refine RG.done (QW.then_ (CW.seq (CW.region ?_)))
 refine RG.vl rfl rfl rfl (Ev.move rfl rfl) ?_
 refine RG.call rfl rfl rfl rfl rfl rfl rfl en_96 (containsF_ret _ _ _ (hl) (by omega)) ?_
 rintro _ w1 ⟨rfl, hx1⟩
 have hE2 := hx1
 refine RG.vl rfl rfl rfl (Ev.not rfl rfl) ?_
 refine RG.vl rfl rfl rfl (Ev.assign rfl rfl) ?_
 refine RG.done (QW.then_ (CW.ret ?_))
 refine QW.ret1 rfl rfl ?_
 have hB := (Ex.tr hB0 hE2)
 exact ⟨congrArg Value.bool (by cases areE l <;> rfl), hB⟩

set_option maxRecDepth 100000 in
set_option maxHeartbeats 1000000 in
theorem isW_ret (u : Value) (l : List Nat) (w : World) (hl : RdL w 1 encN u l) (hlen : l.length ≤ 100000) :
  Ret Tryz.prog 66 [u] w (fun v w' => v = .bool (isW l) ∧ Ex w w') := by
 have hB0 : Ex w w := Ex.rfl_ _
 refine Ret.of Tryz.func66 rfl Tryz.ntmps66 rfl ?_
 refine CW.seq (CW.region ?_)
 refine RG.vl rfl rfl rfl (Ev.assign rfl rfl) ?_
 refine RG.done (QW.then_ (CW.seq (CW.region ?_)))
 refine RG.vl rfl rfl rfl (Ev.move rfl rfl) ?_
 refine RG.vl rfl rfl rfl (Ev.lenL rfl rfl rfl Tryz.underlying58 (hl)) ?_
 refine RG.vl rfl rfl rfl (Ev.gtr rfl rfl rfl) ?_
 refine RG.vl rfl rfl rfl (Ev.move rfl rfl) ?_
 refine RG.split (d := 6) rfl (fun hg1 => ?_) (fun hg1 => ?_)
 ·refine RG.vl rfl rfl rfl (Ev.move rfl rfl) ?_
  refine RG.vl rfl rfl rfl (Ev.lenL rfl rfl rfl Tryz.underlying58 (hl)) ?_
  refine RG.vl rfl rfl rfl (Ev.leq rfl rfl rfl) ?_
  refine RG.vl rfl rfl rfl (Ev.pickT rfl rfl rfl) ?_
  refine RG.vl rfl rfl rfl (Ev.move rfl rfl) ?_
  refine RG.split (d := 11) rfl (fun hg2 => ?_) (fun hg2 => ?_)
  ·refine RG.vl rfl rfl rfl (Ev.move rfl rfl) ?_
   refine RG.call rfl rfl rfl rfl rfl rfl rfl en_58 (areE_ret _ _ _ (hl) (by omega)) ?_
   rintro _ w3 ⟨rfl, hx3⟩
   have hE4 := hx3
   refine RG.vl rfl rfl rfl (Ev.pickT rfl rfl rfl) ?_
   refine RG.vl rfl rfl rfl (Ev.assign rfl rfl) ?_
   refine RG.done ?_
   refine QW.sub (S' := [(2, _)]) ⟨rfl, trivial⟩ ?_
   refine QW.then_ (CW.ret ?_)
   refine QW.ret1 rfl rfl ?_
   have hB := (Ex.tr hB0 hE4)
   refine ⟨congrArg Value.bool ?_, hB⟩
   unfold isW
   first | (rw [decide_eq_true (show 4 < l.length by omega), decide_eq_true (show l.length ≤ 63 by omega)]; rfl) | (rw [decide_eq_false (show ¬ 4 < l.length by omega)]; rfl) | (rw [decide_eq_false (show ¬ l.length ≤ 63 by omega), Bool.and_false]; rfl)
  ·refine RG.pass rfl rfl rfl ?_
   refine RG.pass rfl rfl rfl ?_
   refine RG.vl rfl rfl rfl (Ev.pickF rfl rfl rfl) ?_
   refine RG.vl rfl rfl rfl (Ev.assign rfl rfl) ?_
   refine RG.done ?_
   refine QW.sub (S' := [(2, _)]) ⟨rfl, trivial⟩ ?_
   refine QW.then_ (CW.ret ?_)
   refine QW.ret1 rfl rfl ?_
   have hB := hB0
   refine ⟨congrArg Value.bool ?_, hB⟩
   unfold isW
   first | (rw [decide_eq_true (show 4 < l.length by omega), decide_eq_true (show l.length ≤ 63 by omega)]; rfl) | (rw [decide_eq_false (show ¬ 4 < l.length by omega)]; rfl) | (rw [decide_eq_false (show ¬ l.length ≤ 63 by omega), Bool.and_false]; rfl)
 ·refine RG.pass rfl rfl rfl ?_
  refine RG.pass rfl rfl rfl ?_
  refine RG.pass rfl rfl rfl ?_
  refine RG.vl rfl rfl rfl (Ev.pickF rfl rfl rfl) ?_
  refine RG.vl rfl rfl rfl (Ev.move rfl rfl) ?_
  refine RG.pass rfl rfl rfl ?_
  refine RG.pass rfl rfl rfl ?_
  refine RG.vl rfl rfl rfl (Ev.pickF rfl rfl rfl) ?_
  refine RG.vl rfl rfl rfl (Ev.assign rfl rfl) ?_
  refine RG.done ?_
  refine QW.sub (S' := [(2, _)]) ⟨rfl, trivial⟩ ?_
  refine QW.then_ (CW.ret ?_)
  refine QW.ret1 rfl rfl ?_
  have hB := hB0
  refine ⟨congrArg Value.bool ?_, hB⟩
  unfold isW
  first | (rw [decide_eq_true (show 4 < l.length by omega), decide_eq_true (show l.length ≤ 63 by omega)]; rfl) | (rw [decide_eq_false (show ¬ 4 < l.length by omega)]; rfl) | (rw [decide_eq_false (show ¬ l.length ≤ 63 by omega), Bool.and_false]; rfl)

set_option maxRecDepth 100000 in
set_option maxHeartbeats 1000000 in
theorem poly_ret (u : Value) (l : List Nat) (w : World) (hl : RdL w 1 encN u l) (hlen : l.length ≤ 100000) :
  Ret Tryz.prog 61 [u] w (fun v w' => Own w' w.heap.size 5 1 encN v l.reverse ∧ Ex w w') := by
 have hB0 : Ex w w := Ex.rfl_ _
 refine Ret.of Tryz.func61 rfl Tryz.ntmps61 rfl ?_
 refine CW.seq (CW.region ?_)
 refine RG.vl rfl rfl rfl (Ev.assign rfl rfl) ?_
 refine RG.done (QW.then_ (CW.seq (CW.region ?_)))
 refine RG.vl rfl rfl rfl (Ev.move rfl rfl) ?_
 refine RG.call rfl rfl rfl rfl rfl rfl rfl en_59 (clone_ret _ _ _ (hl) (by omega)) ?_
 have hpre1 := hB0
 rintro vcl1 w1 ⟨hcl1, hx1⟩
 have hE2 := hx1
 refine RG.vl rfl rfl rfl (Ev.assign rfl rfl) ?_
 refine RG.done (QW.then_ (CW.seq (CW.region ?_)))
 refine RG.vl rfl rfl rfl (Ev.move rfl rfl) ?_
 refine RG.call rfl rfl rfl rfl rfl rfl rfl en_104 (reverse_ret w _ _ _ (Ex.tr hB0 hE2) hcl1 (by omega)) ?_
 rintro _ w3 ⟨rfl, hown4, hxo5⟩
 replace hE2 := hxo5
 refine RG.done (QW.then_ (CW.seq (CW.region ?_)))
 refine RG.vl rfl rfl rfl (Ev.move rfl rfl) ?_
 refine RG.vl rfl rfl rfl (Ev.assign rfl rfl) ?_
 refine RG.done (QW.then_ (CW.ret ?_))
 refine QW.ret1 rfl rfl ?_
 have hB := (Ex.tr hB0 hE2)
 exact ⟨hown4, hB⟩

set_option maxRecDepth 100000 in
set_option maxHeartbeats 1000000 in
theorem syn_ret (u : Value) (l : List Nat) (w : World) (hl : RdL w 1 encN u l) (hel : El l) (hlen : l.length ≤ 63) :
  Ret Tryz.prog 67 [u] w (fun v w' => v = .agg (encs4 (syL l)).toArray ∧ Ex w w') := by
 have hB0 : Ex w w := Ex.rfl_ _
 refine Ret.of Tryz.func67 rfl Tryz.ntmps67 rfl ?_
 refine CW.seq (CW.region ?_)
 refine RG.alloc_ rfl rfl rfl rfl inf_128 (fun gR w1 egR hx1 hb1 => ?_)
 have hle2 : w.heap.size ≤ gR := by have := (Ex.rfl_ w).size; omega
 have hE3 := hx1
 refine RG.done (QW.then_ (CW.seq (CW.region ?_)))
 refine RG.alloc_ rfl rfl rfl rfl inf_128 (fun gS w4 egS hx4 hb4 => ?_)
 have hle5 : w.heap.size ≤ gS := by have := hE3.size; omega
 have hle6 : w1.heap.size ≤ gS := by have := (Ex.rfl_ w1).size; omega
 have hlt7 : gR < gS := by have := Blk.lt hb1; omega
 replace hE3 := Ex.tr hE3 hx4
 have hE8 := hx4
 refine RG.done (QW.then_ (CW.seq (CW.region ?_)))
 refine RG.vl rfl rfl rfl (Ev.move rfl rfl) ?_
 refine RG.call rfl rfl rfl rfl rfl rfl rfl en_61 (poly_ret _ _ _ ((hl.ext hE3)) (by omega)) ?_
 have hpre9 := (Ex.tr hB0 hE3)
 rintro vp w9 ⟨hpo, hx9⟩
 have hsb10 := fun e => sep_blk (hb1.ext hE8) (Nat.le_refl _) hpo e
 have hsb11 := fun e => sep_blk hb4 (Nat.le_refl _) hpo e
 replace hpo := Own.low (B' := w.heap.size) hpo (by have := (Ex.tr hB0 hE3).size; omega)
 replace hE3 := Ex.tr hE3 hx9
 replace hE8 := Ex.tr hE8 hx9
 have hE12 := hx9
 refine RG.vl rfl rfl rfl (Ev.assign rfl rfl) ?_
 refine RG.done (QW.then_ (CW.seq (CW.seq (CW.region ?_))))
 refine RG.vl rfl rfl rfl (Ev.move rfl rfl) ?_
 refine RG.done (QW.then_ (CW.block ?_))
 refine CW.loop1 [(2, _), (3, _), (4, _)] ⟨rfl, rfl, rfl, trivial⟩ (fun (i : Nat) => [(8, .int .i64 i)]) (fun i w' => (i ≤ 4 ∧ Blk w' gS 128 (syC l i) ∧ Own w' w.heap.size 5 1 encN vp l.reverse ∧ Blk w' gR 128 (List.replicate 4 (.int .u8 0))) ∧ Ex w w') (fun i => 4 - i) (0) ⟨rfl, trivial⟩ ⟨⟨by omega, by rw [← syC_zero]; exact (hb4.ext hE12), hpo, (hb1.ext hE8)⟩, (Ex.tr hB0 hE3)⟩ ?_
 rintro i wl13 ⟨⟨hi, hbS, hpo, hbR⟩, hxwl13⟩
 refine CW.sub (S' := [(8, _), (2, _), (3, _), (4, _)]) ⟨rfl, rfl, rfl, rfl, trivial⟩ ?_
 refine CW.seq (CW.region ?_)
 refine RG.vl rfl rfl rfl (Ev.lss rfl rfl rfl) ?_
 refine RG.done (QW.then_ (CW.seq ?_))
 refine CW.condP rfl (fun hc14 => ?_) (fun hc14 => ?_)
 ·refine CW.skip (QW.then_ (CW.seq (CW.block (CW.seq (CW.region ?_)))))
  refine RG.vl rfl rfl rfl (Ev.move rfl rfl) ?_
  refine RG.vl rfl rfl rfl (Ev.assign rfl rfl) ?_
  refine RG.done (QW.then_ ?_)
  obtain ⟨hp1, hp2⟩ := two_shl i (by omega)
  have hrl : l.reverse.length = l.length := List.length_reverse
  refine CW.region ?_
  refine RG.vl rfl rfl rfl (Ev.move rfl rfl) ?_
  refine RG.vl rfl rfl rfl (Ev.move rfl rfl) ?_
  refine RG.vl rfl rfl rfl (Ev.move rfl rfl) ?_
  refine RG.vl rfl rfl rfl ((Ev.shl8 (p := 2) rfl rfl rfl (by omega) (by omega)).conv (congrArg (fun n : Nat => Value.int .u8 (n : Int)) hp1)) ?_
  refine RG.call rfl rfl rfl rfl rfl rfl rfl en_109 (Eval_el _ _ _ (pw (i + 1)) ((hpo.rdl encN_len)) (by omega) hel.rev (by omega)) ?_
  rintro _ w15 ⟨rfl, hx15⟩
  replace hxwl13 := Ex.tr hxwl13 hx15
  have hE16 := hx15
  refine RG.vl rfl rfl rfl (Ev.move rfl rfl) ?_
  refine RG.vl rfl rfl rfl (Ev.extract rfl rfl rfl) ?_
  refine RG.vl rfl rfl rfl (Ev.extract rfl rfl rfl) ?_
  refine RG.vl rfl rfl rfl (Ev.idxA rfl rfl rfl Tryz.underlying128 sz_5 (by omega)) ?_
  refine RG.st (g := gS) (k := _) rfl rfl rfl rfl rfl sz_5 rfl (hbS.ext hE16) (by rw [syC_len]; simp; omega) (fun ws17 hwws17 hbws17 => ?_)
  replace hbR := Blk.far (hbR.ext hE16) hwws17 (by omega)
  replace hpo := Own.far (Own.ext hpo hE16) hwws17 hsb11
  replace hxwl13 := Wr.below hxwl13 hwws17 hle5
  refine RG.done (QW.blockN (QW.then_ (CW.region ?_)))
  refine RG.vl rfl rfl rfl (Ev.addI rfl rfl rfl (by omega)) ?_
  refine RG.vl rfl rfl rfl (Ev.move rfl rfl) ?_
  refine RG.done ?_
  refine QW.sub (S' := [(2, _), (3, _), (4, _), (8, _)]) ⟨rfl, rfl, rfl, rfl, trivial⟩ ?_
  refine QW.round1 (i + 1) ⟨rfl, trivial⟩ ⟨rfl, rfl, rfl, trivial⟩ ⟨⟨by omega, by rw [← syC_set l i (by omega)]; exact hbws17, hpo, hbR⟩, (Ex.tr hB0 hxwl13)⟩ (by omega)
 ·refine CW.exit (QW.thenExit (QW.thenExit (QW.blockHit (QW.then_ (CW.seq ?_)))))
  obtain rfl : i = 4 := by omega
  rw [syC_four] at hbS
  refine CW.region ?_
  refine RG.vl rfl rfl rfl (Ev.ldAgg rfl rfl Tryz.underlying128 rfl sz_128 rfl (hbS.cells)) ?_
  refine RG.stAll (g := gR) rfl rfl rfl rfl rfl sz_128 rfl rfl rfl hbR (fun ws18 hwws18 hbws18 => ?_)
  replace hbS := Blk.far hbS hwws18 (by omega)
  replace hpo := Own.far hpo hwws18 hsb10
  replace hxwl13 := Wr.below hxwl13 hwws18 hle2
  refine RG.done (QW.then_ (CW.ret ?_))
  refine QW.retC rfl rfl Tryz.underlying128 rfl sz_128 rfl hbws18 ?_
  have hB := (Ex.tr hB0 hxwl13)
  exact ⟨rfl, hB⟩

end Go.Proofs.YtgjnchjkjdnidaaGreat

/- Walks (SB). Written by program. -/
namespace Go.Proofs.YtgjnchjkjdnidaaGreat
open Go.RowKit
set_option maxRecDepth 100000 in
set_option maxHeartbeats 2000000 in
theorem encode_ret (u : Value) (l : List Nat) (w : World) (hl : RdL w 1 encN u l) (hlen : l.length ≤ 100000) :
  Ret Tryz.prog 26 [u] w (fun v w' => ∃ r c, v = .tuple #[r, .int .i64 (if encOk l then 0 else 2)] ∧ Own w' w.heap.size 5 1 encN r c ∧ (encOk l = true → IsEnc l c) ∧ (encOk l = false → r = .slice none 0 0 ∧ c = []) ∧ Ex w w') := by
 have hB0 : Ex w w := Ex.rfl_ _
 refine Ret.of Tryz.func26 rfl Tryz.ntmps26 rfl ?_
 refine CW.seq (CW.region ?_)
 refine RG.vl rfl rfl rfl (Ev.assign rfl rfl) ?_
 refine RG.vl rfl rfl rfl (Ev.assign rfl rfl) ?_
 refine RG.done (QW.then_ (CW.seq (CW.seq (CW.region ?_))))
 refine RG.vl rfl rfl rfl (Ev.move rfl rfl) ?_
 refine RG.vl rfl rfl rfl (Ev.lenL rfl rfl rfl Tryz.underlying58 (hl)) ?_
 refine RG.vl rfl rfl rfl (Ev.lss rfl rfl rfl) ?_
 refine RG.vl rfl rfl rfl (Ev.move rfl rfl) ?_
 refine RG.split (d := 13) rfl (fun hg1 => ?_) (fun hg1 => ?_)
 ·refine RG.pass rfl rfl rfl ?_
  refine RG.pass rfl rfl rfl ?_
  refine RG.pass rfl rfl rfl ?_
  refine RG.vl rfl rfl rfl (Ev.pickT rfl rfl rfl) ?_
  refine RG.vl rfl rfl rfl (Ev.move rfl rfl) ?_
  refine RG.pass rfl rfl rfl ?_
  refine RG.pass rfl rfl rfl ?_
  refine RG.pass rfl rfl rfl ?_
  refine RG.vl rfl rfl rfl (Ev.pickT rfl rfl rfl) ?_
  refine RG.done ?_
  refine QW.sub (S' := [(0, _), (2, _), (3, _), (22, _)]) ⟨rfl, rfl, rfl, rfl, trivial⟩ ?_
  refine QW.then_ ?_
  refine CW.condT rfl ?_
  refine CW.seq (CW.region ?_)
  refine RG.vl rfl rfl rfl (Ev.assign rfl rfl) ?_
  refine RG.vl rfl rfl rfl (Ev.assign rfl rfl) ?_
  refine RG.done (QW.then_ (CW.ret (QW.thenRet ?_)))
  refine QW.ret2 rfl rfl rfl ?_
  have hB := hB0
  have hno : encOk l = false := by
   cases h : encOk l with
   | false => rfl
   | true =>
    obtain ⟨h1, h2, h3⟩ := encOk_iff.1 h
    exfalso
    first | omega | (rw [areE_el.2 h3] at *; simp at *)
  exact ⟨_, [], by rw [hno]; rfl, Own.nil_ _ _ _ _ _, fun h => (by rw [hno] at h; cases h), fun _ => ⟨rfl, rfl⟩, hB⟩
 ·refine RG.vl rfl rfl rfl (Ev.move rfl rfl) ?_
  refine RG.vl rfl rfl rfl (Ev.lenL rfl rfl rfl Tryz.underlying58 (hl)) ?_
  refine RG.vl rfl rfl rfl (Ev.gtr rfl rfl rfl) ?_
  refine RG.vl rfl rfl rfl (Ev.pickF rfl rfl rfl) ?_
  refine RG.vl rfl rfl rfl (Ev.move rfl rfl) ?_
  refine RG.split (d := 18) rfl (fun hg2 => ?_) (fun hg2 => ?_)
  ·refine RG.pass rfl rfl rfl ?_
   refine RG.pass rfl rfl rfl ?_
   refine RG.pass rfl rfl rfl ?_
   refine RG.vl rfl rfl rfl (Ev.pickT rfl rfl rfl) ?_
   refine RG.done ?_
   refine QW.sub (S' := [(0, _), (2, _), (3, _), (22, _)]) ⟨rfl, rfl, rfl, rfl, trivial⟩ ?_
   refine QW.then_ ?_
   refine CW.condT rfl ?_
   refine CW.seq (CW.region ?_)
   refine RG.vl rfl rfl rfl (Ev.assign rfl rfl) ?_
   refine RG.vl rfl rfl rfl (Ev.assign rfl rfl) ?_
   refine RG.done (QW.then_ (CW.ret (QW.thenRet ?_)))
   refine QW.ret2 rfl rfl rfl ?_
   have hB := hB0
   have hno : encOk l = false := by
    cases h : encOk l with
    | false => rfl
    | true =>
     obtain ⟨h1, h2, h3⟩ := encOk_iff.1 h
     exfalso
     first | omega | (rw [areE_el.2 h3] at *; simp at *)
   exact ⟨_, [], by rw [hno]; rfl, Own.nil_ _ _ _ _ _, fun h => (by rw [hno] at h; cases h), fun _ => ⟨rfl, rfl⟩, hB⟩
  ·refine RG.vl rfl rfl rfl (Ev.move rfl rfl) ?_
   refine RG.call rfl rfl rfl rfl rfl rfl rfl en_58 (areE_ret _ _ _ (hl) (by omega)) ?_
   rintro _ w3 ⟨rfl, hx3⟩
   have hE4 := hx3
   refine RG.vl rfl rfl rfl (Ev.not rfl rfl) ?_
   refine RG.vl rfl rfl rfl (Ev.pickF rfl rfl rfl) ?_
   refine RG.done ?_
   refine QW.sub (S' := [(0, _), (2, _), (3, _), (22, _)]) ⟨rfl, rfl, rfl, rfl, trivial⟩ ?_
   refine QW.then_ ?_
   refine CW.cond rfl (fun hc5 => ?_) (fun hc5 => ?_)
   ·refine CW.seq (CW.region ?_)
    refine RG.vl rfl rfl rfl (Ev.assign rfl rfl) ?_
    refine RG.vl rfl rfl rfl (Ev.assign rfl rfl) ?_
    refine RG.done (QW.then_ (CW.ret (QW.thenRet ?_)))
    refine QW.ret2 rfl rfl rfl ?_
    have hB := (Ex.tr hB0 hE4)
    have hno : encOk l = false := by
     cases h : encOk l with
     | false => rfl
     | true =>
      obtain ⟨h1, h2, h3⟩ := encOk_iff.1 h
      exfalso
      first | omega | (rw [areE_el.2 h3] at *; simp at *)
    exact ⟨_, [], by rw [hno]; rfl, Own.nil_ _ _ _ _ _, fun h => (by rw [hno] at h; cases h), fun _ => ⟨rfl, rfl⟩, hB⟩
   ·refine CW.skip (QW.then_ (CW.seq ?_))
    have hok : encOk l = true := encOk_iff.2 ⟨by omega, by omega, areE_el.1 (by simpa using (by assumption : (!areE l) = false))⟩
    obtain ⟨hl1, hl2, hel⟩ := encOk_iff.1 hok
    refine CW.region ?_
    refine RG.vl rfl rfl rfl (Ev.move rfl rfl) ?_
    replace hl := (hl.ext hE4)
    have hR6 := (Ex.tr hB0 hE4)
    refine RG.call rfl rfl rfl rfl rfl rfl rfl en_59 (clone_ret _ _ _ (hl) (by omega)) ?_
    have hpre7 := hR6
    rintro vcl7 w7 ⟨hcl7, hx7⟩
    have hE8 := hx7
    refine RG.appZ (k := 4) (0 : Nat) rfl rfl rfl rfl rfl rfl rfl Tryz.underlying58 Tryz.underlying3 inf_5 rfl rfl rfl hcl7 (by omega) (by omega) (by simp only [maxLen]; omega) (by omega) (hE8.size) (fun vw wa9 hown10 hgr11 hat12 => ?_)
    replace hE8 := own_block hcl7 hE8 hgr11 (Nat.le_refl _) hE8.size
    refine RG.vl rfl rfl rfl (Ev.assign rfl rfl) ?_
    refine RG.done (QW.then_ (CW.seq ?_))
    have hlz : (l ++ List.replicate 4 0).length = l.length + 4 := by rw [List.length_append, List.length_replicate]
    refine CW.region ?_
    refine RG.vl rfl rfl rfl (Ev.move rfl rfl) ?_
    refine RG.call rfl rfl rfl rfl rfl rfl rfl en_61 (poly_ret _ _ _ ((hown10.rdl encN_len)) (by omega)) ?_
    have hpre13 := (Ex.tr hR6 hE8)
    rintro vpo13 w13 ⟨hpo13, hx13⟩
    have hsep14 : Sep vpo13 _ := Sep.of_new hown10 (fun k h => Own.ge hpo13 h)
    replace hE8 := Ex.tr hE8 hx13
    have hE15 := hx13
    refine RG.litO (os := [_, _, _, _, _]) (enc := encN) (gen5) rfl rfl rfl rfl rfl rfl rfl Tryz.underlying58 inf_5 rfl rfl rfl rfl rfl encN_len rfl rfl (fun v16 wk17 hxwk17 hown18 hnew19 => ?_)
    have hsep20 : Sep v16 _ := Sep.of_new (Own.ext hown10 hE15) hnew19
    have hsep21 : Sep v16 _ := Sep.of_new hpo13 hnew19
    replace hE8 := Ex.tr hE8 hxwk17
    replace hE15 := Ex.tr hE15 hxwk17
    have hE22 := hxwk17
    refine RG.call rfl rfl rfl rfl rfl rfl rfl en_60 (Divide_el _ _ _ gen5 _ (((Own.ext hpo13 hE22).rdl encN_len)) ((hown18.rdl encN_len)) (by rw [List.length_reverse]; omega) (hel.app (El.zeros 4)).rev (by decide) gen5_el (by rw [gen5_dg]; omega)) ?_
    have hpre23 := (Ex.tr hR6 hE8)
    rintro _ w23 ⟨r1, r2, dq, rr, rfl, hod, hoe, hsp, hdv, hx23⟩
    have hsep24 : Sep r1 _ := Sep.of_new (Own.ext hown10 hE15) (fun k h => Own.ge hod h)
    have hsep25 : Sep r1 _ := Sep.of_new (Own.ext hpo13 hE22) (fun k h => Own.ge hod h)
    have hsep26 : Sep r1 _ := Sep.of_new hown18 (fun k h => Own.ge hod h)
    replace hod := Own.low (B' := w3.heap.size) hod (by have := hE8.size; omega)
    have hsep27 : Sep r2 _ := Sep.of_new (Own.ext hown10 hE15) (fun k h => Own.ge hoe h)
    have hsep28 : Sep r2 _ := Sep.of_new (Own.ext hpo13 hE22) (fun k h => Own.ge hoe h)
    have hsep29 : Sep r2 _ := Sep.of_new hown18 (fun k h => Own.ge hoe h)
    replace hoe := Own.low (B' := w3.heap.size) hoe (by have := hE8.size; omega)
    replace hE8 := Ex.tr hE8 hx23
    replace hE15 := Ex.tr hE15 hx23
    replace hE22 := Ex.tr hE22 hx23
    have hE30 := hx23
    refine RG.vl rfl rfl rfl (Ev.move rfl rfl) ?_
    refine RG.vl rfl rfl rfl (Ev.extract rfl rfl rfl) ?_
    refine RG.vl rfl rfl rfl (Ev.extract rfl rfl rfl) ?_
    refine RG.vl rfl rfl rfl (Ev.extract rfl rfl rfl) ?_
    refine RG.vl rfl rfl rfl (Ev.assign rfl rfl) ?_
    refine RG.vl rfl rfl rfl (Ev.assign rfl rfl) ?_
    refine RG.vl rfl rfl rfl (Ev.assign rfl rfl) ?_
    refine RG.done ?_
    refine QW.sub (S' := [(2, _), (3, _), (4, _), (6, _), (7, _)]) ⟨rfl, rfl, rfl, rfl, rfl, trivial⟩ ?_
    refine QW.then_ (CW.seq (CW.seq (CW.region ?_)))
    refine RG.vl rfl rfl rfl (Ev.move rfl rfl) ?_
    refine RG.vl rfl rfl rfl (Ev.isF (Ev.neI rfl rfl rfl) (fun h => h rfl)) ?_
    refine RG.done (QW.then_ ?_)
    refine CW.condF rfl ?_
    refine CW.skip (QW.then_ (CW.seq (CW.seq ?_)))
    obtain ⟨hr4, henc⟩ := enc_end hel hdv.2.2.2.1 hdv.2.2.2.2 hdv.1 hdv.2.2.1
    refine CW.region ?_
    refine RG.vl rfl rfl rfl (Ev.move rfl rfl) ?_
    refine RG.vl rfl rfl rfl (Ev.lenL rfl rfl rfl Tryz.underlying58 ((hoe.rdl encN_len))) ?_
    refine RG.vl rfl rfl rfl (Ev.move rfl rfl) ?_
    refine RG.done (QW.then_ (CW.block ?_))
    refine CW.loop1 [(2, _), (3, _), (4, _), (36, _), (37, _)] ⟨rfl, rfl, rfl, rfl, rfl, trivial⟩ (fun (i : Nat) => [(38, .int .i64 (i : Int))]) (fun i w' => (i ≤ rr.length ∧ Own w' w3.heap.size 5 1 encN vw (stE l rr i) ∧ Own w' w3.heap.size 5 1 encN r2 rr) ∧ Ex w3 w') (fun i => rr.length - i) (0) ⟨rfl, trivial⟩ ⟨⟨Nat.zero_le _, by rw [← stE_zero]; exact (Own.ext hown10 hE15), hoe⟩, hE8⟩ ?_
    rintro i wl31 ⟨⟨hi, how, hoe⟩, hxwl31⟩
    refine CW.sub (S' := [(38, _), (2, _), (3, _), (4, _), (36, _), (37, _)]) ⟨rfl, rfl, rfl, rfl, rfl, rfl, trivial⟩ ?_
    refine CW.seq (CW.region ?_)
    refine RG.vl rfl rfl rfl (Ev.lss rfl rfl rfl) ?_
    refine RG.done (QW.then_ (CW.seq ?_))
    refine CW.condP rfl (fun hc32 => ?_) (fun hc32 => ?_)
    ·refine CW.skip (QW.then_ (CW.seq (CW.block (CW.seq ?_))))
     obtain ⟨a, ha⟩ : ∃ a, rr[i]? = some a := ⟨_, List.getElem?_eq_getElem (by omega)⟩
     have hsl := stE_len l rr i
     refine CW.region ?_
     refine RG.vl rfl rfl rfl (Ev.move rfl rfl) ?_
     refine RG.idxO rfl rfl rfl rfl rfl rfl Tryz.underlying58 sz_5 encN_len (hoe) (ha) (fun g34 hg34 hBg34 hp33b hp33 => ?_)
     refine RG.vl rfl rfl rfl (Ev.ld0 rfl rfl Tryz.underlying5 rfl (hp33) (rfl)) ?_
     refine RG.vl rfl rfl rfl (Ev.assign rfl rfl) ?_
     refine RG.vl rfl rfl rfl (Ev.assign rfl rfl) ?_
     refine RG.done (QW.then_ ?_)
     obtain ⟨q, hq⟩ : ∃ q, (stE l rr i)[l.length + 4 - 1 - i]? = some q := ⟨_, List.getElem?_eq_getElem (by omega)⟩
     refine CW.region ?_
     refine RG.vl rfl rfl rfl (Ev.move rfl rfl) ?_
     refine RG.vl rfl rfl rfl (Ev.move rfl rfl) ?_
     refine RG.vl rfl rfl rfl (Ev.lenL rfl rfl rfl Tryz.underlying58 ((how.rdl encN_len))) ?_
     refine RG.vl rfl rfl rfl (Ev.subI rfl rfl rfl (by omega)) ?_
     refine RG.vl rfl rfl rfl (Ev.move rfl rfl) ?_
     refine RG.vl rfl rfl rfl ((Ev.subI rfl rfl rfl (by omega)).conv (congrArg (Value.int .i64) (show _ = ((l.length + 4 - 1 - i : Nat) : Int) by omega))) ?_
     refine RG.vl rfl rfl rfl (Ev.move rfl rfl) ?_
     refine RG.idxO rfl rfl rfl rfl rfl rfl Tryz.underlying58 sz_5 encN_len (how) (hq) (fun g36 hg36 hBg36 hp35b hp35 => ?_)
     refine RG.stOw0 (g := g36) (a) rfl rfl rfl rfl rfl sz_5 rfl (fun _ => rfl) how hg36 (hq) rfl (rfl) (fun ws37 hwws37 hown38 => ?_)
     replace hoe := Own.far hoe hwws37 (fun e => (Sep.symm hsep27) _ hg36 e)
     replace hxwl31 := Wr.below hxwl31 hwws37 hBg36
     refine RG.done ?_
     refine QW.sub (S' := [(2, _), (3, _), (4, _), (36, _), (37, _), (38, _)]) ⟨rfl, rfl, rfl, rfl, rfl, rfl, trivial⟩ ?_
     refine QW.blockN (QW.then_ (CW.region ?_))
     refine RG.vl rfl rfl rfl (Ev.addI rfl rfl rfl (by omega)) ?_
     refine RG.vl rfl rfl rfl (Ev.move rfl rfl) ?_
     refine RG.done ?_
     refine QW.round1 (i + 1) ⟨rfl, trivial⟩ ⟨rfl, rfl, rfl, rfl, rfl, trivial⟩ ⟨⟨by omega, by rw [← stE_set (by omega) ha]; exact hown38, hoe⟩, hxwl31⟩ (by omega)
    ·refine CW.exit (QW.thenExit (QW.thenExit (QW.blockHit (QW.then_ (CW.seq (CW.region ?_))))))
     refine RG.vl rfl rfl rfl (Ev.move rfl rfl) ?_
     refine RG.vl rfl rfl rfl (Ev.assign rfl rfl) ?_
     refine RG.vl rfl rfl rfl (Ev.assign rfl rfl) ?_
     refine RG.done (QW.then_ (CW.ret ?_))
     refine QW.ret2 rfl rfl rfl ?_
     have hB := (Ex.tr hR6 hxwl31)
     obtain rfl : i = rr.length := by omega
     exact ⟨_, _, by rw [hok]; rfl, how.low (by have := hR6.size; omega), fun _ => henc, fun h => (by rw [hok] at h; cases h), hB⟩

end Go.Proofs.YtgjnchjkjdnidaaGreat

/- Walks (SC). Written by program. -/
namespace Go.Proofs.YtgjnchjkjdnidaaGreat
open Go.RowKit
set_option maxRecDepth 100000 in
set_option maxHeartbeats 1000000 in
theorem subtract_ret (w0 : World) (g r i t : Nat) (M : Mx) (w : World) (hx0 : Ex w0 w) (hg0 : w0.heap.size ≤ g) (hb : Blk w g 135 (mc M)) (hel : EM M) (hr : r < 4) (hi : i < 4) (ht : t < 64) :
  Ret Tryz.prog 114 [.pointer (some ⟨g, 0, none⟩), .int .i64 (r : Int), .int .i64 (i : Int), .int .u8 (t : Int)] w (fun v w' => v = .tuple #[] ∧ Blk w' g 135 (mc (subTo M r i t 5)) ∧ Ex w0 w') := by
 have hB0 : Ex w w := Ex.rfl_ _
 refine Ret.of Tryz.func114 rfl Tryz.ntmps114 rfl ?_
 refine CW.seq (CW.region ?_)
 refine RG.vl rfl rfl rfl (Ev.move rfl rfl) ?_
 refine RG.done (QW.then_ (CW.block ?_))
 refine CW.loop1 [(0, _), (1, _), (2, _), (3, _)] ⟨rfl, rfl, rfl, rfl, trivial⟩ (fun (k : Nat) => [(11, .int .i64 (k : Int))]) (fun k w' => (k ≤ 5 ∧ Blk w' g 135 (mc (subTo M r i t k))) ∧ Ex w0 w') (fun k => 5 - k) (0) ⟨rfl, trivial⟩ ⟨⟨by omega, by rw [subTo_zero]; exact hb⟩, hx0⟩ ?_
 rintro k wl1 ⟨⟨hk, hbk⟩, hxwl1⟩
 refine CW.sub (S' := [(11, _), (0, _), (1, _), (2, _), (3, _)]) ⟨rfl, rfl, rfl, rfl, rfl, trivial⟩ ?_
 refine CW.seq (CW.region ?_)
 refine RG.vl rfl rfl rfl (Ev.lss rfl rfl rfl) ?_
 refine RG.done (QW.then_ (CW.seq ?_))
 refine CW.condP rfl (fun hc2 => ?_) (fun hc2 => ?_)
 ·refine CW.skip (QW.then_ (CW.seq (CW.block (CW.seq (CW.region ?_)))))
  refine RG.vl rfl rfl rfl (Ev.move rfl rfl) ?_
  refine RG.vl rfl rfl rfl (Ev.assign rfl rfl) ?_
  refine RG.done (QW.then_ (CW.seq ?_))
  have e1 : subTo M r i t k i k = M i k := by unfold subTo; rw [if_neg (by omega)]
  have e2 : subTo M r i t k r k = M r k := by unfold subTo; rw [if_neg (by omega)]
  have h1 := hel i k hi (by omega)
  have h2 := hel r k hr (by omega)
  have h3 := gm_lt t (M i k)
  have h4 := xor_lt64 _ _ h2 h3
  refine CW.region ?_
  refine RG.vl rfl rfl rfl (Ev.move rfl rfl) ?_
  refine RG.vl rfl rfl rfl (Ev.move rfl rfl) ?_
  refine RG.vl rfl rfl rfl (Ev.move rfl rfl) ?_
  refine RG.vl rfl rfl rfl (Ev.move rfl rfl) ?_
  refine RG.vl rfl rfl rfl (Ev.nilC rfl rfl) ?_
  refine RG.vl rfl rfl rfl (Ev.idxA rfl rfl rfl Tryz.underlying135 sz_133 (by omega)) ?_
  refine RG.vl rfl rfl rfl (Ev.idxA rfl rfl rfl Tryz.underlying133 sz_5 (by omega)) ?_
  refine RG.vl rfl rfl rfl (Ev.ldAA rfl rfl Tryz.underlying5 rfl (hbk.cells) ((show (mc _)[i * 5 + k * 1]? = some (.int .u8 (M i k : Int)) by rw [mc_at _ (by omega) (by omega), e1]))) ?_
  refine RG.call rfl rfl rfl rfl rfl rfl rfl en_128 (Mul_el _ _ _ ht h1) ?_
  rintro _ w3 ⟨rfl, hx3⟩
  replace hxwl1 := Ex.tr hxwl1 hx3
  have hE4 := hx3
  refine RG.vl rfl rfl rfl (Ev.move rfl rfl) ?_
  refine RG.vl rfl rfl rfl (Ev.extract rfl rfl rfl) ?_
  refine RG.vl rfl rfl rfl (Ev.extract rfl rfl rfl) ?_
  refine RG.vl rfl rfl rfl (Ev.assign rfl rfl) ?_
  refine RG.vl rfl rfl rfl (Ev.assign rfl rfl) ?_
  refine RG.done ?_
  refine QW.sub (S' := [(0, _), (1, _), (2, _), (3, _), (8, _), (9, _), (11, _)]) ⟨rfl, rfl, rfl, rfl, rfl, rfl, rfl, trivial⟩ ?_
  refine QW.then_ ?_
  refine CW.draw [12] (.ex) 13 rfl mixed (fun wd5 hxwd5 => ?_)
  replace hxwl1 := Ex.tr hxwl1 hxwd5
  replace hE4 := Ex.tr hE4 hxwd5
  refine AG.takeW 0 rfl (by kernel_rfl) (by kernel_rfl) rfl rfl rfl (fun _ => Ev.move rfl rfl) ?_
  refine AG.takeW 1 rfl (by kernel_rfl) (by kernel_rfl) rfl rfl rfl (fun _ => Ev.move rfl rfl) ?_
  refine AG.takeW 2 rfl (by kernel_rfl) (by kernel_rfl) rfl rfl rfl (fun _ => Ev.move rfl rfl) ?_
  refine AG.takeW 3 rfl (by kernel_rfl) (by kernel_rfl) rfl rfl rfl (fun _ => Ev.nilC rfl rfl) ?_
  refine AG.takeW 4 rfl (by kernel_rfl) (by kernel_rfl) rfl rfl rfl (fun _ => Ev.idxA rfl rfl rfl Tryz.underlying135 sz_133 (by omega)) ?_
  refine AG.takeW 5 rfl (by kernel_rfl) (by kernel_rfl) rfl rfl rfl (fun _ => Ev.idxA rfl rfl rfl Tryz.underlying133 sz_5 (by omega)) ?_
  refine AG.take 6 rfl (by kernel_rfl) (by kernel_rfl) rfl rfl rfl (fun wq hq => Ev.ldAA rfl rfl Tryz.underlying5 rfl (((hbk.ext hE4).ext hq).cells) ((show (mc _)[r * 5 + k * 1]? = some (.int .u8 (M r k : Int)) by rw [mc_at _ (by omega) (by omega), e2]))) ?_
  refine AG.takeW 7 rfl (by kernel_rfl) (by kernel_rfl) rfl rfl rfl (fun _ => Ev.move rfl rfl) ?_
  refine AG.takeW 8 rfl (by kernel_rfl) (by kernel_rfl) rfl rfl rfl (fun _ => Ev.xor8 rfl rfl rfl (by omega) (by omega)) ?_
  refine AG.takeW 9 rfl (by kernel_rfl) (by kernel_rfl) rfl rfl rfl (fun _ => Ev.nilC rfl rfl) ?_
  refine AG.takeW 10 rfl (by kernel_rfl) (by kernel_rfl) rfl rfl rfl (fun _ => Ev.idxA rfl rfl rfl Tryz.underlying135 sz_133 (by omega)) ?_
  refine AG.takeW 11 rfl (by kernel_rfl) (by kernel_rfl) rfl rfl rfl (fun _ => Ev.idxA rfl rfl rfl Tryz.underlying133 sz_5 (by omega)) ?_
  refine AG.only 12 rfl (by kernel_rfl) ?_
  refine RG.st2 (g := g) rfl rfl rfl rfl rfl sz_5 rfl (hbk.ext hE4) (by rw [mc_len, Nat.blt_eq]; omega) (fun ws7 hwws7 hbws7 => ?_)
  replace hxwl1 := Wr.below hxwl1 hwws7 hg0
  rw [mc_set _ _ (by omega), subTo_more] at hbws7
  refine RG.done ?_
  refine QW.an (fun h => by simp at h) ?_
  refine AG.done (by kernel_rfl) ?_
  refine QW.blockN (QW.then_ (CW.region ?_))
  refine RG.vl rfl rfl rfl (Ev.addI rfl rfl rfl (by omega)) ?_
  refine RG.vl rfl rfl rfl (Ev.move rfl rfl) ?_
  refine RG.done ?_
  refine QW.sub (S' := [(0, _), (1, _), (2, _), (3, _), (11, _)]) ⟨rfl, rfl, rfl, rfl, rfl, trivial⟩ ?_
  refine QW.round1 (k + 1) ⟨rfl, trivial⟩ ⟨rfl, rfl, rfl, rfl, trivial⟩ ⟨⟨by omega, hbws7⟩, hxwl1⟩ (by omega)
 ·refine CW.exit (QW.thenExit (QW.thenExit (QW.blockHit ?_)))
  refine QW.end0 rfl ?_
  obtain rfl : k = 5 := by omega
  exact ⟨rfl, hbk, hxwl1⟩

set_option maxRecDepth 100000 in
set_option maxHeartbeats 2000000 in
theorem pivot_ret (w0 : World) (g i : Nat) (M : Mx) (w : World) (hx0 : Ex w0 w) (hg0 : w0.heap.size ≤ g) (hb : Blk w g 135 (mc M)) (hel : EM M) (hi : i < 4) :
  Ret Tryz.prog 113 [.pointer (some ⟨g, 0, none⟩), .int .i64 (i : Int)] w (fun v w' => ∃ b M', v = .bool b ∧ Blk w' g 135 (mc M') ∧ (b = true → ∃ row, i ≤ row ∧ row < 4 ∧ M row i ≠ 0 ∧ M' = pivM M i row) ∧ (b = false → M' = M ∧ ∀ r, i ≤ r → r < 4 → M r i = 0) ∧ Ex w0 w') := by
 have hB0 : Ex w w := Ex.rfl_ _
 refine Ret.of Tryz.func113 rfl Tryz.ntmps113 rfl ?_
 refine CW.seq (CW.region ?_)
 refine RG.vl rfl rfl rfl (Ev.assign rfl rfl) ?_
 refine RG.done (QW.then_ (CW.seq (CW.seq (CW.region ?_))))
 refine RG.vl rfl rfl rfl (Ev.move rfl rfl) ?_
 refine RG.vl rfl rfl rfl (Ev.assign rfl rfl) ?_
 refine RG.done (QW.then_ (CW.block ?_))
 refine CW.loop1 [(0, _), (1, _)] ⟨rfl, rfl, trivial⟩ (fun (row : Nat) => [(5, .int .i64 (row : Int))]) (fun row w' => (i ≤ row ∧ row ≤ 4 ∧ (∀ r, i ≤ r → r < row → M r i = 0) ∧ Blk w' g 135 (mc M)) ∧ Ex w0 w') (fun row => 4 - row) (i) ⟨rfl, trivial⟩ ⟨⟨Nat.le_refl _, by omega, fun r h1 h2 => absurd h1 (by omega), hb⟩, hx0⟩ ?_
 rintro row wl1 ⟨⟨hrow, hrow4, hz, hbk⟩, hxwl1⟩
 refine CW.sub (S' := [(5, _), (0, _), (1, _)]) ⟨rfl, rfl, rfl, trivial⟩ ?_
 refine CW.seq (CW.seq (CW.region ?_))
 refine RG.vl rfl rfl rfl (Ev.move rfl rfl) ?_
 refine RG.vl rfl rfl rfl (Ev.lss rfl rfl rfl) ?_
 refine RG.done (QW.then_ ?_)
 refine CW.condP rfl (fun hc2 => ?_) (fun hc2 => ?_)
 ·refine CW.skip (QW.then_ (CW.seq (CW.block (CW.seq (CW.seq (CW.region ?_))))))
  refine RG.vl rfl rfl rfl (Ev.move rfl rfl) ?_
  refine RG.vl rfl rfl rfl (Ev.move rfl rfl) ?_
  refine RG.vl rfl rfl rfl (Ev.move rfl rfl) ?_
  refine RG.vl rfl rfl rfl (Ev.nilC rfl rfl) ?_
  refine RG.vl rfl rfl rfl (Ev.idxA rfl rfl rfl Tryz.underlying135 sz_133 (by omega)) ?_
  refine RG.vl rfl rfl rfl (Ev.idxA rfl rfl rfl Tryz.underlying133 sz_5 (by omega)) ?_
  refine RG.vl rfl rfl rfl (Ev.ldAA rfl rfl Tryz.underlying5 rfl (hbk.cells) ((show (mc _)[row * 5 + i * 1]? = some (.int .u8 (M row i : Int)) by rw [mc_at _ (by omega) (by omega)]))) ?_
  refine RG.vl rfl rfl rfl (Ev.eqI rfl rfl rfl) ?_
  refine RG.done (QW.then_ ?_)
  refine CW.condP rfl (fun hc3 => ?_) (fun hc3 => ?_)
  ·refine CW.exit (QW.thenExit (QW.blockHit (QW.then_ (CW.region ?_))))
   refine RG.vl rfl rfl rfl (Ev.move rfl rfl) ?_
   refine RG.vl rfl rfl rfl (Ev.addI rfl rfl rfl (by omega)) ?_
   refine RG.vl rfl rfl rfl (Ev.assign rfl rfl) ?_
   refine RG.done ?_
   refine QW.round1 (row + 1) ⟨rfl, trivial⟩ ⟨rfl, rfl, trivial⟩ ⟨⟨by omega, by omega, fun r h1 h2 => by rcases Nat.lt_or_ge r row with h | h; exact hz r h1 h; obtain rfl : r = row := (by omega); omega, hbk⟩, hxwl1⟩ (by omega)
  ·refine CW.skip (QW.then_ (CW.seq ?_))
   have h0 : M row i ≠ 0 := by omega
   have hr4 : row < 4 := by omega
   refine CW.draw [16, 19] (.ex) 20 rfl mixed (fun wd4 hxwd4 => ?_)
   replace hxwl1 := Ex.tr hxwl1 hxwd4
   have hE5 := hxwd4
   refine AG.takeW 0 rfl (by kernel_rfl) (by kernel_rfl) rfl rfl rfl (fun _ => Ev.move rfl rfl) ?_
   refine AG.takeW 1 rfl (by kernel_rfl) (by kernel_rfl) rfl rfl rfl (fun _ => Ev.move rfl rfl) ?_
   refine AG.takeW 2 rfl (by kernel_rfl) (by kernel_rfl) rfl rfl rfl (fun _ => Ev.move rfl rfl) ?_
   refine AG.takeW 3 rfl (by kernel_rfl) (by kernel_rfl) rfl rfl rfl (fun _ => Ev.move rfl rfl) ?_
   refine AG.takeW 4 rfl (by kernel_rfl) (by kernel_rfl) rfl rfl rfl (fun _ => Ev.move rfl rfl) ?_
   refine AG.takeW 5 rfl (by kernel_rfl) (by kernel_rfl) rfl rfl rfl (fun _ => Ev.move rfl rfl) ?_
   refine AG.takeW 6 rfl (by kernel_rfl) (by kernel_rfl) rfl rfl rfl (fun _ => Ev.nilC rfl rfl) ?_
   refine AG.takeW 7 rfl (by kernel_rfl) (by kernel_rfl) rfl rfl rfl (fun _ => Ev.idxA rfl rfl rfl Tryz.underlying135 sz_133 (by omega)) ?_
   refine AG.take 8 rfl (by kernel_rfl) (by kernel_rfl) rfl rfl rfl (fun wq hq => Ev.ldRow (r := row) rfl rfl Tryz.underlying133 rfl sz_133 ((hbk.ext hE5).ext hq) (by omega)) ?_
   refine AG.takeW 9 rfl (by kernel_rfl) (by kernel_rfl) rfl rfl rfl (fun _ => Ev.move rfl rfl) ?_
   refine AG.takeW 10 rfl (by kernel_rfl) (by kernel_rfl) rfl rfl rfl (fun _ => Ev.move rfl rfl) ?_
   refine AG.takeW 11 rfl (by kernel_rfl) (by kernel_rfl) rfl rfl rfl (fun _ => Ev.nilC rfl rfl) ?_
   refine AG.takeW 12 rfl (by kernel_rfl) (by kernel_rfl) rfl rfl rfl (fun _ => Ev.idxA rfl rfl rfl Tryz.underlying135 sz_133 (by omega)) ?_
   refine AG.take 13 rfl (by kernel_rfl) (by kernel_rfl) rfl rfl rfl (fun wq hq => Ev.ldRow (r := i) rfl rfl Tryz.underlying133 rfl sz_133 ((hbk.ext hE5).ext hq) (by omega)) ?_
   refine AG.takeW 14 rfl (by kernel_rfl) (by kernel_rfl) rfl rfl rfl (fun _ => Ev.nilC rfl rfl) ?_
   refine AG.takeW 15 rfl (by kernel_rfl) (by kernel_rfl) rfl rfl rfl (fun _ => Ev.idxA rfl rfl rfl Tryz.underlying135 sz_133 (by omega)) ?_
   refine AG.takeW 17 rfl (by kernel_rfl) (by kernel_rfl) rfl rfl rfl (fun _ => Ev.nilC rfl rfl) ?_
   refine AG.only 16 rfl (by kernel_rfl) ?_
   refine RG.stRow (r := i) (M row) rfl rfl rfl rfl rfl sz_133 (hbk.ext hE5) (by omega) (fun ws7 hwws7 hbws7 => ?_)
   replace hxwl1 := Wr.below hxwl1 hwws7 hg0
   refine RG.done ?_
   refine QW.an (fun h => by simp at h) ?_
   refine AG.takeW 18 rfl (by kernel_rfl) (by kernel_rfl) rfl rfl rfl (fun _ => Ev.idxA rfl rfl rfl Tryz.underlying135 sz_133 (by omega)) ?_
   refine AG.only 19 rfl (by kernel_rfl) ?_
   refine RG.stRow (r := row) (M i) rfl rfl rfl rfl rfl sz_133 hbws7 (by omega) (fun ws9 hwws9 hbws9 => ?_)
   replace hxwl1 := Wr.below hxwl1 hwws9 hg0
   replace hbws9 : Blk ws9 g 135 (mc (swp M i row)) := hbws9
   refine RG.done ?_
   refine QW.an (fun h => by simp at h) ?_
   refine AG.done (by kernel_rfl) ?_
   refine QW.sub (S' := [(0, _), (1, _), (5, _)]) ⟨rfl, rfl, rfl, trivial⟩ ?_
   refine QW.then_ (CW.seq ?_)
   have hM1 := hel.swp hi hr4
   have es : swp M i row i i = M row i := swp_i M i row i
   have h64 := hel row i hr4 (by omega)
   have hgi := (gi_lt (M row i)).2
   refine CW.region ?_
   refine RG.vl rfl rfl rfl (Ev.move rfl rfl) ?_
   refine RG.vl rfl rfl rfl (Ev.move rfl rfl) ?_
   refine RG.vl rfl rfl rfl (Ev.move rfl rfl) ?_
   refine RG.vl rfl rfl rfl (Ev.nilC rfl rfl) ?_
   refine RG.vl rfl rfl rfl (Ev.idxA rfl rfl rfl Tryz.underlying135 sz_133 (by omega)) ?_
   refine RG.vl rfl rfl rfl (Ev.idxA rfl rfl rfl Tryz.underlying133 sz_5 (by omega)) ?_
   refine RG.vl rfl rfl rfl (Ev.ldAA rfl rfl Tryz.underlying5 rfl (hbws9.cells) ((show (mc _)[i * 5 + i * 1]? = some (.int .u8 (M row i : Int)) by rw [mc_at _ (by omega) (by omega), es]))) ?_
   refine RG.call rfl rfl rfl rfl rfl rfl rfl en_127 (Inv_el _ _ h0 h64) ?_
   rintro _ w10 ⟨rfl, hx10⟩
   replace hxwl1 := Ex.tr hxwl1 hx10
   have hE11 := hx10
   refine RG.vl rfl rfl rfl (Ev.move rfl rfl) ?_
   refine RG.vl rfl rfl rfl (Ev.extract rfl rfl rfl) ?_
   refine RG.vl rfl rfl rfl (Ev.extract rfl rfl rfl) ?_
   refine RG.vl rfl rfl rfl (Ev.assign rfl rfl) ?_
   refine RG.vl rfl rfl rfl (Ev.assign rfl rfl) ?_
   refine RG.done (QW.then_ (CW.seq (CW.seq (CW.region ?_))))
   refine RG.vl rfl rfl rfl (Ev.move rfl rfl) ?_
   refine RG.done ?_
   refine QW.sub (S' := [(0, _), (1, _), (5, _), (6, _), (51, _)]) ⟨rfl, rfl, rfl, rfl, rfl, trivial⟩ ?_
   refine QW.then_ (CW.block ?_)
   refine CW.loop1 [(0, _), (1, _), (5, _), (6, _)] ⟨rfl, rfl, rfl, rfl, trivial⟩ (fun (k : Nat) => [(51, .int .i64 (k : Int))]) (fun k w' => (k ≤ 5 ∧ Blk w' g 135 (mc (scTo (swp M i row) i (gi (M row i)) k))) ∧ Ex w0 w') (fun k => 5 - k) (0) ⟨rfl, trivial⟩ ⟨⟨by omega, by rw [scTo_zero]; exact (hbws9.ext hE11)⟩, hxwl1⟩ ?_
   rintro k wl12 ⟨⟨hk, hbk⟩, hxwl12⟩
   refine CW.sub (S' := [(51, _), (0, _), (1, _), (5, _), (6, _)]) ⟨rfl, rfl, rfl, rfl, rfl, trivial⟩ ?_
   refine CW.seq (CW.region ?_)
   refine RG.vl rfl rfl rfl (Ev.lss rfl rfl rfl) ?_
   refine RG.done (QW.then_ (CW.seq ?_))
   refine CW.condP rfl (fun hc13 => ?_) (fun hc13 => ?_)
   ·refine CW.skip (QW.then_ (CW.seq (CW.block (CW.seq (CW.region ?_)))))
    refine RG.vl rfl rfl rfl (Ev.move rfl rfl) ?_
    refine RG.vl rfl rfl rfl (Ev.assign rfl rfl) ?_
    refine RG.done (QW.then_ ?_)
    have e1 : scTo (swp M i row) i (gi (M row i)) k i k = swp M i row i k := by unfold scTo; rw [if_neg (by omega)]
    have h1 := hM1 i k hi (by omega)
    have h2 := gm_lt (swp M i row i k) (gi (M row i))
    refine CW.draw [18] (.ex) 19 rfl mixed (fun wd14 hxwd14 => ?_)
    replace hxwl12 := Ex.tr hxwl12 hxwd14
    have hE15 := hxwd14
    refine AG.takeW 0 rfl (by kernel_rfl) (by kernel_rfl) rfl rfl rfl (fun _ => Ev.move rfl rfl) ?_
    refine AG.takeW 1 rfl (by kernel_rfl) (by kernel_rfl) rfl rfl rfl (fun _ => Ev.move rfl rfl) ?_
    refine AG.takeW 2 rfl (by kernel_rfl) (by kernel_rfl) rfl rfl rfl (fun _ => Ev.move rfl rfl) ?_
    refine AG.takeW 3 rfl (by kernel_rfl) (by kernel_rfl) rfl rfl rfl (fun _ => Ev.move rfl rfl) ?_
    refine AG.takeW 4 rfl (by kernel_rfl) (by kernel_rfl) rfl rfl rfl (fun _ => Ev.move rfl rfl) ?_
    refine AG.takeW 5 rfl (by kernel_rfl) (by kernel_rfl) rfl rfl rfl (fun _ => Ev.move rfl rfl) ?_
    refine AG.takeW 6 rfl (by kernel_rfl) (by kernel_rfl) rfl rfl rfl (fun _ => Ev.nilC rfl rfl) ?_
    refine AG.takeW 7 rfl (by kernel_rfl) (by kernel_rfl) rfl rfl rfl (fun _ => Ev.idxA rfl rfl rfl Tryz.underlying135 sz_133 (by omega)) ?_
    refine AG.takeW 8 rfl (by kernel_rfl) (by kernel_rfl) rfl rfl rfl (fun _ => Ev.idxA rfl rfl rfl Tryz.underlying133 sz_5 (by omega)) ?_
    refine AG.take 9 rfl (by kernel_rfl) (by kernel_rfl) rfl rfl rfl (fun wq hq => Ev.ldAA rfl rfl Tryz.underlying5 rfl (((hbk.ext hE15).ext hq).cells) ((show (mc _)[i * 5 + k * 1]? = some (.int .u8 (swp M i row i k : Int)) by rw [mc_at _ (by omega) (by omega), e1]))) ?_
    refine AG.takeW 10 rfl (by kernel_rfl) (by kernel_rfl) rfl rfl rfl (fun _ => Ev.move rfl rfl) ?_
    refine AG.takeW 15 rfl (by kernel_rfl) (by kernel_rfl) rfl rfl rfl (fun _ => Ev.nilC rfl rfl) ?_
    refine AG.takeW 16 rfl (by kernel_rfl) (by kernel_rfl) rfl rfl rfl (fun _ => Ev.idxA rfl rfl rfl Tryz.underlying135 sz_133 (by omega)) ?_
    refine AG.only 11 rfl (by kernel_rfl) ?_
    refine RG.call rfl rfl rfl rfl rfl rfl rfl en_128 (Mul_el _ _ _ h1 hgi) ?_
    rintro _ w17 ⟨rfl, hx17⟩
    replace hxwl12 := Ex.tr hxwl12 hx17
    replace hE15 := Ex.tr hE15 hx17
    have hE18 := hx17
    refine RG.done ?_
    refine QW.an (fun _ => hE18) ?_
    refine AG.takeW 12 rfl (by kernel_rfl) (by kernel_rfl) rfl rfl rfl (fun _ => Ev.move rfl rfl) ?_
    refine AG.takeW 13 rfl (by kernel_rfl) (by kernel_rfl) rfl rfl rfl (fun _ => Ev.extract rfl rfl rfl) ?_
    refine AG.takeW 14 rfl (by kernel_rfl) (by kernel_rfl) rfl rfl rfl (fun _ => Ev.extract rfl rfl rfl) ?_
    refine AG.takeW 17 rfl (by kernel_rfl) (by kernel_rfl) rfl rfl rfl (fun _ => Ev.idxA rfl rfl rfl Tryz.underlying133 sz_5 (by omega)) ?_
    refine AG.only 18 rfl (by kernel_rfl) ?_
    refine RG.st2 (g := g) rfl rfl rfl rfl rfl sz_5 rfl (hbk.ext hE15) (by rw [mc_len, Nat.blt_eq]; omega) (fun ws20 hwws20 hbws20 => ?_)
    replace hxwl12 := Wr.below hxwl12 hwws20 hg0
    rw [mc_set _ _ (by omega), scTo_more] at hbws20
    refine RG.done ?_
    refine QW.an (fun h => by simp at h) ?_
    refine AG.done (by kernel_rfl) ?_
    refine QW.sub (S' := [(0, _), (1, _), (5, _), (6, _), (51, _)]) ⟨rfl, rfl, rfl, rfl, rfl, trivial⟩ ?_
    refine QW.blockN (QW.then_ (CW.region ?_))
    refine RG.vl rfl rfl rfl (Ev.addI rfl rfl rfl (by omega)) ?_
    refine RG.vl rfl rfl rfl (Ev.move rfl rfl) ?_
    refine RG.done ?_
    refine QW.round1 (k + 1) ⟨rfl, trivial⟩ ⟨rfl, rfl, rfl, rfl, trivial⟩ ⟨⟨by omega, hbws20⟩, hxwl12⟩ (by omega)
   ·refine CW.exit (QW.thenExit (QW.thenExit (QW.blockHit (QW.then_ (CW.seq (CW.region ?_))))))
    refine RG.vl rfl rfl rfl (Ev.assign rfl rfl) ?_
    refine RG.done (QW.then_ (CW.ret (QW.blockR (QW.thenRet (QW.thenRet (QW.blockR ?_))))))
    refine QW.thenRet ?_
    refine QW.ret1 rfl rfl ?_
    obtain rfl : k = 5 := by omega
    exact ⟨true, _, rfl, hbk, fun _ => ⟨row, hrow, by omega, h0, rfl⟩, (fun h => by cases h), hxwl12⟩
 ·refine CW.exit (QW.thenExit (QW.thenExit (QW.blockHit (QW.then_ (CW.seq (CW.region ?_))))))
  refine RG.vl rfl rfl rfl (Ev.assign rfl rfl) ?_
  refine RG.done (QW.then_ (CW.ret ?_))
  refine QW.ret1 rfl rfl ?_
  obtain rfl : row = 4 := by omega
  exact ⟨false, M, rfl, hbk, (fun h => by cases h), fun _ => ⟨rfl, fun r h1 h2 => hz r h1 h2⟩, hxwl1⟩

set_option maxRecDepth 100000 in
set_option maxHeartbeats 2000000 in
theorem solve_ret (w0 : World) (g k : Nat) (M : Mx) (w : World) (hx0 : Ex w0 w) (hg0 : w0.heap.size ≤ g) (hb : Blk w g 135 (mc M)) (hel : EM M) (hk4 : k ≤ 4) :
  Ret Tryz.prog 70 [.pointer (some ⟨g, 0, none⟩), .int .i64 (k : Int)] w (fun v w' => ∃ b M', v = .bool b ∧ Blk w' g 135 (mc M') ∧ SolvR M k b M' ∧ Ex w0 w') := by
 have hB0 : Ex w w := Ex.rfl_ _
 refine Ret.of Tryz.func70 rfl Tryz.ntmps70 rfl ?_
 refine CW.seq (CW.region ?_)
 refine RG.vl rfl rfl rfl (Ev.assign rfl rfl) ?_
 refine RG.done (QW.then_ (CW.seq (CW.seq (CW.region ?_))))
 refine RG.vl rfl rfl rfl (Ev.move rfl rfl) ?_
 refine RG.vl rfl rfl rfl (Ev.move rfl rfl) ?_
 refine RG.done (QW.then_ (CW.block ?_))
 refine CW.loop2 [(0, _), (1, _), (8, _)] ⟨rfl, rfl, rfl, trivial⟩ (fun (i : Nat) (M2 : Mx) => [(9, .int .i64 (i : Int))]) (fun i M2 w' => (i ≤ k ∧ Gs M k M2 i ∧ Blk w' g 135 (mc M2)) ∧ Ex w0 w') (fun i M2 => k - i) (0) (M) ⟨rfl, trivial⟩ ⟨⟨Nat.zero_le _, gs_start hel, hb⟩, hx0⟩ ?_
 rintro i M2 wl1 ⟨⟨hik, hgs, hbk⟩, hxwl1⟩
 refine CW.sub (S' := [(9, _), (0, _), (1, _), (8, _)]) ⟨rfl, rfl, rfl, rfl, trivial⟩ ?_
 refine CW.seq (CW.region ?_)
 refine RG.vl rfl rfl rfl (Ev.lss rfl rfl rfl) ?_
 refine RG.done (QW.then_ (CW.seq ?_))
 refine CW.condP rfl (fun hc2 => ?_) (fun hc2 => ?_)
 ·refine CW.skip (QW.then_ (CW.seq (CW.block (CW.seq (CW.region ?_)))))
  refine RG.vl rfl rfl rfl (Ev.move rfl rfl) ?_
  refine RG.vl rfl rfl rfl (Ev.assign rfl rfl) ?_
  refine RG.done (QW.then_ (CW.seq (CW.seq (CW.region ?_))))
  refine RG.vl rfl rfl rfl (Ev.move rfl rfl) ?_
  refine RG.vl rfl rfl rfl (Ev.move rfl rfl) ?_
  refine RG.call rfl rfl rfl rfl rfl rfl rfl en_113 (pivot_ret w0 g i M2 _ hxwl1 hg0 hbk hgs.el (by omega)) ?_
  rintro _ w3 ⟨bv, M3, rfl, hbw4, hyp, hno, hxw5⟩
  replace hxwl1 := hxw5
  refine RG.vl rfl rfl rfl (Ev.not rfl rfl) ?_
  refine RG.done (QW.then_ ?_)
  refine CW.cond rfl (fun hc6 => ?_) (fun hc6 => ?_)
  ·refine CW.seq ?_
   have hbv : bv = false := by simpa using (by assumption : (!bv) = true)
   refine CW.region ?_
   refine RG.vl rfl rfl rfl (Ev.assign rfl rfl) ?_
   refine RG.done (QW.then_ (CW.ret (QW.thenRet (QW.blockR (QW.thenRet (QW.thenRet ?_))))))
   refine QW.blockR (QW.thenRet ?_)
   refine QW.ret1 rfl rfl ?_
   obtain ⟨rfl, hz⟩ := hno hbv
   exact ⟨false, _, rfl, hbw4, gs_none hgs hk4 (by omega) hz, hxwl1⟩
  ·refine CW.skip (QW.then_ (CW.seq ?_))
   have hbv : bv = true := by simpa using (by assumption : (!bv) = false)
   obtain ⟨r0, hr1, hr2, hr3, rfl⟩ := hyp hbv
   have hgr0 := gs_piv hgs hk4 (by omega) hr1 hr2 hr3
   refine CW.region ?_
   refine RG.vl rfl rfl rfl (Ev.move rfl rfl) ?_
   refine RG.done (QW.then_ (CW.block ?_))
   refine CW.loop2 [(0, _), (1, _), (5, _), (8, _), (9, _)] ⟨rfl, rfl, rfl, rfl, rfl, trivial⟩ (fun (row : Nat) (M4 : Mx) => [(16, .int .i64 (row : Int))]) (fun row M4 w' => (row ≤ 4 ∧ Gr M k M4 i row ∧ Blk w' g 135 (mc M4)) ∧ Ex w0 w') (fun row M4 => 4 - row) (0) (_) ⟨rfl, trivial⟩ ⟨⟨by omega, hgr0, hbw4⟩, hxwl1⟩ ?_
   rintro row M4 wl7 ⟨⟨hrow, hgr, hbk⟩, hxwl7⟩
   refine CW.sub (S' := [(16, _), (0, _), (1, _), (5, _), (8, _), (9, _)]) ⟨rfl, rfl, rfl, rfl, rfl, rfl, trivial⟩ ?_
   refine CW.seq (CW.region ?_)
   refine RG.vl rfl rfl rfl (Ev.lss rfl rfl rfl) ?_
   refine RG.done (QW.then_ (CW.seq ?_))
   refine CW.condP rfl (fun hc8 => ?_) (fun hc8 => ?_)
   ·refine CW.skip (QW.then_ (CW.seq (CW.block (CW.seq (CW.region ?_)))))
    refine RG.vl rfl rfl rfl (Ev.move rfl rfl) ?_
    refine RG.vl rfl rfl rfl (Ev.assign rfl rfl) ?_
    refine RG.done (QW.then_ (CW.seq (CW.region ?_)))
    refine RG.vl rfl rfl rfl (Ev.move rfl rfl) ?_
    refine RG.vl rfl rfl rfl (Ev.move rfl rfl) ?_
    refine RG.vl rfl rfl rfl (Ev.neI rfl rfl rfl) ?_
    refine RG.vl rfl rfl rfl (Ev.move rfl rfl) ?_
    refine RG.split (d := 22) rfl (fun hg9 => ?_) (fun hg9 => ?_)
    ·refine RG.vl rfl rfl rfl (Ev.move rfl rfl) ?_
     refine RG.vl rfl rfl rfl (Ev.move rfl rfl) ?_
     refine RG.vl rfl rfl rfl (Ev.move rfl rfl) ?_
     refine RG.vl rfl rfl rfl (Ev.nilC rfl rfl) ?_
     refine RG.vl rfl rfl rfl (Ev.idxA rfl rfl rfl Tryz.underlying135 sz_133 (by omega)) ?_
     refine RG.vl rfl rfl rfl (Ev.idxA rfl rfl rfl Tryz.underlying133 sz_5 (by omega)) ?_
     refine RG.vl rfl rfl rfl (Ev.ldAA rfl rfl Tryz.underlying5 rfl (hbk.cells) ((show (mc _)[row * 5 + i * 1]? = some (.int .u8 (M4 row i : Int)) by rw [mc_at _ (by omega) (by omega)]))) ?_
     refine RG.vl rfl rfl rfl (Ev.neI rfl rfl rfl) ?_
     refine RG.vl rfl rfl rfl (Ev.pickT rfl rfl rfl) ?_
     refine RG.done ?_
     refine QW.sub (S' := [(0, _), (1, _), (5, _), (6, _), (8, _), (9, _), (16, _), (31, _)]) ⟨rfl, rfl, rfl, rfl, rfl, rfl, rfl, rfl, trivial⟩ ?_
     refine QW.then_ ?_
     refine CW.condP rfl (fun hc10 => ?_) (fun hc10 => ?_)
     ·refine CW.region ?_
      refine RG.vl rfl rfl rfl (Ev.move rfl rfl) ?_
      refine RG.vl rfl rfl rfl (Ev.move rfl rfl) ?_
      refine RG.vl rfl rfl rfl (Ev.move rfl rfl) ?_
      refine RG.vl rfl rfl rfl (Ev.move rfl rfl) ?_
      refine RG.vl rfl rfl rfl (Ev.move rfl rfl) ?_
      refine RG.vl rfl rfl rfl (Ev.move rfl rfl) ?_
      refine RG.vl rfl rfl rfl (Ev.nilC rfl rfl) ?_
      refine RG.vl rfl rfl rfl (Ev.idxA rfl rfl rfl Tryz.underlying135 sz_133 (by omega)) ?_
      refine RG.vl rfl rfl rfl (Ev.idxA rfl rfl rfl Tryz.underlying133 sz_5 (by omega)) ?_
      refine RG.vl rfl rfl rfl (Ev.ldAA rfl rfl Tryz.underlying5 rfl (hbk.cells) ((show (mc _)[row * 5 + i * 1]? = some (.int .u8 (M4 row i : Int)) by rw [mc_at _ (by omega) (by omega)]))) ?_
      refine RG.call rfl rfl rfl rfl rfl rfl rfl en_114 (subtract_ret w0 g row i (M4 row i) M4 _ hxwl7 hg0 hbk hgr.el (by omega) (by omega) (hgr.el row i (by omega) (by omega))) ?_
      rintro _ w11 ⟨rfl, hbw12, hxw13⟩
      replace hxwl7 := hxw13
      refine RG.done (QW.blockN (QW.then_ (CW.region ?_)))
      refine RG.vl rfl rfl rfl (Ev.addI rfl rfl rfl (by omega)) ?_
      refine RG.vl rfl rfl rfl (Ev.move rfl rfl) ?_
      refine RG.done ?_
      refine QW.round2 (row + 1) (_) ⟨rfl, trivial⟩ ⟨rfl, rfl, rfl, rfl, rfl, trivial⟩ ⟨⟨by omega, gr_sub hgr hk4 (by omega) (by omega) (by omega), hbw12⟩, hxwl7⟩ (by omega)
     ·refine CW.skip (QW.blockN (QW.then_ (CW.region ?_)))
      refine RG.vl rfl rfl rfl (Ev.addI rfl rfl rfl (by omega)) ?_
      refine RG.vl rfl rfl rfl (Ev.move rfl rfl) ?_
      refine RG.done ?_
      refine QW.round2 (row + 1) (M4) ⟨rfl, trivial⟩ ⟨rfl, rfl, rfl, rfl, rfl, trivial⟩ ⟨⟨by omega, gr_skip hgr (by omega), hbk⟩, hxwl7⟩ (by omega)
    ·refine RG.pass rfl rfl rfl ?_
     refine RG.pass rfl rfl rfl ?_
     refine RG.pass rfl rfl rfl ?_
     refine RG.pass rfl rfl rfl ?_
     refine RG.pass rfl rfl rfl ?_
     refine RG.pass rfl rfl rfl ?_
     refine RG.pass rfl rfl rfl ?_
     refine RG.pass rfl rfl rfl ?_
     refine RG.vl rfl rfl rfl (Ev.pickF rfl rfl rfl) ?_
     refine RG.done ?_
     refine QW.sub (S' := [(0, _), (1, _), (5, _), (6, _), (8, _), (9, _), (16, _), (31, _)]) ⟨rfl, rfl, rfl, rfl, rfl, rfl, rfl, rfl, trivial⟩ ?_
     refine QW.then_ ?_
     refine CW.condF rfl ?_
     refine CW.skip (QW.blockN (QW.then_ (CW.region ?_)))
     refine RG.vl rfl rfl rfl (Ev.addI rfl rfl rfl (by omega)) ?_
     refine RG.vl rfl rfl rfl (Ev.move rfl rfl) ?_
     refine RG.done ?_
     refine QW.round2 (row + 1) (M4) ⟨rfl, trivial⟩ ⟨rfl, rfl, rfl, rfl, rfl, trivial⟩ ⟨⟨by omega, gr_skip hgr (by omega), hbk⟩, hxwl7⟩ (by omega)
   ·refine CW.exit (QW.thenExit (QW.thenExit (QW.blockHit (QW.blockN (QW.then_ (CW.region ?_))))))
    refine RG.vl rfl rfl rfl (Ev.addI rfl rfl rfl (by omega)) ?_
    refine RG.vl rfl rfl rfl (Ev.move rfl rfl) ?_
    refine RG.done ?_
    refine QW.round2 (i + 1) (M4) ⟨rfl, trivial⟩ ⟨rfl, rfl, rfl, trivial⟩ ⟨⟨by omega, by obtain rfl : row = 4 := (by omega); exact gr_end hgr (by omega), hbk⟩, hxwl7⟩ (by omega)
 ·refine CW.exit (QW.thenExit (QW.thenExit (QW.blockHit (QW.then_ (CW.seq (CW.seq ?_))))))
  obtain rfl : i = k := by omega
  refine CW.region ?_
  refine RG.vl rfl rfl rfl (Ev.move rfl rfl) ?_
  refine RG.vl rfl rfl rfl (Ev.assign rfl rfl) ?_
  refine RG.done (QW.then_ (CW.block ?_))
  refine CW.loop1 [(0, _)] ⟨rfl, trivial⟩ (fun (row : Nat) => [(7, .int .i64 (row : Int))]) (fun row w' => (i ≤ row ∧ row ≤ 4 ∧ (∀ r, i ≤ r → r < row → M2 r 4 = 0) ∧ Blk w' g 135 (mc M2)) ∧ Ex w0 w') (fun row => 4 - row) (i) ⟨rfl, trivial⟩ ⟨⟨Nat.le_refl _, hk4, fun r h1 h2 => absurd h1 (by omega), hbk⟩, hxwl1⟩ ?_
  rintro row wl14 ⟨⟨hrk, hrow4, hz4, hbk⟩, hxwl14⟩
  refine CW.sub (S' := [(7, _), (0, _)]) ⟨rfl, rfl, trivial⟩ ?_
  refine CW.seq (CW.seq (CW.region ?_))
  refine RG.vl rfl rfl rfl (Ev.move rfl rfl) ?_
  refine RG.vl rfl rfl rfl (Ev.lss rfl rfl rfl) ?_
  refine RG.done (QW.then_ ?_)
  refine CW.condP rfl (fun hc15 => ?_) (fun hc15 => ?_)
  ·refine CW.skip (QW.then_ (CW.seq (CW.block (CW.seq (CW.region ?_)))))
   refine RG.vl rfl rfl rfl (Ev.move rfl rfl) ?_
   refine RG.vl rfl rfl rfl (Ev.move rfl rfl) ?_
   refine RG.vl rfl rfl rfl (Ev.nilC rfl rfl) ?_
   refine RG.vl rfl rfl rfl (Ev.idxA rfl rfl rfl Tryz.underlying135 sz_133 (by omega)) ?_
   refine RG.vl rfl rfl rfl (Ev.idxA (i := 4) rfl rfl rfl Tryz.underlying133 sz_5 (by omega)) ?_
   refine RG.vl rfl rfl rfl (Ev.ldAA rfl rfl Tryz.underlying5 rfl (hbk.cells) ((show (mc _)[row * 5 + 4 * 1]? = some (.int .u8 (M2 row 4 : Int)) by rw [mc_at _ (by omega) (by omega)]))) ?_
   refine RG.vl rfl rfl rfl (Ev.neI rfl rfl rfl) ?_
   refine RG.done (QW.then_ ?_)
   refine CW.condP rfl (fun hc16 => ?_) (fun hc16 => ?_)
   ·refine CW.seq (CW.region ?_)
    refine RG.vl rfl rfl rfl (Ev.assign rfl rfl) ?_
    refine RG.done (QW.then_ (CW.ret (QW.blockR (QW.thenRet (QW.thenRet (QW.blockR ?_))))))
    refine QW.thenRet ?_
    refine QW.ret1 rfl rfl ?_
    exact ⟨false, _, rfl, hbk, gs_no hgs hrk (by omega) (by omega), hxwl14⟩
   ·refine CW.skip (QW.blockN (QW.then_ (CW.region ?_)))
    refine RG.vl rfl rfl rfl (Ev.move rfl rfl) ?_
    refine RG.vl rfl rfl rfl (Ev.addI rfl rfl rfl (by omega)) ?_
    refine RG.vl rfl rfl rfl (Ev.assign rfl rfl) ?_
    refine RG.done ?_
    refine QW.round1 (row + 1) ⟨rfl, trivial⟩ ⟨rfl, trivial⟩ ⟨⟨by omega, by omega, fun r h1 h2 => by rcases Nat.lt_or_ge r row with h | h; exact hz4 r h1 h; obtain rfl : r = row := (by omega); omega, hbk⟩, hxwl14⟩ (by omega)
  ·refine CW.exit (QW.thenExit (QW.thenExit (QW.blockHit (QW.then_ (CW.seq (CW.region ?_))))))
   refine RG.vl rfl rfl rfl (Ev.assign rfl rfl) ?_
   refine RG.done (QW.then_ (CW.ret ?_))
   refine QW.ret1 rfl rfl ?_
   obtain rfl : row = 4 := by omega
   exact ⟨true, _, rfl, hbk, gs_yes hgs hk4 (fun r h1 h2 => hz4 r h1 h2), hxwl14⟩

end Go.Proofs.YtgjnchjkjdnidaaGreat

/- A range over a function whose iterator tells something of the memory behind each element; a return of two boxed results behind it. -/
namespace Go.Proofs.YtgjnchjkjdnidaaGreat
open Go.RowKit
def Kc (n0 : Nat) (A B : World) : Prop := Below n0 A B ∧ ∀ (k : Nat) (c : Array Value) (T : TypeId) (fz : Nat × Nat), A.heap[k]? = some (.cells c T fz) → B.heap[k]? = some (.cells c T fz)
theorem Kc.trans {n0 : Nat} {A B C : World} (h : Kc n0 A B) (k : Kc n0 B C) : Kc n0 A C := ⟨Below.trans h.1 k.1, fun i c T fz hi => k.2 i c T fz (h.2 i c T fz hi)⟩
theorem grown_put {A : World} {l : Nat} (o' : Obj) : A.grownBy (A.putObj l o') (some l) :=
  ⟨rfl, rfl, rfl, by simp, fun k _ hk => World.putObj_heap_other (fun e => hk (by rw [e]))⟩
theorem Kc.put {n0 : Nat} {A : World} {l : Nat} {o : Obj} (o' : Obj) (hl : n0 ≤ l) (h : A.heap[l]? = some o) (hc : o.isCells = false) : Kc n0 A (A.putObj l o') := by
  refine ⟨(Below.refl _ A).grown (grown_put o') (by have := (Array.getElem?_eq_some_iff.1 h).1; omega) (fun k e => by cases e; exact hl), fun k c T fz hk => ?_⟩
  have hne : k ≠ l := fun e => by subst e; rw [h] at hk; cases hk; cases hc
  exact (World.putObj_heap_other hne).trans hk
theorem Kc.of_ex {n0 : Nat} {A B : World} (h : Ex A B) (hn : n0 ≤ A.heap.size) : Kc n0 A B := ⟨Below.mono h hn, fun k _ _ _ hk => (h.block k (Array.getElem?_eq_some_iff.1 hk).1).trans hk⟩
theorem others_ex {A B : World} (h : Ex A B) : KeepsOthers A B := ⟨h.size, fun k _ hk _ => (h.block k (Array.getElem?_eq_some_iff.1 hk).1).trans hk⟩
def toldPost {α : Type} (n0 : Nat) (I Ix : List α → World → Prop) (xs : List α) (A : World) : Exit → Act → World → Prop
  | .normal, _, B => KeepsOthers A B ∧ Kc n0 A B ∧ I xs B
  | .ret, _, B => KeepsOthers A B ∧ Ix xs B
  | _, _, _ => False
def Calm {α : Type} (n : Nat) (J : List α → World → Prop) : Prop := ∀ s A B row, J s A → A.grownBy B row → (∀ r, row = some r → n ≤ r) → J s B
def SeqTold {α : Type} (k : Nat) (P : Program) (gf : Nat) (lb : Array Value) (encs : α → Array Value) (Rx : List α → α → World → Prop) (S : List α → Prop) (w : World) : Prop :=
  ∀ (l : Nat) (J Jx : List α → World → Prop) (W : World), Below w.heap.size w W → w.heap.size ≤ W.heap.size → Calm W.heap.size J →
    (∀ pre x A, J pre A → Rx pre x A → YieldAt Fence.wide (k - 1) P l (encs x) A fun e B => (e = .returned (.bool true) ∧ J (pre ++ [x]) B ∧ Kc w.heap.size A B) ∨ (e = .returned (.bool false) ∧ Jx (pre ++ [x]) B)) →
    J [] W → CallsIn Fence.wide k P gf (#[.func (.yield l) #[] #[]] ++ lb) W fun e B => (∃ v, e = .returned v) ∧ ((∃ xs, S xs ∧ J xs B) ∨ ∃ pre, Jx pre B)
theorem wpIn_rangeTold {α : Type} {P : Program} {g : Operand} {ps : Array Tmp} {assign body : Code} {Q : Exit → Act → World → Prop} {a : Act} {w : World} {k : Nat} (h1 : 1 ≤ k) {gf : Nat} {lb : Array Value}
    (hg : a.eval g = .func (.func gf) #[] lb) (eg : ∀ args w, (callFunc gf args).run P w = .ok (.enter gf args) w) {encs : α → Array Value} {Rx : List α → α → World → Prop} {S : List α → Prop} (hseq : SeqTold (k - 1) P gf lb encs Rx S w) (hps : ∀ x, (encs x).size = ps.size)
    (I Ix : List α → World → Prop) (hI : Calm w.heap.size I) (hIx : ∀ s A l o o', Ix s A → w.heap.size ≤ l → A.heap[l]? = some o → o.isCells = false → Ix s (A.putObj l o'))
    (hRx : ∀ s x A l o o', Rx s x A → A.heap[l]? = some o → o.isCells = false → Rx s x (A.putObj l o')) (h0 : I [] w) (a₁ : α → Act)
    (hassign : ∀ (l : Nat) (x : α) (W : World) (K : Act → World → Prop), K (a₁ x) W → assign.wpIn (Fence.wide.inRound l) (k - 1 - 1) P (Exit.then K (fun _ _ _ => False)) { tmps := (ps.zip (encs x)).foldl (fun t (p, v) => t.setIfInBounds p v) a.tmps, defers := [] } W)
    (hbody : ∀ (l : Nat) (pre : List α) (x : α) (W : World), I pre W → Rx pre x W → body.wpIn (Fence.wide.inRound l) (k - 1 - 1) P (toldPost w.heap.size I Ix (pre ++ [x]) W) (a₁ x) W)
    (hdone : ∀ (D : Nat) (xs : List α) (W : World), w.heap.size ≤ D → S xs → I xs W → W.heap[D]? = some (.deferred (some [])) → Q .normal { a with defers := { target := .collected D, args := #[] } :: a.defers } W)
    (hstop : ∀ (D : Nat) (pre : List α) (W : World), w.heap.size ≤ D → Ix pre W → W.heap[D]? = some (.deferred (some [])) → Code.ret.wpIn Fence.wide k P Q { a with defers := { target := .collected D, args := #[] } :: a.defers } W) :
    (Code.rangeFunc g ps assign body).wpIn Fence.wide k P Q a w := by
  refine wpIn_rangeFunc fun fn hfn => ?_
  obtain ⟨rec, hrec⟩ : ∃ rec : LoopState → Option Code → Loop, rec = fun st pe => { state := st, pending := pe, fn, tmps := a.tmps, params := ps, assign, body, defers := w.heap.size } := ⟨_, rfl⟩
  obtain ⟨W1, hW1⟩ : ∃ W1, (w.alloc (.deferred (some []))).alloc (.loop (rec .ready none)) = W1 := ⟨_, rfl⟩
  have hsz : W1.heap.size = w.heap.size + 2 := by rw [← hW1]; simp
  have hL1 : W1.heap[w.heap.size + 1]? = some (.loop (rec .ready none)) := by
    have := World.alloc_heap_new (w.alloc (.deferred (some []))) (.loop (rec .ready none))
    rw [World.size_alloc, hW1] at this; exact this
  have hK1 : W1.heap[w.heap.size]? = some (.deferred (some [])) := by
    rw [← hW1]; exact (Below.heap_alloc _ _ _ (by simp)).trans (World.alloc_heap_new w _)
  have hx1 : Ex w W1 := by rw [← hW1]; exact Ex.tr (Ex.of_alloc w _) (Ex.of_alloc _ _)
  have hI1 : I [] W1 := hI [] w W1 none h0 ⟨hx1.os, hx1.tape, hx1.output, hx1.size, fun k hk _ => hx1.block k hk⟩ (fun r e => by cases e)
  have putI : ∀ s A o', I s A → I s (A.putObj (w.heap.size + 1) o') := fun s A o' h => hI s A _ (some (w.heap.size + 1)) h (grown_put o') (fun r e => by cases e; omega)
  refine ⟨w.heap.size + 1, [{ target := .collected w.heap.size, args := #[] }], W1, { target := .fn (.func gf) lb, args := #[.func (.yield (w.heap.size + 1)) #[] #[]] }, W1, gf, #[.func (.yield (w.heap.size + 1)) #[] #[]] ++ lb, W1, ?_, ?_, fun f' _ => trivial, ?_, fun _ => h1, ?_⟩
  · rw [← hW1, hrec]; exact run_enterLoop_outer _ _ _ _ _
  · simp only [resolve, hg]
    simp [go_sem]
  · simp [invoke, go_sem, eg]
  refine (hseq (w.heap.size + 1) (fun pre A => I pre A ∧ A.heap[w.heap.size + 1]? = some (.loop (rec .ready none)) ∧ A.heap[w.heap.size]? = some (.deferred (some [])))
    (fun pre A => Ix pre A ∧ A.heap[w.heap.size + 1]? = some (.loop (rec .done (some .ret))) ∧ A.heap[w.heap.size]? = some (.deferred (some []))) W1 hx1 hx1.size ?_ ?_ ⟨hI1, hL1, hK1⟩).mono ?_
  · rintro s A B row ⟨h, hl, hk⟩ hgr hr
    have l1 := (Array.getElem?_eq_some_iff.1 hl).1
    have l2 := (Array.getElem?_eq_some_iff.1 hk).1
    exact ⟨hI s A B row h hgr (fun r e => by have := hr r e; omega), (hgr.block _ l1 (fun e => by have := hr _ e.symm; omega)).trans hl, (hgr.block _ l2 (fun e => by have := hr _ e.symm; omega)).trans hk⟩
  · rintro pre x A ⟨hi, hl, hk⟩ hrx
    have hlt : w.heap.size + 1 < A.heap.size := (Array.getElem?_eq_some_iff.1 hl).1
    have hy := run_yield (P := P) (args := encs x) hl (by rw [hrec]; exact hps x)
    rw [hrec] at hy
    refine ⟨fn, _, assign, body, hy, roundIn_of_wpIn hfn (hassign _ x A _ ⟨_, run_beginRound hl (by rw [hrec]), ?_⟩)⟩
    obtain ⟨A2, hA2⟩ : ∃ A2, A.putObj (w.heap.size + 1) (.loop { rec .ready none with state := .busy }) = A2 := ⟨_, rfl⟩
    have hl2 : A2.heap[w.heap.size + 1]? = some (.loop { rec .ready none with state := .busy }) := by rw [← hA2]; exact World.putObj_heap_same hlt
    have hk2 : A2.heap[w.heap.size]? = some (.deferred (some [])) := by rw [← hA2]; exact (World.putObj_heap_other (by omega)).trans hk
    have hkc : Kc w.heap.size A A2 := by rw [← hA2]; exact Kc.put _ (by omega) hl rfl
    have hi2 : I pre A2 := by rw [← hA2]; exact putI _ _ _ hi
    have hrx2 : Rx pre x A2 := by rw [← hA2]; exact hRx _ _ _ _ _ _ hrx hl rfl
    rw [hA2]
    refine wpIn_mono (hbody _ pre x A2 hi2 hrx2) ?_
    rintro e a3 B hp
    have fin : ∀ (jump : Option Code), KeepsOthers A2 B → (Instr.endRound (w.heap.size + 1) jump).run P B = .ok (.bool jump.isNone) (B.putObj (w.heap.size + 1) (.loop (rec (if jump.isNone then .ready else .done) jump))) ∧ B.heap[w.heap.size + 1]? = some (.loop { rec .ready none with state := .busy }) ∧
        (B.putObj (w.heap.size + 1) (.loop (rec (if jump.isNone then .ready else .done) jump))).heap[w.heap.size + 1]? = some (.loop (rec (if jump.isNone then .ready else .done) jump)) ∧
        (B.putObj (w.heap.size + 1) (.loop (rec (if jump.isNone then .ready else .done) jump))).heap[w.heap.size]? = some (.deferred (some [])) := fun jump hko => by
      have hl3 := hko.same _ _ hl2 rfl
      have := run_endRound (P := P) jump hl3
      rw [hrec] at this ⊢
      exact ⟨this, by rw [hrec] at hl3; exact hl3, World.putObj_heap_same (Array.getElem?_eq_some_iff.1 hl3).1, (World.putObj_heap_other (by omega)).trans (hko.same _ _ hk2 rfl)⟩
    cases e with
    | normal =>
      obtain ⟨hko, hkb, hib⟩ := hp
      obtain ⟨hr, hl3, hl4, hk4⟩ := fin none hko
      exact ⟨_, _, hr, .inl ⟨rfl, ⟨putI _ _ _ hib, hl4, hk4⟩, (hkc.trans hkb).trans (Kc.put _ (by omega) hl3 rfl)⟩⟩
    | ret =>
      obtain ⟨hko, hib⟩ := hp
      obtain ⟨hr, hl3, hl4, hk4⟩ := fin (some .ret) hko
      exact ⟨_, _, hr, .inr ⟨rfl, hIx _ _ _ _ _ hib (by omega) hl3 rfl, hl4, hk4⟩⟩
    | exit id => exact hp.elim
    | goto t => exact hp.elim
    | panic ch => exact hp.elim
    | outgrown => exact hp.elim
  · rintro e B ⟨⟨v, rfl⟩, ⟨xs, hS, hi, hl, hk⟩ | ⟨pre, hi, hl, hk⟩⟩
    · refine ⟨none, _, (by have := run_endLoop (P := P) hl (by rw [hrec]; simp); rw [hrec] at this; exact this), hdone _ xs _ (Nat.le_refl _) hS (putI _ _ _ hi) ((World.putObj_heap_other (by omega)).trans hk)⟩
    · refine ⟨some .ret, _, (by have := run_endLoop (P := P) hl (by rw [hrec]; simp); rw [hrec] at this; exact this), hstop _ pre _ (Nat.le_refl _) (hIx _ _ _ _ _ hi (by omega) hl rfl) ((World.putObj_heap_other (by omega)).trans hk)⟩
/-! results in two boxes -/
section
variable {P : Program} {Q : Exit → Act → World → Prop} {k n : Nat} {S : Slots} {w : World}
theorem CWI.ofCW {c : Code} (h : CW P c Q n S w) : CWI Fence.wide k P c Q [] n S w := fun a ha => wpIn_wide.2 (h a ha.fr)
theorem results_cells2 {fn : Func} {tmps : Array Value} {p q T U m g h : Nat} {D E : TypeDesc} {us : List Value} {x : Value} {t2 : TypeId} (hr : fn.results = #[.cell p T, .cell q U]) (hp : tmps.getD p undef = .pointer (some ⟨g, 0, none⟩)) (hq : tmps.getD q undef = .pointer (some ⟨h, 0, none⟩))
    (ht : P.underlying T = some D) (hD : aggD D = true) (hs : sizeP P T = some m) (hm : us.length = m) (hb : Blk w g T us) (hu : P.underlying U = some E) (hE : aggD E = false) (hb2 : Blk w h t2 [x]) : (results fn tmps).run P w = .ok (.tuple #[.agg us.toArray, x]) w := by
  have hl := run_loadCells_list (P := P) w ⟨g, 0, none⟩ us (fun j v hj => hb.cells j v hj)
  have hc : w.cell? ⟨h, 0, none⟩ = some x := by have := hb2.cells 0 x rfl; rwa [add_zero_] at this
  simp only [results, hr]
  have hp' : tmps[p]?.getD undef = .pointer (some ⟨g, 0, none⟩) := by simpa [Array.getD_eq_getD_getElem?] using hp
  have hq' : tmps[q]?.getD undef = .pointer (some ⟨h, 0, none⟩) := by simpa [Array.getD_eq_getD_getElem?] using hq
  simp [Sem.run_bind, Result.andThen, hp', hq', asAddr, loadVar, run_isAgg ht, hD, run_sizeOf hs, ← hm, hl, run_isAgg hu, hE, hc]
theorem retBox {fn : Func} {Φ : Value → World → Prop} {p q T U m g h : Nat} {D E : TypeDesc} {us : List Value} {x : Value} {t2 : TypeId} (hr : fn.results = #[.cell p T, .cell q U]) (hp : lk S p = some (.pointer (some ⟨g, 0, none⟩))) (hq : lk S q = some (.pointer (some ⟨h, 0, none⟩)))
    (ht : P.underlying T = some D) (hD : aggD D = true) (hs : sizeP P T = some m) (hm : us.length = m) (hb : Blk w g T us) (hu : P.underlying U = some E) (hE : aggD E = false) (hb2 : Blk w h t2 [x]) (hφ : Φ (.tuple #[.agg us.toArray, x]) w) :
    QW (bodyPostM Fence.wide k P fn (fun e w' => ∃ v, e = .returned v ∧ Φ v w')) .ret n S w := by
  intro a ha
  have hp' : a.tmps.getD p undef = .pointer (some ⟨g, 0, none⟩) := by have := ha.eval (x := .tmp p) hp; simpa [Act.eval, Array.getD_eq_getD_getElem?] using this
  have hq' : a.tmps.getD q undef = .pointer (some ⟨h, 0, none⟩) := by have := ha.eval (x := .tmp q) hq; simpa [Act.eval, Array.getD_eq_getD_getElem?] using this
  show LeavesInM Fence.wide k P fn a.tmps _ a.defers .returning w
  rw [ha.df]
  exact ⟨_, results_cells2 hr hp' hq' ht hD hs hm hb hu hE hb2, _, rfl, hφ⟩
theorem retBoxM {fn : Func} {Φ : Value → World → Prop} {p q T U m g h d : Nat} {D E : TypeDesc} {us : List Value} {x : Value} {t2 : TypeId} (hr : fn.results = #[.cell p T, .cell q U]) (hp : lk S p = some (.pointer (some ⟨g, 0, none⟩))) (hq : lk S q = some (.pointer (some ⟨h, 0, none⟩)))
    (ht : P.underlying T = some D) (hD : aggD D = true) (hs : sizeP P T = some m) (hm : us.length = m) (hb : Blk w g T us) (hu : P.underlying U = some E) (hE : aggD E = false) (hb2 : Blk w h t2 [x]) (hK : w.heap[d]? = some (.deferred (some []))) (hφ : Φ (.tuple #[.agg us.toArray, x]) (w.putObj d (.deferred none))) :
    ∀ a, FrD [{ target := .collected d, args := #[] }] n S a → bodyPostM Fence.wide k P fn (fun e w' => ∃ v, e = .returned v ∧ Φ v w') .ret a w := by
  intro a ha
  have hp' : a.tmps.getD p undef = .pointer (some ⟨g, 0, none⟩) := by have := ha.1.eval (x := .tmp p) hp; simpa [Act.eval, Array.getD_eq_getD_getElem?] using this
  have hq' : a.tmps.getD q undef = .pointer (some ⟨h, 0, none⟩) := by have := ha.1.eval (x := .tmp q) hq; simpa [Act.eval, Array.getD_eq_getD_getElem?] using this
  have n1 : ∀ {e : Nat} {t : TypeId} {cs : List Value}, Blk w e t cs → Blk (w.putObj d (.deferred none)) e t cs := fun {e t cs} hb => by
    have hne : e ≠ d := fun x => by subst x; unfold Blk at hb; rw [hK] at hb; cases hb
    exact (World.putObj_heap_other hne).trans hb
  show LeavesInM Fence.wide k P fn a.tmps _ a.defers .returning w
  rw [ha.2]
  exact ⟨by simp, .inl ⟨_, _, rfl, run_takeDeferred hK, ⟨_, results_cells2 hr hp' hq' ht hD hs hm (n1 hb) hu hE (n1 hb2), _, rfl, hφ⟩⟩⟩
end
end Go.Proofs.YtgjnchjkjdnidaaGreat

/- Walks (SI). Written by program. -/
namespace Go.Proofs.YtgjnchjkjdnidaaGreat
open Go.RowKit
set_option maxRecDepth 100000 in
set_option maxHeartbeats 2000000 in
theorem eqsOf_ret (n : Nat) (u : Value) (P sL : List Nat) (w : World) (hl : RdL w 1 encZ u P) (hP : P.length ≤ 4) (hn : n ≤ 63) (hp : ∀ a ∈ P, a < n) (hs : sL.length = 4) :
  Ret Tryz.prog 69 [.int .i64 (n : Int), u, .agg (encs4 sL).toArray] w (fun v w' => v = .agg (mc (eqM n P sL)).toArray ∧ Ex w w') := by
 obtain ⟨s0, s1, s2, s3, rfl⟩ : ∃ a b c d, sL = [a, b, c, d] := by match sL, hs with | [a, b, c, d], _ => exact ⟨a, b, c, d, rfl⟩
 obtain ⟨sL, hsL⟩ : ∃ l : List Nat, l = [s0, s1, s2, s3] := ⟨_, rfl⟩
 have hs4 : sL.length = 4 := by rw [hsL]; rfl
 rw [← hsL]
 have hB0 : Ex w w := Ex.rfl_ _
 refine Ret.of Tryz.func69 rfl Tryz.ntmps69 rfl ?_
 refine CW.seq (CW.region ?_)
 refine RG.box rfl rfl rfl rfl rfl (fun gS w1 egS hx1 hb1 => ?_)
 have hle2 : w.heap.size ≤ gS := by have := (Ex.rfl_ w).size; omega
 have hE3 := hx1
 refine RG.alloc_ rfl rfl rfl rfl inf_135 (fun gR w4 egR hx4 hb4 => ?_)
 have hle5 : w.heap.size ≤ gR := by have := hE3.size; omega
 have hle6 : w1.heap.size ≤ gR := by have := (Ex.rfl_ w1).size; omega
 have hlt7 : gS < gR := by have := Blk.lt hb1; omega
 replace hE3 := Ex.tr hE3 hx4
 have hE8 := hx4
 refine RG.done (QW.then_ (CW.seq (CW.region ?_)))
 refine RG.alloc_ rfl rfl rfl rfl inf_135 (fun gE w9 egE hx9 hb9 => ?_)
 have hle10 : w.heap.size ≤ gE := by have := hE3.size; omega
 have hle11 : w1.heap.size ≤ gE := by have := hE8.size; omega
 have hle12 : w4.heap.size ≤ gE := by have := (Ex.rfl_ w4).size; omega
 have hlt13 : gS < gE := by have := Blk.lt (hb1.ext hE8); omega
 have hlt14 : gR < gE := by have := Blk.lt hb4; omega
 replace hE3 := Ex.tr hE3 hx9
 replace hE8 := Ex.tr hE8 hx9
 have hE15 := hx9
 refine RG.done (QW.then_ (CW.seq (CW.seq (CW.region ?_))))
 refine RG.vl rfl rfl rfl (Ev.move rfl rfl) ?_
 refine RG.done (QW.then_ (CW.block ?_))
 refine CW.loop1 [(0, _), (1, _), (5, _), (6, _), (7, _)] ⟨rfl, rfl, rfl, rfl, rfl, trivial⟩ (fun (row : Nat) => [(11, .int .i64 (row : Int))]) (fun row w' => (row ≤ 4 ∧ Blk w' gE 135 (mc (stO n P sL row)) ∧ Blk w' gS 128 (encs4 sL) ∧ Blk w' gR 135 (mc fun _ _ => 0)) ∧ Ex w w') (fun row => 4 - row) (0) ⟨rfl, trivial⟩ ⟨⟨by omega, by rw [stO_zero, ← mc_zero]; exact hb9, (hb1.ext hE8), (hb4.ext hE15)⟩, (Ex.tr hB0 hE3)⟩ ?_
 rintro row wl16 ⟨⟨hrow, hbE, hbS, hbR⟩, hxwl16⟩
 refine CW.sub (S' := [(11, _), (0, _), (1, _), (5, _), (6, _), (7, _)]) ⟨rfl, rfl, rfl, rfl, rfl, rfl, trivial⟩ ?_
 refine CW.seq (CW.region ?_)
 refine RG.vl rfl rfl rfl (Ev.lss rfl rfl rfl) ?_
 refine RG.done (QW.then_ (CW.seq ?_))
 refine CW.condP rfl (fun hc17 => ?_) (fun hc17 => ?_)
 ·refine CW.skip (QW.then_ (CW.seq (CW.block (CW.seq (CW.region ?_)))))
  refine RG.vl rfl rfl rfl (Ev.move rfl rfl) ?_
  refine RG.vl rfl rfl rfl (Ev.assign rfl rfl) ?_
  refine RG.done (QW.then_ (CW.seq (CW.seq (CW.region ?_))))
  refine RG.vl rfl rfl rfl (Ev.move rfl rfl) ?_
  refine RG.vl rfl rfl rfl (Ev.lenL rfl rfl rfl Tryz.underlying29 ((hl.ext hxwl16))) ?_
  refine RG.vl rfl rfl rfl (Ev.move rfl rfl) ?_
  refine RG.done (QW.then_ (CW.block ?_))
  refine CW.loop1 [(0, _), (1, _), (5, _), (6, _), (7, _), (8, _), (11, _), (14, _), (15, _)] ⟨rfl, rfl, rfl, rfl, rfl, rfl, rfl, rfl, rfl, trivial⟩ (fun (j : Nat) => [(16, .int .i64 (j : Int))]) (fun j w' => (j ≤ P.length ∧ Blk w' gE 135 (mc (stI n P sL row j)) ∧ Blk w' gS 128 (encs4 sL) ∧ Blk w' gR 135 (mc fun _ _ => 0)) ∧ Ex w w') (fun j => P.length - j) (0) ⟨rfl, trivial⟩ ⟨⟨Nat.zero_le _, by rw [stI_zero]; exact hbE, hbS, hbR⟩, (Ex.tr hB0 hxwl16)⟩ ?_
  rintro j wl18 ⟨⟨hj, hbE, hbS, hbR⟩, hxwl18⟩
  refine CW.sub (S' := [(16, _), (0, _), (1, _), (5, _), (6, _), (7, _), (8, _), (11, _), (14, _), (15, _)]) ⟨rfl, rfl, rfl, rfl, rfl, rfl, rfl, rfl, rfl, rfl, trivial⟩ ?_
  refine CW.seq (CW.region ?_)
  refine RG.vl rfl rfl rfl (Ev.lss rfl rfl rfl) ?_
  refine RG.done (QW.then_ (CW.seq ?_))
  refine CW.condP rfl (fun hc19 => ?_) (fun hc19 => ?_)
  ·refine CW.skip (QW.then_ (CW.seq (CW.block (CW.seq ?_))))
   obtain ⟨a, hpl⟩ : ∃ a, P[j]? = some a := ⟨_, List.getElem?_eq_getElem (by omega)⟩
   refine CW.region ?_
   refine RG.vl rfl rfl rfl (Ev.move rfl rfl) ?_
   refine RG.idxL rfl rfl rfl rfl rfl rfl Tryz.underlying29 sz_3 ((hl.ext hxwl18)) (hpl) (fun p20 hp20b hp20 => ?_)
   refine RG.vl rfl rfl rfl (Ev.ld0 rfl rfl Tryz.underlying3 rfl (hp20) (rfl)) ?_
   refine RG.vl rfl rfl rfl (Ev.assign rfl rfl) ?_
   refine RG.vl rfl rfl rfl (Ev.assign rfl rfl) ?_
   refine RG.done (QW.then_ ?_)
   have han := hp a (List.mem_of_getElem? hpl)
   obtain ⟨m, hm⟩ : ∃ m, m = n - 1 - a := ⟨_, rfl⟩
   have hmul : (row + 1) * m ≤ 4 * 62 := Nat.mul_le_mul (by omega) (by omega)
   refine CW.draw [15] (.ex) 16 rfl mixed (fun wd21 hxwd21 => ?_)
   replace hxwl18 := Ex.tr hxwl18 hxwd21
   have hE22 := hxwd21
   refine AG.takeW 0 rfl (by kernel_rfl) (by kernel_rfl) rfl rfl rfl (fun _ => Ev.move rfl rfl) ?_
   refine AG.takeW 1 rfl (by kernel_rfl) (by kernel_rfl) rfl rfl rfl (fun _ => Ev.move rfl rfl) ?_
   refine AG.takeW 2 rfl (by kernel_rfl) (by kernel_rfl) rfl rfl rfl (fun _ => Ev.move rfl rfl) ?_
   refine AG.takeW 3 rfl (by kernel_rfl) (by kernel_rfl) rfl rfl rfl (fun _ => (Ev.addI rfl rfl rfl (by omega)).conv (congrArg (Value.int .i64) (show (row : Int) + 1 = ((row + 1 : Nat) : Int) by omega))) ?_
   refine AG.takeW 4 rfl (by kernel_rfl) (by kernel_rfl) rfl rfl rfl (fun _ => Ev.move rfl rfl) ?_
   refine AG.takeW 5 rfl (by kernel_rfl) (by kernel_rfl) rfl rfl rfl (fun _ => Ev.subI rfl rfl rfl (by omega)) ?_
   refine AG.takeW 6 rfl (by kernel_rfl) (by kernel_rfl) rfl rfl rfl (fun _ => Ev.move rfl rfl) ?_
   refine AG.takeW 7 rfl (by kernel_rfl) (by kernel_rfl) rfl rfl rfl (fun _ => (Ev.subI rfl rfl rfl (by omega)).conv (congrArg (Value.int .i64) (show _ = (m : Int) by omega))) ?_
   refine AG.takeW 8 rfl (by kernel_rfl) (by kernel_rfl) rfl rfl rfl (fun _ => (Ev.mulI rfl rfl rfl (by rw [← Int.natCast_mul]; omega)).conv (congrArg (Value.int .i64) (Int.natCast_mul (row + 1) m).symm)) ?_
   refine AG.takeW 13 rfl (by kernel_rfl) (by kernel_rfl) rfl rfl rfl (fun _ => Ev.idxA rfl rfl rfl Tryz.underlying135 sz_133 (by omega)) ?_
   refine AG.only 9 rfl (by kernel_rfl) ?_
   refine RG.call rfl rfl rfl rfl rfl rfl rfl en_112 (Pow_el _ ((row + 1) * m)) ?_
   rintro _ w24 ⟨rfl, hx24⟩
   replace hxwl18 := Ex.tr hxwl18 hx24
   replace hE22 := Ex.tr hE22 hx24
   have hE25 := hx24
   refine RG.done ?_
   refine QW.an (fun _ => hE25) ?_
   refine AG.takeW 10 rfl (by kernel_rfl) (by kernel_rfl) rfl rfl rfl (fun _ => Ev.move rfl rfl) ?_
   refine AG.takeW 11 rfl (by kernel_rfl) (by kernel_rfl) rfl rfl rfl (fun _ => Ev.extract rfl rfl rfl) ?_
   refine AG.takeW 12 rfl (by kernel_rfl) (by kernel_rfl) rfl rfl rfl (fun _ => Ev.extract rfl rfl rfl) ?_
   refine AG.takeW 14 rfl (by kernel_rfl) (by kernel_rfl) rfl rfl rfl (fun _ => Ev.idxA rfl rfl rfl Tryz.underlying133 sz_5 (by omega)) ?_
   refine AG.only 15 rfl (by kernel_rfl) ?_
   refine RG.st2 (g := gE) rfl rfl rfl rfl rfl sz_5 rfl (hbE.ext hE22) (by rw [mc_len, Nat.blt_eq]; omega) (fun ws27 hwws27 hbws27 => ?_)
   replace hbS := Blk.far (hbS.ext hE22) hwws27 (by omega)
   replace hbR := Blk.far (hbR.ext hE22) hwws27 (by omega)
   replace hxwl18 := Wr.below hxwl18 hwws27 hle10
   rw [mc_set _ _ (by omega), hm, stI_more hP hpl] at hbws27
   refine RG.done ?_
   refine QW.an (fun h => by simp at h) ?_
   refine AG.done (by kernel_rfl) ?_
   refine QW.sub (S' := [(0, _), (1, _), (5, _), (6, _), (7, _), (8, _), (11, _), (14, _), (15, _), (16, _)]) ⟨rfl, rfl, rfl, rfl, rfl, rfl, rfl, rfl, rfl, rfl, trivial⟩ ?_
   refine QW.blockN (QW.then_ (CW.region ?_))
   refine RG.vl rfl rfl rfl (Ev.addI rfl rfl rfl (by omega)) ?_
   refine RG.vl rfl rfl rfl (Ev.move rfl rfl) ?_
   refine RG.done ?_
   refine QW.round1 (j + 1) ⟨rfl, trivial⟩ ⟨rfl, rfl, rfl, rfl, rfl, rfl, rfl, rfl, rfl, trivial⟩ ⟨⟨by omega, hbws27, hbS, hbR⟩, (Ex.tr hB0 hxwl18)⟩ (by omega)
  ·refine CW.exit (QW.thenExit (QW.thenExit (QW.blockHit (QW.then_ ?_))))
   obtain rfl : j = P.length := by omega
   refine CW.draw [6] (.ex) 7 rfl mixed (fun wd28 hxwd28 => ?_)
   replace hxwl18 := Ex.tr hxwl18 hxwd28
   have hE29 := hxwd28
   refine AG.takeW 0 rfl (by kernel_rfl) (by kernel_rfl) rfl rfl rfl (fun _ => Ev.move rfl rfl) ?_
   refine AG.takeW 1 rfl (by kernel_rfl) (by kernel_rfl) rfl rfl rfl (fun _ => Ev.move rfl rfl) ?_
   refine AG.takeW 2 rfl (by kernel_rfl) (by kernel_rfl) rfl rfl rfl (fun _ => Ev.idxA rfl rfl rfl Tryz.underlying128 sz_5 (by omega)) ?_
   refine AG.take 3 rfl (by kernel_rfl) (by kernel_rfl) rfl rfl rfl (fun wq hq => Ev.ldAt rfl rfl Tryz.underlying5 rfl (((hbS.ext hE29).ext hq).cells) ((show (encs4 sL)[row * 1]? = some (.int .u8 (cf sL row : Int)) by rw [List.getElem?_map, Nat.mul_one, getElem?_cf (by omega)]; rfl))) ?_
   refine AG.takeW 4 rfl (by kernel_rfl) (by kernel_rfl) rfl rfl rfl (fun _ => Ev.idxA rfl rfl rfl Tryz.underlying135 sz_133 (by omega)) ?_
   refine AG.takeW 5 rfl (by kernel_rfl) (by kernel_rfl) rfl rfl rfl (fun _ => Ev.idxA (i := 4) rfl rfl rfl Tryz.underlying133 sz_5 (by omega)) ?_
   refine AG.only 6 rfl (by kernel_rfl) ?_
   refine RG.st2 (g := gE) rfl rfl rfl rfl rfl sz_5 rfl (hbE.ext hE29) (by rw [mc_len, Nat.blt_eq]; omega) (fun ws31 hwws31 hbws31 => ?_)
   replace hbS := Blk.far (hbS.ext hE29) hwws31 (by omega)
   replace hbR := Blk.far (hbR.ext hE29) hwws31 (by omega)
   replace hxwl18 := Wr.below hxwl18 hwws31 hle10
   replace hbws31 : Blk ws31 gE 135 ((mc _).set (row * 5 + 4 * 1) _) := hbws31
   rw [mc_set _ _ (by omega), stI_end] at hbws31
   refine RG.done ?_
   refine QW.an (fun h => by simp at h) ?_
   refine AG.done (by kernel_rfl) ?_
   refine QW.blockN (QW.then_ (CW.region ?_))
   refine RG.vl rfl rfl rfl (Ev.addI rfl rfl rfl (by omega)) ?_
   refine RG.vl rfl rfl rfl (Ev.move rfl rfl) ?_
   refine RG.done ?_
   refine QW.round1 (row + 1) ⟨rfl, trivial⟩ ⟨rfl, rfl, rfl, rfl, rfl, trivial⟩ ⟨⟨by omega, hbws31, hbS, hbR⟩, (Ex.tr hB0 hxwl18)⟩ (by omega)
 ·refine CW.exit (QW.thenExit (QW.thenExit (QW.blockHit (QW.then_ (CW.seq ?_)))))
  obtain rfl : row = 4 := by omega
  rw [stO_end] at hbE
  refine CW.region ?_
  refine RG.vl rfl rfl rfl (Ev.ldAgg rfl rfl Tryz.underlying135 rfl sz_135 rfl (hbE.cells)) ?_
  refine RG.stAll (g := gR) rfl rfl rfl rfl rfl sz_135 rfl rfl rfl hbR (fun ws32 hwws32 hbws32 => ?_)
  replace hbE := Blk.far hbE hwws32 (by omega)
  replace hbS := Blk.far hbS hwws32 (by omega)
  replace hxwl16 := Wr.below hxwl16 hwws32 hle5
  refine RG.done (QW.then_ (CW.ret ?_))
  refine QW.retC rfl rfl Tryz.underlying135 rfl sz_135 rfl hbws32 ?_
  have hB := (Ex.tr hB0 hxwl16)
  exact ⟨rfl, hB⟩

set_option maxRecDepth 100000 in
set_option maxHeartbeats 1000000 in
theorem cand_ret (n : Nat) (A : Option Addr) (m c : Nat) (cs : List Value) (w : World)  :
  Ret Tryz.prog 68 [.int .i64 (n : Int), .slice A m c, .agg cs.toArray] w (fun v w' => (∃ gN gE gG, v = .func (.func 110) #[] #[.pointer (some ⟨gE, 0, none⟩), .pointer (some ⟨gN, 0, none⟩), .pointer (some ⟨gG, 0, none⟩)] ∧ Blk w' gN 3 [.int .i64 (n : Int)] ∧ Blk w' gE 29 [.slice A m c] ∧ Blk w' gG 127 cs) ∧ Ex w w') := by
 have hB0 : Ex w w := Ex.rfl_ _
 refine Ret.of Tryz.func68 rfl Tryz.ntmps68 rfl ?_
 refine CW.seq (CW.region ?_)
 refine RG.box rfl rfl rfl rfl rfl (fun gN w1 egN hx1 hb1 => ?_)
 have hle2 : w.heap.size ≤ gN := by have := (Ex.rfl_ w).size; omega
 have hE3 := hx1
 refine RG.box rfl rfl rfl rfl rfl (fun gE w4 egE hx4 hb4 => ?_)
 have hle5 : w.heap.size ≤ gE := by have := hE3.size; omega
 have hle6 : w1.heap.size ≤ gE := by have := (Ex.rfl_ w1).size; omega
 have hlt7 : gN < gE := by have := Blk.lt hb1; omega
 replace hE3 := Ex.tr hE3 hx4
 have hE8 := hx4
 refine RG.box rfl rfl rfl rfl rfl (fun gG w9 egG hx9 hb9 => ?_)
 have hle10 : w.heap.size ≤ gG := by have := hE3.size; omega
 have hle11 : w1.heap.size ≤ gG := by have := hE8.size; omega
 have hle12 : w4.heap.size ≤ gG := by have := (Ex.rfl_ w4).size; omega
 have hlt13 : gN < gG := by have := Blk.lt (hb1.ext hE8); omega
 have hlt14 : gE < gG := by have := Blk.lt hb4; omega
 replace hE3 := Ex.tr hE3 hx9
 replace hE8 := Ex.tr hE8 hx9
 have hE15 := hx9
 refine RG.vl rfl rfl rfl (Ev.assign rfl rfl) ?_
 refine RG.done (QW.then_ (CW.seq (CW.region ?_)))
 refine RG.vl rfl rfl rfl (Ev.mkFn rfl rfl rfl rfl rfl) ?_
 refine RG.vl rfl rfl rfl (Ev.assign rfl rfl) ?_
 refine RG.done (QW.then_ (CW.ret ?_))
 refine QW.ret1 rfl rfl ?_
 have hB := (Ex.tr hB0 hE3)
 exact ⟨⟨gN, gE, gG, rfl, (hb1.ext hE8), (hb4.ext hE15), hb9⟩, hB⟩

end Go.Proofs.YtgjnchjkjdnidaaGreat

/- The places that are tried, in order; what the iterator's steps keep. -/
namespace Go.Proofs.YtgjnchjkjdnidaaGreat
open Go.RowKit
def singL (er : List Nat) (a : Nat) : List (List Nat) := ((List.range a).filter fun i => decide (i ∉ er)).map fun i => er ++ [i]
def rowP (n a : Nat) : List (List Nat) := ((List.range n).drop (a + 1)).map fun j => [a, j]
def pairT (a b : Nat) (n : Nat) : List (List Nat) := (List.range a).flatMap (rowP n) ++ rowP b a
def candL (n : Nat) (er : List Nat) : List (List Nat) := [er] ++ (if er.length ≤ 2 then singL er n else []) ++ (if er.length = 0 then (List.range n).flatMap (rowP n) else [])
theorem rng (a : Nat) : ∀ m, ∃ t, List.range (a + m) = List.range a ++ t
  | 0 => ⟨[], by simp⟩
  | m + 1 => by
    obtain ⟨t, h⟩ := rng a m
    exact ⟨t ++ [a + m], by rw [← Nat.add_assoc, List.range_succ, h, List.append_assoc]⟩
theorem rng_le {a n : Nat} (h : a ≤ n) : ∃ t, List.range n = List.range a ++ t := by
  obtain ⟨t, ht⟩ := rng a (n - a)
  exact ⟨t, by rw [← ht, Nat.add_sub_cancel' h]⟩
theorem sing_yes {er : List Nat} {a : Nat} (h : a ∉ er) : singL er (a + 1) = singL er a ++ [er ++ [a]] := by unfold singL; rw [List.range_succ, List.filter_append, List.map_append]; simp [h]
theorem sing_no {er : List Nat} {a : Nat} (h : a ∈ er) : singL er (a + 1) = singL er a := by unfold singL; rw [List.range_succ, List.filter_append, List.map_append]; simp [h]
theorem sing_pre (er : List Nat) {a n : Nat} (h : a ≤ n) : singL er a <+: singL er n := by
  obtain ⟨t, ht⟩ := rng_le h
  refine ⟨(t.filter fun i => decide (i ∉ er)).map fun i => er ++ [i], ?_⟩
  unfold singL
  rw [ht, List.filter_append, List.map_append]
theorem row_more {a b : Nat} (h : a < b) : rowP (b + 1) a = rowP b a ++ [[a, b]] := by
  unfold rowP
  rw [List.range_succ, List.drop_append_of_le_length (by rw [List.length_range]; omega), List.map_append]; rfl
theorem row_nil {a b : Nat} (h : b ≤ a + 1) : rowP b a = [] := by unfold rowP; rw [List.drop_eq_nil_of_le (by rw [List.length_range]; exact h)]; rfl
theorem row_pre {a b n : Nat} (h : b ≤ n) : rowP b a <+: rowP n a := by
  obtain ⟨t, ht⟩ := rng_le h
  rcases Nat.lt_or_ge (a + 1) b with h2 | h2
  · refine ⟨t.map fun j => [a, j], ?_⟩
    unfold rowP
    rw [ht, List.drop_append_of_le_length (by rw [List.length_range]; omega), List.map_append]
  · rw [row_nil h2]; exact List.nil_prefix
theorem pair_more {a b n : Nat} (h : a < b) : pairT a (b + 1) n = pairT a b n ++ [[a, b]] := by unfold pairT; rw [row_more h, List.append_assoc]
theorem pair_start (a n : Nat) : pairT a (a + 1) n = (List.range a).flatMap (rowP n) := by unfold pairT; rw [row_nil (Nat.le_refl _), List.append_nil]
theorem pair_end (a n : Nat) : pairT a n n = (List.range (a + 1)).flatMap (rowP n) := by unfold pairT; rw [List.range_succ, List.flatMap_append]; simp
theorem cand_a (n : Nat) (er : List Nat) : [er] <+: candL n er := ⟨_, by unfold candL; rw [List.append_assoc]⟩
theorem cand_b {n a : Nat} {er : List Nat} (h2 : er.length ≤ 2) (ha : a < n) (hn : a ∉ er) : [er] ++ singL er a ++ [er ++ [a]] <+: candL n er := by
  unfold candL
  rw [if_pos h2, List.append_assoc, ← sing_yes hn, List.append_assoc]
  exact (List.prefix_append_right_inj _).2 (List.IsPrefix.trans (sing_pre er (show a + 1 ≤ n by omega)) (List.prefix_append _ _))
theorem cand_c {n a b : Nat} {er : List Nat} (h0 : er.length = 0) (hab : a < b) (hb : b < n) : [er] ++ singL er n ++ pairT a b n ++ [[a, b]] <+: candL n er := by
  unfold candL
  rw [if_pos (by omega), if_pos h0, List.append_assoc, ← pair_more hab]
  refine (List.prefix_append_right_inj _).2 ?_
  obtain ⟨t, ht⟩ := rng_le (show a + 1 ≤ n by omega)
  rw [ht, List.range_succ, List.flatMap_append, List.flatMap_append]
  unfold pairT
  rw [List.append_assoc]
  refine (List.prefix_append_right_inj _).2 ?_
  simp only [List.flatMap_cons, List.flatMap_nil, List.append_nil]
  exact List.IsPrefix.trans (row_pre (show b + 1 ≤ n by omega)) (List.prefix_append _ _)
theorem cand_3 {n : Nat} {er : List Nat} (h : 3 ≤ er.length) : candL n er = [er] := by unfold candL; rw [if_neg (by omega), if_neg (by omega)]; rfl
theorem cand_1 {n : Nat} {er : List Nat} (h : er.length ≤ 2) (h1 : er.length ≠ 0) : candL n er = [er] ++ singL er n := by unfold candL; rw [if_pos h, if_neg h1, List.append_nil]
theorem cand_0 {n : Nat} {er : List Nat} (h : er.length = 0) : candL n er = [er] ++ singL er n ++ (List.range n).flatMap (rowP n) := by unfold candL; rw [if_pos (by omega), if_pos h]
/-! memory -/
abbrev El2 := Value × List Nat
structure JAt (J : List El2 → World → Prop) (B : Nat) (pre : List El2) (W : World) : Prop where
  calm : Calm B J
  val : J pre W
  size : B ≤ W.heap.size
theorem JAt.ext {J : List El2 → World → Prop} {B : Nat} {pre : List El2} {W W' : World} (h : JAt J B pre W) (hx : Ex W W') : JAt J B pre W' :=
  ⟨h.calm, h.calm _ _ _ none h.val ⟨hx.os, hx.tape, hx.output, hx.size, fun k hk _ => hx.block k hk⟩ (fun r e => by cases e), Nat.le_trans h.size hx.size⟩
theorem JAt.own {J : List El2 → World → Prop} {B B' : Nat} {pre : List El2} {W W' : World} {e sz n : Nat} {v : Value} {us : List Value} (h : JAt J B pre W) (ho : W.ownsRow B' e sz v n us) (hB : B ≤ B') (hg : W.grownBy W' v.ownBlock) : JAt J B pre W' :=
  ⟨h.calm, h.calm _ _ _ _ h.val hg (fun r er => by have := (World.ownsRow.lt ho r er).1; omega), Nat.le_trans h.size hg.size⟩
theorem Own.kc {α : Type} {A A' : World} {n0 B sz : Nat} {e : TypeId} {enc : α → List Value} {v : Value} {xs : List α} (h : Own A B e sz enc v xs) (k : Kc n0 A A') : Own A' B e sz enc v xs := by
  refine ⟨h.1, ?_⟩
  rcases h.2 with h0 | ⟨g, cap, cur, h1, h2, h3, h4⟩
  · exact .inl h0
  · exact .inr ⟨g, cap, cur, h1, h2, k.2 _ _ _ _ h3, h4⟩
theorem RG.appKeep {P : Program} {ops : Array Oper} {Q : Exit → Act → World → Prop} {n : Nat} {l : List Oper} {S : Slots} {w : World} {o : Oper} {d : Nat} {T e by_ B : Nat} {z v u : Value} {x y : Operand} {c : Call} {xs : List Nat} {a : Nat} (hw : wantS ops S o = some true) (hd : o.dst = some d) (hdn : Nat.blt d n = true) (ho : o.op = .call c) (hc : c = { callee := .builtin .append, args := #[x, y], argTypes := #[T, T] })
    (hx : ev S x = some v) (hy : ev S y = some u) (ht : P.underlying T = some (.slice e)) (hi : (P.info? e).map (fun i => (i.zero, i.size, i.bytes)) = some (some z, 1, by_)) (hz : z.cells.size = 1)
    (hown : Own w B e 1 encZ v xs) (hr : RdL w 1 encZ u [a]) (hlen : xs.length ≤ 1000) (hby : by_ ≤ 1000) (hB : B ≤ w.heap.size)
    (kk : ∀ v' w', RdL w' 1 encZ v' (xs ++ [a]) → Own w' B e 1 encZ v xs → w.grownBy w' v.ownBlock → RG P ops Q n l ((d, v') :: S) w') : RG P ops Q n (o :: l) S w := by
  have hml : xs.length + [a].length ≤ maxLen := by simp only [maxLen, List.length_singleton]; omega
  have hbb : (xs.length + [a].length) * by_ ≤ 140737488355328 := by
    have := Nat.mul_le_mul (show xs.length + [a].length ≤ 1001 by simp only [List.length_singleton]; omega) hby
    omega
  rcases hown.2 with ⟨rfl, hx0⟩ | ⟨g, cap, cur, rfl, hbg, hg, hnc, hcm, hcs, htake⟩
  · refine RG.appO hw hd hdn ho hc hx hy ht hi hz rfl encZ_len (fun _ => rfl) hown hr hml hbb hB fun v' w' h2 h3 _ => kk v' w' (h2.rdl encZ_len) ?_ h3
    have : xs = [] := List.eq_nil_of_length_eq_zero hx0
    subst this
    exact Own.nil_ _ _ _ _ _
  · by_cases hroom : xs.length + 1 ≤ cap
    · obtain ⟨A, cp, rfl, hA⟩ := hr.flat encZ_len
      obtain ⟨ad, rfl, hca⟩ := hA (by simp)
      obtain ⟨i, hii, hz0, hz1, hz2⟩ := info_parts hi
      have hrun := run_append_room (P := P) w T o.type e i ht hii g xs.length cap cur hg ad 1 cp [.int .i64 (a : Int)] (by rw [hz1]; rfl) hca (fun u hu => by simp at hu; subst hu; rfl) hroom (by rw [hz1, hcs]; simp; omega)
      obtain ⟨cur', hcur'⟩ : ∃ c : Array Value, c = (cur.toList.take (xs.length * i.size) ++ [Value.int .i64 (a : Int)] ++ cur.toList.drop (xs.length * i.size + [Value.int .i64 (a : Int)].length)).toArray := ⟨_, rfl⟩
      rw [← hcur'] at hrun
      have hl1 := length_flatMap_enc encZ_len xs
      rw [hz1, Nat.mul_one] at hcur'
      rw [Nat.mul_one] at htake hcs hl1
      have hsz : cur'.size = cap := by rw [hcur']; simp; omega
      have ht1 : cur'.toList.take xs.length = xs.flatMap encZ := by
        rw [hcur', htake, List.append_assoc, List.toList_toArray, List.take_append_of_le_length (by omega), ← hl1, List.take_length]
      have ht2 : cur'.toList.take (xs.length + 1) = (xs ++ [a]).flatMap encZ := by
        rw [hcur', htake, List.toList_toArray, List.flatMap_append, List.take_append_of_le_length (by rw [List.length_append, hl1]; exact Nat.le_refl _), List.take_of_length_le (by rw [List.length_append, hl1]; exact Nat.le_refl _)]; rfl
      have hg' := setRow_heap w g cur cur' e _ hg
      have hwr := wr_setRow w g cur'
      have o1 : Own (w.setRow g cur') B e 1 encZ (.slice (some ⟨g, 0, none⟩) (xs.length + 1) cap) (xs ++ [a]) := by
        refine ⟨by rw [length_flatMap_enc encZ_len], .inr ⟨g, cap, cur', ?_, hbg, hg', by simpa using hroom, hcm, by rw [hsz, Nat.mul_one], by rw [Nat.mul_one, List.length_append]; exact ht2⟩⟩
        rw [List.length_append]; rfl
      have o2 : Own (w.setRow g cur') B e 1 encZ (.slice (some ⟨g, 0, none⟩) xs.length cap) xs := ⟨hown.1, .inr ⟨g, cap, cur', rfl, hbg, hg', hnc, hcm, by rw [hsz, Nat.mul_one], by rw [Nat.mul_one]; exact ht1⟩⟩
      refine RG.run (v := .slice (some ⟨g, 0, none⟩) (xs.length + 1) cap) (w' := w.setRow g cur') hw hd hdn (fun a ha => ?_) (kk _ _ (o1.rdl encZ_len) o2 hwr.grownBy)
      simp only [execOp, ho, hc]
      simp [resolve, invoke, builtin, ha.eval hx, ha.eval hy, hrun]
    · obtain rfl : cap = xs.length := by omega
      refine RG.appF (enc := encZ) (olds := xs.flatMap encZ) (us := [a]) hw hd hdn ho hc hx hy ht hi hz encZ_len hown.1 (World.ownsRow.cells hown rfl) hr (by simp) hml hbb fun v' w' hx2 h2 => kk v' w' (RdL.of_own (B := w.heap.size) (e := e) encZ_len (by rw [List.length_append, List.flatMap_append]; exact h2)) (hown.ext hx2) ⟨hx2.os, hx2.tape, hx2.output, hx2.size, fun k hk _ => hx2.block k hk⟩
end Go.Proofs.YtgjnchjkjdnidaaGreat

/- A region in which yield is called: what stands ahead of it and behind it is walked as elsewhere. -/
namespace Go.Proofs.YtgjnchjkjdnidaaGreat
open Go.RowKit
theorem oper_wide {k : Nat} {P : Program} {o : Oper} {a : Act} {w : World} {next next' : Act → World → Prop} {Q Q' : Exit → Act → World → Prop} (hn : ∀ a w, next a w → next' a w) (hq : ∀ ch a w, Q (.panic ch) a w → Q' (.panic ch) a w) (hl : LetsOut Q → LetsOut Q') (h : o.wp P a w next Q) : o.wpIn Fence.wide k P a w next' Q' := by
  refine ⟨fun f _ => trivial, ?_⟩
  show o.uponIn _ k P a _ Q' ((Oper.semAt none a.eval o).run P w)
  rw [Oper.semAt_none]
  unfold Oper.wp at h
  generalize (execOp a.eval o).run P w = r at h ⊢
  unfold Oper.upon at h
  split at h
  · exact hn _ _ h
  · exact hn _ _ h
  · exact hn _ _ h
  · refine ⟨(fun h => by cases h), callsIn_wide.2 (Calls.mono h ?_)⟩
    intro e w2 h2
    cases e with
    | returned v => exact hn _ _ h2
    | panicked ch => exact hq _ _ _ h2
    | outgrown => exact hl h2
  · refine ⟨(fun h => by cases h), fun c cs _ => ?_⟩
    obtain ⟨v, w2, r, s⟩ := h c cs
    exact ⟨v, w2, hn _ _ r, stepsIn_wide.2 s⟩
  · exact hq _ _ _ h
  · exact h.elim
theorem listIn_wide {k : Nat} {P : Program} {ops : Array Oper} {Q : Exit → Act → World → Prop} (hQ : ∀ a w, Q .outgrown a w → False) : ∀ (os : List Oper) (a : Act) (w : World), wpList P ops Q os a w → wpListIn Fence.wide k P ops Q os a w := by
  intro os
  induction os with
  | nil => exact fun a w h => h
  | cons o os ih =>
    intro a w h
    unfold wpList at h
    unfold wpListIn
    split at h
    · rename_i hw
      rw [if_pos hw]
      rcases h with h | ⟨_, a', w', h⟩
      · exact oper_wide ih (fun _ _ _ h => h) (fun h => h) h
      · exact (hQ a' w' h).elim
    · rename_i hw
      rw [if_neg hw]
      exact ⟨fun f _ => trivial, ih _ _ h⟩
theorem pre_wide {k : Nat} {P : Program} {ops : Array Oper} {Q : Exit → Act → World → Prop} (hQ : ∀ a w, Q .outgrown a w → False) : ∀ (i : Nat) (os : List Oper) (a : Act) (w : World),
    wpList P ops (Exit.then (fun a w => wpListIn Fence.wide k P ops Q (os.drop i) a w) Q) (os.take i) a w → wpListIn Fence.wide k P ops Q os a w := by
  intro i
  induction i with
  | zero => exact fun os a w h => h
  | succ i ih =>
    intro os a w h
    cases os with
    | nil => exact h
    | cons o os =>
      change wpList P ops _ (o :: os.take i) a w at h
      unfold wpList at h
      unfold wpListIn
      split at h
      · rename_i hw
        rw [if_pos hw]
        rcases h with h | ⟨_, a', w', h⟩
        · exact oper_wide (ih os) (fun _ _ _ h => h) (fun ⟨a, w, h⟩ => ⟨a, w, h⟩) h
        · exact (hQ a' w' h).elim
      · rename_i hw
        rw [if_neg hw]
        exact ⟨fun f _ => trivial, ih os _ _ h⟩
section
variable {k n : Nat} {P : Program} {ops : Array Oper} {Q : Exit → Act → World → Prop} {l : List Oper} {S : Slots} {w : World}
theorem RGI.ofRG (hQ : ∀ a w, Q .outgrown a w → False) (h : RG P ops Q n l S w) : RGI Fence.wide k P ops Q [] n l S w := fun a ha => listIn_wide hQ l a w (h a ha.fr)
theorem RGI.ahead (i : Nat) (hQ : ∀ a w, Q .outgrown a w → False) (h : RG P ops (Exit.then (fun a w => wpListIn Fence.wide k P ops Q (l.drop i) a w) Q) n (l.take i) S w) : RGI Fence.wide k P ops Q [] n l S w := fun a ha => pre_wide hQ i l a w (h a ha.fr)
theorem RGI.rest (h : RGI Fence.wide k P ops Q [] n l S w) : QW (Exit.then (fun a w => wpListIn Fence.wide k P ops Q l a w) Q) .normal n S w := fun a ha => h a ⟨⟨rfl, ha.sz, ha.get⟩, ha.df⟩
end
end Go.Proofs.YtgjnchjkjdnidaaGreat

/- Walks (SK). Written by program. -/
namespace Go.Proofs.YtgjnchjkjdnidaaGreat
open Go.RowKit
set_option maxRecDepth 100000 in
set_option maxHeartbeats 2000000 in
theorem iter_ret (kf : Nat) (w0 : World) (lp gE gN gG n : Nat) (A : Option Addr) (c : Nat) (er : List Nat) (J Jx : List El2 → World → Prop) (w : World) (hx0 : Ex w0 w) (hE : Blk w0 gE 29 [.slice A er.length c]) (hN : Blk w0 gN 3 [.int .i64 (n : Int)]) (hG : Blk w0 gG 127 (goneC er)) (hl : RdL w0 1 encZ (.slice A er.length c) er) (her : er.length ≤ 4) (hn : n ≤ 63) (hcalm : Calm w.heap.size J) (hY : ∀ pre x A, J pre A → (RdL A 1 encZ x.1 x.2 ∧ (pre ++ [x]).map Prod.snd <+: candL n er) → YieldAt Fence.wide (kf - 1) Tryz.prog lp #[x.1] A fun e B => (e = .returned (.bool true) ∧ J (pre ++ [x]) B ∧ Kc w0.heap.size A B) ∨ (e = .returned (.bool false) ∧ Jx (pre ++ [x]) B)) (h0 : J [] w) :
  Ret Tryz.prog 110 [.func (.yield lp) #[] #[], .pointer (some ⟨gE, 0, none⟩), .pointer (some ⟨gN, 0, none⟩), .pointer (some ⟨gG, 0, none⟩)] w (fun _ w' => (∃ xs : List El2, xs.map Prod.snd = candL n er ∧ J xs w') ∨ ∃ pre, Jx pre w') := by
 have hx00 := hx0
 have hJ0 : JAt J w.heap.size [] w := ⟨hcalm, h0, Nat.le_refl _⟩
 have hB0 : Ex w w := Ex.rfl_ _
 refine Ret.of Tryz.func110 rfl Tryz.ntmps110 rfl ?_
 refine CW.seq (CW.region ?_)
 refine RG.vl rfl rfl rfl (Ev.ld0 rfl rfl Tryz.underlying29 rfl ((hE.ext hx00).cells) (rfl)) ?_
 refine RG.vl rfl rfl rfl (Ev.lenL rfl rfl rfl Tryz.underlying29 ((hl.ext hx00))) ?_
 refine RG.vl rfl rfl rfl (Ev.subI rfl rfl rfl (by omega)) ?_
 refine RG.vl rfl rfl rfl (Ev.quoI rfl rfl rfl (by omega)) ?_
 refine RG.vl rfl rfl rfl (Ev.assign rfl rfl) ?_
 refine RG.done (QW.then_ (CW.seq (CW.region ?_)))
 refine RG.vl rfl rfl rfl (Ev.ld0 rfl rfl Tryz.underlying29 rfl ((hE.ext hx00).cells) (rfl)) ?_
 refine RG.call rfl rfl rfl rfl rfl rfl rfl en_111 (cloneI_ret _ er _ ((hl.ext hx00)) (by omega)) ?_
 have hpre1 := hB0
 rintro vp w1 ⟨hpl, hx1⟩
 have hE2 := hx1
 replace hx00 := Ex.tr hx00 hx1
 refine RG.vl rfl rfl rfl (Ev.assign rfl rfl) ?_
 refine RG.done (QW.then_ (CW.seq (CW.seq ?_)))
 refine CW.fenced kf ?_
 refine CWI.region ?_
 refine RGI.ahead 2 (fun _ _ h => by obtain ⟨_, e, _⟩ := h; cases e) ?_
 refine RG.vl rfl rfl rfl (Ev.move rfl rfl) ?_
 refine RG.vl rfl rfl rfl (Ev.move rfl rfl) ?_
 refine RG.done ?_
 refine RGI.rest ?_
 have hJy3 := (hJ0.ext hE2)
 have hrxy3 := (hpl.rdl encZ_len)
 have hpfy3 : ([] ++ [((vp, er) : El2)]).map Prod.snd <+: candL n er := by
  exact cand_a n er
 refine RGI.yield_ (vs := [vp]) open_wide (hY [] (vp, er) _ hJy3.val ⟨hrxy3, hpfy3⟩) rfl rfl rfl rfl rfl rfl rfl (fun e w' h => by rcases h with ⟨rfl, _⟩ | ⟨rfl, _⟩ <;> exact ⟨_, rfl⟩) (fun q wyy3 hq => ?_)
 cases q
 ·rcases hq with ⟨h, _⟩ | ⟨_, hJx1⟩
  ·simp at h
  refine RGI.ofRG (fun _ _ h => by obtain ⟨_, e, _⟩ := h; cases e) ?_
  refine RG.vl rfl rfl rfl (Ev.notT rfl rfl) ?_
  refine RG.vl rfl rfl rfl (Ev.move rfl rfl) ?_
  refine RG.pass rfl rfl rfl ?_
  refine RG.pass rfl rfl rfl ?_
  refine RG.vl rfl rfl rfl (Ev.pickT rfl rfl rfl) ?_
  refine RG.done ?_
  refine QW.sub (S' := [(0, _), (2, _), (3, _), (5, _), (6, _), (23, _)]) ⟨rfl, rfl, rfl, rfl, rfl, rfl, trivial⟩ ?_
  refine QW.then_ ?_
  refine CW.condT rfl ?_
  refine CW.ret (QW.thenRet ?_)
  refine QW.ret0 rfl ?_
  exact .inr ⟨_, hJx1⟩
 ·rcases hq with ⟨_, hJ1, hK⟩ | ⟨h, _⟩
  rotate_left
  ·simp at h
  have hxyy3 := Below.trans (Ex.tr hx0 hE2) hK.1
  have hJ2 : JAt J w.heap.size _ _ := ⟨hJy3.calm, hJ1, Nat.le_trans hJy3.size hK.1.size⟩
  have hpl2 := Own.kc hpl hK
  refine RGI.ofRG (fun _ _ h => by obtain ⟨_, e, _⟩ := h; cases e) ?_
  refine RG.vl rfl rfl rfl (Ev.notF rfl rfl) ?_
  refine RG.vl rfl rfl rfl (Ev.move rfl rfl) ?_
  refine RG.vl rfl rfl rfl (Ev.move rfl rfl) ?_
  refine RG.vl rfl rfl rfl (Ev.eqI rfl rfl rfl) ?_
  refine RG.vl rfl rfl rfl (Ev.pickF rfl rfl rfl) ?_
  refine RG.done ?_
  refine QW.sub (S' := [(0, _), (2, _), (3, _), (5, _), (6, _), (23, _)]) ⟨rfl, rfl, rfl, rfl, rfl, rfl, trivial⟩ ?_
  refine QW.then_ ?_
  refine CW.condP rfl (fun hc4 => ?_) (fun hc4 => ?_)
  ·refine CW.ret (QW.thenRet ?_)
   refine QW.ret0 rfl ?_
   exact .inl ⟨_, by rw [cand_3 (by omega)]; rfl, (hJ2).val⟩
  ·refine CW.skip (QW.then_ (CW.seq (CW.seq (CW.region ?_))))
   refine RG.vl rfl rfl rfl (Ev.ld0 rfl rfl Tryz.underlying3 rfl ((hN.ext hxyy3).cells) (rfl)) ?_
   refine RG.vl rfl rfl rfl (Ev.move rfl rfl) ?_
   refine RG.done (QW.then_ (CW.block ?_))
   refine CW.loop2 [(0, _), (2, _), (3, _), (5, _), (6, _), (24, _)] ⟨rfl, rfl, rfl, rfl, rfl, rfl, trivial⟩ (fun (a : Nat) (pre : List El2) => [(25, .int .i64 (a : Int))]) (fun a pre w' => (a ≤ n ∧ pre.map Prod.snd = [er] ++ singL er a ∧ JAt J w.heap.size pre w' ∧ Own w' w.heap.size 3 1 encZ vp er) ∧ Ex w0 w') (fun a pre => n - a) (0) (([] ++ [((vp, er) : El2)])) ⟨rfl, trivial⟩ ⟨⟨Nat.zero_le _, rfl, hJ2, hpl2⟩, hxyy3⟩ ?_
   rintro a pre wl5 ⟨⟨ha, hpre, hJ, hpl⟩, hxwl5⟩
   refine CW.sub (S' := [(25, _), (0, _), (2, _), (3, _), (5, _), (6, _), (24, _)]) ⟨rfl, rfl, rfl, rfl, rfl, rfl, rfl, trivial⟩ ?_
   
   refine CW.seq (CW.region ?_)
   refine RG.vl rfl rfl rfl (Ev.lss rfl rfl rfl) ?_
   refine RG.done (QW.then_ (CW.seq ?_))
   refine CW.condP rfl (fun hc6 => ?_) (fun hc6 => ?_)
   ·refine CW.skip (QW.then_ (CW.seq (CW.block (CW.seq (CW.region ?_)))))
    refine RG.vl rfl rfl rfl (Ev.move rfl rfl) ?_
    refine RG.vl rfl rfl rfl (Ev.assign rfl rfl) ?_
    refine RG.done (QW.then_ (CW.seq ?_))
    refine CW.fenced kf ?_
    refine CWI.region ?_
    refine RGI.ahead 10 (fun _ _ h => by obtain ⟨_, e, _⟩ := h; cases e) ?_
    refine RG.vl rfl rfl rfl (Ev.move rfl rfl) ?_
    refine RG.vl rfl rfl rfl (Ev.idxA rfl rfl rfl Tryz.underlying127 sz_4 (by omega)) ?_
    refine RG.vl rfl rfl rfl (Ev.ldAt rfl rfl Tryz.underlying4 rfl ((hG.ext hxwl5).cells) ((show (goneC er)[a * 1]? = some (.bool (decide (a ∈ er))) by rw [Nat.mul_one]; exact goneC_at er (by omega)))) ?_
    refine RG.vl rfl rfl rfl (Ev.notP rfl rfl) ?_
    refine RG.vl rfl rfl rfl (Ev.move rfl rfl) ?_
    refine RG.split (d := 32) rfl (fun hg7 => ?_) (fun hg7 => ?_)
    ·refine RG.vl rfl rfl rfl (Ev.move rfl rfl) ?_
     refine RG.vl rfl rfl rfl (Ev.move rfl rfl) ?_
     refine RG.vl rfl rfl rfl (Ev.move rfl rfl) ?_
     refine RG.litO (os := [.tmp 35]) (enc := encZ) ([a]) rfl rfl rfl rfl rfl rfl rfl Tryz.underlying29 inf_3 rfl rfl rfl rfl rfl encZ_len rfl rfl (fun v8 wk9 hxwk9 hown10 hnew11 => ?_)
     replace hxwl5 := Ex.tr hxwl5 hxwk9
     have hE12 := hxwk9
     have hJa13 := (hJ.ext hE12)
     have hoa13 := (Own.ext hpl hE12)
     have hxa13 := hxwl5
     refine RG.appKeep rfl rfl rfl rfl rfl rfl rfl Tryz.underlying29 inf_3 rfl hoa13 (hown10.rdl encZ_len) (by omega) (by decide) hJa13.size (fun vaa13 waa13 hraa13 hpaa13 hgaa13 => ?_)
     have hxba13 := own_block hoa13 hxa13 hgaa13 hx0.size hJa13.size
     have hJba13 := hJa13.own hoa13 (Nat.le_refl _) hgaa13
     refine RG.done ?_
     refine RGI.rest ?_
     have hJy14 := hJba13
     have hrxy14 := hraa13
     have hpfy14 : (pre ++ [((vaa13, (er ++ [a])) : El2)]).map Prod.snd <+: candL n er := by
      rw [List.map_append, hpre]; exact cand_b (by omega) (by omega) (by assumption)
     refine RGI.yield_ (vs := [vaa13]) open_wide (hY pre (vaa13, (er ++ [a])) _ hJy14.val ⟨hrxy14, hpfy14⟩) rfl rfl rfl rfl rfl rfl rfl (fun e w' h => by rcases h with ⟨rfl, _⟩ | ⟨rfl, _⟩ <;> exact ⟨_, rfl⟩) (fun q wyy14 hq => ?_)
     cases q
     ·rcases hq with ⟨h, _⟩ | ⟨_, hJx1⟩
      ·simp at h
      refine RGI.ofRG (fun _ _ h => by obtain ⟨_, e, _⟩ := h; cases e) ?_
      refine RG.vl rfl rfl rfl (Ev.notT rfl rfl) ?_
      refine RG.vl rfl rfl rfl (Ev.pickT rfl rfl rfl) ?_
      refine RG.done ?_
      refine QW.sub (S' := [(0, _), (2, _), (3, _), (5, _), (6, _), (24, _), (25, _), (40, _)]) ⟨rfl, rfl, rfl, rfl, rfl, rfl, rfl, rfl, trivial⟩ ?_
      refine QW.then_ ?_
      refine CW.condT rfl ?_
      refine CW.ret (QW.blockR (QW.thenRet (QW.thenRet (QW.blockR (QW.thenRet ?_)))))
      refine QW.ret0 rfl ?_
      exact .inr ⟨_, hJx1⟩
     ·rcases hq with ⟨_, hJ1, hK⟩ | ⟨h, _⟩
      rotate_left
      ·simp at h
      have hxyy14 := Below.trans hxba13 hK.1
      have hJ2 : JAt J w.heap.size _ _ := ⟨hJy14.calm, hJ1, Nat.le_trans hJy14.size hK.1.size⟩
      have hpl2 := Own.kc hpaa13 hK
      refine RGI.ofRG (fun _ _ h => by obtain ⟨_, e, _⟩ := h; cases e) ?_
      refine RG.vl rfl rfl rfl (Ev.notF rfl rfl) ?_
      refine RG.vl rfl rfl rfl (Ev.pickT rfl rfl rfl) ?_
      refine RG.done ?_
      refine QW.sub (S' := [(0, _), (2, _), (3, _), (5, _), (6, _), (24, _), (25, _), (40, _)]) ⟨rfl, rfl, rfl, rfl, rfl, rfl, rfl, rfl, trivial⟩ ?_
      refine QW.then_ ?_
      refine CW.condF rfl ?_
      refine CW.skip (QW.blockN (QW.then_ (CW.region ?_)))
      refine RG.vl rfl rfl rfl (Ev.addI rfl rfl rfl (by omega)) ?_
      refine RG.vl rfl rfl rfl (Ev.move rfl rfl) ?_
      refine RG.done ?_
      refine QW.round2 (a + 1) ((pre ++ [((vaa13, (er ++ [a])) : El2)])) ⟨rfl, trivial⟩ ⟨rfl, rfl, rfl, rfl, rfl, rfl, trivial⟩ ⟨⟨by omega, by rw [List.map_append, hpre, sing_yes (by assumption), ← List.append_assoc, List.map_singleton], hJ2, hpl2⟩, hxyy14⟩ (by omega)
    ·refine RG.pass rfl rfl rfl ?_
     refine RG.pass rfl rfl rfl ?_
     refine RG.pass rfl rfl rfl ?_
     refine RG.pass rfl rfl rfl ?_
     refine RG.pass rfl rfl rfl ?_
     refine RG.done ?_
     refine RGI.rest ?_
     refine RGI.ofRG (fun _ _ h => by obtain ⟨_, e, _⟩ := h; cases e) ?_
     refine RG.pass rfl rfl rfl ?_
     refine RG.pass rfl rfl rfl ?_
     refine RG.vl rfl rfl rfl (Ev.pickF rfl rfl rfl) ?_
     refine RG.done ?_
     refine QW.sub (S' := [(0, _), (2, _), (3, _), (5, _), (6, _), (24, _), (25, _), (40, _)]) ⟨rfl, rfl, rfl, rfl, rfl, rfl, rfl, rfl, trivial⟩ ?_
     refine QW.then_ ?_
     refine CW.condF rfl ?_
     refine CW.skip (QW.blockN (QW.then_ (CW.region ?_)))
     refine RG.vl rfl rfl rfl (Ev.addI rfl rfl rfl (by omega)) ?_
     refine RG.vl rfl rfl rfl (Ev.move rfl rfl) ?_
     refine RG.done ?_
     refine QW.round2 (a + 1) (pre) ⟨rfl, trivial⟩ ⟨rfl, rfl, rfl, rfl, rfl, rfl, trivial⟩ ⟨⟨by omega, by rw [hpre, sing_no (Decidable.not_not.1 (by assumption))], hJ, hpl⟩, hxwl5⟩ (by omega)
   ·refine CW.exit (QW.thenExit (QW.thenExit (QW.blockHit (QW.then_ (CW.seq (CW.seq ?_))))))
    refine CW.region ?_
    refine RG.vl rfl rfl rfl (Ev.move rfl rfl) ?_
    refine RG.vl rfl rfl rfl (Ev.eqI rfl rfl rfl) ?_
    refine RG.done (QW.then_ ?_)
    refine CW.condP rfl (fun hc15 => ?_) (fun hc15 => ?_)
    ·refine CW.ret (QW.thenRet ?_)
     refine QW.ret0 rfl ?_
     obtain rfl : a = n := by omega
     exact .inl ⟨_, by rw [cand_1 (by omega) (by omega)]; exact hpre, (hJ).val⟩
    ·refine CW.skip (QW.then_ (CW.seq (CW.region ?_)))
     refine RG.vl rfl rfl rfl (Ev.ld0 rfl rfl Tryz.underlying3 rfl ((hN.ext hxwl5).cells) (rfl)) ?_
     refine RG.vl rfl rfl rfl (Ev.move rfl rfl) ?_
     refine RG.done (QW.then_ (CW.block ?_))
     refine CW.loop2 [(0, _), (2, _), (44, _)] ⟨rfl, rfl, rfl, trivial⟩ (fun (a : Nat) (pre : List El2) => [(45, .int .i64 (a : Int))]) (fun a pre w' => (a ≤ n ∧ pre.map Prod.snd = [er] ++ singL er n ++ (List.range a).flatMap (rowP n) ∧ JAt J w.heap.size pre w') ∧ Ex w0 w') (fun a pre => n - a) (0) (pre) ⟨rfl, trivial⟩ ⟨⟨Nat.zero_le _, by obtain rfl : a = n := (by omega); rw [hpre]; exact (List.append_nil _).symm, hJ⟩, hxwl5⟩ ?_
     rintro a pre wl16 ⟨⟨ha, hpre, hJ⟩, hxwl16⟩
     refine CW.sub (S' := [(45, _), (0, _), (2, _), (44, _)]) ⟨rfl, rfl, rfl, rfl, trivial⟩ ?_
     
     refine CW.seq (CW.region ?_)
     refine RG.vl rfl rfl rfl (Ev.lss rfl rfl rfl) ?_
     refine RG.done (QW.then_ (CW.seq ?_))
     refine CW.condP rfl (fun hc17 => ?_) (fun hc17 => ?_)
     ·refine CW.skip (QW.then_ (CW.seq (CW.block (CW.seq (CW.region ?_)))))
      refine RG.vl rfl rfl rfl (Ev.move rfl rfl) ?_
      refine RG.vl rfl rfl rfl (Ev.assign rfl rfl) ?_
      refine RG.done (QW.then_ (CW.seq (CW.region ?_)))
      refine RG.vl rfl rfl rfl (Ev.move rfl rfl) ?_
      refine RG.vl rfl rfl rfl (Ev.addI rfl rfl rfl (by omega)) ?_
      refine RG.vl rfl rfl rfl (Ev.assign rfl rfl) ?_
      refine RG.done (QW.then_ (CW.block ?_))
      refine CW.loop2 [(0, _), (2, _), (8, _), (44, _), (45, _)] ⟨rfl, rfl, rfl, rfl, rfl, trivial⟩ (fun (b : Nat) (pre2 : List El2) => [(9, .int .i64 (b : Int))]) (fun b pre2 w' => (a + 1 ≤ b ∧ b ≤ n ∧ pre2.map Prod.snd = [er] ++ singL er n ++ pairT a b n ∧ JAt J w.heap.size pre2 w') ∧ Ex w0 w') (fun b pre2 => n - b) (a + 1) (pre) ⟨congrArg (fun x => some (Value.int .i64 x)) (by omega), trivial⟩ ⟨⟨by omega, by omega, by rw [pair_start]; exact hpre, hJ⟩, hxwl16⟩ ?_
      rintro b pre2 wl18 ⟨⟨hab, hb, hpre2, hJ⟩, hxwl18⟩
      refine CW.sub (S' := [(9, _), (0, _), (2, _), (8, _), (44, _), (45, _)]) ⟨rfl, rfl, rfl, rfl, rfl, rfl, trivial⟩ ?_
      
      refine CW.seq (CW.seq (CW.region ?_))
      refine RG.vl rfl rfl rfl (Ev.move rfl rfl) ?_
      refine RG.vl rfl rfl rfl (Ev.ld0 rfl rfl Tryz.underlying3 rfl ((hN.ext hxwl18).cells) (rfl)) ?_
      refine RG.vl rfl rfl rfl (Ev.lss rfl rfl rfl) ?_
      refine RG.done (QW.then_ ?_)
      refine CW.condP rfl (fun hc19 => ?_) (fun hc19 => ?_)
      ·refine CW.skip (QW.then_ (CW.seq (CW.block (CW.seq ?_))))
       refine CW.fenced kf ?_
       refine CWI.region ?_
       refine RGI.ahead 4 (fun _ _ h => by obtain ⟨_, e, _⟩ := h; cases e) ?_
       refine RG.vl rfl rfl rfl (Ev.move rfl rfl) ?_
       refine RG.vl rfl rfl rfl (Ev.move rfl rfl) ?_
       refine RG.vl rfl rfl rfl (Ev.move rfl rfl) ?_
       refine RG.litO (os := [.tmp 56, .tmp 57]) (enc := encZ) ([a, b]) rfl rfl rfl rfl rfl rfl rfl Tryz.underlying29 inf_3 rfl rfl rfl rfl rfl encZ_len rfl rfl (fun v20 wk21 hxwk21 hown22 hnew23 => ?_)
       replace hxwl18 := Ex.tr hxwl18 hxwk21
       have hE24 := hxwk21
       refine RG.done ?_
       refine RGI.rest ?_
       have hJy25 := (hJ.ext hE24)
       have hrxy25 := (hown22.rdl encZ_len)
       have hpfy25 : (pre2 ++ [((v20, [a, b]) : El2)]).map Prod.snd <+: candL n er := by
        rw [List.map_append, hpre2]; exact cand_c (by omega) (by omega) (by omega)
       refine RGI.yield_ (vs := [v20]) open_wide (hY pre2 (v20, [a, b]) _ hJy25.val ⟨hrxy25, hpfy25⟩) rfl rfl rfl rfl rfl rfl rfl (fun e w' h => by rcases h with ⟨rfl, _⟩ | ⟨rfl, _⟩ <;> exact ⟨_, rfl⟩) (fun q wyy25 hq => ?_)
       cases q
       ·rcases hq with ⟨h, _⟩ | ⟨_, hJx1⟩
        ·simp at h
        refine RGI.ofRG (fun _ _ h => by obtain ⟨_, e, _⟩ := h; cases e) ?_
        refine RG.vl rfl rfl rfl (Ev.notT rfl rfl) ?_
        refine RG.done (QW.then_ ?_)
        refine CW.condT rfl ?_
        refine CW.ret (QW.blockR (QW.thenRet (QW.thenRet (QW.blockR (QW.blockR (QW.thenRet ?_))))))
        refine QW.thenRet (QW.blockR ?_)
        refine QW.ret0 rfl ?_
        exact .inr ⟨_, hJx1⟩
       ·rcases hq with ⟨_, hJ1, hK⟩ | ⟨h, _⟩
        rotate_left
        ·simp at h
        have hxyy25 := Below.trans hxwl18 hK.1
        have hJ2 : JAt J w.heap.size _ _ := ⟨hJy25.calm, hJ1, Nat.le_trans hJy25.size hK.1.size⟩
        refine RGI.ofRG (fun _ _ h => by obtain ⟨_, e, _⟩ := h; cases e) ?_
        refine RG.vl rfl rfl rfl (Ev.notF rfl rfl) ?_
        refine RG.done (QW.then_ ?_)
        refine CW.condF rfl ?_
        refine CW.skip (QW.blockN (QW.then_ (CW.region ?_)))
        refine RG.vl rfl rfl rfl (Ev.move rfl rfl) ?_
        refine RG.vl rfl rfl rfl (Ev.addI rfl rfl rfl (by omega)) ?_
        refine RG.vl rfl rfl rfl (Ev.assign rfl rfl) ?_
        refine RG.done ?_
        refine QW.round2 (b + 1) ((pre2 ++ [((v20, [a, b]) : El2)])) ⟨rfl, trivial⟩ ⟨rfl, rfl, rfl, rfl, rfl, trivial⟩ ⟨⟨by omega, by omega, by rw [List.map_append, hpre2, pair_more (by omega), ← List.append_assoc, List.map_singleton], hJ2⟩, hxyy25⟩ (by omega)
      ·refine CW.exit (QW.thenExit (QW.thenExit (QW.blockHit (QW.blockN (QW.then_ (CW.region ?_))))))
       refine RG.vl rfl rfl rfl (Ev.addI rfl rfl rfl (by omega)) ?_
       refine RG.vl rfl rfl rfl (Ev.move rfl rfl) ?_
       refine RG.done ?_
       refine QW.round2 (a + 1) (pre2) ⟨rfl, trivial⟩ ⟨rfl, rfl, rfl, trivial⟩ ⟨⟨by omega, by obtain rfl : b = n := (by omega); rw [← pair_end]; exact hpre2, hJ⟩, hxwl18⟩ (by omega)
     ·refine CW.exit (QW.thenExit (QW.thenExit (QW.blockHit ?_)))
      refine QW.end0 rfl ?_
      obtain rfl : a = n := by omega
      exact .inl ⟨_, by rw [cand_0 (by omega)]; exact hpre, (hJ).val⟩

end Go.Proofs.YtgjnchjkjdnidaaGreat

/- A region that draws its order, inside a round. -/
namespace Go.Proofs.YtgjnchjkjdnidaaGreat
open Go.RowKit
theorem oper_round {k l : Nat} {P : Program} {o : Oper} {a : Act} {w : World} {next next' : Act → World → Prop} {Q : Exit → Act → World → Prop} (ho : ∀ c, o.op ≠ .defer c) (hn : ∀ a w, next a w → next' a w) (h : o.wp P a w next Q) : o.wpIn (Fence.wide.inRound l) k P a w next' Q := by
  refine ⟨fun f _ => trivial, ?_⟩
  show o.uponIn _ k P a _ Q ((Oper.semAt (some l) a.eval o).run P w)
  rw [Oper.semAt_some l a.eval o ho]
  unfold Oper.wp at h
  generalize (execOp a.eval o).run P w = r at h ⊢
  unfold Oper.upon at h
  split at h
  · exact hn _ _ h
  · exact hn _ _ h
  · exact hn _ _ h
  · refine ⟨(fun h => by cases h), CallsIn.inRound l (callsIn_wide.2 (Calls.mono h ?_))⟩
    intro e w2 h2
    cases e with
    | returned v => exact hn _ _ h2
    | panicked ch => exact h2
    | outgrown => exact h2
  · exact ⟨(fun h => by cases h), rowsIn_round (Rows.mono h fun v w2 h2 => hn _ _ h2)⟩
  · exact h
  · exact h.elim
theorem opsIn_round {k l : Nat} {P : Program} {ops : Array Oper} {Q : Exit → Act → World → Prop} (hQ : ∀ a w, Q .outgrown a w → False) (hd : ∀ (i : Nat) (o : Oper), ops[i]? = some o → ∀ c, o.op ≠ .defer c) : ∀ (is : List Nat) (a : Act) (w : World), wpOps P ops Q is a w → wpOpsIn (Fence.wide.inRound l) k P ops Q is a w := by
  intro is
  induction is with
  | nil => exact fun a w h => h
  | cons i is ih =>
    intro a w h
    unfold wpOps at h
    unfold wpOpsIn
    cases hi : ops[i]? with
    | none => rw [hi] at h; exact ih a w h
    | some o =>
      rw [hi] at h
      dsimp only at h ⊢
      split at h
      · rename_i hw
        rw [if_pos hw]
        rcases h with h | ⟨_, a', w', h⟩
        · exact oper_round (hd i o hi) ih h
        · exact (hQ a' w' h).elim
      · rename_i hw
        rw [if_neg hw]
        exact ⟨fun f _ => trivial, ih _ _ h⟩
theorem noDefer_all {l : List Oper} (h : noDefer l = true) (i : Nat) (o : Oper) (hi : l.toArray[i]? = some o) : ∀ c, o.op ≠ .defer c := fun c hc => by
  have hm : o ∈ l := List.mem_of_getElem? (by simpa using hi)
  have := List.all_eq_true.1 h o hm
  rw [hc] at this; cases this
theorem CWJ.draw {r k n : Nat} {P : Program} {Q : Exit → Act → World → Prop} {S : Slots} {w : World} {id : Nat} {l : List Oper} (U : List Nat) (row : Rk) (m : Nat) (hl : l.length = m) (hm : P.follows .mixedOrders = true) (hd : noDefer l = true) (hQ : ∀ a w, Q .outgrown a w → False)
    (kk : ∀ w1, Ex w w1 → AG P l.toArray Q U row n m (Array.replicate m false) S w1) : CWJ r k P (.region id l.toArray true) Q n S w := by
  intro a ha
  subst hl
  have h := wpZ_sound _ _ _ _ _ (kk w.drew (Ex.of_drew w) a ha)
  refine wpIn_mono (wpIn_region_draw (Q := NP Q) fun t => ?_) fun e a w h => h.out
  simp only [Region.schedule, hm, Bool.true_or, if_true]
  exact opsIn_round (fun a w h => hQ a w h.out) (noDefer_all hd) _ _ _ (wpAny_sound _ t _ a _ h)
theorem CWJ.into {r k n : Nat} {P : Program} {Q : Exit → Act → World → Prop} {S : Slots} {w : World} {c : Code} {a : Act} (ha : Fr n S a) (h : CWJ r k P c Q n S w) : c.wpIn (Fence.wide.inRound r) k P Q a w := h a ha
theorem QW.of {Q : Exit → Act → World → Prop} {e : Exit} {n : Nat} {S : Slots} {w : World} (h : ∀ a, Q e a w) : QW Q e n S w := fun a _ => h a
end Go.Proofs.YtgjnchjkjdnidaaGreat

/- Decode as it goes: what it says, the round's result; stores behind a range over a function. -/
namespace Go.Proofs.YtgjnchjkjdnidaaGreat
open Go.RowKit
def fixL (l P : List Nat) (M : Mx) : Nat → List Nat
  | 0 => l
  | i + 1 => (fixL l P M i).set (cf P i) (cf (fixL l P M i) (cf P i) ^^^ M i 4)
theorem fixL_len (l P : List Nat) (M : Mx) : ∀ i, (fixL l P M i).length = l.length
  | 0 => rfl
  | i + 1 => by rw [fixL, List.length_set, fixL_len l P M i]
theorem fixL_el {l P : List Nat} {M : Mx} (hl : El l) (hM : EM M) : ∀ i, i ≤ 4 → El (fixL l P M i)
  | 0, _ => hl
  | i + 1, hi => fun a ha => by
    have ih := fixL_el (P := P) hl hM i (by omega)
    rw [fixL] at ha
    rcases List.mem_or_eq_of_mem_set ha with h | h
    · exact ih a h
    · rw [h]; exact xor_lt64 _ _ (ih.cf _) (hM i 4 (by omega) (by omega))
theorem fixL_more {l P : List Nat} {M : Mx} {i a : Nat} (h : P[i]? = some a) : (fixL l P M i).set a (cf (fixL l P M i) a ^^^ M i 4) = fixL l P M (i + 1) := by rw [fixL, cf_some h]
def freeL (P er : List Nat) : List Nat := P.filter fun a => decide (a ∉ er)
theorem freeL_yes {P er : List Nat} {i a : Nat} (h : P[i]? = some a) (hn : a ∉ er) : freeL (P.take (i + 1)) er = freeL (P.take i) er ++ [a] := by unfold freeL; rw [List.take_add_one, h, Option.toList_some, List.filter_append]; simp [hn]
theorem freeL_no {P er : List Nat} {i a : Nat} (h : P[i]? = some a) (hn : a ∈ er) : freeL (P.take (i + 1)) er = freeL (P.take i) er := by unfold freeL; rw [List.take_add_one, h, Option.toList_some, List.filter_append]; simp [hn]
theorem freeL_len (P er : List Nat) (i : Nat) : (freeL (P.take i) er).length ≤ P.length := by
  have h := List.length_filter_le (fun a => decide (a ∉ er)) (P.take i)
  rw [List.length_take] at h
  unfold freeL; omega
def NoF (l P : List Nat) : Prop := ∃ M, SolvR (eqM l.length P (syL l)) P.length false M
def YesF (l P c : List Nat) : Prop := ∃ M, SolvR (eqM l.length P (syL l)) P.length true M ∧ c = fixL l P M P.length
def okE (n : Nat) (ei : List Int) : Prop := (∀ a ∈ ei, 0 ≤ a ∧ a < n) ∧ ei.Nodup
def erN (ei : List Int) : List Nat := ei.map Int.toNat
def Found (l er : List Nat) (e : Int) (c es : List Nat) : Prop :=
  ((∀ P ∈ candL l.length er, NoF l P) ∧ e = 190 ∧ c = [] ∧ es = []) ∨ ∃ pre P rest, candL l.length er = pre ++ P :: rest ∧ (∀ Q ∈ pre, NoF l Q) ∧ YesF l P c ∧ e = 0 ∧ es = freeL P er
def DecP (l : List Nat) (ei : List Int) (e : Int) (c es : List Nat) : Prop :=
  ((isW l = false ∨ ¬ okE l.length ei) ∧ e = 2 ∧ c = [] ∧ es = []) ∨ (isW l = true ∧ okE l.length ei ∧ ((4 < ei.length ∧ e = 190 ∧ c = [] ∧ es = []) ∨ (ei.length ≤ 4 ∧ Found l (erN ei) e c es)))
theorem cand_in {n : Nat} {er P : List Nat} (h : P ∈ candL n er) (her : er.length ≤ 4) (hn : ∀ a ∈ er, a < n) : P.length ≤ 4 ∧ ∀ a ∈ P, a < n := by
  unfold candL at h
  rcases List.mem_append.1 h with h | h
  · rcases List.mem_append.1 h with h | h
    · rw [List.mem_singleton.1 h]; exact ⟨her, hn⟩
    · split at h
      · unfold singL at h
        obtain ⟨i, hi, rfl⟩ := List.mem_map.1 h
        have hi := List.mem_range.1 (List.mem_filter.1 hi).1
        refine ⟨by rw [List.length_append, List.length_singleton]; omega, fun a ha => ?_⟩
        rcases List.mem_append.1 ha with ha | ha
        · exact hn a ha
        · rw [List.mem_singleton.1 ha]; exact hi
      · cases h
  · split at h
    · obtain ⟨i, hi, h⟩ := List.mem_flatMap.1 h
      have hi := List.mem_range.1 hi
      unfold rowP at h
      obtain ⟨j, hj, rfl⟩ := List.mem_map.1 h
      have hj := List.mem_range.1 (List.mem_of_mem_drop hj)
      refine ⟨by show (2 : Nat) ≤ 4; omega, fun a ha => ?_⟩
      rcases List.mem_cons.1 ha with rfl | ha
      · exact hi
      · rw [List.mem_singleton.1 ha]; exact hj
    · cases h
theorem rdl_z {w : World} {u : Value} {ei : List Int} (h : RdL w 1 encI u ei) (h0 : ∀ a ∈ ei, 0 ≤ a) : RdL w 1 encZ u (erN ei) := by
  obtain ⟨A, c, rfl, h1, h2, h3⟩ := h
  have hl : (erN ei).length = ei.length := List.length_map ..
  refine ⟨A, c, by rw [hl], by rw [hl]; exact h1, h2, fun hp => ?_⟩
  obtain ⟨ad, rfl, hb, hc⟩ := h3 (by rw [← hl]; exact hp)
  refine ⟨ad, rfl, hb, fun i a hi => ?_⟩
  unfold erN at hi
  rw [List.getElem?_map] at hi
  obtain ⟨z, hz, rfl⟩ := Option.map_eq_some_iff.1 hi
  have h0' := h0 z (List.mem_of_getElem? hz)
  have := hc i z hz
  rw [show encZ z.toNat = encI z from congrArg (fun x : Int => [Value.int .i64 x]) (by omega)]
  exact this
theorem dup_no {ei : List Int} {i : Nat} {a : Int} (h : ei[i]? = some a) (hm : a ∈ ei.take i) : ¬ ei.Nodup := fun hd => by
  obtain ⟨j, hj⟩ := List.mem_iff_getElem?.1 hm
  have hji : j < i := by
    have := (List.getElem?_eq_some_iff.1 hj).1
    rw [List.length_take] at this; omega
  rw [List.getElem?_take_of_lt hji] at hj
  obtain ⟨h1, h2⟩ := List.getElem?_eq_some_iff.1 hj
  obtain ⟨h3, h4⟩ := List.getElem?_eq_some_iff.1 h
  have := List.pairwise_iff_getElem.1 hd j i h1 h3 hji
  exact this (by rw [h2, h4])
theorem toNat_mem {ei : List Int} {a : Int} (h0 : ∀ x ∈ ei, 0 ≤ x) (ha : 0 ≤ a) (h : a.toNat ∈ erN ei) : a ∈ ei := by
  unfold erN at h
  obtain ⟨x, hx, e⟩ := List.mem_map.1 h
  have := h0 x hx
  have : x = a := by omega
  rw [← this]; exact hx
theorem nodup_more {ei : List Int} {i : Nat} {a : Int} (hd : (ei.take i).Nodup) (h : ei[i]? = some a) (hn : a ∉ ei.take i) : (ei.take (i + 1)).Nodup := by
  rw [List.take_add_one, h, Option.toList_some]
  refine List.nodup_append.2 ⟨hd, by simp, fun x hx y hy => ?_⟩
  rw [List.mem_singleton.1 hy]; rintro rfl; exact hn hx
theorem erN_more {ei : List Int} {i : Nat} {a : Int} (h : ei[i]? = some a) : erN (ei.take (i + 1)) = erN (ei.take i) ++ [a.toNat] := by unfold erN; rw [List.take_add_one, h, Option.toList_some, List.map_append]; rfl
theorem others_wr {A B : World} {g : Nat} {t : TypeId} {cs : List Value} (h : Wr A B g) (hb : Blk A g t cs) : KeepsOthers A B :=
  ⟨by rw [h.size]; exact Nat.le_refl _, fun k o hk ho => by
    have hne : k ≠ g := fun e => by subst e; unfold Blk at hb; rw [hb] at hk; cases hk; cases ho
    exact (h.block k hne).trans hk⟩
theorem Blk.put {A : World} {g l : Nat} {t : TypeId} {cs : List Value} {o : Obj} (o' : Obj) (hb : Blk A g t cs) (h : A.heap[l]? = some o) (hc : o.isCells = false) : Blk (A.putObj l o') g t cs := by
  have hne : g ≠ l := fun e => by subst e; unfold Blk at hb; rw [hb] at h; cases h; cases hc
  exact (World.putObj_heap_other hne).trans hb
theorem Own.put {α : Type} {A : World} {l B sz : Nat} {e : TypeId} {enc : α → List Value} {v : Value} {xs : List α} {o : Obj} (o' : Obj) (ho : Own A B e sz enc v xs) (h : A.heap[l]? = some o) (hc : o.isCells = false) : Own (A.putObj l o') B e sz enc v xs := ho.kc (n0 := 0) (Kc.put o' (Nat.zero_le _) h hc)
theorem RdL.put {α : Type} {A : World} {l sz : Nat} {enc : α → List Value} {v : Value} {xs : List α} {o : Obj} (o' : Obj) (hr : RdL A sz enc v xs) (h : A.heap[l]? = some o) (hc : o.isCells = false) : RdL (A.putObj l o') sz enc v xs := by
  refine hr.keep (by simp) fun ad _ _ us j hcs i u hu => ?_
  have h1 := hcs i u hu
  have hb : ((ad.add j).add i).block ≠ l := fun e => by
    rw [World.cell?, e, h] at h1
    cases o <;> first | (cases hc; done) | (simp at h1)
  exact (World.cell?_of_block (World.putObj_heap_other hb)).trans h1
theorem CW.label {P : Program} {Q : Exit → Act → World → Prop} {n m : Nat} {S : Slots} {w : World} (k : QW Q .normal n S w) : CW P (.label m) Q n S w := fun a ha => wp_label (k a ha)
/-! stores behind a mark -/
section
variable {F : Fence} {k n g : Nat} {P : Program} {ops : Array Oper} {Q : Exit → Act → World → Prop} {ds : List Deferred} {l : List Oper} {S : Slots} {w : World} {o : Oper}
theorem RGI.run0 {w' : World} (hO : Open F) (hw : wantS ops S o = some true) (hd : o.dst = none) (hnd : ∀ c, o.op ≠ .defer c)
    (hr : ∀ a, Fr n S a → (execOp a.eval o).run P w = .ok .skip w') (kk : RGI F k P ops Q ds n l S w') : RGI F k P ops Q ds n (o :: l) S w := by
  intro a ha
  unfold wpListIn
  rw [if_pos (ha.1.wanted hw)]
  refine ⟨fun f _ => hO.fn f, ?_⟩
  rw [Oper.semAt_plain F _ _ hnd]
  have e := hr _ ha.1
  rw [show a.eval = Act.eval { a with defers := [] } from rfl, e]
  show wpListIn F k P ops Q l (a.put o.dst undef) w'
  rw [hd]
  exact kk _ ha
theorem RGI.stAll (hO : Open F) {T m : Nat} {x y : Operand} {v : Value} {cs : List Value} (hw : wantS ops S o = some true) (hd : o.dst = none) (ho : o.op = .store T x y) (hx : ev S x = some (.pointer (some ⟨g, 0, none⟩))) (hy : ev S y = some v)
    (hs : sizeP P T = some m) (hv : v.cells.size = m) (hcs : cs.length = m) (h1 : v.cells.toList.all (·.oneCell') = true) (hb : Blk w g T cs)
    (kk : ∀ w', Wr w w' g → Blk w' g T v.cells.toList → RGI F k P ops Q ds n l S w') : RGI F k P ops Q ds n (o :: l) S w := by
  refine RGI.run0 hO (w' := w.setRow g v.cells.toList.toArray) hw hd (by rw [ho]; intro c h; cases h) (fun a ha => ?_) (kk _ (wr_setRow _ _ _) (blk_setRow hb))
  simp only [execOp, ho]; rw [ha.eval hx, ha.eval hy]
  simp [Instr.storeAt, Instr.sureAddr, storeVar_blk hb v rfl hs (by simpa using hv) hcs h1]
theorem RGI.st1 (hO : Open F) {T : Nat} {t : TypeId} {x y : Operand} {v c : Value} (hw : wantS ops S o = some true) (hd : o.dst = none) (ho : o.op = .store T x y) (hx : ev S x = some (.pointer (some ⟨g, 0, none⟩))) (hy : ev S y = some v)
    (hs : sizeP P T = some 1) (h1 : v.oneCell' = true) (hb : Blk w g t [c])
    (kk : ∀ w', Wr w w' g → Blk w' g t [v] → RGI F k P ops Q ds n l S w') : RGI F k P ops Q ds n (o :: l) S w := by
  have hvc : v.cells = #[v] := by cases v <;> first | rfl | simp [Value.oneCell'] at h1
  have hst := run_storeCells_at P g 0 t [v] 0 #[c] w hb (by simp) (fun u hu => by simp at hu; subst hu; exact h1)
  refine RGI.run0 hO (w' := w.setRow g #[v]) hw hd (by rw [ho]; intro c h; cases h) (fun a ha => ?_) (kk _ (wr_setRow _ _ _) (blk_setRow (us := [v]) hb))
  simp only [execOp, ho]; rw [ha.eval hx, ha.eval hy]
  simp [Instr.storeAt, Instr.sureAddr, storeVar, run_sizeOf hs, hvc, hst]
end
end Go.Proofs.YtgjnchjkjdnidaaGreat

/- Walks (SN). Written by program. -/
namespace Go.Proofs.YtgjnchjkjdnidaaGreat
open Go.RowKit
theorem iter_told (k n : Nat) (A : Option Addr) (c : Nat) (er : List Nat) (w : World) {gE gN gG : Nat} (hE : Blk w gE 29 [.slice A er.length c]) (hN : Blk w gN 3 [.int .i64 (n : Int)]) (hG : Blk w gG 127 (goneC er)) (hl : RdL w 1 encZ (.slice A er.length c) er) (her : er.length ≤ 4) (hn : n ≤ 63) :
  SeqTold k Tryz.prog 110 #[.pointer (some ⟨gE, 0, none⟩), .pointer (some ⟨gN, 0, none⟩), .pointer (some ⟨gG, 0, none⟩)] (fun x : El2 => #[x.1]) (fun pre x A => RdL A 1 encZ x.1 x.2 ∧ (pre ++ [x]).map Prod.snd <+: candL n er) (fun xs => xs.map Prod.snd = candL n er) w := fun l J Jx W hW _ hc hY h0 => by
 refine callsIn_wide.2 (Calls.mono (iter_ret k w l gE gN gG n A c er J Jx W hW hE hN hG hl her hn hc hY h0) ?_)
 rintro e B ⟨v, rfl, h⟩
 exact ⟨⟨v, rfl⟩, h⟩

set_option maxRecDepth 100000 in
set_option maxHeartbeats 4000000 in
theorem decode_ret (u v0 : Value) (l : List Nat) (ei : List Int) (w : World) (hl : RdL w 1 encN u l) (he : RdL w 1 encI v0 ei) (hlen : l.length ≤ 100000) (hlen2 : ei.length ≤ 100000) :
  Ret Tryz.prog 31 [u, v0] w (fun v w' => ∃ r x c es e, v = .tuple #[.agg ([r, x] : List Value).toArray, .int .i64 e] ∧ Own w' w.heap.size 5 1 encN r c ∧ Own w' w.heap.size 3 1 encZ x es ∧ DecP l ei e c es ∧ Ex w w') := by
 obtain ⟨uA, uC, rfl⟩ := hl.shape
 obtain ⟨eA, eC, rfl⟩ := he.shape
 have hB0 : Ex w w := Ex.rfl_ _
 refine Ret.ofM 6 Tryz.func31 rfl Tryz.ntmps31 rfl (CWI.ofCW ?_)
 refine CW.seq (CW.region ?_)
 refine RG.box rfl rfl rfl rfl rfl (fun gW w1 egW hx1 hb1 => ?_)
 have hle2 : w.heap.size ≤ gW := by have := (Ex.rfl_ w).size; omega
 have hE3 := hx1
 refine RG.alloc_ rfl rfl rfl rfl inf_73 (fun gX w4 egX hx4 hb4 => ?_)
 have hle5 : w.heap.size ≤ gX := by have := hE3.size; omega
 have hle6 : w1.heap.size ≤ gX := by have := (Ex.rfl_ w1).size; omega
 have hlt7 : gW < gX := by have := Blk.lt hb1; omega
 replace hE3 := Ex.tr hE3 hx4
 have hE8 := hx4
 refine RG.alloc_ rfl rfl rfl rfl inf_26 (fun gY w9 egY hx9 hb9 => ?_)
 have hle10 : w.heap.size ≤ gY := by have := hE3.size; omega
 have hle11 : w1.heap.size ≤ gY := by have := hE8.size; omega
 have hle12 : w4.heap.size ≤ gY := by have := (Ex.rfl_ w4).size; omega
 have hlt13 : gW < gY := by have := Blk.lt (hb1.ext hE8); omega
 have hlt14 : gX < gY := by have := Blk.lt hb4; omega
 replace hE3 := Ex.tr hE3 hx9
 replace hE8 := Ex.tr hE8 hx9
 have hE15 := hx9
 refine RG.done (QW.then_ (CW.scope (CW.seq (CW.seq (CW.region ?_)))))
 refine RG.vl rfl rfl rfl (Ev.ld0 rfl rfl Tryz.underlying58 rfl ((hb1.ext hE8).cells) (rfl)) ?_
 refine RG.call rfl rfl rfl rfl rfl rfl rfl en_66 (isW_ret _ l _ ((hl.ext hE3)) hlen) ?_
 rintro _ w16 ⟨rfl, hx16⟩
 replace hE3 := Ex.tr hE3 hx16
 replace hE8 := Ex.tr hE8 hx16
 replace hE15 := Ex.tr hE15 hx16
 have hE17 := hx16
 refine RG.vl rfl rfl rfl (Ev.not rfl rfl) ?_
 refine RG.done (QW.then_ ?_)
 refine CW.cond rfl (fun hc18 => ?_) (fun hc18 => ?_)
 ·refine CW.seq (CW.region ?_)
  refine RG.vl rfl rfl rfl (Ev.build1 rfl rfl rfl inf_73 rfl rfl (by kernel_rfl) rfl) ?_
  refine RG.stAll (g := gX) rfl rfl rfl rfl rfl sz_73 rfl rfl rfl (hb4.ext hE15) (fun ws19 hwws19 hbws19 => ?_)
  replace hb9 := Blk.far (hb9.ext hE17) hwws19 (by omega)
  replace hE3 := Wr.below hE3 hwws19 hle5
  replace hE8 := Wr.below hE8 hwws19 hle6
  refine RG.st (g := gY) (k := 0) rfl rfl rfl rfl rfl sz_26 rfl hb9 rfl (fun ws20 hwws20 hbws20 => ?_)
  replace hbws19 := Blk.far hbws19 hwws20 (by omega)
  replace hE3 := Wr.below hE3 hwws20 hle10
  replace hE8 := Wr.below hE8 hwws20 hle11
  refine RG.done (QW.then_ (CW.ret (QW.thenRet (QW.noGotoR ?_))))
  refine retBox rfl rfl rfl Tryz.underlying73 rfl sz_73 rfl (us := [.slice none 0 0, .slice none 0 0]) hbws19 Tryz.underlying26 rfl (x := .int .i64 2) hbws20 ?_
  have hB := (Ex.tr hB0 hE3)
  exact ⟨_, _, [], [], 2, rfl, Own.nil_ _ _ _ _ _, Own.nil_ _ _ _ _ _, .inl ⟨.inl (by simpa using (by assumption : (!isW l) = true)), rfl, rfl, rfl⟩, hB⟩
 ·refine CW.skip (QW.then_ (CW.seq ?_))
  have hyes : isW l = true := by simpa using (by assumption : (!isW l) = false)
  obtain ⟨hw1, hw2, hel⟩ := isW_iff.1 hyes
  have hsyl : El (syL l) := El.cons_ (sy_lt hel 0) (El.cons_ (sy_lt hel 1) (El.cons_ (sy_lt hel 2) (el1 (sy_lt hel 3))))
  refine CW.region ?_
  refine RG.alloc_ rfl rfl rfl rfl inf_127 (fun gG w21 egG hx21 hb21 => ?_)
  have hle22 : w.heap.size ≤ gG := by have := hE3.size; omega
  have hle23 : w1.heap.size ≤ gG := by have := hE8.size; omega
  have hle24 : w4.heap.size ≤ gG := by have := hE15.size; omega
  have hle25 : w9.heap.size ≤ gG := by have := hE17.size; omega
  have hle26 : w16.heap.size ≤ gG := by have := (Ex.rfl_ w16).size; omega
  have hlt27 : gW < gG := by have := Blk.lt (hb1.ext hE8); omega
  have hlt28 : gX < gG := by have := Blk.lt (hb4.ext hE15); omega
  have hlt29 : gY < gG := by have := Blk.lt (hb9.ext hE17); omega
  replace hE3 := Ex.tr hE3 hx21
  replace hE8 := Ex.tr hE8 hx21
  replace hE15 := Ex.tr hE15 hx21
  replace hE17 := Ex.tr hE17 hx21
  refine RG.done (QW.then_ (CW.seq (CW.seq (CW.region ?_))))
  refine RG.vl rfl rfl rfl (Ev.move rfl rfl) ?_
  refine RG.vl rfl rfl rfl (Ev.lenL rfl rfl rfl Tryz.underlying29 ((he.ext hE3))) ?_
  refine RG.vl rfl rfl rfl (Ev.move rfl rfl) ?_
  refine RG.done (QW.then_ (CW.block ?_))
  refine CW.loop1 [(1, _), (2, _), (4, _), (5, _), (6, _), (19, _), (20, _)] ⟨rfl, rfl, rfl, rfl, rfl, rfl, rfl, trivial⟩ (fun (i : Nat) => [(21, .int .i64 (i : Int))]) (fun i w' => (i ≤ ei.length ∧ (∀ a ∈ ei.take i, 0 ≤ a ∧ a < l.length) ∧ (ei.take i).Nodup ∧ Blk w' gG 127 (goneC (erN (ei.take i))) ∧ Blk w' gW 58 [.slice uA l.length uC] ∧ Blk w' gX 73 [.slice none 0 0, .slice none 0 0] ∧ Blk w' gY 26 [.int .i64 0]) ∧ Ex w w') (fun i => ei.length - i) (0) ⟨rfl, trivial⟩ ⟨⟨Nat.zero_le _, by simp, by simp, by rw [show erN (ei.take 0) = [] from rfl, ← goneC_nil]; exact hb21, (hb1.ext hE8), (hb4.ext hE15), (hb9.ext hE17)⟩, (Ex.tr hB0 hE3)⟩ ?_
  rintro i wl30 ⟨⟨hi, hall, hnd, hbG, hbW, hbX, hbY⟩, hxwl30⟩
  refine CW.sub (S' := [(21, _), (1, _), (2, _), (4, _), (5, _), (6, _), (19, _), (20, _)]) ⟨rfl, rfl, rfl, rfl, rfl, rfl, rfl, rfl, trivial⟩ ?_
  refine CW.seq (CW.region ?_)
  refine RG.vl rfl rfl rfl (Ev.lss rfl rfl rfl) ?_
  refine RG.done (QW.then_ (CW.seq ?_))
  refine CW.condP rfl (fun hc31 => ?_) (fun hc31 => ?_)
  ·refine CW.skip (QW.then_ (CW.seq (CW.block (CW.seq ?_))))
   obtain ⟨a, hx⟩ : ∃ a, ei[i]? = some a := ⟨_, List.getElem?_eq_getElem (by omega)⟩
   refine CW.region ?_
   refine RG.idxL rfl rfl rfl rfl rfl rfl Tryz.underlying29 sz_3 ((he.ext hxwl30)) (hx) (fun p32 hp32b hp32 => ?_)
   refine RG.vl rfl rfl rfl (Ev.ld0 rfl rfl Tryz.underlying3 rfl (hp32) (rfl)) ?_
   refine RG.vl rfl rfl rfl (Ev.assign rfl rfl) ?_
   refine RG.done (QW.then_ (CW.seq (CW.seq (CW.region ?_))))
   refine RG.vl rfl rfl rfl (Ev.move rfl rfl) ?_
   refine RG.vl rfl rfl rfl (Ev.lss rfl rfl rfl) ?_
   refine RG.vl rfl rfl rfl (Ev.move rfl rfl) ?_
   refine RG.split (d := 27) rfl (fun hg33 => ?_) (fun hg33 => ?_)
   ·refine RG.pass rfl rfl rfl ?_
    refine RG.pass rfl rfl rfl ?_
    refine RG.pass rfl rfl rfl ?_
    refine RG.pass rfl rfl rfl ?_
    refine RG.vl rfl rfl rfl (Ev.pickT rfl rfl rfl) ?_
    refine RG.vl rfl rfl rfl (Ev.move rfl rfl) ?_
    refine RG.pass rfl rfl rfl ?_
    refine RG.pass rfl rfl rfl ?_
    refine RG.pass rfl rfl rfl ?_
    refine RG.vl rfl rfl rfl (Ev.pickT rfl rfl rfl) ?_
    refine RG.done ?_
    refine QW.sub (S' := [(1, _), (2, _), (4, _), (5, _), (6, _), (8, _), (19, _), (20, _), (21, _), (37, _)]) ⟨rfl, rfl, rfl, rfl, rfl, rfl, rfl, rfl, rfl, rfl, trivial⟩ ?_
    refine QW.then_ ?_
    refine CW.condT rfl ?_
    refine CW.seq (CW.region ?_)
    refine RG.vl rfl rfl rfl (Ev.build1 rfl rfl rfl inf_73 rfl rfl (by kernel_rfl) rfl) ?_
    refine RG.stAll (g := gX) rfl rfl rfl rfl rfl sz_73 rfl rfl rfl hbX (fun ws34 hwws34 hbws34 => ?_)
    replace hbG := Blk.far hbG hwws34 (by omega)
    replace hbW := Blk.far hbW hwws34 (by omega)
    replace hbY := Blk.far hbY hwws34 (by omega)
    replace hxwl30 := Wr.below hxwl30 hwws34 hle5
    refine RG.st (g := gY) (k := 0) rfl rfl rfl rfl rfl sz_26 rfl hbY rfl (fun ws35 hwws35 hbws35 => ?_)
    replace hbG := Blk.far hbG hwws35 (by omega)
    replace hbW := Blk.far hbW hwws35 (by omega)
    replace hbws34 := Blk.far hbws34 hwws35 (by omega)
    replace hxwl30 := Wr.below hxwl30 hwws35 hle10
    refine RG.done (QW.then_ (CW.ret (QW.thenRet (QW.blockR (QW.thenRet (QW.thenRet ?_))))))
    refine QW.blockR (QW.thenRet (QW.noGotoR ?_))
    refine retBox rfl rfl rfl Tryz.underlying73 rfl sz_73 rfl (us := [.slice none 0 0, .slice none 0 0]) hbws34 Tryz.underlying26 rfl (x := .int .i64 2) hbws35 ?_
    have hB := (Ex.tr hB0 hxwl30)
    have ham := List.mem_of_getElem? hx
    have hbad : ¬ okE l.length ei := fun h => by
     have h1 := h.1 a ham
     first | omega | exact dup_no hx (toNat_mem (fun y hy => (hall y hy).1) (by omega) (by assumption)) h.2
    exact ⟨_, _, [], [], 2, rfl, Own.nil_ _ _ _ _ _, Own.nil_ _ _ _ _ _, .inl ⟨.inr hbad, rfl, rfl, rfl⟩, hB⟩
   ·refine RG.vl rfl rfl rfl (Ev.move rfl rfl) ?_
    refine RG.vl rfl rfl rfl (Ev.ld0 rfl rfl Tryz.underlying58 rfl (hbW.cells) (rfl)) ?_
    refine RG.vl rfl rfl rfl (Ev.lenL rfl rfl rfl Tryz.underlying58 ((hl.ext hxwl30))) ?_
    refine RG.vl rfl rfl rfl (Ev.geq rfl rfl rfl) ?_
    refine RG.vl rfl rfl rfl (Ev.pickF rfl rfl rfl) ?_
    refine RG.vl rfl rfl rfl (Ev.move rfl rfl) ?_
    refine RG.split (d := 33) rfl (fun hg36 => ?_) (fun hg36 => ?_)
    ·refine RG.pass rfl rfl rfl ?_
     refine RG.pass rfl rfl rfl ?_
     refine RG.pass rfl rfl rfl ?_
     refine RG.vl rfl rfl rfl (Ev.pickT rfl rfl rfl) ?_
     refine RG.done ?_
     refine QW.sub (S' := [(1, _), (2, _), (4, _), (5, _), (6, _), (8, _), (19, _), (20, _), (21, _), (37, _)]) ⟨rfl, rfl, rfl, rfl, rfl, rfl, rfl, rfl, rfl, rfl, trivial⟩ ?_
     refine QW.then_ ?_
     refine CW.condT rfl ?_
     refine CW.seq (CW.region ?_)
     refine RG.vl rfl rfl rfl (Ev.build1 rfl rfl rfl inf_73 rfl rfl (by kernel_rfl) rfl) ?_
     refine RG.stAll (g := gX) rfl rfl rfl rfl rfl sz_73 rfl rfl rfl hbX (fun ws37 hwws37 hbws37 => ?_)
     replace hbG := Blk.far hbG hwws37 (by omega)
     replace hbW := Blk.far hbW hwws37 (by omega)
     replace hbY := Blk.far hbY hwws37 (by omega)
     replace hxwl30 := Wr.below hxwl30 hwws37 hle5
     refine RG.st (g := gY) (k := 0) rfl rfl rfl rfl rfl sz_26 rfl hbY rfl (fun ws38 hwws38 hbws38 => ?_)
     replace hbG := Blk.far hbG hwws38 (by omega)
     replace hbW := Blk.far hbW hwws38 (by omega)
     replace hbws37 := Blk.far hbws37 hwws38 (by omega)
     replace hxwl30 := Wr.below hxwl30 hwws38 hle10
     refine RG.done (QW.then_ (CW.ret (QW.thenRet (QW.blockR (QW.thenRet (QW.thenRet ?_))))))
     refine QW.blockR (QW.thenRet (QW.noGotoR ?_))
     refine retBox rfl rfl rfl Tryz.underlying73 rfl sz_73 rfl (us := [.slice none 0 0, .slice none 0 0]) hbws37 Tryz.underlying26 rfl (x := .int .i64 2) hbws38 ?_
     have hB := (Ex.tr hB0 hxwl30)
     have ham := List.mem_of_getElem? hx
     have hbad : ¬ okE l.length ei := fun h => by
      have h1 := h.1 a ham
      first | omega | exact dup_no hx (toNat_mem (fun y hy => (hall y hy).1) (by omega) (by assumption)) h.2
     exact ⟨_, _, [], [], 2, rfl, Own.nil_ _ _ _ _ _, Own.nil_ _ _ _ _ _, .inl ⟨.inr hbad, rfl, rfl, rfl⟩, hB⟩
    ·refine RG.vl rfl rfl rfl ((Ev.move rfl rfl).conv (congrArg (Value.int .i64) (show a = ((a.toNat : Nat) : Int) by omega))) ?_
     refine RG.vl rfl rfl rfl (Ev.idxA rfl rfl rfl Tryz.underlying127 sz_4 (by omega)) ?_
     refine RG.vl rfl rfl rfl (Ev.ldAt rfl rfl Tryz.underlying4 rfl (hbG.cells) ((show (goneC (erN (ei.take i)))[a.toNat * 1]? = some (.bool (decide (a.toNat ∈ erN (ei.take i)))) by rw [Nat.mul_one]; exact goneC_at _ (by omega)))) ?_
     refine RG.vl rfl rfl rfl (Ev.pickF rfl rfl rfl) ?_
     refine RG.done ?_
     refine QW.sub (S' := [(1, _), (2, _), (4, _), (5, _), (6, _), (8, _), (19, _), (20, _), (21, _), (37, _)]) ⟨rfl, rfl, rfl, rfl, rfl, rfl, rfl, rfl, rfl, rfl, trivial⟩ ?_
     refine QW.then_ ?_
     refine CW.condP rfl (fun hc39 => ?_) (fun hc39 => ?_)
     ·refine CW.seq (CW.region ?_)
      refine RG.vl rfl rfl rfl (Ev.build1 rfl rfl rfl inf_73 rfl rfl (by kernel_rfl) rfl) ?_
      refine RG.stAll (g := gX) rfl rfl rfl rfl rfl sz_73 rfl rfl rfl hbX (fun ws40 hwws40 hbws40 => ?_)
      replace hbG := Blk.far hbG hwws40 (by omega)
      replace hbW := Blk.far hbW hwws40 (by omega)
      replace hbY := Blk.far hbY hwws40 (by omega)
      replace hxwl30 := Wr.below hxwl30 hwws40 hle5
      refine RG.st (g := gY) (k := 0) rfl rfl rfl rfl rfl sz_26 rfl hbY rfl (fun ws41 hwws41 hbws41 => ?_)
      replace hbG := Blk.far hbG hwws41 (by omega)
      replace hbW := Blk.far hbW hwws41 (by omega)
      replace hbws40 := Blk.far hbws40 hwws41 (by omega)
      replace hxwl30 := Wr.below hxwl30 hwws41 hle10
      refine RG.done (QW.then_ (CW.ret (QW.thenRet (QW.blockR (QW.thenRet (QW.thenRet ?_))))))
      refine QW.blockR (QW.thenRet (QW.noGotoR ?_))
      refine retBox rfl rfl rfl Tryz.underlying73 rfl sz_73 rfl (us := [.slice none 0 0, .slice none 0 0]) hbws40 Tryz.underlying26 rfl (x := .int .i64 2) hbws41 ?_
      have hB := (Ex.tr hB0 hxwl30)
      have ham := List.mem_of_getElem? hx
      have hbad : ¬ okE l.length ei := fun h => by
       have h1 := h.1 a ham
       first | omega | exact dup_no hx (toNat_mem (fun y hy => (hall y hy).1) (by omega) (by assumption)) h.2
      exact ⟨_, _, [], [], 2, rfl, Own.nil_ _ _ _ _ _, Own.nil_ _ _ _ _ _, .inl ⟨.inr hbad, rfl, rfl, rfl⟩, hB⟩
     ·refine CW.skip (QW.then_ (CW.region ?_))
      refine RG.vl rfl rfl rfl ((Ev.move rfl rfl).conv (congrArg (Value.int .i64) (show a = ((a.toNat : Nat) : Int) by omega))) ?_
      refine RG.vl rfl rfl rfl (Ev.idxA rfl rfl rfl Tryz.underlying127 sz_4 (by omega)) ?_
      refine RG.st (g := gG) (k := _) rfl rfl rfl rfl rfl sz_4 rfl hbG (by rw [goneC_len, Nat.blt_eq]; omega) (fun ws42 hwws42 hbws42 => ?_)
      replace hbW := Blk.far hbW hwws42 (by omega)
      replace hbX := Blk.far hbX hwws42 (by omega)
      replace hbY := Blk.far hbY hwws42 (by omega)
      replace hxwl30 := Wr.below hxwl30 hwws42 hle22
      rw [goneC_set] at hbws42
      refine RG.done (QW.blockN (QW.then_ (CW.region ?_)))
      refine RG.vl rfl rfl rfl (Ev.addI rfl rfl rfl (by omega)) ?_
      refine RG.vl rfl rfl rfl (Ev.move rfl rfl) ?_
      refine RG.done ?_
      refine QW.round1 (i + 1) ⟨rfl, trivial⟩ ⟨rfl, rfl, rfl, rfl, rfl, rfl, rfl, trivial⟩ ⟨⟨by omega, fun y hy => by rw [List.take_add_one, hx] at hy; rcases List.mem_append.1 hy with h | h; exact hall y h; rw [Option.mem_toList] at h; injection h with h; omega, nodup_more hnd hx (fun hm => absurd (List.mem_map_of_mem hm : a.toNat ∈ erN (ei.take i)) (by assumption)), by rw [erN_more hx]; exact hbws42, hbW, hbX, hbY⟩, (Ex.tr hB0 hxwl30)⟩ (by omega)
  ·refine CW.exit (QW.thenExit (QW.thenExit (QW.blockHit (QW.then_ (CW.seq (CW.seq ?_))))))
   obtain rfl : i = ei.length := by omega
   rw [List.take_length] at hall hnd hbG
   have hok : okE l.length ei := ⟨hall, hnd⟩
   refine CW.region ?_
   refine RG.vl rfl rfl rfl (Ev.move rfl rfl) ?_
   refine RG.vl rfl rfl rfl (Ev.lenL rfl rfl rfl Tryz.underlying29 ((he.ext hxwl30))) ?_
   refine RG.vl rfl rfl rfl (Ev.gtr rfl rfl rfl) ?_
   refine RG.done (QW.then_ ?_)
   refine CW.condP rfl (fun hc43 => ?_) (fun hc43 => ?_)
   ·refine CW.seq (CW.region ?_)
    refine RG.vl rfl rfl rfl (Ev.build1 rfl rfl rfl inf_73 rfl rfl (by kernel_rfl) rfl) ?_
    refine RG.stAll (g := gX) rfl rfl rfl rfl rfl sz_73 rfl rfl rfl hbX (fun ws44 hwws44 hbws44 => ?_)
    replace hbG := Blk.far hbG hwws44 (by omega)
    replace hbW := Blk.far hbW hwws44 (by omega)
    replace hbY := Blk.far hbY hwws44 (by omega)
    replace hxwl30 := Wr.below hxwl30 hwws44 hle5
    refine RG.st (g := gY) (k := 0) rfl rfl rfl rfl rfl sz_26 rfl hbY rfl (fun ws45 hwws45 hbws45 => ?_)
    replace hbG := Blk.far hbG hwws45 (by omega)
    replace hbW := Blk.far hbW hwws45 (by omega)
    replace hbws44 := Blk.far hbws44 hwws45 (by omega)
    replace hxwl30 := Wr.below hxwl30 hwws45 hle10
    refine RG.done (QW.then_ (CW.ret (QW.thenRet (QW.noGotoR ?_))))
    refine retBox rfl rfl rfl Tryz.underlying73 rfl sz_73 rfl (us := [.slice none 0 0, .slice none 0 0]) hbws44 Tryz.underlying26 rfl (x := .int .i64 190) hbws45 ?_
    have hB := (Ex.tr hB0 hxwl30)
    exact ⟨_, _, [], [], 190, rfl, Own.nil_ _ _ _ _ _, Own.nil_ _ _ _ _ _, .inr ⟨hyes, hok, .inl ⟨by omega, rfl, rfl, rfl⟩⟩, hB⟩
   ·refine CW.skip (QW.then_ (CW.seq ?_))
    have hez := rdl_z he (fun a ha => (hok.1 a ha).1)
    refine CW.region ?_
    refine RG.vl rfl rfl rfl (Ev.ld0 rfl rfl Tryz.underlying58 rfl (hbW.cells) (rfl)) ?_
    refine RG.call rfl rfl rfl rfl rfl rfl rfl en_67 (syn_ret _ l _ ((hl.ext hxwl30)) hel hw2) ?_
    rintro _ w46 ⟨rfl, hx46⟩
    replace hxwl30 := Ex.tr hxwl30 hx46
    have hE47 := hx46
    refine RG.local_ rfl rfl rfl rfl (fun _ => rfl) rfl rfl (fun _ => rfl) inf_128 rfl rfl rfl (fun gS w48 egS hx48 hb48 => ?_)
    have hle49 : w.heap.size ≤ gS := by have := hxwl30.size; omega
    have hle50 : wl30.heap.size ≤ gS := by have := hE47.size; omega
    have hle51 : w46.heap.size ≤ gS := by have := (Ex.rfl_ w46).size; omega
    have hlt52 : gG < gS := by have := Blk.lt (hbG.ext hE47); omega
    have hlt53 : gW < gS := by have := Blk.lt (hbW.ext hE47); omega
    have hlt54 : gX < gS := by have := Blk.lt (hbX.ext hE47); omega
    have hlt55 : gY < gS := by have := Blk.lt (hbY.ext hE47); omega
    replace hxwl30 := Ex.tr hxwl30 hx48
    replace hE47 := Ex.tr hE47 hx48
    refine RG.done (QW.then_ (CW.seq (CW.label (QW.then_ (CW.seq (CW.seq ?_))))))
    refine CW.region ?_
    refine RG.vl rfl rfl rfl (Ev.ld0 rfl rfl Tryz.underlying58 rfl ((hbW.ext hE47).cells) (rfl)) ?_
    refine RG.vl rfl rfl rfl (Ev.lenL rfl rfl rfl Tryz.underlying58 ((hl.ext hxwl30))) ?_
    refine RG.vl rfl rfl rfl (Ev.move rfl rfl) ?_
    refine RG.vl rfl rfl rfl (Ev.ldAgg rfl rfl Tryz.underlying127 rfl sz_127 rfl ((hbG.ext hE47).cells)) ?_
    refine RG.call rfl rfl rfl rfl rfl rfl rfl en_68 (cand_ret l.length _ _ _ (goneC (erN ei)) _) ?_
    rintro _ w56 ⟨⟨gN, gE, gC, rfl, hN, hE, hC⟩, hx56⟩
    replace hxwl30 := Ex.tr hxwl30 hx56
    replace hE47 := Ex.tr hE47 hx56
    have hE57 := hx56
    refine RG.done (QW.then_ (CW.block ?_))
    replace hl := (hl.ext hxwl30)
    replace he := (he.ext hxwl30)
    replace hbG := (hbG.ext hE47)
    replace hbW := (hbW.ext hE47)
    replace hbX := (hbX.ext hE47)
    replace hbY := (hbY.ext hE47)
    replace hez := (hez.ext hxwl30)
    replace hb48 := (hb48.ext hE57)
    have hR58 := (Ex.tr hB0 hxwl30)
    have hR59 := hE47
    have hR60 := hE57
    have hw1 := hR58
    have hgX0 := hle5
    have hgY0 := hle10
    have hlenE : (erN ei).length = ei.length := List.length_map ..
    have hltX := Blk.lt hbX
    have hltY := Blk.lt hbY
    have hern : ∀ a ∈ erN ei, a < l.length := fun a ha => by obtain ⟨z, hz, rfl⟩ := List.mem_map.1 ha; have := hok.1 z hz; omega
    have htold := iter_told 5 l.length eA eC (erN ei) w56 (by rw [hlenE]; exact hE) hN hC (by rw [hlenE]; exact hez) (by omega) hw2
    refine CW.fenced 6 ?_
    intro a hf
    refine wpIn_rangeTold (by decide) (gf := 110) (hf.1.eval (x := .tmp 52) rfl) en_110 htold (fun _ => rfl) (fun pre A => Below w56.heap.size w56 A ∧ ∀ y ∈ pre, NoF l y.2)
     (fun _ A => ∃ r x c es P q rest, Blk A gX 73 [r, x] ∧ Blk A gY 26 [.int .i64 0] ∧ Own A w.heap.size 5 1 encN r c ∧ Own A w.heap.size 3 1 encZ x es ∧ Below w.heap.size w A ∧ candL l.length (erN ei) = q ++ P :: rest ∧ (∀ Q ∈ q, NoF l Q) ∧ YesF l P c ∧ es = freeL P (erN ei))
     (fun s A B row h hg hr => ⟨h.1.grown hg h.1.size hr, h.2⟩) ?ix (fun s x A d o o' h ho hc => ⟨h.1.put o' ho hc, h.2⟩) ⟨Below.refl _ _, by simp⟩ (fun x => ({ tmps := a.tmps.setIfInBounds 53 x.1, defers := [] } : Act).put (some 10) x.1) ?assign ?body ?done ?stop
    case ix =>
     rintro s A d o o' ⟨r, x, c, es, P, q, rest, h1, h2, h3, h4, h5, h6⟩ hd ho hc
     exact ⟨r, x, c, es, P, q, rest, h1.put o' ho hc, h2.put o' ho hc, h3.put o' ho hc, h4.put o' ho hc, Below.trans h5 (Kc.put o' (Nat.le_trans hw1.size hd) ho hc).1, h6⟩
    case assign =>
     intro d x W K hK
     exact assign1 (open_round d) rfl rfl rfl (by have := hf.1.sz; simp at this; omega) hK
    case body =>
     rintro d pre ⟨xv, P⟩ W ⟨hI1, hI2⟩ ⟨hrx, hpf⟩
     have hszW := hI1.size
     have hPm : P ∈ candL l.length (erN ei) := hpf.subset (by simp)
     obtain ⟨hP4, hPn⟩ := cand_in hPm (by omega) hern
     have hrx : RdL W 1 encZ xv P := hrx
     obtain ⟨xA, xC, rfl⟩ := hrx.shape
     refine CWJ.into (S := _) ((hf.1.put (d := 53) rfl).put rfl) ?_
     refine CWJ.sub (S' := [(10, _), (2, _), (4, _), (5, _), (6, _), (9, _)]) ⟨rfl, rfl, rfl, rfl, rfl, rfl, trivial⟩ ?_
     refine CWJ.block (CWJ.seq ?_)
     refine CWJ.region rfl (fun _ _ h => h) ?_
     refine RG.vl rfl rfl rfl (Ev.ld0 rfl rfl Tryz.underlying58 rfl ((hbW.ext hI1).cells) (rfl)) ?_
     refine RG.vl rfl rfl rfl (Ev.lenL rfl rfl rfl Tryz.underlying58 ((hl.ext hI1))) ?_
     refine RG.vl rfl rfl rfl (Ev.move rfl rfl) ?_
     refine RG.vl rfl rfl rfl (Ev.ldAgg rfl rfl Tryz.underlying128 rfl sz_128 rfl ((hb48.ext hI1).cells)) ?_
     refine RG.call rfl rfl rfl rfl rfl rfl rfl en_69 (eqsOf_ret l.length _ P (syL l) _ (hrx) hP4 hw2 hPn rfl) ?_
     rintro _ w61 ⟨rfl, hx61⟩
     replace hI1 := Ex.tr hI1 hx61
     have hE62 := hx61
     replace hl := (hl.ext hI1)
     replace he := (he.ext hI1)
     replace hbG := (hbG.ext hI1)
     replace hbW := (hbW.ext hI1)
     replace hbX := (hbX.ext hI1)
     replace hbY := (hbY.ext hI1)
     replace hez := (hez.ext hI1)
     replace hb48 := (hb48.ext hI1)
     replace hN := (hN.ext hI1)
     replace hE := (hE.ext hI1)
     replace hC := (hC.ext hI1)
     replace hrx := (hrx.ext hE62)
     have hR63 := (Ex.tr hw1 hI1)
     have hR64 := hI1
     have hR65 := hE62
     refine RG.local_ rfl rfl rfl rfl (fun _ => rfl) rfl rfl (fun _ => rfl) inf_135 rfl rfl rfl (fun gM w66 egM hx66 hb66 => ?_)
     have hle67 : w61.heap.size ≤ gM := by have := (Ex.rfl_ w61).size; omega
     have hlt68 : gG < gM := by have := Blk.lt hbG; omega
     have hlt69 : gW < gM := by have := Blk.lt hbW; omega
     have hlt70 : gX < gM := by have := Blk.lt hbX; omega
     have hlt71 : gY < gM := by have := Blk.lt hbY; omega
     have hlt72 : gS < gM := by have := Blk.lt hb48; omega
     have hlt73 : gN < gM := by have := Blk.lt hN; omega
     have hlt74 : gE < gM := by have := Blk.lt hE; omega
     have hlt75 : gC < gM := by have := Blk.lt hC; omega
     have hE76 := hx66
     refine RG.done (QWJ.then_ (CWJ.seq (CWJ.seq ?_)))
     refine CWJ.region rfl (fun _ _ h => h) ?_
     refine RG.vl rfl rfl rfl (Ev.move rfl rfl) ?_
     refine RG.vl rfl rfl rfl (Ev.lenL rfl rfl rfl Tryz.underlying29 ((hrx.ext hE76))) ?_
     refine RG.call rfl rfl rfl rfl rfl rfl rfl en_70 (solve_ret w61 gM P.length (eqM l.length P (syL l)) _ hE76 hle67 hb66 (eqM_el hsyl) hP4) ?_
     rintro _ w77 ⟨bv, M, rfl, hbw78, hsv, hxw79⟩
     replace hE76 := hxw79
     refine RG.vl rfl rfl rfl (Ev.not rfl rfl) ?_
     refine RG.done (QWJ.then_ ?_)
     refine CWJ.cond rfl (fun hc80 => ?_) (fun hc80 => ?_)
     ·refine CWJ.exit (QW.thenExit (QW.blockHit ?_))
      have hbv : bv = false := by simpa using (by assumption : (!bv) = true)
      rw [hbv] at hsv
      exact QW.of fun _ => ⟨others_ex (Ex.tr hR65 hE76), Kc.of_ex (Ex.tr hR65 hE76) hszW, (Ex.tr hR64 hE76), fun y hy => (List.mem_append.1 hy).elim (hI2 y) (fun h => by rw [List.mem_singleton.1 h]; exact ⟨_, hsv⟩)⟩
     ·refine CWJ.skip (QWJ.then_ (CWJ.seq ?_))
      have hbv : bv = true := by simpa using (by assumption : (!bv) = false)
      rw [hbv] at hsv
      have hM := (hsv.1 rfl).1
      have hs4 := ((Ex.tr hR64 hE76)).size
      refine CWJ.region rfl (fun _ _ h => h) ?_
      refine RG.vl rfl rfl rfl (Ev.ld0 rfl rfl Tryz.underlying58 rfl ((hbW.ext hE76).cells) (rfl)) ?_
      replace hl := (hl.ext hE76)
      replace he := (he.ext hE76)
      replace hbG := (hbG.ext hE76)
      replace hbW := (hbW.ext hE76)
      replace hbX := (hbX.ext hE76)
      replace hbY := (hbY.ext hE76)
      replace hez := (hez.ext hE76)
      replace hb48 := (hb48.ext hE76)
      replace hN := (hN.ext hE76)
      replace hE := (hE.ext hE76)
      replace hC := (hC.ext hE76)
      replace hrx := (hrx.ext hE76)
      have hR81 := (Ex.tr hR63 hE76)
      have hR82 := (Ex.tr hR64 hE76)
      have hR83 := (Ex.tr hR65 hE76)
      have hR84 := hE76
      refine RG.call rfl rfl rfl rfl rfl rfl rfl en_59 (clone_ret _ l _ (hl) hlen) ?_
      have hpre85 := hR81
      rintro vc w85 ⟨hoc0, hx85⟩
      have hsb86 := fun e => sep_blk hbG (Nat.le_refl _) hoc0 e
      have hsb87 := fun e => sep_blk hbW (Nat.le_refl _) hoc0 e
      have hsb88 := fun e => sep_blk hbX (Nat.le_refl _) hoc0 e
      have hsb89 := fun e => sep_blk hbY (Nat.le_refl _) hoc0 e
      have hsb90 := fun e => sep_blk hb48 (Nat.le_refl _) hoc0 e
      have hsb91 := fun e => sep_blk hN (Nat.le_refl _) hoc0 e
      have hsb92 := fun e => sep_blk hE (Nat.le_refl _) hoc0 e
      have hsb93 := fun e => sep_blk hC (Nat.le_refl _) hoc0 e
      have hsb94 := fun e => sep_blk hbw78 (Nat.le_refl _) hoc0 e
      have hE95 := hx85
      obtain ⟨Avc, Cvc, rfl⟩ := hoc0.shape
      have hoc := hoc0
      refine RG.vl rfl rfl rfl (Ev.build1 rfl rfl rfl inf_73 rfl rfl (by kernel_rfl) rfl) ?_
      refine RG.local_ rfl rfl rfl rfl (fun _ => rfl) rfl rfl (fun _ => rfl) inf_73 rfl rfl rfl (fun gF w96 egF hx96 hb96 => ?_)
      have hsb97 := fun e => sep_new (g := gF) hoc egF e
      have hle98 : w77.heap.size ≤ gF := by have := hE95.size; omega
      have hle99 : w85.heap.size ≤ gF := by have := (Ex.rfl_ w85).size; omega
      have hlt100 : gG < gF := by have := Blk.lt (hbG.ext hE95); omega
      have hlt101 : gW < gF := by have := Blk.lt (hbW.ext hE95); omega
      have hlt102 : gX < gF := by have := Blk.lt (hbX.ext hE95); omega
      have hlt103 : gY < gF := by have := Blk.lt (hbY.ext hE95); omega
      have hlt104 : gS < gF := by have := Blk.lt (hb48.ext hE95); omega
      have hlt105 : gN < gF := by have := Blk.lt (hN.ext hE95); omega
      have hlt106 : gE < gF := by have := Blk.lt (hE.ext hE95); omega
      have hlt107 : gC < gF := by have := Blk.lt (hC.ext hE95); omega
      have hlt108 : gM < gF := by have := Blk.lt (hbw78.ext hE95); omega
      replace hE95 := Ex.tr hE95 hx96
      have hE109 := hx96
      refine RG.done ?_
      refine QW.sub (S' := [(4, _), (5, _), (6, _), (10, _), (11, _), (12, _)]) ⟨rfl, rfl, rfl, rfl, rfl, rfl, trivial⟩ ?_
      refine QWJ.then_ (CWJ.seq (CWJ.seq ?_))
      refine CWJ.region rfl (fun _ _ h => h) ?_
      refine RG.vl rfl rfl rfl (Ev.move rfl rfl) ?_
      refine RG.vl rfl rfl rfl (Ev.lenL rfl rfl rfl Tryz.underlying29 ((hrx.ext hE95))) ?_
      refine RG.vl rfl rfl rfl (Ev.move rfl rfl) ?_
      refine RG.done (QWJ.then_ (CWJ.block ?_))
      refine CWJ.loop2 [(4, _), (5, _), (6, _), (11, _), (12, _), (66, _), (67, _)] ⟨rfl, rfl, rfl, rfl, rfl, rfl, rfl, trivial⟩ (fun (i : Nat) (ve : Value) => [(68, .int .i64 (i : Int))]) (fun i ve w' => (i ≤ P.length ∧ Blk w' gF 73 [(Value.slice Avc l.length Cvc), ve] ∧ Own w' w77.heap.size 5 1 encN (Value.slice Avc l.length Cvc) (fixL l P M i) ∧ Own w' w77.heap.size 3 1 encZ ve (freeL (P.take i) (erN ei)) ∧ Sep (Value.slice Avc l.length Cvc) ve ∧ (ve.ownBlock = some gF → False)) ∧ Ex w77 w') (fun i ve => P.length - i) (0) (.slice none 0 0) ⟨rfl, trivial⟩ ⟨⟨Nat.zero_le _, hb96, (Own.ext hoc hE109), Own.nil_ _ _ _ _ _, (Sep.nil_ _).symm, fun e => by cases e⟩, hE95⟩ ?_
      rintro i ve wl110 ⟨⟨hi, hbF, hoc, hoe, hsp, hsb⟩, hxwl110⟩
      refine CWJ.sub (S' := [(68, _), (4, _), (5, _), (6, _), (11, _), (12, _), (66, _), (67, _)]) ⟨rfl, rfl, rfl, rfl, rfl, rfl, rfl, rfl, trivial⟩ ?_
      refine CWJ.seq ?_
      refine CWJ.region rfl (fun _ _ h => h) ?_
      refine RG.vl rfl rfl rfl (Ev.lss rfl rfl rfl) ?_
      refine RG.done (QWJ.then_ (CWJ.seq ?_))
      refine CWJ.condP rfl (fun hc111 => ?_) (fun hc111 => ?_)
      ·refine CWJ.skip (QWJ.then_ (CWJ.seq (CWJ.block (CWJ.seq ?_))))
       obtain ⟨a, hpl⟩ : ∃ a, P[i]? = some a := ⟨_, List.getElem?_eq_getElem (by omega)⟩
       have hal := hPn a (List.mem_of_getElem? hpl)
       have hfl := fixL_len l P M i
       have hfe := (fixL_el (P := P) hel hM i (by omega)).cf a
       have hm4 := hM i 4 (by omega) (by omega)
       have hxr := xor_lt64 _ _ hfe hm4
       have hfr := freeL_len P (erN ei) i
       refine CWJ.region rfl (fun _ _ h => h) ?_
       refine RG.vl rfl rfl rfl (Ev.move rfl rfl) ?_
       refine RG.idxL rfl rfl rfl rfl rfl rfl Tryz.underlying29 sz_3 ((hrx.ext hxwl110)) (hpl) (fun p112 hp112b hp112 => ?_)
       refine RG.vl rfl rfl rfl (Ev.ld0 rfl rfl Tryz.underlying3 rfl (hp112) (rfl)) ?_
       refine RG.vl rfl rfl rfl (Ev.assign rfl rfl) ?_
       refine RG.vl rfl rfl rfl (Ev.assign rfl rfl) ?_
       refine RG.done (QWJ.then_ (CWJ.seq ?_))
       refine CWJ.draw [11] (.ex) 12 rfl mixed rfl (fun _ _ h => h) (fun wd113 hxwd113 => ?_)
       replace hxwl110 := Ex.tr hxwl110 hxwd113
       have hE114 := hxwd113
       refine AG.takeW 0 rfl (by kernel_rfl) (by kernel_rfl) rfl rfl rfl (fun _ => Ev.fld rfl rfl fld_73_0) ?_
       refine AG.take 1 rfl (by kernel_rfl) (by kernel_rfl) rfl rfl rfl (fun wq hq => Ev.ldAt rfl rfl Tryz.underlying58 rfl (((hbF.ext hE114).ext hq).cells) (rfl)) ?_
       refine AG.takeW 2 rfl (by kernel_rfl) (by kernel_rfl) rfl rfl rfl (fun _ => Ev.move rfl rfl) ?_
       refine AG.idxO _ 3 rfl (by kernel_rfl) (by kernel_rfl) rfl rfl rfl rfl rfl rfl Tryz.underlying58 sz_5 encN_len ((Own.ext hoc hE114)) (getElem?_cf (by omega)) (fun g116 hg116 hBg116 hp115b hp115 => ?_)
       refine AG.take 4 rfl (by kernel_rfl) (by kernel_rfl) rfl rfl rfl (fun wq hq => Ev.ld0 rfl rfl Tryz.underlying5 rfl (hp115.ext hq hp115b) (rfl)) ?_
       refine AG.takeW 5 rfl (by kernel_rfl) (by kernel_rfl) rfl rfl rfl (fun _ => Ev.move rfl rfl) ?_
       refine AG.takeW 6 rfl (by kernel_rfl) (by kernel_rfl) rfl rfl rfl (fun _ => Ev.idxA rfl rfl rfl Tryz.underlying135 sz_133 (by omega)) ?_
       refine AG.takeW 7 rfl (by kernel_rfl) (by kernel_rfl) rfl rfl rfl (fun _ => Ev.idxA (i := 4) rfl rfl rfl Tryz.underlying133 sz_5 (by omega)) ?_
       refine AG.take 8 rfl (by kernel_rfl) (by kernel_rfl) rfl rfl rfl (fun wq hq => Ev.ldAA rfl rfl Tryz.underlying5 rfl (((hbw78.ext hxwl110).ext hq).cells) ((show (mc _)[i * 5 + 4 * 1]? = some (.int .u8 (M i 4 : Int)) by rw [mc_at _ (by omega) (by omega)]))) ?_
       refine AG.takeW 9 rfl (by kernel_rfl) (by kernel_rfl) rfl rfl rfl (fun _ => Ev.xor8 rfl rfl rfl (by omega) (by omega)) ?_
       refine AG.idxO _ 10 rfl (by kernel_rfl) (by kernel_rfl) rfl rfl rfl rfl rfl rfl Tryz.underlying58 sz_5 encN_len ((Own.ext hoc hE114)) (getElem?_cf (by omega)) (fun g118 hg118 hBg118 hp117b hp117 => ?_)
       refine AG.only 11 rfl (by kernel_rfl) ?_
       refine RG.stOw0 (g := g118) (cf (fixL l P M i) a ^^^ M i 4) rfl rfl rfl rfl rfl sz_5 rfl (fun _ => rfl) (Own.ext hoc hE114) hg118 (getElem?_cf (by omega)) rfl (rfl) (fun ws120 hwws120 hown121 => ?_)
       replace hbF := Blk.far (hbF.ext hE114) hwws120 (fun e => hsb97 (by rw [e]; exact hg118))
       replace hoe := Own.far (Own.ext hoe hE114) hwws120 (fun e => hsp _ hg118 e)
       replace hxwl110 := Wr.below hxwl110 hwws120 hBg118
       refine RG.done ?_
       refine QW.an (fun h => by simp at h) ?_
       refine AG.done (by kernel_rfl) ?_
       refine QW.sub (S' := [(4, _), (5, _), (6, _), (11, _), (12, _), (14, _), (66, _), (67, _), (68, _)]) ⟨rfl, rfl, rfl, rfl, rfl, rfl, rfl, rfl, rfl, trivial⟩ ?_
       refine QWJ.then_ (CWJ.seq ?_)
       refine CWJ.region rfl (fun _ _ h => h) ?_
       refine RG.vl rfl rfl rfl (Ev.move rfl rfl) ?_
       refine RG.vl rfl rfl rfl (Ev.idxA rfl rfl rfl Tryz.underlying127 sz_4 (by omega)) ?_
       refine RG.vl rfl rfl rfl (Ev.ldAt rfl rfl Tryz.underlying4 rfl ((hbG.ext hxwl110).cells) ((show (goneC (erN ei))[a * 1]? = some (.bool (decide (a ∈ erN ei))) by rw [Nat.mul_one]; exact goneC_at _ (by omega)))) ?_
       refine RG.vl rfl rfl rfl (Ev.notP rfl rfl) ?_
       refine RG.done (QWJ.then_ ?_)
       refine CWJ.condP rfl (fun hc122 => ?_) (fun hc122 => ?_)
       ·refine CWJ.region rfl (fun _ _ h => h) ?_
        refine RG.vl rfl rfl rfl (Ev.fld rfl rfl fld_73_1) ?_
        refine RG.vl rfl rfl rfl (Ev.ldAt rfl rfl Tryz.underlying29 rfl (hbF.cells) (rfl)) ?_
        refine RG.vl rfl rfl rfl (Ev.move rfl rfl) ?_
        refine RG.litO (os := [.tmp 90]) (enc := encZ) ([a]) rfl rfl rfl rfl rfl rfl rfl Tryz.underlying29 inf_3 rfl rfl rfl rfl rfl encZ_len rfl rfl (fun v123 wk124 hxwk124 hown125 hnew126 => ?_)
        have hsep127 : Sep v123 _ := Sep.of_new hoe hnew126
        have hsep128 : Sep v123 _ := Sep.of_new hown121 hnew126
        have hsb129 := fun e => sep_blk (hbG.ext hxwl110) (Nat.le_refl _) hown125 e
        have hsb130 := fun e => sep_blk (hbW.ext hxwl110) (Nat.le_refl _) hown125 e
        have hsb131 := fun e => sep_blk (hbX.ext hxwl110) (Nat.le_refl _) hown125 e
        have hsb132 := fun e => sep_blk (hbY.ext hxwl110) (Nat.le_refl _) hown125 e
        have hsb133 := fun e => sep_blk (hb48.ext hxwl110) (Nat.le_refl _) hown125 e
        have hsb134 := fun e => sep_blk (hN.ext hxwl110) (Nat.le_refl _) hown125 e
        have hsb135 := fun e => sep_blk (hE.ext hxwl110) (Nat.le_refl _) hown125 e
        have hsb136 := fun e => sep_blk (hC.ext hxwl110) (Nat.le_refl _) hown125 e
        have hsb137 := fun e => sep_blk (hbw78.ext hxwl110) (Nat.le_refl _) hown125 e
        have hsb138 := fun e => sep_blk hbF (Nat.le_refl _) hown125 e
        replace hxwl110 := Ex.tr hxwl110 hxwk124
        have hE139 := hxwk124
        refine RG.appO rfl rfl rfl rfl rfl rfl rfl Tryz.underlying29 inf_3 rfl rfl encZ_len (fun _ => rfl) (Own.ext hoe hE139) ((hown125.rdl encZ_len)) (by show _ + 1 ≤ maxLen; simp only [maxLen]; omega) (by show (_ + 1) * _ ≤ _; omega) (hxwl110.size) (fun v140 wa141 hown142 hgr143 hat144 => ?_)
        have hb145 := Blk.grown (hbF.ext hE139) hgr143 (fun e => hsb e.symm)
        have hsb146 := sepb_app hsb (hbF.ext hE139) hat144
        have hsep148 := Sep.app (Sep.symm hsp) (Own.ext hown121 hE139) hat144
        have hown147 := Own.grown (Own.ext hown121 hE139) hgr143 (fun k a b => (Sep.symm hsp) k b a)
        have hsep150 := Sep.app (Sep.symm hsep127) hown125 hat144
        have hown149 := Own.grown hown125 hgr143 (fun k a b => (Sep.symm hsep127) k b a)
        replace hxwl110 := own_block (Own.ext hoe hE139) hxwl110 hgr143 (Nat.le_refl _) hxwl110.size
        obtain ⟨Av140, Cv140, rfl⟩ := hown142.shape
        refine RG.vl rfl rfl rfl (Ev.fld rfl rfl fld_73_1) ?_
        refine RG.st (g := gF) (k := 1) rfl rfl rfl rfl rfl sz_29 rfl hb145 rfl (fun ws151 hwws151 hbws151 => ?_)
        replace hown147 := Own.far hown147 hwws151 hsb97
        replace hown149 := Own.far hown149 hwws151 hsb138
        replace hown142 := Own.far hown142 hwws151 hsb146
        replace hxwl110 := Wr.below hxwl110 hwws151 hle98
        refine RG.done (QW.blockN (QWJ.then_ ?_))
        refine CWJ.region rfl (fun _ _ h => h) ?_
        refine RG.vl rfl rfl rfl (Ev.addI rfl rfl rfl (by omega)) ?_
        refine RG.vl rfl rfl rfl (Ev.move rfl rfl) ?_
        refine RG.done ?_
        refine QW.round2 (i + 1) ((Value.slice Av140 _ Cv140)) ⟨rfl, trivial⟩ ⟨rfl, rfl, rfl, rfl, rfl, rfl, rfl, trivial⟩ ⟨⟨by omega, hbws151, by rw [← fixL_more hpl]; exact hown147, by rw [freeL_yes hpl (by assumption)]; exact hown142, (Sep.symm hsep148), hsb146⟩, hxwl110⟩ (by omega)
       ·refine CWJ.skip (QW.blockN (QWJ.then_ ?_))
        refine CWJ.region rfl (fun _ _ h => h) ?_
        refine RG.vl rfl rfl rfl (Ev.addI rfl rfl rfl (by omega)) ?_
        refine RG.vl rfl rfl rfl (Ev.move rfl rfl) ?_
        refine RG.done ?_
        refine QW.round2 (i + 1) (ve) ⟨rfl, trivial⟩ ⟨rfl, rfl, rfl, rfl, rfl, rfl, rfl, trivial⟩ ⟨⟨by omega, hbF, by rw [← fixL_more hpl]; exact hown121, by rw [freeL_no hpl (Decidable.not_not.1 (by assumption))]; exact hoe, hsp, hsb⟩, hxwl110⟩ (by omega)
      ·refine CWJ.exit (QW.thenExit (QW.thenExit (QW.blockHit (QWJ.then_ (CWJ.seq ?_)))))
       obtain rfl : i = P.length := by omega
       have hoe2 := hoe
       rw [List.take_length] at hoe2
       obtain ⟨A2, C2, rfl⟩ := hoe2.shape
       have hoc2 := hoc
       have hxW := (Ex.tr hR83 hxwl110)
       have hxw := (Ex.tr hR81 hxwl110)
       have hX4 := (hbX.ext hxwl110)
       have hY4 := (hbY.ext hxwl110)
       have hsX : gX < w77.heap.size := Blk.lt hbX
       have hsY : gY < w77.heap.size := Blk.lt hbY
       refine CWJ.region rfl (fun _ _ h => h) ?_
       refine RG.vl rfl rfl rfl (Ev.ldAgg rfl rfl Tryz.underlying73 rfl sz_73 rfl (hbF.cells)) ?_
       refine RG.stAll (g := gX) rfl rfl rfl rfl rfl sz_73 rfl rfl rfl hX4 (fun wA hwA hbA => ?_)
       have hY5 := Blk.far hY4 hwA (by omega)
       refine RG.st (g := gY) (k := 0) rfl rfl rfl rfl rfl sz_26 rfl hY5 rfl (fun wB hwB hbY9 => ?_)
       have hbX9 := Blk.far hbA hwB (by omega)
       have ho9 := ((hoc2.far hwA (fun e => by have := hoc2.ge e; omega)).far hwB (fun e => by have := hoc2.ge e; omega)).low (B' := w.heap.size) (Nat.le_trans hw1.size hs4)
       have he9 := ((hoe2.far hwA (fun e => by have := hoe2.ge e; omega)).far hwB (fun e => by have := hoe2.ge e; omega)).low (B' := w.heap.size) (Nat.le_trans hw1.size hs4)
       have hx9 : Below w.heap.size w wB := Wr.below (Wr.below hxw hwA hgX0) hwB hgY0
       have hko := ((others_ex hxW).trans (others_wr hwA hX4)).trans (others_wr hwB hY5)
       refine RG.done (QWJ.then_ (CWJ.ret (QW.blockR ?_)))
       obtain ⟨rest, hrest⟩ := hpf
       exact QW.of fun _ => ⟨hko, _, _, _, _, P, pre.map Prod.snd, rest, hbX9, hbY9, ho9, he9, hx9, by rw [← hrest, List.map_append, List.append_assoc]; rfl, fun Q hQ => by obtain ⟨y, hy, rfl⟩ := List.mem_map.1 hQ; exact hI2 y hy, ⟨M, hsv, rfl⟩, rfl⟩
    case done =>
     rintro D xs W hD hS ⟨hI1, hI2⟩ hK
     have hfr : FrD [{ target := .collected D, args := #[] }] 97 [(4, .pointer (some ⟨gX, 0, none⟩)), (5, .pointer (some ⟨gY, 0, none⟩))] { a with defers := { target := .collected D, args := #[] } :: a.defers } := ⟨hf.1.sub ⟨rfl, rfl, trivial⟩, by rw [hf.2]⟩
     have hX2 := Blk.ext hbX hI1
     have hY2 := Blk.ext hbY hI1
     show Code.wp _ _ _ _ _
     refine (wpIn_wide (n := 6)).1 ?_
     refine CWI.seq ?_ _ hfr
     refine CWI.region ?_
     refine RGI.vl open_wide rfl rfl rfl (by intro c h; cases h) (Ev.build1 rfl rfl rfl inf_73 rfl rfl (by kernel_rfl) rfl) ?_
     refine RGI.stAll (g := gX) open_wide rfl rfl rfl rfl rfl sz_73 rfl rfl rfl hX2 (fun wA hwA hbA => ?_)
     have hY3 := Blk.far hY2 hwA (by omega)
     refine RGI.st1 (g := gY) open_wide rfl rfl rfl rfl rfl sz_26 rfl hY3 (fun wB hwB hbB => ?_)
     have hbA2 := Blk.far hbA hwB (by omega)
     refine RGI.done (CWI.then_ (S' := [(4, .pointer (some ⟨gX, 0, none⟩)), (5, .pointer (some ⟨gY, 0, none⟩))]) ⟨rfl, rfl, trivial⟩ ?_)
     have hK2 := ((others_wr hwA hX2).trans (others_wr hwB hY3)).same D _ hK rfl
     have hxB : Below w.heap.size w wB := Wr.below (Wr.below (Ex.tr hw1 hI1) hwA hgX0) hwB hgY0
     exact CWI.ret (retBoxM rfl rfl rfl Tryz.underlying73 rfl sz_73 rfl (us := [.slice none 0 0, .slice none 0 0]) hbA2 Tryz.underlying26 rfl (x := .int .i64 190) hbB hK2 ⟨_, _, [], [], 190, rfl, Own.nil_ _ _ _ _ _, Own.nil_ _ _ _ _ _, .inr ⟨hyes, hok, .inr ⟨by omega, .inl ⟨fun P hP => by rw [← hS] at hP; obtain ⟨y, hy, rfl⟩ := List.mem_map.1 hP; exact hI2 y hy, rfl, rfl, rfl⟩⟩⟩, Below.trans hxB (Kc.put _ (Nat.le_trans hw1.size hD) hK2 rfl).1⟩)
    case stop =>
     rintro D pre W hD ⟨r, x, c, es, P, q, rest, h1, h2, h3, h4, h5, h6, h7, h8, h9⟩ hK
     have hfr : FrD [{ target := .collected D, args := #[] }] 97 [(4, .pointer (some ⟨gX, 0, none⟩)), (5, .pointer (some ⟨gY, 0, none⟩))] { a with defers := { target := .collected D, args := #[] } :: a.defers } := ⟨hf.1.sub ⟨rfl, rfl, trivial⟩, by rw [hf.2]⟩
     refine CWI.ret (fun a ha => ?_) _ hfr
     refine retBoxM (p := 4) (q := 5) (T := 73) (U := 26) (fn := Tryz.f31) rfl rfl rfl Tryz.underlying73 rfl sz_73 rfl (us := [r, x]) h1 Tryz.underlying26 rfl (x := .int .i64 0) h2 hK ?_ a ha
     exact ⟨r, x, c, es, 0, rfl, h3.put _ hK rfl, h4.put _ hK rfl, .inr ⟨hyes, hok, .inr ⟨by omega, .inr ⟨q, P, rest, h6, h7, h8, rfl, h9⟩⟩⟩, Below.trans h5 (Kc.put _ (Nat.le_trans hw1.size hD) hK rfl).1⟩

end Go.Proofs.YtgjnchjkjdnidaaGreat

/- Cells of a number; runes of digits. -/
namespace Go.Proofs.YtgjnchjkjdnidaaGreat
open Go.RowKit
def c16 (l : List Nat) : List Value := l.map fun n : Nat => .int .u8 (n : Int)
theorem c16_len (l : List Nat) : (c16 l).length = l.length := List.length_map ..
theorem c16_at {l : List Nat} {i x : Nat} (h : l[i]? = some x) : (c16 l)[i * 1]? = some (.int .u8 (x : Int)) := by unfold c16; rw [Nat.mul_one, List.getElem?_map, h]; rfl
theorem c16_at' {l : List Nat} {i x : Nat} (h : l[i]? = some x) : (c16 l)[i]? = some (.int .u8 (x : Int)) := by unfold c16; rw [List.getElem?_map, h]; rfl
theorem c16_set (l : List Nat) (i v : Nat) : (c16 l).set (i * 1) (.int .u8 (v : Int)) = c16 (l.set i v) := by unfold c16; rw [Nat.mul_one, List.map_set]
theorem c16_zero : c16 (b64 0) = List.replicate 16 (.int .u8 0) := by
  have h : b64 0 = List.replicate 16 0 := by decide +kernel
  rw [h]
  rfl
theorem c16_flat (l : List Nat) : c16 l = l.flatMap encN := by
  unfold c16
  induction l with
  | nil => rfl
  | cons a l ih => rw [List.map_cons, ih, List.flatMap_cons]; rfl
theorem c16_one (l : List Nat) : (c16 l).all (·.oneCell') = true := by
  unfold c16
  rw [List.all_eq_true]
  intro v hv
  obtain ⟨n, _, rfl⟩ := List.mem_map.1 hv
  rfl
theorem Wr.rfl_ (w : World) (g : Nat) : Wr w w g := ⟨rfl, rfl, rfl, rfl, fun _ _ => rfl⟩
theorem Wr.tr {a b c : World} {g : Nat} (h : Wr a b g) (k : Wr b c g) : Wr a c g := ⟨k.os.trans h.os, k.tape.trans h.tape, k.output.trans h.output, k.size.trans h.size, fun j hj => (k.block j hj).trans (h.block j hj)⟩
section
variable {P : Program} {n : Nat} {S : Slots} {w : World} {o : Oper}
theorem Ev.add32 {T T' : TypeId} {x y : Operand} {p q : Int} (ho : o.op = .binOp .add T x y T') (hx : ev S x = some (.int .i32 p)) (hy : ev S y = some (.int .i32 q))
    (hr : -2147483648 ≤ p + q ∧ p + q ≤ 2147483647) : Ev P n o S w (.int .i32 (p + q)) :=
  (Ev.arith ho hx hy (.inl ⟨rfl, rfl⟩)).conv (by rw [IntWalk.i32_in _ hr])
theorem Ev.sub32 {T T' : TypeId} {x y : Operand} {p q : Int} (ho : o.op = .binOp .sub T x y T') (hx : ev S x = some (.int .i32 p)) (hy : ev S y = some (.int .i32 q))
    (hr : -2147483648 ≤ p - q ∧ p - q ≤ 2147483647) : Ev P n o S w (.int .i32 (p - q)) :=
  (Ev.arith ho hx hy (.inr (.inl ⟨rfl, rfl⟩))).conv (by rw [IntWalk.i32_in _ hr])
theorem items_u8 {e : TypeId} (he : P.underlying e = some (.int .u8)) (L : List Nat) : ∀ is : List Nat, (∀ j ∈ is, j < L.length) →
    (Op.eqItems 9999 e 1 (c16 L).toArray (c16 (List.replicate L.length 0)).toArray is).run P w = .ok (decide (∀ j ∈ is, L[j]? = some 0)) w
  | [], _ => by simp [Op.eqItems]
  | j :: is, h => by
    have hj := h j (List.mem_cons_self ..)
    have ih := items_u8 he L is fun x hx => h x (List.mem_cons_of_mem _ hx)
    have hg := List.getElem?_eq_getElem hj
    have h1 : (c16 L).toArray[j]? = some (.int .u8 ((L[j] : Nat) : Int)) := by rw [List.getElem?_toArray]; exact c16_at' hg
    have h2 : (c16 (List.replicate L.length 0)).toArray[j]? = some (.int .u8 ((0 : Nat) : Int)) := by
      rw [List.getElem?_toArray]
      exact c16_at' (by rw [List.getElem?_replicate, if_pos hj])
    have hI : ∀ (w : World) (p q : Int), (Op.equalIn 9999 e (.int .u8 p) (.int .u8 q)).run P w = .ok (p == q) w := fun w p q => run_equalIn_int w 9998 e .u8 .u8 p q he
    have hA : ∀ w : World, (isAgg e).run P w = .ok false w := fun w => by rw [run_isAgg he]; rfl
    simp only [Op.eqItems, Go.part, Sem.run_bind, hA, Result.andThen_ok, Nat.mul_one, h1, h2]
    by_cases h0 : L[j] = 0
    · simp [hI, ih, h0, hg]
    · simp [hI, h0, hg]
theorem all_zero {L : List Nat} (hl : L.length = 16) : (∀ j ∈ List.range 16, L[j]? = some 0) ↔ vb 64 0 L = 0 := by
  rw [vb_zero]
  constructor
  · intro h x hx
    obtain ⟨j, hj, rfl⟩ := List.getElem_of_mem hx
    have := h j (List.mem_range.2 (by omega))
    rw [List.getElem?_eq_getElem hj] at this
    injection this
  · intro h j hj
    have hj := List.mem_range.1 hj
    rw [List.getElem?_eq_getElem (show j < L.length by omega), h _ (List.getElem_mem _)]
theorem Ev.neZ {T T' e by_ : Nat} {zz : Value} {x y : Operand} {L : List Nat} (hl : L.length = 16) (ho : o.op = .binOp .neq T x y T') (hx : ev S x = some (.agg (c16 L).toArray)) (hy : ev S y = some (.agg (c16 (List.replicate 16 0)).toArray))
    (ht : P.underlying T = some (.array 16 e)) (he : P.underlying e = some (.int .u8)) (hi : (P.info? e).map (fun i => (i.zero, i.size, i.bytes)) = some (some zz, 1, by_)) (hg : P.eqGuardType P.depth T = false) : Ev P n o S w (.bool (decide (¬ vb 64 0 L = 0))) := fun act ha => by
  obtain ⟨i, hii, _, hz1, _⟩ := info_parts hi
  simp only [execOp, ho]; rw [ha.eval hx, ha.eval hy]
  have hc : P.cellsOf e = 1 := by simp [Program.cellsOf, hii, hz1]
  have h := run_equalIn_array (P := P) (w := w) 9999 (c16 L).toArray (c16 (List.replicate 16 0)).toArray ht hii
  have e2 : (Op.equalIn 10000 T (.agg (c16 L).toArray) (.agg (c16 (List.replicate 16 0)).toArray)).run P w = .ok (decide (vb 64 0 L = 0)) w := by
    have h2 := items_u8 (P := P) (w := w) he L (List.range 16) fun j hj => by have := List.mem_range.1 hj; omega
    rw [hl] at h2
    rw [show (10000 : Nat) = 9999 + 1 from rfl, h, hc, h2, decide_eq_decide.2 (all_zero hl)]
  generalize (c16 (List.replicate 16 0)).toArray = Z at *
  simp [run_eqGuard_agg w _ _ _ _ _ _ hg, run_neq_struct, e2]
end
theorem numT_more {t : List UInt8} {i : Nat} {c : UInt8} (h : t[i]? = some c) : numT (t.take (i + 1)) = 10 * numT (t.take i) + dgv c := by
  unfold numT
  rw [List.take_add_one, h, Option.toList_some, List.map_append, List.map_cons, List.map_nil, vb_snoc]
theorem dg_yes {c : UInt8} (h1 : 48 ≤ c.toNat) (h2 : c.toNat ≤ 57) : isDg c = true := by unfold isDg; rw [decide_eq_true h1, decide_eq_true h2]; rfl
theorem dg_no {c : UInt8} (h : c.toNat < 48 ∨ 57 < c.toNat) : isDg c = false := by
  unfold isDg
  rcases h with h | h
  · rw [decide_eq_false (by omega)]; rfl
  · rw [decide_eq_false (p := c.toNat ≤ 57) (by omega), Bool.and_false]
theorem Own.cap_ {α : Type} {w : World} {B g n c e sz : Nat} {enc : α → List Value} {xs : List α} (h : Own w B e sz enc (.slice (some ⟨g, 0, none⟩) n c) xs) : xs.length ≤ c := by
  rcases h.2 with ⟨h2, _⟩ | ⟨g', cap', cur, h2, _, _, h5, _⟩
  · cases h2
  · injection h2 with _ _ e3
    omega
theorem k29 {N k : Nat} (hN : N < 64 ^ 16) (h : N / 10 ^ k ≠ 0) : k < 29 := by
  rcases Nat.lt_or_ge k 29 with hk | hk
  · exact hk
  · have h1 : 10 ^ 29 ≤ 10 ^ k := Nat.pow_le_pow_right (by decide) hk
    have h2 : 64 ^ 16 < 10 ^ 29 := by decide
    exact absurd (Nat.div_eq_of_lt (by omega)) h
theorem pay_k0 {N k : Nat} (h : N / 10 ^ k = 0) (hk : k = 0) : PayT N none := by
  subst hk
  rw [Nat.pow_zero, Nat.div_one] at h
  subst h
  exact pay_zero
theorem pay_kn {N k : Nat} (hk : 0 < k) (h0 : N / 10 ^ (k - 1) ≠ 0) (h : N / 10 ^ k = 0) (h1 : ¬ 48 + N / 10 ^ (k - 1) % 10 = 49) : PayT N none := by
  obtain ⟨j, rfl⟩ : ∃ j, k = j + 1 := ⟨k - 1, by omega⟩
  rw [Nat.add_sub_cancel] at h0 h1
  obtain ⟨a, b, c⟩ := top_dig h0 h
  exact pay_none a b (by omega)
theorem pay_ks {N k : Nat} (hk : 0 < k) (h0 : N / 10 ^ (k - 1) ≠ 0) (h : N / 10 ^ k = 0) (h1 : 48 + N / 10 ^ (k - 1) % 10 = 49) : PayT N (some ((ld 10 (k - 1) N).reverse.map dch)) := by
  obtain ⟨j, rfl⟩ : ∃ j, k = j + 1 := ⟨k - 1, by omega⟩
  rw [Nat.add_sub_cancel] at h0 h1 ⊢
  obtain ⟨a, b, c⟩ := top_dig h0 h
  exact pay_some (by omega)
theorem dl_str {N k : Nat} (hk : 0 < k) : (((ld 10 k N).map (48 + ·)).take (k - 1)).reverse.map UInt8.ofNat = (ld 10 (k - 1) N).reverse.map dch := by
  obtain ⟨j, rfl⟩ : ∃ j, k = j + 1 := ⟨k - 1, by omega⟩
  rw [Nat.add_sub_cancel, ld_snoc, List.map_append, List.take_left' (by rw [List.length_map, ld_len]), ← List.map_reverse, List.map_map]
  rfl
theorem dl_lo (k N : Nat) : ∀ r ∈ (((ld 10 k N).map (48 + ·)).take (k - 1)).reverse, r < 128 := fun r hr => by
  obtain ⟨d, hd, rfl⟩ := List.mem_map.1 (List.mem_of_mem_take (List.mem_reverse.1 hr))
  have := ld_lt (b := 10) (by decide) k N d hd
  omega
end Go.Proofs.YtgjnchjkjdnidaaGreat

/- Walks (UA). Written by program. -/
namespace Go.Proofs.YtgjnchjkjdnidaaGreat
open Go.RowKit
set_option maxRecDepth 100000 in
set_option maxHeartbeats 1000000 in
theorem tms_ret (w0 : World) (g n m : Nat) (w : World) (hx0 : Ex w0 w) (hg0 : w0.heap.size ≤ g) (hb : Blk w g 62 (c16 (b64 n))) (hm : m ≤ 9) :
  Ret Tryz.prog 57 [.int .i64 10, .int .i64 (m : Int), .pointer (some ⟨g, 0, none⟩)] w (fun v w' => v = .tuple #[] ∧ ∃ w1, Ex w w1 ∧ Wr w1 w' g ∧ Blk w' g 62 (c16 (b64 (10 * n + m)))) := by
 have hB0 : Ex w w := Ex.rfl_ _
 refine Ret.of Tryz.func57 rfl Tryz.ntmps57 rfl ?_
 refine CW.seq (CW.region ?_)
 refine RG.vl rfl rfl rfl (Ev.assign rfl rfl) ?_
 refine RG.done (QW.then_ (CW.block ?_))
 refine CW.loop1 [(0, _), (2, _)] ⟨rfl, rfl, trivial⟩ (fun (p : Nat) => [(5, .int .i64 (15 - (p : Int))), (1, .int .i64 (car 64 10 m n p : Int))]) (fun p w' => (p ≤ 16 ∧ Wr w w' g ∧ Blk w' g 62 (c16 (tmL n (10 * n + m) p))) ∧ Ex w0 w') (fun p => 16 - p) (0) ⟨rfl, by rw [car_zero]; rfl, trivial⟩ ⟨⟨by omega, Wr.rfl_ _ _, by rw [tmL_zero]; exact hb⟩, hx0⟩ ?_
 rintro p wl1 ⟨⟨hp, hwr, hbk⟩, hxwl1⟩
 refine CW.sub (S' := [(5, _), (1, _), (0, _), (2, _)]) ⟨rfl, rfl, rfl, rfl, trivial⟩ ?_
 refine CW.seq (CW.seq (CW.region ?_))
 refine RG.vl rfl rfl rfl (Ev.move rfl rfl) ?_
 refine RG.vl rfl rfl rfl (Ev.geq rfl rfl rfl) ?_
 refine RG.done (QW.then_ ?_)
 refine CW.condP rfl (fun hc2 => ?_) (fun hc2 => ?_)
 ·refine CW.skip (QW.then_ (CW.seq (CW.block (CW.seq ?_))))
  have hq : n / 64 ^ p % 64 < 64 := Nat.mod_lt _ (by decide)
  have hc10 := car_le (b := 64) (f := 10) (m := m) (by decide) (by omega) n p
  have hdig := car_dig (b := 64) (by decide) 10 m n p
  have hstp := car_step (b := 64) (by decide) 10 m n p
  have htl := tmL_len n (10 * n + m) p
  refine CW.region ?_
  refine RG.vl rfl rfl rfl (Ev.move rfl rfl) ?_
  refine RG.vl rfl rfl rfl (Ev.move rfl rfl) ?_
  refine RG.vl rfl rfl rfl ((Ev.move rfl rfl).conv (congrArg (Value.int .i64) (show (15 : Int) - (p : Int) = ((15 - p : Nat) : Int) by omega))) ?_
  refine RG.vl rfl rfl rfl (Ev.idxA rfl rfl rfl Tryz.underlying62 sz_5 (by omega)) ?_
  refine RG.vl rfl rfl rfl (Ev.ldAt rfl rfl Tryz.underlying5 rfl (hbk.cells) (c16_at (tmL_at n _ p (by omega)))) ?_
  refine RG.vl rfl rfl rfl (Ev.to64 rfl rfl Tryz.underlying5 Tryz.underlying3 (by omega)) ?_
  refine RG.vl rfl rfl rfl (Ev.mulI rfl rfl rfl (by omega)) ?_
  refine RG.vl rfl rfl rfl ((Ev.addI rfl rfl rfl (by omega)).conv (congrArg (Value.int .i64) (show (car 64 10 m n p : Int) + 10 * ((n / 64 ^ p % 64 : Nat) : Int) = (((car 64 10 m n p + 10 * (n / 64 ^ p % 64)) : Nat) : Int) by omega))) ?_
  refine RG.vl rfl rfl rfl (Ev.assign rfl rfl) ?_
  refine RG.done (QW.then_ (CW.seq (CW.region ?_)))
  refine RG.vl rfl rfl rfl ((Ev.move rfl rfl).conv (congrArg (Value.int .i64) (show (15 : Int) - (p : Int) = ((15 - p : Nat) : Int) by omega))) ?_
  refine RG.vl rfl rfl rfl (Ev.move rfl rfl) ?_
  refine RG.vl rfl rfl rfl ((Ev.remI rfl rfl rfl (by omega)).conv (congrArg (Value.int .i64) (show (((car 64 10 m n p + 10 * (n / 64 ^ p % 64)) : Nat) : Int) % 64 = (((car 64 10 m n p + 10 * (n / 64 ^ p % 64)) % 64 : Nat) : Int) by omega))) ?_
  refine RG.vl rfl rfl rfl (Ev.to8 rfl rfl Tryz.underlying3 Tryz.underlying5 (by omega)) ?_
  refine RG.vl rfl rfl rfl (Ev.idxA rfl rfl rfl Tryz.underlying62 sz_5 (by omega)) ?_
  refine RG.st (g := g) (k := _) rfl rfl rfl rfl rfl sz_5 rfl hbk (by rw [c16_len, htl, Nat.blt_eq]; omega) (fun ws3 hwws3 hbws3 => ?_)
  replace hxwl1 := Wr.below hxwl1 hwws3 hg0
  rw [c16_set, hdig, tmL_step _ _ _ (by omega)] at hbws3
  refine RG.done ?_
  refine QW.sub (S' := [(0, _), (1, _), (2, _), (5, _)]) ⟨rfl, rfl, rfl, rfl, trivial⟩ ?_
  refine QW.then_ (CW.region ?_)
  refine RG.vl rfl rfl rfl (Ev.move rfl rfl) ?_
  refine RG.vl rfl rfl rfl ((Ev.quoI rfl rfl rfl (by omega)).conv (congrArg (Value.int .i64) (show (((car 64 10 m n p + 10 * (n / 64 ^ p % 64)) : Nat) : Int) / 64 = (((car 64 10 m n p + 10 * (n / 64 ^ p % 64)) / 64 : Nat) : Int) by omega))) ?_
  refine RG.vl rfl rfl rfl (Ev.assign rfl rfl) ?_
  refine RG.done (QW.blockN (QW.then_ (CW.region ?_)))
  refine RG.vl rfl rfl rfl (Ev.move rfl rfl) ?_
  refine RG.vl rfl rfl rfl (Ev.subI rfl rfl rfl (by omega)) ?_
  refine RG.vl rfl rfl rfl (Ev.assign rfl rfl) ?_
  refine RG.done ?_
  refine QW.round1 (p + 1) ⟨congrArg (fun x => some (Value.int .i64 x)) (by omega), by rw [← hstp]; rfl, trivial⟩ ⟨rfl, rfl, trivial⟩ ⟨⟨by omega, Wr.tr hwr hwws3, hbws3⟩, hxwl1⟩ (by omega)
 ·refine CW.exit (QW.thenExit (QW.thenExit (QW.blockHit ?_)))
  refine QW.end0 rfl ?_
  obtain rfl : p = 16 := by omega
  rw [tmL_end] at hbk
  exact ⟨rfl, w, Ex.rfl_ _, hwr, hbk⟩

set_option maxRecDepth 100000 in
set_option maxHeartbeats 1000000 in
theorem numOf_ret (t : List UInt8) (w : World) (hlen : t.length ≤ 1000) :
  Ret Tryz.prog 25 [.string ⟨t.toArray⟩] w (fun v w' => v = .tuple #[.agg (c16 (b64 (if t.all isDg then numT t else 0))).toArray, .bool (t.all isDg)] ∧ Ex w w') := by
 have hts := sb_len t
 have hB0 : Ex w w := Ex.rfl_ _
 refine Ret.of Tryz.func25 rfl Tryz.ntmps25 rfl ?_
 refine CW.seq (CW.region ?_)
 refine RG.alloc_ rfl rfl rfl rfl inf_62 (fun gR w1 egR hx1 hb1 => ?_)
 have hle2 : w.heap.size ≤ gR := by have := (Ex.rfl_ w).size; omega
 have hE3 := hx1
 refine RG.vl rfl rfl rfl (Ev.assign rfl rfl) ?_
 refine RG.done (QW.then_ (CW.seq (CW.region ?_)))
 refine RG.alloc_ rfl rfl rfl rfl inf_62 (fun gN w4 egN hx4 hb4 => ?_)
 have hle5 : w.heap.size ≤ gN := by have := hE3.size; omega
 have hle6 : w1.heap.size ≤ gN := by have := (Ex.rfl_ w1).size; omega
 have hlt7 : gR < gN := by have := Blk.lt hb1; omega
 replace hE3 := Ex.tr hE3 hx4
 have hE8 := hx4
 refine RG.done (QW.then_ (CW.seq (CW.region ?_)))
 refine RG.vl rfl rfl rfl (Ev.mkFn rfl rfl rfl rfl rfl) ?_
 refine RG.vl rfl rfl rfl (Ev.assign rfl rfl) ?_
 refine RG.done (QW.then_ (CW.seq (CW.region ?_)))
 refine RG.vl rfl rfl rfl (Ev.move rfl rfl) ?_
 refine RG.call rfl rfl rfl rfl rfl rfl rfl en_57 (tms_ret w gN (0) (1) _ (Ex.tr hB0 hE3) hle5 (by rw [c16_zero]; exact hb4) (by decide)) ?_
 rintro _ w9 ⟨rfl, w9a, hxw9a, hww9, hbw9⟩
 replace hE3 := Ex.tr hE3 hxw9a
 replace hE8 := Ex.tr hE8 hxw9a
 have hE10 := hxw9a
 replace hE3 := Wr.below hE3 hww9 hle5
 replace hE8 := Wr.below hE8 hww9 hle6
 refine RG.done (QW.then_ (CW.seq (CW.seq (CW.region ?_))))
 refine RG.vl rfl rfl rfl (Ev.move rfl rfl) ?_
 refine RG.sRange rfl rfl rfl rfl rfl Tryz.underlying9 (fun gi w11 egi hx11 hb11 => ?_)
 have hle12 : w.heap.size ≤ gi := by have := hE3.size; omega
 have hle13 : w1.heap.size ≤ gi := by have := hE8.size; omega
 have hle14 : w9.heap.size ≤ gi := by have := (Ex.rfl_ w9).size; omega
 have hlt15 : gR < gi := by have := Blk.lt (hb1.ext hE8); omega
 have hlt16 : gN < gi := by have := Blk.lt hbw9; omega
 replace hE3 := Ex.tr hE3 hx11
 replace hE8 := Ex.tr hE8 hx11
 have hE17 := hx11
 refine RG.done (QW.then_ (CW.block ?_))
 refine CW.loop1 [(2, _), (4, _), (5, _), (12, _)] ⟨rfl, rfl, rfl, rfl, trivial⟩ (fun (i : Nat) => []) (fun i w' => (i ≤ t.length ∧ (t.take i).all isDg = true ∧ Si w' gi ⟨t.toArray⟩ i ∧ Blk w' gN 62 (c16 (b64 (numT (t.take i)))) ∧ Blk w' gR 62 (List.replicate 16 (.int .u8 0))) ∧ Ex w w') (fun i => t.length - i) (0) trivial ⟨⟨by omega, rfl, hb11, (hbw9.ext hE17), (hb1.ext hE8)⟩, (Ex.tr hB0 hE3)⟩ ?_
 rintro i wl18 ⟨⟨hi, hall, hsi, hbN, hbR⟩, hxwl18⟩
 refine CW.sub (S' := [(2, _), (4, _), (5, _), (12, _)]) ⟨rfl, rfl, rfl, rfl, trivial⟩ ?_
 refine CW.seq (CW.region ?_)
 refine RG.sNext rfl rfl rfl rfl rfl hsi (fun hend => ?_) (fun wn19 hpos hwn19 hiwn19 => ?_)
 ·refine RG.vl rfl rfl rfl (Ev.extract rfl rfl rfl) ?_
  refine RG.done (QW.then_ (CW.seq ?_))
  refine CW.condF rfl ?_
  refine CW.exit (QW.thenExit (QW.thenExit (QW.blockHit (QW.then_ (CW.seq ?_)))))
  obtain rfl : i = t.length := by rw [sb_len] at hend; omega
  rw [List.take_length] at hall hbN
  refine CW.region ?_
  refine RG.vl rfl rfl rfl (Ev.ldAgg rfl rfl Tryz.underlying62 rfl sz_62 (by rw [c16_len, b64_len]) hbN.cells) ?_
  refine RG.stAll (g := gR) rfl rfl rfl rfl rfl sz_62 (show (c16 (b64 (numT t))).toArray.size = 16 by simp [c16_len, b64_len]) rfl (by show (c16 (b64 (numT t))).all _ = true; exact c16_one _) hbR (fun ws20 hwws20 hbws20 => ?_)
  replace hsi := Si.far hsi hwws20 (by omega)
  replace hbN := Blk.far hbN hwws20 (by omega)
  replace hxwl18 := Wr.below hxwl18 hwws20 hle2
  refine RG.vl rfl rfl rfl (Ev.assign rfl rfl) ?_
  refine RG.done (QW.then_ (CW.ret ?_))
  refine QW.retCT rfl rfl rfl Tryz.underlying62 rfl sz_62 (us := c16 _) (by rw [c16_len, b64_len]) hbws20 ?_
  have hB := (Ex.tr hB0 hxwl18)
  exact ⟨by rw [hall]; rfl, hB⟩
 ·replace hbN := Blk.far hbN hwn19 (by omega)
  replace hbR := Blk.far hbR hwn19 (by omega)
  replace hxwl18 := Wr.below hxwl18 hwn19 hle12
  refine RG.vl rfl rfl rfl (Ev.extract rfl rfl rfl) ?_
  refine RG.done (QW.then_ (CW.seq ?_))
  refine CW.condT rfl ?_
  refine CW.skip (QW.then_ (CW.block (CW.seq ?_)))
  obtain ⟨c, hc⟩ : ∃ c, t[i]? = some c := ⟨_, List.getElem?_eq_getElem (by rw [sb_len] at hpos; exact hpos)⟩
  have hii := (List.getElem?_eq_some_iff.1 hc).1
  have hc8 := c.toNat_lt
  rcases Nat.lt_or_ge c.toNat 128 with hlo | hhi
  ·rw [dec_lo hc hlo] at hiwn19 ⊢
   refine CW.region ?_
   refine RG.vl rfl rfl rfl (Ev.extract rfl rfl rfl) ?_
   refine RG.vl rfl rfl rfl (Ev.assign rfl rfl) ?_
   refine RG.done (QW.then_ (CW.seq (CW.seq (CW.region ?_))))
   refine RG.vl rfl rfl rfl (Ev.move rfl rfl) ?_
   refine RG.vl rfl rfl rfl (Ev.lss rfl rfl rfl) ?_
   refine RG.vl rfl rfl rfl (Ev.move rfl rfl) ?_
   refine RG.split (d := 18) rfl (fun hg21 => ?_) (fun hg21 => ?_)
   ·refine RG.pass rfl rfl rfl ?_
    refine RG.pass rfl rfl rfl ?_
    refine RG.vl rfl rfl rfl (Ev.pickT rfl rfl rfl) ?_
    refine RG.done (QW.then_ ?_)
    refine CW.condT rfl ?_
    refine CW.seq (CW.region ?_)
    refine RG.vl rfl rfl rfl ((Ev.buildAZ (zs := List.replicate 16 (.int .u8 0)) rfl Tryz.underlying62 sz_5 inf_62 rfl).conv (by rw [← c16_zero])) ?_
    refine RG.stAll (g := gR) rfl rfl rfl rfl rfl sz_62 (show (c16 (b64 0)).toArray.size = 16 by simp [c16_len, b64_len]) rfl (by show (c16 (b64 0)).all _ = true; exact c16_one _) hbR (fun ws22 hwws22 hbws22 => ?_)
    replace hbN := Blk.far hbN hwws22 (by omega)
    replace hiwn19 := Si.far hiwn19 hwws22 (by omega)
    replace hxwl18 := Wr.below hxwl18 hwws22 hle2
    refine RG.vl rfl rfl rfl (Ev.assign rfl rfl) ?_
    refine RG.done (QW.then_ (CW.ret (QW.thenRet (QW.blockR (QW.thenRet (QW.blockR ?_))))))
    refine QW.thenRet ?_
    refine QW.retCT rfl rfl rfl Tryz.underlying62 rfl sz_62 (us := c16 _) (by rw [c16_len, b64_len]) hbws22 ?_
    have hB := (Ex.tr hB0 hxwl18)
    exact ⟨by rw [show t.all isDg = false from all_not hc (dg_no (by omega))]; rfl, hB⟩
   ·refine RG.vl rfl rfl rfl (Ev.move rfl rfl) ?_
    refine RG.vl rfl rfl rfl (Ev.gtr rfl rfl rfl) ?_
    refine RG.vl rfl rfl rfl (Ev.pickF rfl rfl rfl) ?_
    refine RG.done (QW.then_ ?_)
    refine CW.condP rfl (fun hc23 => ?_) (fun hc23 => ?_)
    ·refine CW.seq (CW.region ?_)
     refine RG.vl rfl rfl rfl ((Ev.buildAZ (zs := List.replicate 16 (.int .u8 0)) rfl Tryz.underlying62 sz_5 inf_62 rfl).conv (by rw [← c16_zero])) ?_
     refine RG.stAll (g := gR) rfl rfl rfl rfl rfl sz_62 (show (c16 (b64 0)).toArray.size = 16 by simp [c16_len, b64_len]) rfl (by show (c16 (b64 0)).all _ = true; exact c16_one _) hbR (fun ws24 hwws24 hbws24 => ?_)
     replace hbN := Blk.far hbN hwws24 (by omega)
     replace hiwn19 := Si.far hiwn19 hwws24 (by omega)
     replace hxwl18 := Wr.below hxwl18 hwws24 hle2
     refine RG.vl rfl rfl rfl (Ev.assign rfl rfl) ?_
     refine RG.done (QW.then_ (CW.ret (QW.thenRet (QW.blockR (QW.thenRet (QW.blockR ?_))))))
     refine QW.thenRet ?_
     refine QW.retCT rfl rfl rfl Tryz.underlying62 rfl sz_62 (us := c16 _) (by rw [c16_len, b64_len]) hbws24 ?_
     have hB := (Ex.tr hB0 hxwl18)
     exact ⟨by rw [show t.all isDg = false from all_not hc (dg_no (by omega))]; rfl, hB⟩
    ·refine CW.skip (QW.then_ (CW.region ?_))
     refine RG.vl rfl rfl rfl (Ev.move rfl rfl) ?_
     refine RG.vl rfl rfl rfl (Ev.move rfl rfl) ?_
     refine RG.vl rfl rfl rfl (Ev.sub32 rfl rfl rfl (by omega)) ?_
     refine RG.vl rfl rfl rfl ((Ev.to64 rfl rfl Tryz.underlying21 Tryz.underlying3 (by omega)).conv (congrArg (Value.int .i64) (show (c.toNat : Int) - 48 = ((dgv c : Nat) : Int) by unfold dgv; omega))) ?_
     refine RG.call rfl rfl rfl rfl rfl rfl rfl en_57 (tms_ret w gN (numT (t.take i)) (dgv c) _ (Ex.tr hB0 hxwl18) hle5 (hbN) (by unfold dgv; omega)) ?_
     rintro _ w25 ⟨rfl, w25a, hxw25a, hww25, hbw25⟩
     replace hxwl18 := Ex.tr hxwl18 hxw25a
     have hE26 := hxw25a
     replace hbR := Blk.far (hbR.ext hE26) hww25 (by omega)
     replace hiwn19 := Si.far (hiwn19.ext hE26) hww25 (by omega)
     replace hxwl18 := Wr.below hxwl18 hww25 hle5
     refine RG.done ?_
     refine QW.sub (S' := [(2, _), (4, _), (5, _), (12, _)]) ⟨rfl, rfl, rfl, rfl, trivial⟩ ?_
     refine QW.blockN ?_
     refine QW.round1 (i + 1) trivial ⟨rfl, rfl, rfl, rfl, trivial⟩ ⟨⟨by omega, all_take hc hall (dg_yes (by omega) (by omega)), hiwn19, by rw [numT_more hc]; exact hbw25, hbR⟩, (Ex.tr hB0 hxwl18)⟩ (by omega)
  ·obtain ⟨hd1, hd2⟩ := dec_hi hc hhi
   generalize Utf8.decode (⟨t.toArray⟩ : ByteArray) i = D at *
   refine CW.region ?_
   refine RG.vl rfl rfl rfl (Ev.extract rfl rfl rfl) ?_
   refine RG.vl rfl rfl rfl (Ev.assign rfl rfl) ?_
   refine RG.done (QW.then_ (CW.seq (CW.seq (CW.region ?_))))
   refine RG.vl rfl rfl rfl (Ev.move rfl rfl) ?_
   refine RG.vl rfl rfl rfl (Ev.lss rfl rfl rfl) ?_
   refine RG.vl rfl rfl rfl (Ev.move rfl rfl) ?_
   refine RG.split (d := 18) rfl (fun hg27 => ?_) (fun hg27 => ?_)
   ·refine RG.pass rfl rfl rfl ?_
    refine RG.pass rfl rfl rfl ?_
    refine RG.vl rfl rfl rfl (Ev.pickT rfl rfl rfl) ?_
    refine RG.done (QW.then_ ?_)
    refine CW.condT rfl ?_
    refine CW.seq (CW.region ?_)
    refine RG.vl rfl rfl rfl ((Ev.buildAZ (zs := List.replicate 16 (.int .u8 0)) rfl Tryz.underlying62 sz_5 inf_62 rfl).conv (by rw [← c16_zero])) ?_
    refine RG.stAll (g := gR) rfl rfl rfl rfl rfl sz_62 (show (c16 (b64 0)).toArray.size = 16 by simp [c16_len, b64_len]) rfl (by show (c16 (b64 0)).all _ = true; exact c16_one _) hbR (fun ws28 hwws28 hbws28 => ?_)
    replace hbN := Blk.far hbN hwws28 (by omega)
    replace hiwn19 := Si.far hiwn19 hwws28 (by omega)
    replace hxwl18 := Wr.below hxwl18 hwws28 hle2
    refine RG.vl rfl rfl rfl (Ev.assign rfl rfl) ?_
    refine RG.done (QW.then_ (CW.ret (QW.thenRet (QW.blockR (QW.thenRet (QW.blockR ?_))))))
    refine QW.thenRet ?_
    refine QW.retCT rfl rfl rfl Tryz.underlying62 rfl sz_62 (us := c16 _) (by rw [c16_len, b64_len]) hbws28 ?_
    have hB := (Ex.tr hB0 hxwl18)
    exact ⟨by rw [show t.all isDg = false from all_not hc (dg_no (by omega))]; rfl, hB⟩
   ·refine RG.vl rfl rfl rfl (Ev.move rfl rfl) ?_
    refine RG.vl rfl rfl rfl (Ev.isT (Ev.gtr rfl rfl rfl) (by omega)) ?_
    refine RG.vl rfl rfl rfl (Ev.pickF rfl rfl rfl) ?_
    refine RG.done (QW.then_ ?_)
    refine CW.condT rfl ?_
    refine CW.seq (CW.region ?_)
    refine RG.vl rfl rfl rfl ((Ev.buildAZ (zs := List.replicate 16 (.int .u8 0)) rfl Tryz.underlying62 sz_5 inf_62 rfl).conv (by rw [← c16_zero])) ?_
    refine RG.stAll (g := gR) rfl rfl rfl rfl rfl sz_62 (show (c16 (b64 0)).toArray.size = 16 by simp [c16_len, b64_len]) rfl (by show (c16 (b64 0)).all _ = true; exact c16_one _) hbR (fun ws29 hwws29 hbws29 => ?_)
    replace hbN := Blk.far hbN hwws29 (by omega)
    replace hiwn19 := Si.far hiwn19 hwws29 (by omega)
    replace hxwl18 := Wr.below hxwl18 hwws29 hle2
    refine RG.vl rfl rfl rfl (Ev.assign rfl rfl) ?_
    refine RG.done (QW.then_ (CW.ret (QW.thenRet (QW.blockR (QW.thenRet (QW.blockR ?_))))))
    refine QW.thenRet ?_
    refine QW.retCT rfl rfl rfl Tryz.underlying62 rfl sz_62 (us := c16 _) (by rw [c16_len, b64_len]) hbws29 ?_
    have hB := (Ex.tr hB0 hxwl18)
    exact ⟨by rw [show t.all isDg = false from all_not hc (dg_no (by omega))]; rfl, hB⟩

set_option maxRecDepth 100000 in
set_option maxHeartbeats 1000000 in
theorem reverseR_ret (w0 : World) (x : Value) (l : List Nat) (w : World) (hx0 : Ex w0 w) (hown : Own w w0.heap.size 21 1 encR x l) (hlen : l.length ≤ 100000) :
  Ret Tryz.prog 71 [x] w (fun v w' => v = .tuple #[] ∧ Own w' w0.heap.size 21 1 encR x l.reverse ∧ Ex w0 w') := by
 have hB0 : Ex w w := Ex.rfl_ _
 refine Ret.of Tryz.func71 rfl Tryz.ntmps71 rfl ?_
 refine CW.seq (CW.region ?_)
 refine RG.vl rfl rfl rfl (Ev.move rfl rfl) ?_
 refine RG.vl rfl rfl rfl (Ev.lenL rfl rfl rfl Tryz.underlying138 ((hown.rdl encR_len))) ?_
 refine RG.vl rfl rfl rfl (Ev.subI rfl rfl rfl (by omega)) ?_
 refine RG.vl rfl rfl rfl (Ev.assign rfl rfl) ?_
 refine RG.vl rfl rfl rfl (Ev.assign rfl rfl) ?_
 refine RG.done (QW.then_ (CW.block ?_))
 refine CW.loop1 [(0, _)] ⟨rfl, trivial⟩ (fun (i : Nat) => [(2, .int .i64 (i : Int)), (3, .int .i64 ((l.length : Int) - 1 - (i : Int)))]) (fun i w' => (2 * i ≤ l.length + 1 ∧ Own w' w0.heap.size 21 1 encR x (rvS l i)) ∧ Ex w0 w') (fun i => l.length - i) (0) ⟨rfl, congrArg (fun x => some (Value.int .i64 x)) (by omega), trivial⟩ ⟨⟨by omega, by rw [rvS_zero]; exact hown⟩, hx0⟩ ?_
 rintro i wl1 ⟨⟨hi, hoL⟩, hxwl1⟩
 refine CW.sub (S' := [(2, _), (3, _), (0, _)]) ⟨rfl, rfl, rfl, trivial⟩ ?_
 refine CW.seq (CW.seq (CW.region ?_))
 refine RG.vl rfl rfl rfl (Ev.move rfl rfl) ?_
 refine RG.vl rfl rfl rfl (Ev.move rfl rfl) ?_
 refine RG.vl rfl rfl rfl (Ev.lss rfl rfl rfl) ?_
 refine RG.done (QW.then_ ?_)
 refine CW.condP rfl (fun hc2 => ?_) (fun hc2 => ?_)
 ·refine CW.skip (QW.then_ (CW.seq (CW.block ?_)))
  obtain ⟨j, hj⟩ : ∃ j, j = l.length - 1 - i := ⟨_, rfl⟩
  have hji : 2 * i + 1 < l.length := by omega
  have ha1 : (rvS l i)[i]? = some (cf l i) := by rw [rvS_at (by omega), if_neg (by omega)]
  have ha2 : (rvS l i)[j]? = some (cf l j) := by rw [rvS_at (by omega), if_neg (by omega)]
  have hcj : ((l.length : Int) - 1 - (i : Int)) = (j : Int) := by omega
  rw [hcj]
  have hrl := rvS_len l i
  have ha3 : ((rvS l i).set i (cf l j))[j]? = some (cf l j) := by rw [List.getElem?_set_ne (by omega)]; exact ha2
  refine CW.draw [13, 15] (.ex) 16 rfl mixed (fun wd3 hxwd3 => ?_)
  replace hxwl1 := Ex.tr hxwl1 hxwd3
  have hE4 := hxwd3
  refine AG.takeW 0 rfl (by kernel_rfl) (by kernel_rfl) rfl rfl rfl (fun _ => Ev.move rfl rfl) ?_
  refine AG.takeW 1 rfl (by kernel_rfl) (by kernel_rfl) rfl rfl rfl (fun _ => Ev.move rfl rfl) ?_
  refine AG.takeW 2 rfl (by kernel_rfl) (by kernel_rfl) rfl rfl rfl (fun _ => Ev.move rfl rfl) ?_
  refine AG.takeW 3 rfl (by kernel_rfl) (by kernel_rfl) rfl rfl rfl (fun _ => Ev.move rfl rfl) ?_
  refine AG.takeW 4 rfl (by kernel_rfl) (by kernel_rfl) rfl rfl rfl (fun _ => Ev.move rfl rfl) ?_
  refine AG.takeW 5 rfl (by kernel_rfl) (by kernel_rfl) rfl rfl rfl (fun _ => Ev.move rfl rfl) ?_
  refine AG.idxO _ 6 rfl (by kernel_rfl) (by kernel_rfl) rfl rfl rfl rfl rfl rfl Tryz.underlying138 sz_21 encR_len ((Own.ext hoL hE4)) (ha2) (fun g6 hg6 hBg6 hp5b hp5 => ?_)
  refine AG.take 7 rfl (by kernel_rfl) (by kernel_rfl) rfl rfl rfl (fun wq hq => Ev.ld0 rfl rfl Tryz.underlying21 rfl (hp5.ext hq hp5b) (rfl)) ?_
  refine AG.takeW 8 rfl (by kernel_rfl) (by kernel_rfl) rfl rfl rfl (fun _ => Ev.move rfl rfl) ?_
  refine AG.takeW 9 rfl (by kernel_rfl) (by kernel_rfl) rfl rfl rfl (fun _ => Ev.move rfl rfl) ?_
  refine AG.idxO _ 10 rfl (by kernel_rfl) (by kernel_rfl) rfl rfl rfl rfl rfl rfl Tryz.underlying138 sz_21 encR_len ((Own.ext hoL hE4)) (ha1) (fun g8 hg8 hBg8 hp7b hp7 => ?_)
  refine AG.take 11 rfl (by kernel_rfl) (by kernel_rfl) rfl rfl rfl (fun wq hq => Ev.ld0 rfl rfl Tryz.underlying21 rfl (hp7.ext hq hp7b) (rfl)) ?_
  refine AG.idxO _ 12 rfl (by kernel_rfl) (by kernel_rfl) rfl rfl rfl rfl rfl rfl Tryz.underlying138 sz_21 encR_len ((Own.ext hoL hE4)) (ha1) (fun g10 hg10 hBg10 hp9b hp9 => ?_)
  refine AG.only 13 rfl (by kernel_rfl) ?_
  refine RG.stOw0 (g := g10) (cf l j) rfl rfl rfl rfl rfl sz_21 rfl (fun _ => rfl) (Own.ext hoL hE4) hg10 (ha1) rfl (rfl) (fun ws12 hwws12 hown13 => ?_)
  replace hxwl1 := Wr.below hxwl1 hwws12 hBg10
  refine RG.done ?_
  refine QW.an (fun h => by simp at h) ?_
  refine AG.idxO _ 14 rfl (by kernel_rfl) (by kernel_rfl) rfl rfl rfl rfl rfl rfl Tryz.underlying138 sz_21 encR_len (hown13) (ha3) (fun g15 hg15 hBg15 hp14b hp14 => ?_)
  refine AG.only 15 rfl (by kernel_rfl) ?_
  refine RG.stOw0 (g := g15) (cf l i) rfl rfl rfl rfl rfl sz_21 rfl (fun _ => rfl) hown13 hg15 (ha3) rfl (rfl) (fun ws17 hwws17 hown18 => ?_)
  replace hxwl1 := Wr.below hxwl1 hwws17 hBg15
  refine RG.done ?_
  refine QW.an (fun h => by simp at h) ?_
  refine AG.done (by kernel_rfl) ?_
  refine QW.sub (S' := [(0, _), (2, _), (3, _)]) ⟨rfl, rfl, rfl, trivial⟩ ?_
  refine QW.blockN (QW.then_ (CW.region ?_))
  refine RG.vl rfl rfl rfl (Ev.move rfl rfl) ?_
  refine RG.vl rfl rfl rfl (Ev.addI rfl rfl rfl (by omega)) ?_
  refine RG.vl rfl rfl rfl (Ev.move rfl rfl) ?_
  refine RG.vl rfl rfl rfl (Ev.subI rfl rfl rfl (by omega)) ?_
  refine RG.vl rfl rfl rfl (Ev.assign rfl rfl) ?_
  refine RG.vl rfl rfl rfl (Ev.assign rfl rfl) ?_
  refine RG.done ?_
  refine QW.round1 (i + 1) ⟨rfl, congrArg (fun x => some (Value.int .i64 x)) (by omega), trivial⟩ ⟨rfl, trivial⟩ ⟨⟨by omega, by rw [← rvS_step hji, ← hj]; exact hown18⟩, hxwl1⟩ (by omega)
 ·refine CW.exit (QW.thenExit (QW.thenExit (QW.blockHit ?_)))
  refine QW.end0 rfl ?_
  rw [rvS_end (by omega)] at hoL
  exact ⟨rfl, hoL, hxwl1⟩

end Go.Proofs.YtgjnchjkjdnidaaGreat

/- Walks (UB). Written by program. -/
namespace Go.Proofs.YtgjnchjkjdnidaaGreat
open Go.RowKit
set_option maxRecDepth 100000 in
set_option maxHeartbeats 1000000 in
theorem digOf_ret (l : List Nat) (w : World) (hl : l.length = 16) (hel : El l) :
  Ret Tryz.prog 32 [.agg (c16 l).toArray] w (fun v w' => ∃ r, PayT (vb 64 0 l) r ∧ v = .tuple #[.string ⟨(r.getD []).toArray⟩, .bool r.isSome] ∧ Ex w w') := by
 have hN16 : vb 64 0 l < 64 ^ 16 := by have := vb_lt (b := 64) (by decide) hel; rw [hl] at this; exact this
 obtain ⟨N, hN⟩ : ∃ N, vb 64 0 l = N := ⟨_, rfl⟩
 rw [hN] at hN16 ⊢
 have hB0 : Ex w w := Ex.rfl_ _
 refine Ret.of Tryz.func32 rfl Tryz.ntmps32 rfl ?_
 refine CW.seq (CW.region ?_)
 refine RG.box rfl rfl rfl rfl rfl (fun gN w1 egN hx1 hb1 => ?_)
 have hle2 : w.heap.size ≤ gN := by have := (Ex.rfl_ w).size; omega
 have hE3 := hx1
 refine RG.vl rfl rfl rfl (Ev.assign rfl rfl) ?_
 refine RG.vl rfl rfl rfl (Ev.assign rfl rfl) ?_
 refine RG.done (QW.then_ (CW.seq (CW.region ?_)))
 refine RG.vl rfl rfl rfl (Ev.assign rfl rfl) ?_
 refine RG.done (QW.then_ (CW.seq (CW.block ?_)))
 refine CW.loop3 [(1, _), (2, _), (3, _)] ⟨rfl, rfl, rfl, trivial⟩ (fun (k : Nat) (L : List Nat) (u : Value) => [(4, u)]) (fun k L u w' => (k ≤ 29 ∧ L.length = 16 ∧ El L ∧ vb 64 0 L = N / 10 ^ k ∧ (0 < k → N / 10 ^ (k - 1) ≠ 0) ∧ Blk w' gN 62 (c16 L) ∧ Own w' w.heap.size 21 1 encR u ((ld 10 k N).map (48 + ·)) ∧ (u.ownBlock = some gN → False)) ∧ Ex w w') (fun k L u => 29 - k) (0) (l) (.slice none 0 0) ⟨rfl, trivial⟩ ⟨⟨by omega, hl, hel, by rw [hN, Nat.pow_zero, Nat.div_one], fun h => absurd h (by omega), hb1, Own.nil_ _ _ _ _ _, fun e => by cases e⟩, (Ex.tr hB0 hE3)⟩ ?_
 rintro k L u wl4 ⟨⟨hk, hL, hLe, hv, hk0, hbN, hu, hsb⟩, hxwl4⟩
 refine CW.sub (S' := [(4, _), (1, _), (2, _), (3, _)]) ⟨rfl, rfl, rfl, rfl, trivial⟩ ?_
 refine CW.seq (CW.seq (CW.region ?_))
 refine RG.vl rfl rfl rfl (Ev.ldAgg rfl rfl Tryz.underlying62 rfl sz_62 (by rw [c16_len, hL]) hbN.cells) ?_
 refine RG.vl rfl rfl rfl ((Ev.buildAZ (zs := List.replicate 16 (.int .u8 0)) rfl Tryz.underlying62 sz_5 inf_62 rfl).conv (show _ = Value.agg (c16 (List.replicate 16 0)).toArray from rfl)) ?_
 refine RG.vl rfl rfl rfl (Ev.neZ hL rfl rfl rfl Tryz.underlying62 Tryz.underlying5 inf_5 (by kernel_rfl)) ?_
 refine RG.done (QW.then_ ?_)
 refine CW.condP rfl (fun hc5 => ?_) (fun hc5 => ?_)
 ·refine CW.skip (QW.then_ (CW.block (CW.seq ?_)))
  have hk29 : k < 29 := k29 hN16 (by rw [← hv]; assumption)
  have hul : (((ld 10 k N).map (48 + ·))).length = k := by rw [List.length_map, ld_len]
  refine CW.region ?_
  refine RG.vl rfl rfl rfl (Ev.assign rfl rfl) ?_
  refine RG.done (QW.then_ (CW.seq (CW.seq (CW.region ?_))))
  refine RG.vl rfl rfl rfl (Ev.ldAgg rfl rfl Tryz.underlying62 rfl sz_62 (by rw [c16_len, hL]) hbN.cells) ?_
  refine RG.vl rfl rfl rfl (Ev.move rfl rfl) ?_
  refine RG.done (QW.then_ (CW.block ?_))
  refine CW.loop1 [(1, _), (2, _), (3, _), (4, _), (11, _)] ⟨rfl, rfl, rfl, rfl, rfl, trivial⟩ (fun (i : Nat) => [(12, .int .i64 (i : Int)), (5, .int .i64 ((dv 64 10 0 (L.take i)).2 : Int))]) (fun i w' => (i ≤ 16 ∧ Blk w' gN 62 (c16 (dvL 64 10 L i)) ∧ Own w' w.heap.size 21 1 encR u ((ld 10 k N).map (48 + ·))) ∧ Ex w w') (fun i => 16 - i) (0) ⟨rfl, rfl, trivial⟩ ⟨⟨by omega, hbN, hu⟩, (Ex.tr hB0 hxwl4)⟩ ?_
  rintro i wl6 ⟨⟨hi, hbN, hu⟩, hxwl6⟩
  refine CW.sub (S' := [(12, _), (5, _), (1, _), (2, _), (3, _), (4, _), (11, _)]) ⟨rfl, rfl, rfl, rfl, rfl, rfl, rfl, trivial⟩ ?_
  refine CW.seq (CW.region ?_)
  refine RG.vl rfl rfl rfl (Ev.lss rfl rfl rfl) ?_
  refine RG.done (QW.then_ (CW.seq ?_))
  refine CW.condP rfl (fun hc7 => ?_) (fun hc7 => ?_)
  ·refine CW.skip (QW.then_ (CW.seq (CW.block (CW.seq ?_))))
   obtain ⟨x, hx⟩ : ∃ x, L[i]? = some x := ⟨_, List.getElem?_eq_getElem (by omega)⟩
   have hx64 := hLe.get hx
   have hr10 := dv_rest 64 (d := 10) (by decide) (L.take i) 0 (by decide)
   have hdl := dvL_len 64 10 L i
   have hdt := dv_take (b := 64) (d := 10) hx
   refine CW.region ?_
   refine RG.vl rfl rfl rfl (Ev.move rfl rfl) ?_
   refine RG.vl rfl rfl rfl (Ev.idxArr rfl rfl rfl Tryz.underlying62 Tryz.underlying5 rfl sz_5 (by omega) (c16_at' hx)) ?_
   refine RG.vl rfl rfl rfl (Ev.assign rfl rfl) ?_
   refine RG.vl rfl rfl rfl (Ev.assign rfl rfl) ?_
   refine RG.done (QW.then_ (CW.seq (CW.region ?_)))
   refine RG.vl rfl rfl rfl (Ev.move rfl rfl) ?_
   refine RG.vl rfl rfl rfl (Ev.mulI rfl rfl rfl (by omega)) ?_
   refine RG.vl rfl rfl rfl (Ev.move rfl rfl) ?_
   refine RG.vl rfl rfl rfl (Ev.to64 rfl rfl Tryz.underlying5 Tryz.underlying3 (by omega)) ?_
   refine RG.vl rfl rfl rfl ((Ev.addI rfl rfl rfl (by omega)).conv (congrArg (Value.int .i64) (show (((dv 64 10 0 (L.take i)).2 : Nat) : Int) * 64 + (x : Int) = (((64 * (dv 64 10 0 (L.take i)).2 + x) : Nat) : Int) by omega))) ?_
   refine RG.vl rfl rfl rfl (Ev.assign rfl rfl) ?_
   refine RG.done (QW.then_ (CW.seq (CW.region ?_)))
   refine RG.vl rfl rfl rfl (Ev.move rfl rfl) ?_
   refine RG.vl rfl rfl rfl (Ev.move rfl rfl) ?_
   refine RG.vl rfl rfl rfl ((Ev.quoI rfl rfl rfl (by omega)).conv (congrArg (Value.int .i64) (show (((64 * (dv 64 10 0 (L.take i)).2 + x) : Nat) : Int) / 10 = (((64 * (dv 64 10 0 (L.take i)).2 + x) / 10 : Nat) : Int) by omega))) ?_
   refine RG.vl rfl rfl rfl (Ev.to8 rfl rfl Tryz.underlying3 Tryz.underlying5 (by omega)) ?_
   refine RG.vl rfl rfl rfl (Ev.idxA rfl rfl rfl Tryz.underlying62 sz_5 (by omega)) ?_
   refine RG.st (g := gN) (k := _) rfl rfl rfl rfl rfl sz_5 rfl hbN (by rw [c16_len, hdl, Nat.blt_eq]; omega) (fun ws8 hwws8 hbws8 => ?_)
   replace hu := Own.far hu hwws8 hsb
   replace hxwl6 := Wr.below hxwl6 hwws8 hle2
   rw [c16_set, dvL_step hx] at hbws8
   refine RG.done ?_
   refine QW.sub (S' := [(1, _), (2, _), (3, _), (4, _), (5, _), (11, _), (12, _)]) ⟨rfl, rfl, rfl, rfl, rfl, rfl, rfl, trivial⟩ ?_
   refine QW.then_ (CW.region ?_)
   refine RG.vl rfl rfl rfl (Ev.move rfl rfl) ?_
   refine RG.vl rfl rfl rfl ((Ev.remI rfl rfl rfl (by omega)).conv (congrArg (Value.int .i64) (show (((64 * (dv 64 10 0 (L.take i)).2 + x) : Nat) : Int) % 10 = (((64 * (dv 64 10 0 (L.take i)).2 + x) % 10 : Nat) : Int) by omega))) ?_
   refine RG.vl rfl rfl rfl (Ev.assign rfl rfl) ?_
   refine RG.done (QW.blockN (QW.then_ (CW.region ?_)))
   refine RG.vl rfl rfl rfl (Ev.addI rfl rfl rfl (by omega)) ?_
   refine RG.vl rfl rfl rfl (Ev.move rfl rfl) ?_
   refine RG.done ?_
   refine QW.round1 (i + 1) ⟨rfl, by rw [hdt]; rfl, trivial⟩ ⟨rfl, rfl, rfl, rfl, rfl, trivial⟩ ⟨⟨by omega, hbws8, hu⟩, (Ex.tr hB0 hxwl6)⟩ (by omega)
  ·refine CW.exit (QW.thenExit (QW.thenExit (QW.blockHit (QW.then_ ?_))))
   obtain rfl : i = 16 := by omega
   obtain ⟨hq1, hq2⟩ := dv_quo (b := 64) (d := 10) (by decide) L
   have hr10 := dv_rest 64 (d := 10) (by decide) L 0 (by decide)
   have hde : dvL 64 10 L 16 = (dv 64 10 0 L).1 := by have h := dvL_end 64 10 L; rw [hL] at h; exact h
   rw [hde] at hbN
   rw [show L.take 16 = L from List.take_of_length_le (by omega)]
   refine CW.region ?_
   refine RG.vl rfl rfl rfl (Ev.move rfl rfl) ?_
   refine RG.vl rfl rfl rfl (Ev.move rfl rfl) ?_
   refine RG.vl rfl rfl rfl (Ev.to32 rfl rfl Tryz.underlying3 Tryz.underlying21 (by omega)) ?_
   refine RG.vl rfl rfl rfl ((Ev.add32 rfl rfl rfl (by omega)).conv (congrArg (Value.int .i32) (show (48 : Int) + ((dv 64 10 0 L).2 : Int) = ((48 + (dv 64 10 0 L).2 : Nat) : Int) by omega))) ?_
   refine RG.litO (os := [.tmp 32]) (enc := encR) ([48 + (dv 64 10 0 L).2]) rfl rfl rfl rfl rfl rfl rfl Tryz.underlying138 inf_21 rfl rfl rfl rfl rfl encR_len rfl rfl (fun v9 wk10 hxwk10 hown11 hnew12 => ?_)
   have hsep13 : Sep v9 _ := Sep.of_new hu hnew12
   have hsb14 := fun e => sep_blk hbN (Nat.le_refl _) hown11 e
   replace hxwl6 := Ex.tr hxwl6 hxwk10
   have hE15 := hxwk10
   refine RG.appO rfl rfl rfl rfl rfl rfl rfl Tryz.underlying138 inf_21 rfl rfl encR_len (fun _ => rfl) (Own.ext hu hE15) ((hown11.rdl encR_len)) (by show _ + 1 ≤ maxLen; simp only [maxLen]; omega) (by show (_ + 1) * _ ≤ _; omega) (hxwl6.size) (fun v16 wa17 hown18 hgr19 hat20 => ?_)
   have hb21 := Blk.grown (hbN.ext hE15) hgr19 (fun e => hsb e.symm)
   have hsb22 := sepb_app hsb (hbN.ext hE15) hat20
   have hsep24 := Sep.app (Sep.symm hsep13) hown11 hat20
   have hown23 := Own.grown hown11 hgr19 (fun k a b => (Sep.symm hsep13) k b a)
   replace hxwl6 := own_block (Own.ext hu hE15) hxwl6 hgr19 (Nat.le_refl _) hxwl6.size
   refine RG.vl rfl rfl rfl (Ev.assign rfl rfl) ?_
   refine RG.done (QW.blockN ?_)
   refine QW.round3 (k + 1) (_) (v16) ⟨rfl, trivial⟩ ⟨rfl, rfl, rfl, trivial⟩ ⟨⟨by omega, by rw [dv_len, hL], dv_lt (by decide) L 0 (by decide) hLe, by rw [hq1, hv, Nat.div_div_eq_div_mul, ← Nat.pow_succ], fun _ => by rw [Nat.add_sub_cancel, ← hv]; assumption, hb21, by rw [ld_snoc, List.map_append, ← hv, ← hq2]; exact hown18, hsb22⟩, (Ex.tr hB0 hxwl6)⟩ (by omega)
 ·refine CW.exit (QW.thenExit (QW.thenExit (QW.blockHit (QW.then_ (CW.seq (CW.seq ?_))))))
  have hz : N / 10 ^ k = 0 := by rw [← hv]; exact Decidable.not_not.1 (by assumption)
  have hul : (((ld 10 k N).map (48 + ·))).length = k := by rw [List.length_map, ld_len]
  refine CW.region ?_
  refine RG.vl rfl rfl rfl (Ev.move rfl rfl) ?_
  refine RG.vl rfl rfl rfl (Ev.lenL rfl rfl rfl Tryz.underlying138 ((hu.rdl encR_len))) ?_
  refine RG.vl rfl rfl rfl (Ev.eqI rfl rfl rfl) ?_
  refine RG.vl rfl rfl rfl (Ev.move rfl rfl) ?_
  refine RG.split (d := 38) rfl (fun hg25 => ?_) (fun hg25 => ?_)
  ·refine RG.pass rfl rfl rfl ?_
   refine RG.pass rfl rfl rfl ?_
   refine RG.pass rfl rfl rfl ?_
   refine RG.pass rfl rfl rfl ?_
   refine RG.pass rfl rfl rfl ?_
   refine RG.pass rfl rfl rfl ?_
   refine RG.pass rfl rfl rfl ?_
   refine RG.vl rfl rfl rfl (Ev.pickT rfl rfl rfl) ?_
   refine RG.done ?_
   refine QW.sub (S' := [(2, _), (3, _), (4, _), (46, _)]) ⟨rfl, rfl, rfl, rfl, trivial⟩ ?_
   refine QW.then_ ?_
   refine CW.condT rfl ?_
   refine CW.seq (CW.region ?_)
   refine RG.vl rfl rfl rfl (Ev.assign rfl rfl) ?_
   refine RG.vl rfl rfl rfl (Ev.assign rfl rfl) ?_
   refine RG.done (QW.then_ (CW.ret (QW.thenRet ?_)))
   refine QW.ret2 rfl rfl rfl ?_
   have hB := (Ex.tr hB0 hxwl4)
   exact ⟨none, pay_k0 hz (by omega), rfl, hB⟩
  ·refine RG.vl rfl rfl rfl (Ev.move rfl rfl) ?_
   refine RG.vl rfl rfl rfl (Ev.move rfl rfl) ?_
   refine RG.vl rfl rfl rfl (Ev.lenL rfl rfl rfl Tryz.underlying138 ((hu.rdl encR_len))) ?_
   refine RG.vl rfl rfl rfl ((Ev.subI rfl rfl rfl (by omega)).conv (congrArg (Value.int .i64) (show ((((ld 10 k N).map (48 + ·))).length : Int) - 1 = ((k - 1 : Nat) : Int) by omega))) ?_
   refine RG.idxO rfl rfl rfl rfl rfl rfl Tryz.underlying138 sz_21 encR_len (hu) ((show (((ld 10 k N).map (48 + ·)))[k - 1]? = some (48 + N / 10 ^ (k - 1) % 10) by rw [List.getElem?_map, ld_get 10 k N (k - 1) (by omega)]; rfl)) (fun g27 hg27 hBg27 hp26b hp26 => ?_)
   refine RG.vl rfl rfl rfl (Ev.ld0 rfl rfl Tryz.underlying21 rfl (hp26) (rfl)) ?_
   refine RG.vl rfl rfl rfl (Ev.neI rfl rfl rfl) ?_
   refine RG.vl rfl rfl rfl (Ev.pickF rfl rfl rfl) ?_
   refine RG.done ?_
   refine QW.sub (S' := [(2, _), (3, _), (4, _), (46, _)]) ⟨rfl, rfl, rfl, rfl, trivial⟩ ?_
   refine QW.then_ ?_
   refine CW.condP rfl (fun hc28 => ?_) (fun hc28 => ?_)
   ·refine CW.seq (CW.region ?_)
    refine RG.vl rfl rfl rfl (Ev.assign rfl rfl) ?_
    refine RG.vl rfl rfl rfl (Ev.assign rfl rfl) ?_
    refine RG.done (QW.then_ (CW.ret (QW.thenRet ?_)))
    refine QW.ret2 rfl rfl rfl ?_
    have hB := (Ex.tr hB0 hxwl4)
    exact ⟨none, pay_kn (by omega) (hk0 (by omega)) hz (by omega), rfl, hB⟩
   ·refine CW.skip (QW.then_ (CW.seq ?_))
    have hk1 : 0 < k := by omega
    refine CW.region ?_
    refine RG.vl rfl rfl rfl (Ev.move rfl rfl) ?_
    refine RG.vl rfl rfl rfl (Ev.move rfl rfl) ?_
    refine RG.vl rfl rfl rfl (Ev.lenL rfl rfl rfl Tryz.underlying138 ((hu.rdl encR_len))) ?_
    refine RG.vl rfl rfl rfl ((Ev.subI rfl rfl rfl (by omega)).conv (congrArg (Value.int .i64) (show ((((ld 10 k N).map (48 + ·))).length : Int) - 1 = ((k - 1 : Nat) : Int) by omega))) ?_
    have hfo := hu
    obtain ⟨gf, fC, rfl, hgB, hgl⟩ := own_at hfo (by rw [hul]; omega)
    have hcap := Own.cap_ hfo
    refine RG.vl rfl rfl rfl (Ev.upTo (H := k - 1) rfl rfl rfl Tryz.underlying138 sz_21 (by rw [hul] at hcap; omega)) ?_
    have hfr := Own.front hfo encR_len (k := k - 1) (by rw [hul]; omega)
    refine RG.vl rfl rfl rfl (Ev.assign rfl rfl) ?_
    refine RG.done (QW.then_ (CW.seq ?_))
    have hfl : ((((ld 10 k N).map (48 + ·))).take (k - 1)).length = k - 1 := by rw [List.length_take, hul]; omega
    refine CW.region ?_
    refine RG.vl rfl rfl rfl (Ev.move rfl rfl) ?_
    refine RG.call rfl rfl rfl rfl rfl rfl rfl en_71 (reverseR_ret w _ _ _ (Ex.tr hB0 hxwl4) hfr (by omega)) ?_
    rintro _ w29 ⟨rfl, hown30, hxo31⟩
    replace hxwl4 := hxo31
    refine RG.done (QW.then_ (CW.seq (CW.region ?_)))
    refine RG.vl rfl rfl rfl (Ev.move rfl rfl) ?_
    refine RG.vl rfl rfl rfl ((Ev.ofRunes rfl rfl Tryz.underlying138 Tryz.underlying21 Tryz.underlying9 (hown30.rdl encR_len) (dl_lo k N)).conv (congrArg (fun l : List UInt8 => Value.string ⟨l.toArray⟩) (dl_str hk1))) ?_
    refine RG.vl rfl rfl rfl (Ev.assign rfl rfl) ?_
    refine RG.vl rfl rfl rfl (Ev.assign rfl rfl) ?_
    refine RG.done (QW.then_ (CW.ret ?_))
    refine QW.ret2 rfl rfl rfl ?_
    have hB := (Ex.tr hB0 hxwl4)
    exact ⟨some _, pay_ks hk1 (hk0 hk1) hz (by omega), rfl, hB⟩

end Go.Proofs.YtgjnchjkjdnidaaGreat

