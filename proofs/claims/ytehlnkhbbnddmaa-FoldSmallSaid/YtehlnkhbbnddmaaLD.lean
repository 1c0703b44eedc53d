/- Regions whose order is open: operations that may be taken first, and the one that must come next. -/
import Derived.Test.YtehlnkhbbnddmaaLC
import Derived.OrdersHeld
namespace Go.Proofs.Ytehlnkhbbnddmaa
open Go.RowKit

section
variable {P : Program} {ops : Array Oper} {Q : Exit → Act → World → Prop}

/-- No panic is let out. -/
def NP (Q : Exit → Act → World → Prop) : Exit → Act → World → Prop
  | .panic _, _, _ => False
  | e, a, w => Q e a w
theorem NP.out {e : Exit} {a : Act} {w : World} (h : NP Q e a w) : Q e a w := by cases e <;> first | exact h | exact h.elim

/-- Whatever order is picked; St holds behind each operation but those of U, behind which another condition may stand. -/
def wpZ (P : Program) (ops : Array Oper) (Q : Exit → Act → World → Prop) (U : List Nat) : Nat → (World → Prop) → Array Bool → Act → World → Prop
  | 0, _, listed, a, w => Region.ready .any ops listed = [] ∧ Q .normal a w
  | f + 1, St, listed, a, w => (Region.ready .any ops listed = [] → Q .normal a w) ∧
    ∀ i ∈ Region.ready .any ops listed, wpOp P ops Q i (fun a' w' =>
      (U.contains i = false → St w' ∧ wpZ P ops Q U f St (listed.setIfInBounds i true) a' w') ∧
      (U.contains i = true → ∃ St' : World → Prop, St' w' ∧ wpZ P ops Q U f St' (listed.setIfInBounds i true) a' w')) a w

theorem wpZ_sound {U : List Nat} : ∀ (f : Nat) (St : World → Prop) (listed : Array Bool) (a : Act) (w : World), wpZ P ops Q U f St listed a w → wpAny P .any ops Q f listed a w
  | 0, _, _, _, _, h => h
  | f + 1, _, _, _, _, h => ⟨h.1, fun i hi => wpOp_mono (fun a' w' hk => by
      cases hu : U.contains i with
      | false => exact wpZ_sound f _ _ a' w' (hk.1 hu).2
      | true => obtain ⟨St', _, h'⟩ := hk.2 hu; exact wpZ_sound f St' _ a' w' h') (h.2 i hi)⟩

theorem wpZ_mono {U : List Nat} : ∀ (f : Nat) {St St' : World → Prop} (_ : ∀ w, St w → St' w) (listed : Array Bool) (a : Act) (w : World), wpZ P ops Q U f St listed a w → wpZ P ops Q U f St' listed a w
  | 0, _, _, _, _, _, _, h => h
  | f + 1, _, _, hs, _, _, _, h => ⟨h.1, fun i hi => wpOp_mono (fun a' w' hk => ⟨fun hu => ⟨hs _ (hk.1 hu).1, wpZ_mono f hs _ a' w' (hk.1 hu).2⟩, hk.2⟩) (h.2 i hi)⟩

theorem set_comm_ (l : Array Bool) (i j : Nat) : (l.setIfInBounds i true).setIfInBounds j true = (l.setIfInBounds j true).setIfInBounds i true := by
  apply Array.ext_getElem?
  intro k
  simp only [Array.getElem?_setIfInBounds, Array.size_setIfInBounds]
  by_cases hi : i = k <;> by_cases hj : j = k <;> simp [hi, hj]

theorem not_waits {i : Nat} {oj : Oper} {listed : Array Bool} (hr : i ∈ Region.ready .any ops listed) (hall : ∀ e ∈ oj.after, Region.binds .any e = true → listed.getD e.on false = true) :
    ∀ e ∈ oj.after, Region.binds .any e = true → e.on ≠ i := by
  intro e he hb heq
  have h1 := hall e he hb
  have h0 := (mem_ready.1 hr).1
  rw [heq] at h1
  rcases Nat.lt_or_ge i listed.size with h' | h'
  · simp [h'] at h0 h1; rw [h0] at h1; cases h1
  · simp [Array.getElem?_eq_none h'] at h1

/-- An operation that comes to its value in every world that meets St may be taken first, where all that need not wait for it keeps St and does not touch its slots. -/
theorem wpZ_held {U : List Nat} {i : Nat} {oi : Oper} {v : Value} (hi : ops[i]? = some oi) (hsel : ∀ (j : Nat) (o : Oper) cs b, ops[j]? = some o → o.op ≠ .select cs b)
    (hQ : ∀ c a w, Q (.panic c) (a.put oi.dst v) w → Q (.panic c) a w) (hU : U.contains i = false) : ∀ (f : Nat) (St : World → Prop) (listed : Array Bool) (a : Act) (w : World),
    (∀ j oj, ops[j]? = some oj → j ≠ i → listed.getD j true = false → (∀ e ∈ oj.after, Region.binds .any e = true → e.on ≠ i) → oi.apart ops oj = true ∧ U.contains j = false) →
    i ∈ Region.ready .any ops listed → YieldsIf P ops St oi v a → St w →
    wpZ P ops Q U f St (listed.setIfInBounds i true) (a.put oi.dst v) w → wpZ P ops Q U (f + 1) St listed a w := by
  intro f
  induction f with
  | zero =>
    intro St listed a w _ hr hy hS H
    refine ⟨fun h => (by rw [h] at hr; cases hr), fun j hj => ?_⟩
    by_cases hji : j = i
    · subst hji; exact hy.wpOp hi hS ⟨fun _ => ⟨hS, H⟩, fun h => by rw [hU] at h; cases h⟩
    · have := ready_mono hj hji
      rw [H.1] at this
      cases this
  | succ f ih =>
    intro St listed a w hfree hr hy hS H
    refine ⟨fun h => (by rw [h] at hr; cases hr), fun j hj => ?_⟩
    by_cases hji : j = i
    · subst hji; exact hy.wpOp hi hS ⟨fun _ => ⟨hS, H⟩, fun h => by rw [hU] at h; cases h⟩
    · have h1 := H.2 j (ready_mono hj hji)
      obtain ⟨hjun, oj, hoj, hall⟩ := mem_ready.1 hj
      obtain ⟨hap, hsafe⟩ := hfree j oj hoj hji hjun (not_waits hr hall)
      refine wpOp_mono ?_ (wpOp_putIf hoj hap (fun cs b => hsel i oi cs b hi) (fun cs b => hsel j oj cs b hoj) hQ hy h1)
      rintro a' w' ⟨hy', hk, _⟩
      obtain ⟨hS', hz⟩ := hk hsafe
      refine ⟨fun _ => ⟨hS', ih St _ a' w' ?_ (ready_mono hr (fun e => hji e.symm)) hy' hS' (by rw [set_comm_]; exact hz)⟩, fun h => by rw [hsafe] at h; cases h⟩
      intro k ok hk hki hun hno
      refine hfree k ok hk hki ?_ hno
      by_cases hkj : j = k
      · subst hkj; exact hjun
      · rwa [getD_set_ne true hkj] at hun

/-- The same for an operation that looks at no world. -/
theorem wpZ_free {U : List Nat} {i : Nat} {oi : Oper} {v : Value} (hi : ops[i]? = some oi) (hsel : ∀ (j : Nat) (o : Oper) cs b, ops[j]? = some o → o.op ≠ .select cs b)
    (hQ : ∀ c a w, Q (.panic c) (a.put oi.dst v) w → Q (.panic c) a w) (hU : U.contains i = false) : ∀ (f : Nat) (St : World → Prop) (listed : Array Bool) (a : Act) (w : World),
    (∀ j oj, ops[j]? = some oj → j ≠ i → listed.getD j true = false → (∀ e ∈ oj.after, Region.binds .any e = true → e.on ≠ i) → oi.apart ops oj = true) →
    i ∈ Region.ready .any ops listed → Yields P ops oi v a → St w →
    wpZ P ops Q U f St (listed.setIfInBounds i true) (a.put oi.dst v) w → wpZ P ops Q U (f + 1) St listed a w := by
  intro f
  induction f with
  | zero =>
    intro St listed a w _ hr hy hS H
    refine ⟨fun h => (by rw [h] at hr; cases hr), fun j hj => ?_⟩
    by_cases hji : j = i
    · subst hji; exact hy.wpOp hi ⟨fun _ => ⟨hS, H⟩, fun h => by rw [hU] at h; cases h⟩
    · have := ready_mono hj hji
      rw [H.1] at this
      cases this
  | succ f ih =>
    intro St listed a w hfree hr hy hS H
    refine ⟨fun h => (by rw [h] at hr; cases hr), fun j hj => ?_⟩
    by_cases hji : j = i
    · subst hji; exact hy.wpOp hi ⟨fun _ => ⟨hS, H⟩, fun h => by rw [hU] at h; cases h⟩
    · have h1 := H.2 j (ready_mono hj hji)
      obtain ⟨hjun, oj, hoj, hall⟩ := mem_ready.1 hj
      have hap := hfree j oj hoj hji hjun (not_waits hr hall)
      have hfree' : ∀ k ok, ops[k]? = some ok → k ≠ i → (listed.setIfInBounds j true).getD k true = false → (∀ e ∈ ok.after, Region.binds .any e = true → e.on ≠ i) → oi.apart ops ok = true := by
        intro k ok hk hki hun hno
        refine hfree k ok hk hki ?_ hno
        by_cases hkj : j = k
        · subst hkj; exact hjun
        · rwa [getD_set_ne true hkj] at hun
      refine wpOp_mono ?_ (wpOp_put hoj hap (fun cs b => hsel i oi cs b hi) (fun cs b => hsel j oj cs b hoj) hQ hy h1)
      rintro a' w' ⟨hy', hk, hk'⟩
      refine ⟨fun hs => ?_, fun hs => ?_⟩
      · obtain ⟨hS', hz⟩ := hk hs
        exact ⟨hS', ih St _ a' w' hfree' (ready_mono hr (fun e => hji e.symm)) hy' hS' (by rw [set_comm_]; exact hz)⟩
      · obtain ⟨St', hS', hz⟩ := hk' hs
        exact ⟨St', hS', ih St' _ a' w' hfree' (ready_mono hr (fun e => hji e.symm)) hy' hS' (by rw [set_comm_]; exact hz)⟩

def freeZ (ops : Array Oper) (U : List Nat) (listed : Array Bool) (i : Nat) (held : Bool) : Bool :=
  match ops[i]? with
  | none => false
  | some oi => (Region.ready .any ops listed).contains i && !U.contains i && (List.range ops.size).all fun j => j == i || listed.getD j true || match ops[j]? with
      | some oj => oj.after.any (fun e => Region.binds .any e && e.on == i) || (oi.apart ops oj && (!held || !U.contains j))
      | none => true

theorem freeZ_spec {U : List Nat} {listed : Array Bool} {i : Nat} {held : Bool} {oi : Oper} (hi : ops[i]? = some oi) (h : freeZ ops U listed i held = true) :
    i ∈ Region.ready .any ops listed ∧ U.contains i = false ∧ ∀ j oj, ops[j]? = some oj → j ≠ i → listed.getD j true = false → (∀ e ∈ oj.after, Region.binds .any e = true → e.on ≠ i) → oi.apart ops oj = true ∧ (held = true → U.contains j = false) := by
  simp only [freeZ, hi, Bool.and_eq_true, List.all_eq_true, List.mem_range] at h
  obtain ⟨⟨h1, h2⟩, h3⟩ := h
  refine ⟨by simpa using h1, by simpa using h2, fun j oj hj hne hun hno => ?_⟩
  have h4 := h3 j (Array.getElem?_eq_some_iff.1 hj).1
  simp only [hj, Bool.or_eq_true, beq_iff_eq, hne, false_or, hun, Bool.false_eq_true] at h4
  rcases h4 with h4 | h4
  · obtain ⟨e, he, hb⟩ := Array.any_eq_true'.1 h4
    simp only [Bool.and_eq_true, beq_iff_eq] at hb
    exact absurd hb.2 (hno e he hb.1)
  · simp only [Bool.and_eq_true] at h4
    refine ⟨h4.1, fun hh => ?_⟩
    have := h4.2
    simpa [hh] using this

/-- What may happen besides: nothing that was there is written; or one block may be; or any block from B on. -/
inductive Rk where
  | ex
  | row (g : Nat)
  | low (B : Nat)
def Rr : Rk → World → World → Prop
  | .ex, w, w' => Ex w w'
  | .row g, w, w' => w.grownBy w' (some g)
  | .low B, w, w' => w'.os = w.os ∧ w'.tape = w.tape ∧ w'.output = w.output ∧ w.heap.size ≤ w'.heap.size ∧ ∀ k, k < B → k < w.heap.size → w'.heap[k]? = w.heap[k]?
theorem Rr.refl_ (row : Rk) (w : World) : Rr row w w := by
  cases row with
  | ex => exact Ex.rfl_ w
  | row g => exact World.grownBy.refl w _
  | low B => exact ⟨rfl, rfl, rfl, Nat.le_refl _, fun _ _ _ => rfl⟩
theorem Rr.tr {row : Rk} {a b c : World} (h : Rr row a b) (k : Rr row b c) : Rr row a c := by
  cases row with
  | ex => exact Ex.tr h k
  | row g => exact ⟨k.os.trans h.os, k.tape.trans h.tape, k.output.trans h.output, Nat.le_trans h.size k.size, fun i hi hne => (k.block i (Nat.lt_of_lt_of_le hi h.size) hne).trans (h.block i hi hne)⟩
  | low B =>
    obtain ⟨h1, h2, h3, h4, h5⟩ := h
    obtain ⟨k1, k2, k3, k4, k5⟩ := k
    exact ⟨k1.trans h1, k2.trans h2, k3.trans h3, Nat.le_trans h4 k4, fun i hB hi => (k5 i hB (Nat.lt_of_lt_of_le hi h4)).trans (h5 i hB hi)⟩
theorem Rr.of_ex {row : Rk} {a b : World} (h : Ex a b) : Rr row a b := by
  cases row with
  | ex => exact h
  | row g => exact ⟨h.os, h.tape, h.output, h.size, fun k hk _ => h.block k hk⟩
  | low B => exact ⟨h.os, h.tape, h.output, h.size, fun k _ hk => h.block k hk⟩
theorem Rr.of_wr {g : Nat} {a b : World} (h : Wr a b g) : Rr (.row g) a b := h.grownBy
theorem Rr.low_wr {B g : Nat} {a b : World} (h : Wr a b g) (hB : B ≤ g) : Rr (.low B) a b := ⟨h.os, h.tape, h.output, by rw [h.size]; exact Nat.le_refl _, fun k hk _ => h.block k (by omega)⟩
theorem Rr.low_own {B base m sz : Nat} {e : TypeId} {v : Value} {xs : List Value} {a b : World} (h : a.ownsRow base e sz v m xs) (hg : a.grownBy b v.ownBlock) (hB : B ≤ base) : Rr (.low B) a b :=
  ⟨hg.os, hg.tape, hg.output, hg.size, fun k hk hka => hg.block k hka (fun e => by have := (h.lt k e.symm).1; omega)⟩
theorem Blk.low {B g : Nat} {a b : World} {t : TypeId} {cs : List Value} (h : Blk a g t cs) (hq : Rr (.low B) a b) (hB : g < B) : Blk b g t cs := (hq.2.2.2.2 g hB h.lt).trans h
theorem Cells.low {B : Nat} {a b : World} {p : Addr} {us : List Value} (h : Cells a p us) (hq : Rr (.low B) a b) (hp : p.block < a.heap.size) (hB : p.block < B) : Cells b p us := fun j u hu =>
  (World.cell?_of_block (hq.2.2.2.2 _ (by rw [block_of_add]; exact hB) (by rw [block_of_add]; exact hp))).trans (h j u hu)

def AG (P : Program) (ops : Array Oper) (Q : Exit → Act → World → Prop) (U : List Nat) (row : Rk) (n f : Nat) (listed : Array Bool) (S : Slots) (w : World) : Prop :=
  ∀ a, Fr n S a → wpZ P ops (NP Q) U f (Rr row w) listed a w

variable {U : List Nat} {row : Rk} {n f : Nat} {listed : Array Bool} {S : Slots} {w w' : World} {d : Nat} {v : Value}

theorem CW.draw {id : Nat} {l : List Oper} (U : List Nat) (row : Rk) (m : Nat) (hl : l.length = m) (hm : P.follows .mixedOrders = true) (k : ∀ w1, Ex w w1 → AG P l.toArray Q U row n m (Array.replicate m false) S w1) : CW P (.region id l.toArray true) Q n S w := by
  intro a ha
  subst hl
  refine wp_mono (wp_region_any (Q := NP Q) hm (wpZ_sound _ _ _ _ _ (k w.drew (Ex.of_drew w) a ha))) fun e a w h => h.out

/-- Take operation i first: its value is the same in all worlds that extend this one. -/
theorem AG.take (i : Nat) {oi : Oper} (hi : ops[i]? = some oi) (hs : Region.noSelect ops = true) (hf : freeZ ops U listed i true = true) (hw : wantS ops S oi = some true) (hd : oi.dst = some d) (hdn : Nat.blt d n = true)
    (he : ∀ w', Rr row w w' → Ev P n oi S w' v) (k : AG P ops Q U row n f (listed.setIfInBounds i true) ((d, v) :: S) w) : AG P ops Q U row n (f + 1) listed S w := by
  intro a ha
  obtain ⟨h1, h2, h3⟩ := freeZ_spec hi hf
  refine wpZ_held (v := v) hi (Region.noSelect_spec hs) (fun c a w h => h) h2 f _ listed a w (fun j oj hj hne hun hno => ⟨(h3 j oj hj hne hun hno).1, (h3 j oj hj hne hun hno).2 rfl⟩) h1
    (.inl ⟨ha.wanted hw, fun w' hx => he w' hx a ha⟩) (Rr.refl_ row w) ?_
  rw [hd]
  exact k _ (ha.put hdn)
/-- Take operation i first: it looks at no world. -/
theorem AG.takeW (i : Nat) {oi : Oper} (hi : ops[i]? = some oi) (hs : Region.noSelect ops = true) (hf : freeZ ops U listed i false = true) (hw : wantS ops S oi = some true) (hd : oi.dst = some d) (hdn : Nat.blt d n = true)
    (he : ∀ w', Ev P n oi S w' v) (k : AG P ops Q U row n f (listed.setIfInBounds i true) ((d, v) :: S) w) : AG P ops Q U row n (f + 1) listed S w := by
  intro a ha
  obtain ⟨h1, h2, h3⟩ := freeZ_spec hi hf
  refine wpZ_free (v := v) hi (Region.noSelect_spec hs) (fun c a w h => h) h2 f _ listed a w (fun j oj hj hne hun hno => (h3 j oj hj hne hun hno).1) h1
    (.inl ⟨ha.wanted hw, fun w' => he w' a ha⟩) (Rr.refl_ row w) ?_
  rw [hd]
  exact k _ (ha.put hdn)
/-- An element's address in a slice that reads as a list. -/
theorem AG.idxL {α : Type} {T e sz : Nat} {enc : α → List Value} {vv : Value} {xs : List α} {x y : Operand} {k : IntKind} {ix : Nat} {u : α} (w0 : World) (i : Nat) {oi : Oper} (hi : ops[i]? = some oi) (hs : Region.noSelect ops = true) (hf : freeZ ops U listed i false = true) (hw : wantS ops S oi = some true) (hd : oi.dst = some d) (hdn : Nat.blt d n = true)
    (ho : oi.op = .indexAddr T x y) (hx : ev S x = some vv) (hy : ev S y = some (.int k ix)) (ht : P.underlying T = some (.slice e)) (hsz : sizeP P e = some sz) (hr : RdL w0 sz enc vv xs) (hix : xs[ix]? = some u)
    (kk : ∀ p : Addr, p.block < w0.heap.size → Cells w0 p (enc u) → AG P ops Q U row n f (listed.setIfInBounds i true) ((d, .pointer (some p)) :: S) w) : AG P ops Q U row n (f + 1) listed S w := by
  have hlt : ix < xs.length := (List.getElem?_eq_some_iff.1 hix).1
  obtain ⟨ad, c, rfl, hc, hb, hcs⟩ := hr.open_ (by omega)
  exact AG.takeW i hi hs hf hw hd hdn (fun _ => Ev.idxN ho hx hy ht hsz hlt) (kk _ (by rw [block_of_add]; exact hb) (hcs ix u hix))
/-- A guarded operation that is not wanted. -/
theorem AG.pass (i : Nat) {oi : Oper} (hi : ops[i]? = some oi) (hs : Region.noSelect ops = true) (hf : freeZ ops U listed i false = true) (hw : wantS ops S oi = some false) (hd : oi.dst = some d) (hdn : Nat.blt d n = true)
    (k : AG P ops Q U row n f (listed.setIfInBounds i true) ((d, undef) :: S) w) : AG P ops Q U row n (f + 1) listed S w := by
  intro a ha
  obtain ⟨h1, h2, h3⟩ := freeZ_spec hi hf
  refine wpZ_free (v := undef) hi (Region.noSelect_spec hs) (fun c a w h => h) h2 f _ listed a w (fun j oj hj hne hun hno => (h3 j oj hj hne hun hno).1) h1
    (.inr ⟨ha.wanted hw, rfl⟩) (Rr.refl_ row w) ?_
  rw [hd]
  exact k _ (ha.put hdn)

/-- Behind the one operation that had to come next. -/
def AN (P : Program) (ops : Array Oper) (Q : Exit → Act → World → Prop) (U : List Nat) (row : Rk) (f : Nat) (listed : Array Bool) (i : Nat) (w : World) : Exit → Act → World → Prop
  | .normal, a', w' => (U.contains i = false → Rr row w w') ∧ wpZ P ops (NP Q) U f (Rr row w') (listed.setIfInBounds i true) a' w'
  | e, a', w' => NP Q e a' w'

theorem Oper.wp_monoQ {o : Oper} {a : Act} {w : World} {K K' : Act → World → Prop} {Q Q' : Exit → Act → World → Prop} (h : ∀ a w, K a w → K' a w) (hq : ∀ e a w, e ≠ .normal → Q e a w → Q' e a w) (hh : o.wp P a w K Q) : o.wp P a w K' Q' := by
  have hl : LetsOut Q → LetsOut Q' := fun ⟨a, w, h⟩ => ⟨a, w, hq _ a w (by simp) h⟩
  unfold Oper.wp at *
  generalize (execOp a.eval o).run P w = r at *
  cases r with
  | ok n w' =>
    cases n <;> simp only [Oper.upon] at hh ⊢ <;>
      first
        | exact h _ _ hh
        | exact Calls.mono hh (fun e w'' he => by cases e <;> first | exact h _ _ he | exact hq _ _ _ (by simp) he | exact hl he)
        | exact Rows.mono hh (fun _ _ he => h _ _ he)
  | halt x w' => cases x <;> simp only [Oper.upon] at hh ⊢ <;> exact hq _ _ _ (by simp) hh

theorem AG.each {rs : List Nat} (hr : Region.ready .any ops listed = rs) (hne : rs ≠ []) (k : ∀ i ∈ rs, ∃ oi, ops[i]? = some oi ∧ RG P ops (AN P ops Q U row f listed i w) n [oi] S w) : AG P ops Q U row n (f + 1) listed S w := by
  intro a ha
  refine ⟨fun h => absurd (hr.symm.trans h) hne, fun j hj => ?_⟩
  rw [hr] at hj
  obtain ⟨oi, hi, kk⟩ := k j hj
  have hk := kk a ha
  unfold wpList at hk
  unfold wpOp
  simp only [hi]
  have conv : ∀ a' w', AN P ops Q U row f listed j w .normal a' w' → (U.contains j = false → Rr row w w' ∧ wpZ P ops (NP Q) U f (Rr row w) (listed.setIfInBounds j true) a' w') ∧ (U.contains j = true → ∃ St' : World → Prop, St' w' ∧ wpZ P ops (NP Q) U f St' (listed.setIfInBounds j true) a' w') :=
    fun a' w' hn => ⟨fun hu => ⟨hn.1 hu, wpZ_mono f (fun x hx => (hn.1 hu).tr hx) _ a' w' hn.2⟩, fun _ => ⟨Rr row w', Rr.refl_ row w', hn.2⟩⟩
  split
  · rename_i hw
    rw [if_pos hw] at hk
    rcases hk with hk | ⟨h1, b, w2, h2⟩
    · exact .inl (Oper.wp_monoQ (fun a' w' hn => conv a' w' hn) (fun e a w hne hq => by cases e <;> first | exact hq | exact absurd rfl hne) hk)
    · exact .inr ⟨h1, b, w2, h2⟩
  · rename_i hw
    rw [if_neg hw] at hk
    exact conv _ _ hk
theorem AG.only (i : Nat) {oi : Oper} (hi : ops[i]? = some oi) (hr : Region.ready .any ops listed = [i]) (k : RG P ops (AN P ops Q U row f listed i w) n [oi] S w) : AG P ops Q U row n (f + 1) listed S w :=
  AG.each hr (by simp) fun j hj => by simp only [List.mem_singleton] at hj; subst hj; exact ⟨oi, hi, k⟩
theorem AG.two (i j : Nat) {oi oj : Oper} (hi : ops[i]? = some oi) (hj : ops[j]? = some oj) (hr : Region.ready .any ops listed = [i, j]) (k : RG P ops (AN P ops Q U row f listed i w) n [oi] S w) (k' : RG P ops (AN P ops Q U row f listed j w) n [oj] S w) : AG P ops Q U row n (f + 1) listed S w :=
  AG.each hr (by simp) fun m hm => by
    simp only [List.mem_cons, List.not_mem_nil, or_false] at hm
    rcases hm with rfl | rfl
    · exact ⟨oi, hi, k⟩
    · exact ⟨oj, hj, k'⟩

theorem QW.an {i : Nat} {w0 : World} (hx : U.contains i = false → Rr row w0 w) (k : AG P ops Q U row n f (listed.setIfInBounds i true) S w) : QW (AN P ops Q U row f listed i w0) .normal n S w := fun a ha => ⟨hx, k a ha⟩
theorem AG.done (hr : Region.ready .any ops listed = []) (k : QW Q .normal n S w) : AG P ops Q U row n f listed S w := by
  intro a ha
  have hk : NP Q .normal a w := k a ha
  cases f with
  | zero => exact ⟨hr, hk⟩
  | succ f => exact ⟨fun _ => hk, by rw [hr]; simp⟩
theorem AG.sub {S' : Slots} (hs : Sub S' S) (k : AG P ops Q U row n f listed S' w) : AG P ops Q U row n f listed S w := fun a ha => k a (ha.sub hs)
theorem AG.split {d : Nat} {p : Prop} [Decidable p] (hl : lk S d = some (.bool (decide p))) (ht : p → AG P ops Q U row n f listed ((d, .bool true) :: S) w) (hf : ¬ p → AG P ops Q U row n f listed ((d, .bool false) :: S) w) : AG P ops Q U row n f listed S w := by
  intro a ha
  have key : ∀ b, decide p = b → Fr n ((d, .bool b) :: S) a := fun b e => ⟨ha.df, ha.sz, fun k v hk => by
    simp only [lk] at hk
    by_cases hkd : d = k
    · subst hkd
      rw [show Nat.beq d d = true from by simp] at hk
      simp only [cond_true, Option.some.injEq] at hk
      rw [← hk, ← e]; exact ha.get d _ hl
    · rw [show Nat.beq d k = false from beq_no hkd] at hk
      exact ha.get k v hk⟩
  by_cases hp : p
  · exact ht hp a (key true (decide_eq_true hp))
  · exact hf hp a (key false (decide_eq_false hp))
end
end Go.Proofs.Ytehlnkhbbnddmaa
