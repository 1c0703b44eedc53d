/- Frames known in part, and one step for each operation: plain lemmas over any program. -/
import Derived.WalkKit
import Derived.WalkLawsBesides
import Derived.Maps.AppendAt
import Derived.Orders
import Derived.Deep.LoopGhost
namespace Go.Proofs.Ytehlnkhbbnddmaa
open Go.RowKit

theorem beq_no {a b : Nat} (h : ¬ a = b) : Nat.beq a b = false := by
  rw [Bool.eq_false_iff]; exact fun e => h (Nat.eq_of_beq_eq_true e)

abbrev Slots := List (Nat × Value)

def lk : Slots → Nat → Option Value
  | [], _ => none
  | p :: S, j => bif Nat.beq p.1 j then some p.2 else lk S j

/-- What is known of a frame: no defers, its size, some slots. -/
structure Fr (n : Nat) (S : Slots) (a : Act) : Prop where
  df : a.defers = []
  sz : a.tmps.size = n
  get : ∀ k v, lk S k = some v → a.tmps[k]? = some v

def ev (S : Slots) : Operand → Option Value
  | .tmp t => lk S t
  | .const v => some v
  | .global g => some (.pointer (some ⟨g, 0, none⟩))
  | .func f => some (.func (.func f) #[] #[])

theorem Fr.eval {n : Nat} {S : Slots} {a : Act} {x : Operand} {v : Value} (h : Fr n S a) (hx : ev S x = some v) : a.eval x = v := by
  cases x with
  | tmp t => have := h.get t v hx; simp [Act.eval, Array.getD_eq_getD_getElem?, this]
  | const u => simpa [ev, Act.eval] using hx
  | global g => simpa [ev, Act.eval] using hx
  | func f => simpa [ev, Act.eval] using hx

def evs (S : Slots) : List Operand → Option (List Value)
  | [] => some []
  | x :: l => match ev S x with
    | some v => match evs S l with
      | some r => some (v :: r)
      | none => none
    | none => none

theorem Fr.evals {n : Nat} {S : Slots} {a : Act} (h : Fr n S a) : ∀ {l : List Operand} {vs : List Value}, evs S l = some vs → l.map a.eval = vs
  | [], _, e => by simpa [evs] using e
  | x :: l, vs, e => by
    unfold evs at e
    cases hx : ev S x with
    | none => rw [hx] at e; simp at e
    | some v =>
      rw [hx] at e
      cases hl : evs S l with
      | none => rw [hl] at e; simp at e
      | some r =>
        rw [hl] at e
        simp only [Option.some.injEq] at e
        subst e
        rw [List.map_cons, h.eval hx, h.evals hl]

theorem Fr.put {n : Nat} {S : Slots} {a : Act} {d : Nat} {v : Value} (h : Fr n S a) (hd : Nat.blt d n = true) : Fr n ((d, v) :: S) (a.put (some d) v) := by
  have hdn : d < n := by simpa [Nat.blt_eq] using hd
  refine ⟨h.df, by simpa [Act.put] using h.sz, fun k u hk => ?_⟩
  simp only [lk] at hk
  simp only [Act.put, Array.getElem?_setIfInBounds]
  by_cases hkd : d = k
  · subst hkd
    rw [show Nat.beq d d = true from by simp] at hk
    simp only [cond_true, Option.some.injEq] at hk
    subst hk
    rw [if_pos rfl, if_pos (by have := h.sz; omega)]
  · rw [show Nat.beq d k = false from beq_no hkd] at hk
    rw [if_neg hkd]
    exact h.get k u hk

theorem Fr.none_ {n : Nat} {S : Slots} {a : Act} {v : Value} (h : Fr n S a) : Fr n S (a.put none v) := h

/-- Fewer slots: each that is kept holds what it held. -/
def Sub : Slots → Slots → Prop
  | [], _ => True
  | p :: S', S => lk S p.1 = some p.2 ∧ Sub S' S

theorem Sub.lk_ : ∀ {S' S : Slots}, Sub S' S → ∀ k v, lk S' k = some v → lk S k = some v
  | [], _, _, _, _, h => by simp [lk] at h
  | p :: S', S, ⟨h1, h2⟩, k, v, h => by
    simp only [lk] at h
    by_cases hk : p.1 = k
    · rw [show Nat.beq p.1 k = true from by simpa using hk] at h
      simp only [cond_true, Option.some.injEq] at h
      rw [← hk, h1, h]
    · rw [show Nat.beq p.1 k = false from beq_no hk] at h
      exact h2.lk_ k v h

theorem Fr.sub {n : Nat} {S S' : Slots} {a : Act} (h : Fr n S a) (hs : Sub S' S) : Fr n S' a := ⟨h.df, h.sz, fun k v hk => h.get k v (hs.lk_ k v hk)⟩

/-- Is a guarded operation wanted, as far as the slots tell. -/
def wantS (ops : Array Oper) (S : Slots) (o : Oper) : Option Bool :=
  match o.guard with
  | none => some true
  | some (j, b) =>
    match (ops[j]?).bind (·.dst) with
    | some d =>
      match lk S d with
      | some (.bool c) => some (c == b)
      | some (.tuple _) => some false
      | _ => none
    | none => none

theorem Fr.wanted {n : Nat} {S : Slots} {a : Act} {ops : Array Oper} {o : Oper} {c : Bool} (h : Fr n S a) (hw : wantS ops S o = some c) : Region.wanted o (yielded ops a.tmps) = c := by
  unfold wantS at hw
  unfold Region.wanted
  cases hg : o.guard with
  | none => rw [hg] at hw; simpa using hw
  | some g =>
    obtain ⟨j, b⟩ := g
    rw [hg] at hw
    simp only at hw ⊢
    unfold yielded
    cases hd : (ops[j]?).bind (·.dst) with
    | none => rw [hd] at hw; simp at hw
    | some d =>
      rw [hd] at hw
      simp only at hw
      simp only [Option.bind_some]
      cases hl : lk S d with
      | none => rw [hl] at hw; simp at hw
      | some v =>
        rw [hl] at hw
        rw [h.get d v hl]
        cases v <;> simp at hw ⊢ <;> try exact hw
        all_goals (rw [← hw])

/-- One operation run in a frame of which S is known: its value, the world as it was. -/
def Ev (P : Program) (n : Nat) (o : Oper) (S : Slots) (w : World) (v : Value) : Prop := ∀ a, Fr n S a → (execOp a.eval o).run P w = .ok (.value v) w

def RG (P : Program) (ops : Array Oper) (Q : Exit → Act → World → Prop) (n : Nat) (l : List Oper) (S : Slots) (w : World) : Prop := ∀ a, Fr n S a → wpList P ops Q l a w
def CW (P : Program) (c : Code) (Q : Exit → Act → World → Prop) (n : Nat) (S : Slots) (w : World) : Prop := ∀ a, Fr n S a → Code.wp P c Q a w
def QW (Q : Exit → Act → World → Prop) (e : Exit) (n : Nat) (S : Slots) (w : World) : Prop := ∀ a, Fr n S a → Q e a w

section
variable {P : Program} {ops : Array Oper} {Q : Exit → Act → World → Prop} {n : Nat} {l : List Oper} {S : Slots} {w w' : World} {o : Oper} {d : Nat} {v : Value}

/-- One operation, of whatever kind, by what its run comes to. -/
theorem RG.run (hw : wantS ops S o = some true) (hd : o.dst = some d) (hdn : Nat.blt d n = true)
    (hr : ∀ a, Fr n S a → (execOp a.eval o).run P w = .ok (.value v) w') (k : RG P ops Q n l ((d, v) :: S) w') : RG P ops Q n (o :: l) S w := by
  intro a ha
  unfold wpList
  rw [if_pos (ha.wanted hw)]
  refine .inl ?_
  unfold Oper.wp
  rw [hr a ha]
  simp only [Oper.upon, hd]
  exact k _ (ha.put hdn)

theorem RG.run0 (hw : wantS ops S o = some true) (hd : o.dst = none)
    (hr : ∀ a, Fr n S a → (execOp a.eval o).run P w = .ok .skip w') (k : RG P ops Q n l S w') : RG P ops Q n (o :: l) S w := by
  intro a ha
  unfold wpList
  rw [if_pos (ha.wanted hw)]
  refine .inl ?_
  unfold Oper.wp
  rw [hr a ha]
  simp only [Oper.upon, hd]
  exact k _ ha

theorem RG.vl (hw : wantS ops S o = some true) (hd : o.dst = some d) (hdn : Nat.blt d n = true) (he : Ev P n o S w v) (k : RG P ops Q n l ((d, v) :: S) w) : RG P ops Q n (o :: l) S w :=
  RG.run hw hd hdn he k

/-- A guarded operation that is not wanted. -/
theorem RG.pass (hw : wantS ops S o = some false) (hd : o.dst = some d) (hdn : Nat.blt d n = true) (k : RG P ops Q n l ((d, undef) :: S) w) : RG P ops Q n (o :: l) S w := by
  intro a ha
  unfold wpList
  rw [if_neg (by rw [ha.wanted hw]; simp), hd]
  exact k _ (ha.put hdn)
theorem RG.pass0 (hw : wantS ops S o = some false) (hd : o.dst = none) (k : RG P ops Q n l S w) : RG P ops Q n (o :: l) S w := by
  intro a ha
  unfold wpList
  rw [if_neg (by rw [ha.wanted hw]; simp), hd]
  exact k _ ha

theorem RG.done (k : QW Q .normal n S w) : RG P ops Q n [] S w := fun a ha => wpList_nil (k a ha)
theorem RG.sub {S' : Slots} (hs : Sub S' S) (k : RG P ops Q n l S' w) : RG P ops Q n l S w := fun a ha => k a (ha.sub hs)
theorem CW.sub {c : Code} {S' : Slots} (hs : Sub S' S) (k : CW P c Q n S' w) : CW P c Q n S w := fun a ha => k a (ha.sub hs)
theorem QW.sub {e : Exit} {S' : Slots} (hs : Sub S' S) (k : QW Q e n S' w) : QW Q e n S w := fun a ha => k a (ha.sub hs)

/-- A region in the text's order. -/
theorem CW.region {id : Nat} {l : List Oper} (k : RG P l.toArray Q n l S w) : CW P (.region id l.toArray false) Q n S w := fun a ha => wp_region_lit (k a ha)
theorem CW.seq {x y : Code} (k : CW P x (Exit.then (fun a w => y.wp P Q a w) Q) n S w) : CW P (.seq x y) Q n S w := fun a ha => wp_seq (k a ha)
theorem QW.then_ {c : Code} (k : CW P c Q n S w) : QW (Exit.then (fun a w => c.wp P Q a w) Q) .normal n S w := k
theorem QW.thenX {K : Act → World → Prop} {e : Exit} (he : e ≠ .normal) (k : QW Q e n S w) : QW (Exit.then K Q) e n S w := fun a ha => by
  have := k a ha
  cases e <;> first | exact this | exact absurd rfl he
theorem QW.thenExit {K : Act → World → Prop} {id : Nat} (k : QW Q (.exit id) n S w) : QW (Exit.then K Q) (.exit id) n S w := k
theorem QW.thenRet {K : Act → World → Prop} (k : QW Q .ret n S w) : QW (Exit.then K Q) .ret n S w := k
theorem RG.split {d : Nat} {p : Prop} [Decidable p] (hl : lk S d = some (.bool (decide p))) (ht : p → RG P ops Q n l ((d, .bool true) :: S) w) (hf : ¬ p → RG P ops Q n l ((d, .bool false) :: S) w) : RG P ops Q n l S w := by
  intro a ha
  have key : ∀ b, decide p = b → Fr n ((d, .bool b) :: S) a := fun b e => ⟨ha.df, ha.sz, fun k v hk => by
    simp only [lk] at hk
    by_cases hkd : d = k
    · subst hkd
      rw [show Nat.beq d d = true from by simp] at hk
      simp only [cond_true, Option.some.injEq] at hk
      rw [← hk, ← e]; exact ha.get d _ hl
    · rw [show Nat.beq d k = false from beq_no hkd] at hk
      exact ha.get k v hk⟩
  by_cases hp : p
  · exact ht hp a (key true (decide_eq_true hp))
  · exact hf hp a (key false (decide_eq_false hp))
theorem RG.splitB {d : Nat} {b : Bool} (hl : lk S d = some (.bool b)) (ht : b = true → RG P ops Q n l ((d, .bool true) :: S) w) (hf : b = false → RG P ops Q n l ((d, .bool false) :: S) w) : RG P ops Q n l S w := by
  cases b with
  | true => exact RG.split (p := True) (by simpa using hl) (fun _ => ht rfl) (fun h => absurd trivial h)
  | false => exact RG.split (p := False) (by simpa using hl) (fun h => h.elim) (fun _ => hf rfl)
theorem CW.skip (k : QW Q .normal n S w) : CW P .skip Q n S w := fun a ha => wp_skip (k a ha)
theorem CW.ret (k : QW Q .ret n S w) : CW P .ret Q n S w := fun a ha => wp_ret (k a ha)
theorem CW.exit {id : Nat} (k : QW Q (.exit id) n S w) : CW P (.exit id) Q n S w := fun a ha => wp_exit (k a ha)
theorem CW.block {id : Nat} {c : Code} (k : CW P c (Exit.inBlock id Q) n S w) : CW P (.block id c) Q n S w := fun a ha => wp_block (k a ha)
theorem QW.blockHit {id : Nat} (k : QW Q .normal n S w) : QW (Exit.inBlock id Q) (.exit id) n S w := fun a ha => by
  show (if id = id then Q .normal a w else Q (.exit id) a w)
  rw [if_pos rfl]
  exact k a ha
theorem QW.blockMiss {id id' : Nat} (hne : Nat.beq id' id = false) (k : QW Q (.exit id') n S w) : QW (Exit.inBlock id Q) (.exit id') n S w := fun a ha => by
  have : id' ≠ id := Nat.ne_of_beq_eq_false hne
  show (if id' = id then Q .normal a w else Q (.exit id') a w)
  rw [if_neg this]
  exact k a ha
theorem QW.blockN {id : Nat} (k : QW Q .normal n S w) : QW (Exit.inBlock id Q) .normal n S w := k
theorem QW.blockR {id : Nat} (k : QW Q .ret n S w) : QW (Exit.inBlock id Q) .ret n S w := k

theorem CW.cond {c : Operand} {x y : Code} {t : Bool} (hc : ev S c = some (.bool t)) (ht : t = true → CW P x Q n S w) (hf : t = false → CW P y Q n S w) : CW P (.cond c x y) Q n S w :=
  fun a ha => wp_cond_split (ha.eval hc) (fun h => ht h a ha) (fun h => hf h a ha)
theorem CW.condT {c : Operand} {x y : Code} (hc : ev S c = some (.bool true)) (k : CW P x Q n S w) : CW P (.cond c x y) Q n S w :=
  fun a ha => wp_cond_true (ha.eval hc) (k a ha)
theorem CW.condF {c : Operand} {x y : Code} (hc : ev S c = some (.bool false)) (k : CW P y Q n S w) : CW P (.cond c x y) Q n S w :=
  fun a ha => wp_cond_false (ha.eval hc) (k a ha)
/-- A test over a proposition: the two ways with what it says. -/
theorem CW.condP {c : Operand} {x y : Code} {p : Prop} [Decidable p] (hc : ev S c = some (.bool (decide p))) (ht : p → CW P x Q n S w) (hf : ¬ p → CW P y Q n S w) : CW P (.cond c x y) Q n S w :=
  CW.cond hc (fun h => ht (of_decide_eq_true h)) (fun h => hf (of_decide_eq_false h))

/-- A loop: a ghost state g tells the slots and what holds of the world; a measure on it goes down. -/
theorem CW.loop {γ : Type} {c : Code} (I : γ → Slots) (J : γ → World → Prop) (μ : γ → Nat) (g0 : γ) (hS : Sub (I g0) S) (h0 : J g0 w)
    (round : ∀ g w, J g w → CW P c (Exit.then (fun a' w' => ∃ g', Fr n (I g') a' ∧ J g' w' ∧ μ g' < μ g) Q) n (I g) w) : CW P (.loop c) Q n S w := by
  intro a ha
  refine wp_loop_ghost (fun m a' w' => ∃ g, μ g = m ∧ Fr n (I g) a' ∧ J g w') (μ g0) ⟨g0, rfl, ha.sub hS, h0⟩ ?_
  rintro m a' w' ⟨g, rfl, hf, hj⟩
  refine wp_mono (round g w' hj a' hf) ?_
  intro e a₁ w₁ hq
  cases e with
  | normal =>
    obtain ⟨g', h1, h2, h3⟩ := hq
    exact ⟨μ g', h3, g', rfl, h1, h2⟩
  | exit id => exact hq
  | goto l => exact hq
  | ret => exact hq
  | panic ch => exact hq
  | outgrown => exact hq

/-- Slots that the rounds do not touch stand in F. -/
theorem Sub.app {S : Slots} : ∀ {A F : Slots}, Sub A S → Sub F S → Sub (A ++ F) S
  | [], _, _, h => h
  | _ :: _, _, ⟨h1, h2⟩, h => ⟨h1, Sub.app h2 h⟩
theorem CW.loop1 {α : Type} {c : Code} (F : Slots) (hF : Sub F S) (I : α → Slots) (J : α → World → Prop) (μ : α → Nat) (x0 : α) (hS : Sub (I x0) S) (h0 : J x0 w)
    (round : ∀ x w, J x w → CW P c (Exit.then (fun a' w' => ∃ x', Fr n (I x' ++ F) a' ∧ J x' w' ∧ μ x' < μ x) Q) n (I x ++ F) w) : CW P (.loop c) Q n S w :=
  CW.loop (fun x => I x ++ F) J μ x0 (hS.app hF) h0 round
theorem CW.loop2 {α β : Type} {c : Code} (F : Slots) (hF : Sub F S) (I : α → β → Slots) (J : α → β → World → Prop) (μ : α → β → Nat) (x0 : α) (y0 : β) (hS : Sub (I x0 y0) S) (h0 : J x0 y0 w)
    (round : ∀ x y w, J x y w → CW P c (Exit.then (fun a' w' => ∃ x' y', Fr n (I x' y' ++ F) a' ∧ J x' y' w' ∧ μ x' y' < μ x y) Q) n (I x y ++ F) w) : CW P (.loop c) Q n S w :=
  CW.loop (γ := α × β) (fun g => I g.1 g.2 ++ F) (fun g => J g.1 g.2) (fun g => μ g.1 g.2) (x0, y0) (hS.app hF) h0 (fun g w hj a ha => wp_mono (round g.1 g.2 w hj a ha) (by
    intro e a w h
    cases e <;> first | exact h | (obtain ⟨x, y, h⟩ := h; exact ⟨(x, y), h⟩)))
theorem CW.loop3 {α β γ : Type} {c : Code} (F : Slots) (hF : Sub F S) (I : α → β → γ → Slots) (J : α → β → γ → World → Prop) (μ : α → β → γ → Nat) (x0 : α) (y0 : β) (z0 : γ) (hS : Sub (I x0 y0 z0) S) (h0 : J x0 y0 z0 w)
    (round : ∀ x y z w, J x y z w → CW P c (Exit.then (fun a' w' => ∃ x' y' z', Fr n (I x' y' z' ++ F) a' ∧ J x' y' z' w' ∧ μ x' y' z' < μ x y z) Q) n (I x y z ++ F) w) : CW P (.loop c) Q n S w :=
  CW.loop (γ := α × β × γ) (fun g => I g.1 g.2.1 g.2.2 ++ F) (fun g => J g.1 g.2.1 g.2.2) (fun g => μ g.1 g.2.1 g.2.2) (x0, y0, z0) (hS.app hF) h0 (fun g w hj a ha => wp_mono (round g.1 g.2.1 g.2.2 w hj a ha) (by
    intro e a w h
    cases e <;> first | exact h | (obtain ⟨x, y, z, h⟩ := h; exact ⟨(x, y, z), h⟩)))
theorem CW.loop4 {α β γ δ : Type} {c : Code} (F : Slots) (hF : Sub F S) (I : α → β → γ → δ → Slots) (J : α → β → γ → δ → World → Prop) (μ : α → β → γ → δ → Nat) (x0 : α) (y0 : β) (z0 : γ) (t0 : δ) (hS : Sub (I x0 y0 z0 t0) S) (h0 : J x0 y0 z0 t0 w)
    (round : ∀ x y z t w, J x y z t w → CW P c (Exit.then (fun a' w' => ∃ x' y' z' t', Fr n (I x' y' z' t' ++ F) a' ∧ J x' y' z' t' w' ∧ μ x' y' z' t' < μ x y z t) Q) n (I x y z t ++ F) w) : CW P (.loop c) Q n S w :=
  CW.loop (γ := α × β × γ × δ) (fun g => I g.1 g.2.1 g.2.2.1 g.2.2.2 ++ F) (fun g => J g.1 g.2.1 g.2.2.1 g.2.2.2) (fun g => μ g.1 g.2.1 g.2.2.1 g.2.2.2) (x0, y0, z0, t0) (hS.app hF) h0 (fun g w hj a ha => wp_mono (round g.1 g.2.1 g.2.2.1 g.2.2.2 w hj a ha) (by
    intro e a w h
    cases e <;> first | exact h | (obtain ⟨x, y, z, t, h⟩ := h; exact ⟨(x, y, z, t), h⟩)))
theorem QW.round1 {α : Type} {F : Slots} {I : α → Slots} {J : α → World → Prop} {m : Nat} {μ : α → Nat} (x' : α) (hS : Sub (I x') S) (hF : Sub F S) (hJ : J x' w) (hμ : μ x' < m) :
    QW (Exit.then (fun a' w' => ∃ x', Fr n (I x' ++ F) a' ∧ J x' w' ∧ μ x' < m) Q) .normal n S w := fun _ ha => ⟨x', ha.sub (hS.app hF), hJ, hμ⟩
theorem QW.round2 {α β : Type} {F : Slots} {I : α → β → Slots} {J : α → β → World → Prop} {m : Nat} {μ : α → β → Nat} (x' : α) (y' : β) (hS : Sub (I x' y') S) (hF : Sub F S) (hJ : J x' y' w) (hμ : μ x' y' < m) :
    QW (Exit.then (fun a' w' => ∃ x' y', Fr n (I x' y' ++ F) a' ∧ J x' y' w' ∧ μ x' y' < m) Q) .normal n S w := fun _ ha => ⟨x', y', ha.sub (hS.app hF), hJ, hμ⟩
theorem QW.round3 {α β γ : Type} {F : Slots} {I : α → β → γ → Slots} {J : α → β → γ → World → Prop} {m : Nat} {μ : α → β → γ → Nat} (x' : α) (y' : β) (z' : γ) (hS : Sub (I x' y' z') S) (hF : Sub F S) (hJ : J x' y' z' w) (hμ : μ x' y' z' < m) :
    QW (Exit.then (fun a' w' => ∃ x' y' z', Fr n (I x' y' z' ++ F) a' ∧ J x' y' z' w' ∧ μ x' y' z' < m) Q) .normal n S w := fun _ ha => ⟨x', y', z', ha.sub (hS.app hF), hJ, hμ⟩
theorem QW.round4 {α β γ δ : Type} {F : Slots} {I : α → β → γ → δ → Slots} {J : α → β → γ → δ → World → Prop} {m : Nat} {μ : α → β → γ → δ → Nat} (x' : α) (y' : β) (z' : γ) (t' : δ) (hS : Sub (I x' y' z' t') S) (hF : Sub F S) (hJ : J x' y' z' t' w) (hμ : μ x' y' z' t' < m) :
    QW (Exit.then (fun a' w' => ∃ x' y' z' t', Fr n (I x' y' z' t' ++ F) a' ∧ J x' y' z' t' w' ∧ μ x' y' z' t' < m) Q) .normal n S w := fun _ ha => ⟨x', y', z', t', ha.sub (hS.app hF), hJ, hμ⟩

/-- The end of a round. -/
theorem QW.round {γ : Type} {I : γ → Slots} {J : γ → World → Prop} {μ : γ → Nat} {g : γ} (g' : γ) (hS : Sub (I g') S) (hJ : J g' w) (hμ : μ g' < μ g) :
    QW (Exit.then (fun a' w' => ∃ g', Fr n (I g') a' ∧ J g' w' ∧ μ g' < μ g) Q) .normal n S w := fun _ ha => ⟨g', ha.sub hS, hJ, hμ⟩

/-- What stands behind a piece of code meets at a cut. -/
theorem CW.cut {γ : Type} {c : Code} (I : γ → Slots) (J : γ → World → Prop)
    (first : CW P c (Exit.then (fun a' w' => ∃ g, Fr n (I g) a' ∧ J g w') Q) n S w) (rest : ∀ g w', J g w' → QW Q .normal n (I g) w') : CW P c Q n S w := by
  intro a ha
  refine wp_mono (first a ha) ?_
  intro e a₁ w₁ hq
  cases e with
  | normal => obtain ⟨g, h1, h2⟩ := hq; exact rest g w₁ h2 a₁ h1
  | exit id => exact hq
  | goto l => exact hq
  | ret => exact hq
  | panic ch => exact hq
  | outgrown => exact hq
theorem QW.meet {γ : Type} {I : γ → Slots} {J : γ → World → Prop} (g : γ) (hS : Sub (I g) S) (hJ : J g w) :
    QW (Exit.then (fun a' w' => ∃ g, Fr n (I g) a' ∧ J g w') Q) .normal n S w := fun _ ha => ⟨g, ha.sub hS, hJ⟩
end

/-- A call that returns: its value and the world behind it. -/
def Ret (P : Program) (f : FuncId) (args : List Value) (w : World) (Φ : Value → World → Prop) : Prop :=
  Calls P f args.toArray w fun e w' => ∃ v, e = .returned v ∧ Φ v w'

theorem Ret.mono {P : Program} {f : FuncId} {args : List Value} {w : World} {Φ Ψ : Value → World → Prop} (h : Ret P f args w Φ) (hi : ∀ v w', Φ v w' → Ψ v w') : Ret P f args w Ψ :=
  Calls.mono h fun _ w' ⟨v, he, hp⟩ => ⟨v, he, hi v w' hp⟩

def frame0 : Nat → List Value → Slots
  | _, [] => []
  | i, v :: vs => (i, v) :: frame0 (i + 1) vs

theorem frame0_get : ∀ (vs : List Value) (i k : Nat) (v : Value), lk (frame0 i vs) k = some v → i ≤ k ∧ vs[k - i]? = some v
  | [], _, _, _, h => by simp [frame0, lk] at h
  | u :: vs, i, k, v, h => by
    simp only [frame0, lk] at h
    by_cases hk : i = k
    · subst hk
      rw [show Nat.beq i i = true from by simp] at h
      simp only [cond_true, Option.some.injEq] at h
      exact ⟨Nat.le_refl _, by simp [h]⟩
    · rw [show Nat.beq i k = false from beq_no hk] at h
      obtain ⟨h1, h2⟩ := frame0_get vs (i + 1) k v h
      refine ⟨by omega, ?_⟩
      rw [show k - i = (k - (i + 1)) + 1 from by omega]
      simpa using h2

/-- Entering a function. -/
theorem Ret.of {P : Program} {f : FuncId} {fn : Func} {c : Code} {args : List Value} {w : World} {Φ : Value → World → Prop} {m : Nat} (hf : P.funcs[f]? = some fn) (hb : fn.body = some c) (hm : fn.ntmps = m)
    (hl : Nat.ble args.length m = true) (k : CW P c (bodyPost P fn fun e w' => ∃ v, e = .returned v ∧ Φ v w') m (frame0 0 args) w) : Ret P f args w Φ := by
  refine calls_of_wp hf hb (k _ ⟨rfl, ?_, fun i v hi => ?_⟩)
  · have : args.length ≤ m := by simpa [Nat.ble_eq] using hl
    simp [hm]; omega
  · obtain ⟨_, h2⟩ := frame0_get args 0 i v hi
    have hlt : i < args.length := by
      rcases Nat.lt_or_ge i args.length with h | h
      · exact h
      · simp [List.getElem?_eq_none h] at h2
    rw [Array.getElem?_append_left (by simpa using hlt)]
    simpa using h2

/-- A return with one result in a slot. -/
theorem QW.ret1 {P : Program} {fn : Func} {Φ : Value → World → Prop} {n : Nat} {S : Slots} {w : World} {t : Nat} {v : Value} (hr : fn.results = #[.tmp t]) (hv : lk S t = some v) (h : Φ v w) :
    QW (bodyPost P fn fun e w' => ∃ v, e = .returned v ∧ Φ v w') .ret n S w := by
  intro a ha
  refine bodyPost_ret (results_tmp hr _ _ _) ha.df ⟨_, rfl, ?_⟩
  rw [show a.tmps.getD t undef = v from ha.eval (x := .tmp t) hv]
  exact h
theorem QW.ret2 {P : Program} {fn : Func} {Φ : Value → World → Prop} {n : Nat} {S : Slots} {w : World} {t u : Nat} {v x : Value} (hr : fn.results = #[.tmp t, .tmp u]) (hv : lk S t = some v) (hx : lk S u = some x) (h : Φ (.tuple #[v, x]) w) :
    QW (bodyPost P fn fun e w' => ∃ v, e = .returned v ∧ Φ v w') .ret n S w := by
  intro a ha
  refine bodyPost_ret (results_tmp2 hr _ _ _) ha.df ⟨_, rfl, ?_⟩
  rw [show a.tmps.getD t undef = v from ha.eval (x := .tmp t) hv, show a.tmps.getD u undef = x from ha.eval (x := .tmp u) hx]
  exact h
theorem QW.ret3 {P : Program} {fn : Func} {Φ : Value → World → Prop} {n : Nat} {S : Slots} {w : World} {t u s : Nat} {v x y : Value} (hr : fn.results = #[.tmp t, .tmp u, .tmp s]) (hv : lk S t = some v) (hx : lk S u = some x) (hy : lk S s = some y) (h : Φ (.tuple #[v, x, y]) w) :
    QW (bodyPost P fn fun e w' => ∃ v, e = .returned v ∧ Φ v w') .ret n S w := by
  intro a ha
  refine bodyPost_ret (results_tmp3 hr _ _ _) ha.df ⟨_, rfl, ?_⟩
  rw [show a.tmps.getD t undef = v from ha.eval (x := .tmp t) hv, show a.tmps.getD u undef = x from ha.eval (x := .tmp u) hx, show a.tmps.getD s undef = y from ha.eval (x := .tmp s) hy]
  exact h
/-- The end of a function without results, behind its last statement or by a bare return. -/
theorem QW.end0 {P : Program} {fn : Func} {Φ : Value → World → Prop} {n : Nat} {S : Slots} {w : World} (hr : fn.results = #[]) (h : Φ (.tuple #[]) w) :
    QW (bodyPost P fn fun e w' => ∃ v, e = .returned v ∧ Φ v w') .normal n S w := fun _ ha => bodyPost_end (results_none hr _ _ _) ha.df ⟨_, rfl, h⟩
theorem QW.ret0 {P : Program} {fn : Func} {Φ : Value → World → Prop} {n : Nat} {S : Slots} {w : World} (hr : fn.results = #[]) (h : Φ (.tuple #[]) w) :
    QW (bodyPost P fn fun e w' => ∃ v, e = .returned v ∧ Φ v w') .ret n S w := fun _ ha => bodyPost_ret (results_none hr _ _ _) ha.df ⟨_, rfl, h⟩
end Go.Proofs.Ytehlnkhbbnddmaa
