/- Texts put together by program: LA, LB, LC, LD, LE, LF, LG, T, UP, LH, LI, LK, LM, LV, LT, BQ, BA, BB, LW. -/
import Derived.WalkKit
import Derived.WalkLawsBesides
import Derived.Maps.AppendAt
import Derived.Orders
import Derived.Deep.LoopGhost
import Derived.Great.BuildSlice
import Derived.Deep.Draws
import Derived.OrdersHeld
import Derived.MapKept
import Derived.Maps.RangeRun
import Derived.Laws.OwnMore
import Derived.Laws.IdiomStrings
import Derived.Laws.BytesArg
import Derived.Lib.ConvBytes
import Derived.Lib.Bytealg
import Derived.Test.YtgjnchjkjdnidaaGreatProg
import Derived.KernelRfl
import Derived.Laws.IdiomCopy
import Derived.Laws.CopyRow
import Derived.Laws.Shifts
import Derived.OpenShut
import Derived.Lib.AppendStr
import Derived.Lib.JoinLaws
import Derived.Laws.RangeAny
import Derived.Scope
import Derived.Laws.Cover3
import Derived.Laws.Cover4
import Derived.RangeFuncNested
import Derived.RangeFuncBound
import Derived.RangeFuncCalls
import Derived.RangeFuncLeaves
import Derived.OwnWalkIn
/- Frames known in part, and one step for each operation: plain lemmas over any program. -/
namespace Go.Proofs.YtgjnchjkjdnidaaGreat
open Go.RowKit

theorem beq_no {a b : Nat} (h : ¬ a = b) : Nat.beq a b = false := by
  rw [Bool.eq_false_iff]; exact fun e => h (Nat.eq_of_beq_eq_true e)

abbrev Slots := List (Nat × Value)

def lk : Slots → Nat → Option Value
  | [], _ => none
  | p :: S, j => bif Nat.beq p.1 j then some p.2 else lk S j

structure Fr (n : Nat) (S : Slots) (a : Act) : Prop where
  df : a.defers = []
  sz : a.tmps.size = n
  get : ∀ k v, lk S k = some v → a.tmps[k]? = some v

def ev (S : Slots) : Operand → Option Value
  | .tmp t => lk S t
  | .const v => some v
  | .global g => some (.pointer (some ⟨g, 0, none⟩))
  | .func f => some (.func (.func f) #[] #[])

theorem Fr.eval {n : Nat} {S : Slots} {a : Act} {x : Operand} {v : Value} (h : Fr n S a) (hx : ev S x = some v) : a.eval x = v := by
  cases x with
  | tmp t => have := h.get t v hx; simp [Act.eval, Array.getD_eq_getD_getElem?, this]
  | const u => simpa [ev, Act.eval] using hx
  | global g => simpa [ev, Act.eval] using hx
  | func f => simpa [ev, Act.eval] using hx

def evs (S : Slots) : List Operand → Option (List Value)
  | [] => some []
  | x :: l => match ev S x with
    | some v => match evs S l with
      | some r => some (v :: r)
      | none => none
    | none => none

theorem Fr.evals {n : Nat} {S : Slots} {a : Act} (h : Fr n S a) : ∀ {l : List Operand} {vs : List Value}, evs S l = some vs → l.map a.eval = vs
  | [], _, e => by simpa [evs] using e
  | x :: l, vs, e => by
    unfold evs at e
    cases hx : ev S x with
    | none => rw [hx] at e; simp at e
    | some v =>
      rw [hx] at e
      cases hl : evs S l with
      | none => rw [hl] at e; simp at e
      | some r =>
        rw [hl] at e
        simp only [Option.some.injEq] at e
        subst e
        rw [List.map_cons, h.eval hx, h.evals hl]

theorem Fr.put {n : Nat} {S : Slots} {a : Act} {d : Nat} {v : Value} (h : Fr n S a) (hd : Nat.blt d n = true) : Fr n ((d, v) :: S) (a.put (some d) v) := by
  have hdn : d < n := by simpa [Nat.blt_eq] using hd
  refine ⟨h.df, by simpa [Act.put] using h.sz, fun k u hk => ?_⟩
  simp only [lk] at hk
  simp only [Act.put, Array.getElem?_setIfInBounds]
  by_cases hkd : d = k
  · subst hkd
    rw [show Nat.beq d d = true from by simp] at hk
    simp only [cond_true, Option.some.injEq] at hk
    subst hk
    rw [if_pos rfl, if_pos (by have := h.sz; omega)]
  · rw [show Nat.beq d k = false from beq_no hkd] at hk
    rw [if_neg hkd]
    exact h.get k u hk

def Sub : Slots → Slots → Prop
  | [], _ => True
  | p :: S', S => lk S p.1 = some p.2 ∧ Sub S' S

theorem Sub.lk_ : ∀ {S' S : Slots}, Sub S' S → ∀ k v, lk S' k = some v → lk S k = some v
  | [], _, _, _, _, h => by simp [lk] at h
  | p :: S', S, ⟨h1, h2⟩, k, v, h => by
    simp only [lk] at h
    by_cases hk : p.1 = k
    · rw [show Nat.beq p.1 k = true from by simpa using hk] at h
      simp only [cond_true, Option.some.injEq] at h
      rw [← hk, h1, h]
    · rw [show Nat.beq p.1 k = false from beq_no hk] at h
      exact h2.lk_ k v h

theorem Fr.sub {n : Nat} {S S' : Slots} {a : Act} (h : Fr n S a) (hs : Sub S' S) : Fr n S' a := ⟨h.df, h.sz, fun k v hk => h.get k v (hs.lk_ k v hk)⟩

def wantS (ops : Array Oper) (S : Slots) (o : Oper) : Option Bool :=
  match o.guard with
  | none => some true
  | some (j, b) =>
    match (ops[j]?).bind (·.dst) with
    | some d =>
      match lk S d with
      | some (.bool c) => some (c == b)
      | some (.tuple _) => some false
      | _ => none
    | none => none

theorem Fr.wanted {n : Nat} {S : Slots} {a : Act} {ops : Array Oper} {o : Oper} {c : Bool} (h : Fr n S a) (hw : wantS ops S o = some c) : Region.wanted o (yielded ops a.tmps) = c := by
  unfold wantS at hw
  unfold Region.wanted
  cases hg : o.guard with
  | none => rw [hg] at hw; simpa using hw
  | some g =>
    obtain ⟨j, b⟩ := g
    rw [hg] at hw
    simp only at hw ⊢
    unfold yielded
    cases hd : (ops[j]?).bind (·.dst) with
    | none => rw [hd] at hw; simp at hw
    | some d =>
      rw [hd] at hw
      simp only at hw
      simp only [Option.bind_some]
      cases hl : lk S d with
      | none => rw [hl] at hw; simp at hw
      | some v =>
        rw [hl] at hw
        rw [h.get d v hl]
        cases v <;> simp at hw ⊢ <;> try exact hw
        all_goals (rw [← hw])

def Ev (P : Program) (n : Nat) (o : Oper) (S : Slots) (w : World) (v : Value) : Prop := ∀ a, Fr n S a → (execOp a.eval o).run P w = .ok (.value v) w

def RG (P : Program) (ops : Array Oper) (Q : Exit → Act → World → Prop) (n : Nat) (l : List Oper) (S : Slots) (w : World) : Prop := ∀ a, Fr n S a → wpList P ops Q l a w
def CW (P : Program) (c : Code) (Q : Exit → Act → World → Prop) (n : Nat) (S : Slots) (w : World) : Prop := ∀ a, Fr n S a → Code.wp P c Q a w
def QW (Q : Exit → Act → World → Prop) (e : Exit) (n : Nat) (S : Slots) (w : World) : Prop := ∀ a, Fr n S a → Q e a w

section
variable {P : Program} {ops : Array Oper} {Q : Exit → Act → World → Prop} {n : Nat} {l : List Oper} {S : Slots} {w w' : World} {o : Oper} {d : Nat} {v : Value}

theorem RG.run (hw : wantS ops S o = some true) (hd : o.dst = some d) (hdn : Nat.blt d n = true)
    (hr : ∀ a, Fr n S a → (execOp a.eval o).run P w = .ok (.value v) w') (k : RG P ops Q n l ((d, v) :: S) w') : RG P ops Q n (o :: l) S w := by
  intro a ha
  unfold wpList
  rw [if_pos (ha.wanted hw)]
  refine .inl ?_
  unfold Oper.wp
  rw [hr a ha]
  simp only [Oper.upon, hd]
  exact k _ (ha.put hdn)

theorem RG.run0 (hw : wantS ops S o = some true) (hd : o.dst = none)
    (hr : ∀ a, Fr n S a → (execOp a.eval o).run P w = .ok .skip w') (k : RG P ops Q n l S w') : RG P ops Q n (o :: l) S w := by
  intro a ha
  unfold wpList
  rw [if_pos (ha.wanted hw)]
  refine .inl ?_
  unfold Oper.wp
  rw [hr a ha]
  simp only [Oper.upon, hd]
  exact k _ ha

theorem RG.vl (hw : wantS ops S o = some true) (hd : o.dst = some d) (hdn : Nat.blt d n = true) (he : Ev P n o S w v) (k : RG P ops Q n l ((d, v) :: S) w) : RG P ops Q n (o :: l) S w :=
  RG.run hw hd hdn he k

theorem RG.pass (hw : wantS ops S o = some false) (hd : o.dst = some d) (hdn : Nat.blt d n = true) (k : RG P ops Q n l ((d, undef) :: S) w) : RG P ops Q n (o :: l) S w := by
  intro a ha
  unfold wpList
  rw [if_neg (by rw [ha.wanted hw]; simp), hd]
  exact k _ (ha.put hdn)
theorem RG.done (k : QW Q .normal n S w) : RG P ops Q n [] S w := fun a ha => wpList_nil (k a ha)
theorem CW.sub {c : Code} {S' : Slots} (hs : Sub S' S) (k : CW P c Q n S' w) : CW P c Q n S w := fun a ha => k a (ha.sub hs)
theorem QW.sub {e : Exit} {S' : Slots} (hs : Sub S' S) (k : QW Q e n S' w) : QW Q e n S w := fun a ha => k a (ha.sub hs)

theorem CW.region {id : Nat} {l : List Oper} (k : RG P l.toArray Q n l S w) : CW P (.region id l.toArray false) Q n S w := fun a ha => wp_region_lit (k a ha)
theorem CW.seq {x y : Code} (k : CW P x (Exit.then (fun a w => y.wp P Q a w) Q) n S w) : CW P (.seq x y) Q n S w := fun a ha => wp_seq (k a ha)
theorem QW.then_ {c : Code} (k : CW P c Q n S w) : QW (Exit.then (fun a w => c.wp P Q a w) Q) .normal n S w := k
theorem QW.thenExit {K : Act → World → Prop} {id : Nat} (k : QW Q (.exit id) n S w) : QW (Exit.then K Q) (.exit id) n S w := k
theorem QW.thenRet {K : Act → World → Prop} (k : QW Q .ret n S w) : QW (Exit.then K Q) .ret n S w := k
theorem RG.split {d : Nat} {p : Prop} [Decidable p] (hl : lk S d = some (.bool (decide p))) (ht : p → RG P ops Q n l ((d, .bool true) :: S) w) (hf : ¬ p → RG P ops Q n l ((d, .bool false) :: S) w) : RG P ops Q n l S w := by
  intro a ha
  have key : ∀ b, decide p = b → Fr n ((d, .bool b) :: S) a := fun b e => ⟨ha.df, ha.sz, fun k v hk => by
    simp only [lk] at hk
    by_cases hkd : d = k
    · subst hkd
      rw [show Nat.beq d d = true from by simp] at hk
      simp only [cond_true, Option.some.injEq] at hk
      rw [← hk, ← e]; exact ha.get d _ hl
    · rw [show Nat.beq d k = false from beq_no hkd] at hk
      exact ha.get k v hk⟩
  by_cases hp : p
  · exact ht hp a (key true (decide_eq_true hp))
  · exact hf hp a (key false (decide_eq_false hp))
theorem RG.splitB {d : Nat} {b : Bool} (hl : lk S d = some (.bool b)) (ht : b = true → RG P ops Q n l ((d, .bool true) :: S) w) (hf : b = false → RG P ops Q n l ((d, .bool false) :: S) w) : RG P ops Q n l S w := by
  cases b with
  | true => exact RG.split (p := True) (by simpa using hl) (fun _ => ht rfl) (fun h => absurd trivial h)
  | false => exact RG.split (p := False) (by simpa using hl) (fun h => h.elim) (fun _ => hf rfl)
theorem CW.skip (k : QW Q .normal n S w) : CW P .skip Q n S w := fun a ha => wp_skip (k a ha)
theorem CW.ret (k : QW Q .ret n S w) : CW P .ret Q n S w := fun a ha => wp_ret (k a ha)
theorem CW.exit {id : Nat} (k : QW Q (.exit id) n S w) : CW P (.exit id) Q n S w := fun a ha => wp_exit (k a ha)
theorem CW.block {id : Nat} {c : Code} (k : CW P c (Exit.inBlock id Q) n S w) : CW P (.block id c) Q n S w := fun a ha => wp_block (k a ha)
theorem QW.blockHit {id : Nat} (k : QW Q .normal n S w) : QW (Exit.inBlock id Q) (.exit id) n S w := fun a ha => by
  show (if id = id then Q .normal a w else Q (.exit id) a w)
  rw [if_pos rfl]
  exact k a ha
theorem QW.blockN {id : Nat} (k : QW Q .normal n S w) : QW (Exit.inBlock id Q) .normal n S w := k
theorem QW.blockR {id : Nat} (k : QW Q .ret n S w) : QW (Exit.inBlock id Q) .ret n S w := k

theorem CW.cond {c : Operand} {x y : Code} {t : Bool} (hc : ev S c = some (.bool t)) (ht : t = true → CW P x Q n S w) (hf : t = false → CW P y Q n S w) : CW P (.cond c x y) Q n S w :=
  fun a ha => wp_cond_split (ha.eval hc) (fun h => ht h a ha) (fun h => hf h a ha)
theorem CW.condT {c : Operand} {x y : Code} (hc : ev S c = some (.bool true)) (k : CW P x Q n S w) : CW P (.cond c x y) Q n S w :=
  fun a ha => wp_cond_true (ha.eval hc) (k a ha)
theorem CW.condF {c : Operand} {x y : Code} (hc : ev S c = some (.bool false)) (k : CW P y Q n S w) : CW P (.cond c x y) Q n S w :=
  fun a ha => wp_cond_false (ha.eval hc) (k a ha)
theorem CW.condP {c : Operand} {x y : Code} {p : Prop} [Decidable p] (hc : ev S c = some (.bool (decide p))) (ht : p → CW P x Q n S w) (hf : ¬ p → CW P y Q n S w) : CW P (.cond c x y) Q n S w :=
  CW.cond hc (fun h => ht (of_decide_eq_true h)) (fun h => hf (of_decide_eq_false h))

theorem CW.loop {γ : Type} {c : Code} (I : γ → Slots) (J : γ → World → Prop) (μ : γ → Nat) (g0 : γ) (hS : Sub (I g0) S) (h0 : J g0 w)
    (round : ∀ g w, J g w → CW P c (Exit.then (fun a' w' => ∃ g', Fr n (I g') a' ∧ J g' w' ∧ μ g' < μ g) Q) n (I g) w) : CW P (.loop c) Q n S w := by
  intro a ha
  refine wp_loop_ghost (fun m a' w' => ∃ g, μ g = m ∧ Fr n (I g) a' ∧ J g w') (μ g0) ⟨g0, rfl, ha.sub hS, h0⟩ ?_
  rintro m a' w' ⟨g, rfl, hf, hj⟩
  refine wp_mono (round g w' hj a' hf) ?_
  intro e a₁ w₁ hq
  cases e with
  | normal =>
    obtain ⟨g', h1, h2, h3⟩ := hq
    exact ⟨μ g', h3, g', rfl, h1, h2⟩
  | exit id => exact hq
  | goto l => exact hq
  | ret => exact hq
  | panic ch => exact hq
  | outgrown => exact hq

theorem Sub.app {S : Slots} : ∀ {A F : Slots}, Sub A S → Sub F S → Sub (A ++ F) S
  | [], _, _, h => h
  | _ :: _, _, ⟨h1, h2⟩, h => ⟨h1, Sub.app h2 h⟩
theorem CW.loop1 {α : Type} {c : Code} (F : Slots) (hF : Sub F S) (I : α → Slots) (J : α → World → Prop) (μ : α → Nat) (x0 : α) (hS : Sub (I x0) S) (h0 : J x0 w)
    (round : ∀ x w, J x w → CW P c (Exit.then (fun a' w' => ∃ x', Fr n (I x' ++ F) a' ∧ J x' w' ∧ μ x' < μ x) Q) n (I x ++ F) w) : CW P (.loop c) Q n S w :=
  CW.loop (fun x => I x ++ F) J μ x0 (hS.app hF) h0 round
theorem CW.loop2 {α β : Type} {c : Code} (F : Slots) (hF : Sub F S) (I : α → β → Slots) (J : α → β → World → Prop) (μ : α → β → Nat) (x0 : α) (y0 : β) (hS : Sub (I x0 y0) S) (h0 : J x0 y0 w)
    (round : ∀ x y w, J x y w → CW P c (Exit.then (fun a' w' => ∃ x' y', Fr n (I x' y' ++ F) a' ∧ J x' y' w' ∧ μ x' y' < μ x y) Q) n (I x y ++ F) w) : CW P (.loop c) Q n S w :=
  CW.loop (γ := α × β) (fun g => I g.1 g.2 ++ F) (fun g => J g.1 g.2) (fun g => μ g.1 g.2) (x0, y0) (hS.app hF) h0 (fun g w hj a ha => wp_mono (round g.1 g.2 w hj a ha) (by
    intro e a w h
    cases e <;> first | exact h | (obtain ⟨x, y, h⟩ := h; exact ⟨(x, y), h⟩)))
theorem CW.loop3 {α β γ : Type} {c : Code} (F : Slots) (hF : Sub F S) (I : α → β → γ → Slots) (J : α → β → γ → World → Prop) (μ : α → β → γ → Nat) (x0 : α) (y0 : β) (z0 : γ) (hS : Sub (I x0 y0 z0) S) (h0 : J x0 y0 z0 w)
    (round : ∀ x y z w, J x y z w → CW P c (Exit.then (fun a' w' => ∃ x' y' z', Fr n (I x' y' z' ++ F) a' ∧ J x' y' z' w' ∧ μ x' y' z' < μ x y z) Q) n (I x y z ++ F) w) : CW P (.loop c) Q n S w :=
  CW.loop (γ := α × β × γ) (fun g => I g.1 g.2.1 g.2.2 ++ F) (fun g => J g.1 g.2.1 g.2.2) (fun g => μ g.1 g.2.1 g.2.2) (x0, y0, z0) (hS.app hF) h0 (fun g w hj a ha => wp_mono (round g.1 g.2.1 g.2.2 w hj a ha) (by
    intro e a w h
    cases e <;> first | exact h | (obtain ⟨x, y, z, h⟩ := h; exact ⟨(x, y, z), h⟩)))
theorem CW.loop4 {α β γ δ : Type} {c : Code} (F : Slots) (hF : Sub F S) (I : α → β → γ → δ → Slots) (J : α → β → γ → δ → World → Prop) (μ : α → β → γ → δ → Nat) (x0 : α) (y0 : β) (z0 : γ) (t0 : δ) (hS : Sub (I x0 y0 z0 t0) S) (h0 : J x0 y0 z0 t0 w)
    (round : ∀ x y z t w, J x y z t w → CW P c (Exit.then (fun a' w' => ∃ x' y' z' t', Fr n (I x' y' z' t' ++ F) a' ∧ J x' y' z' t' w' ∧ μ x' y' z' t' < μ x y z t) Q) n (I x y z t ++ F) w) : CW P (.loop c) Q n S w :=
  CW.loop (γ := α × β × γ × δ) (fun g => I g.1 g.2.1 g.2.2.1 g.2.2.2 ++ F) (fun g => J g.1 g.2.1 g.2.2.1 g.2.2.2) (fun g => μ g.1 g.2.1 g.2.2.1 g.2.2.2) (x0, y0, z0, t0) (hS.app hF) h0 (fun g w hj a ha => wp_mono (round g.1 g.2.1 g.2.2.1 g.2.2.2 w hj a ha) (by
    intro e a w h
    cases e <;> first | exact h | (obtain ⟨x, y, z, t, h⟩ := h; exact ⟨(x, y, z, t), h⟩)))
theorem QW.round1 {α : Type} {F : Slots} {I : α → Slots} {J : α → World → Prop} {m : Nat} {μ : α → Nat} (x' : α) (hS : Sub (I x') S) (hF : Sub F S) (hJ : J x' w) (hμ : μ x' < m) :
    QW (Exit.then (fun a' w' => ∃ x', Fr n (I x' ++ F) a' ∧ J x' w' ∧ μ x' < m) Q) .normal n S w := fun _ ha => ⟨x', ha.sub (hS.app hF), hJ, hμ⟩
theorem QW.round2 {α β : Type} {F : Slots} {I : α → β → Slots} {J : α → β → World → Prop} {m : Nat} {μ : α → β → Nat} (x' : α) (y' : β) (hS : Sub (I x' y') S) (hF : Sub F S) (hJ : J x' y' w) (hμ : μ x' y' < m) :
    QW (Exit.then (fun a' w' => ∃ x' y', Fr n (I x' y' ++ F) a' ∧ J x' y' w' ∧ μ x' y' < m) Q) .normal n S w := fun _ ha => ⟨x', y', ha.sub (hS.app hF), hJ, hμ⟩
theorem QW.round3 {α β γ : Type} {F : Slots} {I : α → β → γ → Slots} {J : α → β → γ → World → Prop} {m : Nat} {μ : α → β → γ → Nat} (x' : α) (y' : β) (z' : γ) (hS : Sub (I x' y' z') S) (hF : Sub F S) (hJ : J x' y' z' w) (hμ : μ x' y' z' < m) :
    QW (Exit.then (fun a' w' => ∃ x' y' z', Fr n (I x' y' z' ++ F) a' ∧ J x' y' z' w' ∧ μ x' y' z' < m) Q) .normal n S w := fun _ ha => ⟨x', y', z', ha.sub (hS.app hF), hJ, hμ⟩
theorem QW.round4 {α β γ δ : Type} {F : Slots} {I : α → β → γ → δ → Slots} {J : α → β → γ → δ → World → Prop} {m : Nat} {μ : α → β → γ → δ → Nat} (x' : α) (y' : β) (z' : γ) (t' : δ) (hS : Sub (I x' y' z' t') S) (hF : Sub F S) (hJ : J x' y' z' t' w) (hμ : μ x' y' z' t' < m) :
    QW (Exit.then (fun a' w' => ∃ x' y' z' t', Fr n (I x' y' z' t' ++ F) a' ∧ J x' y' z' t' w' ∧ μ x' y' z' t' < m) Q) .normal n S w := fun _ ha => ⟨x', y', z', t', ha.sub (hS.app hF), hJ, hμ⟩

end

def Ret (P : Program) (f : FuncId) (args : List Value) (w : World) (Φ : Value → World → Prop) : Prop :=
  Calls P f args.toArray w fun e w' => ∃ v, e = .returned v ∧ Φ v w'

theorem Ret.mono {P : Program} {f : FuncId} {args : List Value} {w : World} {Φ Ψ : Value → World → Prop} (h : Ret P f args w Φ) (hi : ∀ v w', Φ v w' → Ψ v w') : Ret P f args w Ψ :=
  Calls.mono h fun _ w' ⟨v, he, hp⟩ => ⟨v, he, hi v w' hp⟩

def frame0 : Nat → List Value → Slots
  | _, [] => []
  | i, v :: vs => (i, v) :: frame0 (i + 1) vs

theorem frame0_get : ∀ (vs : List Value) (i k : Nat) (v : Value), lk (frame0 i vs) k = some v → i ≤ k ∧ vs[k - i]? = some v
  | [], _, _, _, h => by simp [frame0, lk] at h
  | u :: vs, i, k, v, h => by
    simp only [frame0, lk] at h
    by_cases hk : i = k
    · subst hk
      rw [show Nat.beq i i = true from by simp] at h
      simp only [cond_true, Option.some.injEq] at h
      exact ⟨Nat.le_refl _, by simp [h]⟩
    · rw [show Nat.beq i k = false from beq_no hk] at h
      obtain ⟨h1, h2⟩ := frame0_get vs (i + 1) k v h
      refine ⟨by omega, ?_⟩
      rw [show k - i = (k - (i + 1)) + 1 from by omega]
      simpa using h2

theorem Ret.of {P : Program} {f : FuncId} {fn : Func} {c : Code} {args : List Value} {w : World} {Φ : Value → World → Prop} {m : Nat} (hf : P.funcs[f]? = some fn) (hb : fn.body = some c) (hm : fn.ntmps = m)
    (hl : Nat.ble args.length m = true) (k : CW P c (bodyPost P fn fun e w' => ∃ v, e = .returned v ∧ Φ v w') m (frame0 0 args) w) : Ret P f args w Φ := by
  refine calls_of_wp hf hb (k _ ⟨rfl, ?_, fun i v hi => ?_⟩)
  · have : args.length ≤ m := by simpa [Nat.ble_eq] using hl
    simp [hm]; omega
  · obtain ⟨_, h2⟩ := frame0_get args 0 i v hi
    have hlt : i < args.length := by
      rcases Nat.lt_or_ge i args.length with h | h
      · exact h
      · simp [List.getElem?_eq_none h] at h2
    rw [Array.getElem?_append_left (by simpa using hlt)]
    simpa using h2

theorem QW.ret1 {P : Program} {fn : Func} {Φ : Value → World → Prop} {n : Nat} {S : Slots} {w : World} {t : Nat} {v : Value} (hr : fn.results = #[.tmp t]) (hv : lk S t = some v) (h : Φ v w) :
    QW (bodyPost P fn fun e w' => ∃ v, e = .returned v ∧ Φ v w') .ret n S w := by
  intro a ha
  refine bodyPost_ret (results_tmp hr _ _ _) ha.df ⟨_, rfl, ?_⟩
  rw [show a.tmps.getD t undef = v from ha.eval (x := .tmp t) hv]
  exact h
theorem QW.ret2 {P : Program} {fn : Func} {Φ : Value → World → Prop} {n : Nat} {S : Slots} {w : World} {t u : Nat} {v x : Value} (hr : fn.results = #[.tmp t, .tmp u]) (hv : lk S t = some v) (hx : lk S u = some x) (h : Φ (.tuple #[v, x]) w) :
    QW (bodyPost P fn fun e w' => ∃ v, e = .returned v ∧ Φ v w') .ret n S w := by
  intro a ha
  refine bodyPost_ret (results_tmp2 hr _ _ _) ha.df ⟨_, rfl, ?_⟩
  rw [show a.tmps.getD t undef = v from ha.eval (x := .tmp t) hv, show a.tmps.getD u undef = x from ha.eval (x := .tmp u) hx]
  exact h
theorem QW.ret3 {P : Program} {fn : Func} {Φ : Value → World → Prop} {n : Nat} {S : Slots} {w : World} {t u s : Nat} {v x y : Value} (hr : fn.results = #[.tmp t, .tmp u, .tmp s]) (hv : lk S t = some v) (hx : lk S u = some x) (hy : lk S s = some y) (h : Φ (.tuple #[v, x, y]) w) :
    QW (bodyPost P fn fun e w' => ∃ v, e = .returned v ∧ Φ v w') .ret n S w := by
  intro a ha
  refine bodyPost_ret (results_tmp3 hr _ _ _) ha.df ⟨_, rfl, ?_⟩
  rw [show a.tmps.getD t undef = v from ha.eval (x := .tmp t) hv, show a.tmps.getD u undef = x from ha.eval (x := .tmp u) hx, show a.tmps.getD s undef = y from ha.eval (x := .tmp s) hy]
  exact h
theorem QW.end0 {P : Program} {fn : Func} {Φ : Value → World → Prop} {n : Nat} {S : Slots} {w : World} (hr : fn.results = #[]) (h : Φ (.tuple #[]) w) :
    QW (bodyPost P fn fun e w' => ∃ v, e = .returned v ∧ Φ v w') .normal n S w := fun _ ha => bodyPost_end (results_none hr _ _ _) ha.df ⟨_, rfl, h⟩
theorem QW.ret0 {P : Program} {fn : Func} {Φ : Value → World → Prop} {n : Nat} {S : Slots} {w : World} (hr : fn.results = #[]) (h : Φ (.tuple #[]) w) :
    QW (bodyPost P fn fun e w' => ∃ v, e = .returned v ∧ Φ v w') .ret n S w := fun _ ha => bodyPost_ret (results_none hr _ _ _) ha.df ⟨_, rfl, h⟩
end Go.Proofs.YtgjnchjkjdnidaaGreat

/- What each operation that leaves the world alone comes to: plain lemmas over any program. -/
namespace Go.Proofs.YtgjnchjkjdnidaaGreat
open Go.RowKit

section
variable {P : Program} {n : Nat} {o : Oper} {S : Slots} {w : World}

theorem Ev.move {x : Operand} {v : Value} (ho : o.op = .move x) (hx : ev S x = some v) : Ev P n o S w v := fun a ha => by
  simp only [execOp, ho]; rw [ha.eval hx]; rfl
theorem Ev.assign {x : Operand} {v : Value} (ho : o.op = .assign x) (hx : ev S x = some v) : Ev P n o S w v := fun a ha => by
  simp only [execOp, ho]; rw [ha.eval hx]; rfl
theorem Ev.pickT {c x y : Operand} {v : Value} (ho : o.op = .pick c x y) (hc : ev S c = some (.bool true)) (hx : ev S x = some v) : Ev P n o S w v := fun a ha => by
  simp only [execOp, ho]; rw [ha.eval hc, ha.eval hx]; rfl
theorem Ev.pickF {c x y : Operand} {v : Value} (ho : o.op = .pick c x y) (hc : ev S c = some (.bool false)) (hx : ev S y = some v) : Ev P n o S w v := fun a ha => by
  simp only [execOp, ho]; rw [ha.eval hc, ha.eval hx]; rfl
theorem Ev.extract {x : Operand} {i : Nat} {vs : List Value} {v : Value} (ho : o.op = .extract x i) (hx : ev S x = some (.tuple vs.toArray)) (hv : vs[i]? = some v) : Ev P n o S w v := fun a ha => by
  simp only [execOp, ho]; rw [ha.eval hx]; simp [Instr.extract, hv]
theorem Ev.not {T : TypeId} {x : Operand} {b : Bool} (ho : o.op = .unOp .not T x) (hx : ev S x = some (.bool b)) : Ev P n o S w (.bool !b) := fun a ha => by
  simp only [execOp, ho]; rw [ha.eval hx]; rfl
theorem Ev.notP {T : TypeId} {x : Operand} {p : Prop} [Decidable p] (ho : o.op = .unOp .not T x) (hx : ev S x = some (.bool (decide p))) : Ev P n o S w (.bool (decide (¬ p))) := fun a ha => by
  rw [decide_not]; exact Ev.not ho hx a ha
theorem Ev.notT {T : TypeId} {x : Operand} (ho : o.op = .unOp .not T x) (hx : ev S x = some (.bool false)) : Ev P n o S w (.bool true) := Ev.not ho hx
theorem Ev.notF {T : TypeId} {x : Operand} (ho : o.op = .unOp .not T x) (hx : ev S x = some (.bool true)) : Ev P n o S w (.bool false) := Ev.not ho hx

theorem Ev.conv {u v : Value} (h : Ev P n o S w u) (e : u = v) : Ev P n o S w v := e ▸ h

/-! integers -/
theorem Ev.arith {op : BinOp} {T T' : TypeId} {x y : Operand} {k : IntKind} {p q r : Int} (ho : o.op = .binOp op T x y T') (hx : ev S x = some (.int k p)) (hy : ev S y = some (.int k q))
    (hr : (op = .add ∧ r = p + q) ∨ (op = .sub ∧ r = p - q) ∨ (op = .mul ∧ r = p * q)) : Ev P n o S w (.int k (k.wrap r)) := fun a ha => by
  simp only [execOp, ho]; rw [ha.eval hx, ha.eval hy]
  rcases hr with ⟨rfl, rfl⟩ | ⟨rfl, rfl⟩ | ⟨rfl, rfl⟩ <;> simp [eqGuard, binOp, Op.intArith]
theorem Ev.addI {T T' : TypeId} {x y : Operand} {p q : Int} (ho : o.op = .binOp .add T x y T') (hx : ev S x = some (.int .i64 p)) (hy : ev S y = some (.int .i64 q))
    (hr : -9223372036854775808 ≤ p + q ∧ p + q ≤ 9223372036854775807) : Ev P n o S w (.int .i64 (p + q)) :=
  (Ev.arith ho hx hy (.inl ⟨rfl, rfl⟩)).conv (by rw [IntWalk.i64_in _ hr])
theorem Ev.subI {T T' : TypeId} {x y : Operand} {p q : Int} (ho : o.op = .binOp .sub T x y T') (hx : ev S x = some (.int .i64 p)) (hy : ev S y = some (.int .i64 q))
    (hr : -9223372036854775808 ≤ p - q ∧ p - q ≤ 9223372036854775807) : Ev P n o S w (.int .i64 (p - q)) :=
  (Ev.arith ho hx hy (.inr (.inl ⟨rfl, rfl⟩))).conv (by rw [IntWalk.i64_in _ hr])
theorem Ev.mulI {T T' : TypeId} {x y : Operand} {p q : Int} (ho : o.op = .binOp .mul T x y T') (hx : ev S x = some (.int .i64 p)) (hy : ev S y = some (.int .i64 q))
    (hr : -9223372036854775808 ≤ p * q ∧ p * q ≤ 9223372036854775807) : Ev P n o S w (.int .i64 (p * q)) :=
  (Ev.arith ho hx hy (.inr (.inr ⟨rfl, rfl⟩))).conv (by rw [IntWalk.i64_in _ hr])
theorem Ev.add8 {T T' : TypeId} {x y : Operand} {p q : Int} (ho : o.op = .binOp .add T x y T') (hx : ev S x = some (.int .u8 p)) (hy : ev S y = some (.int .u8 q))
    (hr : 0 ≤ p + q ∧ p + q ≤ 255) : Ev P n o S w (.int .u8 (p + q)) :=
  (Ev.arith ho hx hy (.inl ⟨rfl, rfl⟩)).conv (by rw [IntWalk.u8_in _ hr])
theorem Ev.lss {T T' : TypeId} {x y : Operand} {k : IntKind} {p q : Int} (ho : o.op = .binOp .lss T x y T') (hx : ev S x = some (.int k p)) (hy : ev S y = some (.int k q)) : Ev P n o S w (.bool (decide (p < q))) := fun a ha => by
  simp only [execOp, ho]; rw [ha.eval hx, ha.eval hy]; simp [eqGuard, binOp, Op.intCmp]
theorem Ev.leq {T T' : TypeId} {x y : Operand} {k : IntKind} {p q : Int} (ho : o.op = .binOp .leq T x y T') (hx : ev S x = some (.int k p)) (hy : ev S y = some (.int k q)) : Ev P n o S w (.bool (decide (p ≤ q))) := fun a ha => by
  simp only [execOp, ho]; rw [ha.eval hx, ha.eval hy]; simp [eqGuard, binOp, Op.intCmp]
theorem Ev.gtr {T T' : TypeId} {x y : Operand} {k : IntKind} {p q : Int} (ho : o.op = .binOp .gtr T x y T') (hx : ev S x = some (.int k p)) (hy : ev S y = some (.int k q)) : Ev P n o S w (.bool (decide (q < p))) := fun a ha => by
  simp only [execOp, ho]; rw [ha.eval hx, ha.eval hy]; simp [eqGuard, binOp, Op.intCmp]
theorem Ev.geq {T T' : TypeId} {x y : Operand} {k : IntKind} {p q : Int} (ho : o.op = .binOp .geq T x y T') (hx : ev S x = some (.int k p)) (hy : ev S y = some (.int k q)) : Ev P n o S w (.bool (decide (q ≤ p))) := fun a ha => by
  simp only [execOp, ho]; rw [ha.eval hx, ha.eval hy]; simp [eqGuard, binOp, Op.intCmp]
theorem Ev.eqI {T T' : TypeId} {x y : Operand} {k : IntKind} {p q : Int} (ho : o.op = .binOp .eql T x y T') (hx : ev S x = some (.int k p)) (hy : ev S y = some (.int k q)) : Ev P n o S w (.bool (decide (p = q))) := fun a ha => by
  simp only [execOp, ho]; rw [ha.eval hx, ha.eval hy]; simp [eqGuard, binOp, Op.intCmp]; rfl
theorem Ev.neI {T T' : TypeId} {x y : Operand} {k : IntKind} {p q : Int} (ho : o.op = .binOp .neq T x y T') (hx : ev S x = some (.int k p)) (hy : ev S y = some (.int k q)) : Ev P n o S w (.bool (decide (p ≠ q))) := fun a ha => by
  simp only [execOp, ho]; rw [ha.eval hx, ha.eval hy]; simp [eqGuard, binOp, Op.intCmp]; rfl
theorem Ev.isT {p : Prop} [Decidable p] (h : Ev P n o S w (.bool (decide p))) (hp : p) : Ev P n o S w (.bool true) := h.conv (by rw [decide_eq_true hp])
theorem Ev.isF {p : Prop} [Decidable p] (h : Ev P n o S w (.bool (decide p))) (hp : ¬ p) : Ev P n o S w (.bool false) := h.conv (by rw [decide_eq_false hp])
theorem Ev.quoI {T T' : TypeId} {x y : Operand} {p q : Int} (ho : o.op = .binOp .quo T x y T') (hx : ev S x = some (.int .i64 p)) (hy : ev S y = some (.int .i64 q))
    (hr : 0 ≤ p ∧ p ≤ 9223372036854775807 ∧ 1 ≤ q) : Ev P n o S w (.int .i64 (p / q)) := fun a ha => by
  simp only [execOp, ho]; rw [ha.eval hx, ha.eval hy]
  simp [eqGuard, binOp, Op.intDiv, show ¬ q = 0 from by omega]
  rw [IntWalk.i64_quo _ _ hr]
theorem Ev.remI {T T' : TypeId} {x y : Operand} {p q : Int} (ho : o.op = .binOp .rem T x y T') (hx : ev S x = some (.int .i64 p)) (hy : ev S y = some (.int .i64 q))
    (hr : 0 ≤ p ∧ 1 ≤ q) : Ev P n o S w (.int .i64 (p % q)) := fun a ha => by
  simp only [execOp, ho]; rw [ha.eval hx, ha.eval hy]
  simp [eqGuard, binOp, Op.intDiv, show ¬ q = 0 from by omega]
  rw [IntWalk.rem_in _ _ hr.1]
theorem Ev.remT {T T' : TypeId} {x y : Operand} {p q : Int} (ho : o.op = .binOp .rem T x y T') (hx : ev S x = some (.int .i64 p)) (hy : ev S y = some (.int .i64 q))
    (hr : q ≠ 0) : Ev P n o S w (.int .i64 (p.tmod q)) := fun a ha => by
  simp only [execOp, ho]; rw [ha.eval hx, ha.eval hy]
  simp [eqGuard, binOp, Op.intDiv, hr]
theorem Ev.quo8 {T T' : TypeId} {x y : Operand} {p q : Int} (ho : o.op = .binOp .quo T x y T') (hx : ev S x = some (.int .u8 p)) (hy : ev S y = some (.int .u8 q))
    (hr : 0 ≤ p ∧ p ≤ 255 ∧ 1 ≤ q) : Ev P n o S w (.int .u8 (p / q)) := fun a ha => by
  simp only [execOp, ho]; rw [ha.eval hx, ha.eval hy]
  simp [eqGuard, binOp, Op.intDiv, show ¬ q = 0 from by omega]
  rw [IntWalk.u8_quo _ _ hr]
theorem Ev.rem8 {T T' : TypeId} {x y : Operand} {p q : Int} (ho : o.op = .binOp .rem T x y T') (hx : ev S x = some (.int .u8 p)) (hy : ev S y = some (.int .u8 q))
    (hr : 0 ≤ p ∧ 1 ≤ q) : Ev P n o S w (.int .u8 (p % q)) := fun a ha => by
  simp only [execOp, ho]; rw [ha.eval hx, ha.eval hy]
  simp [eqGuard, binOp, Op.intDiv, show ¬ q = 0 from by omega]
  rw [IntWalk.rem_in _ _ hr.1]
theorem u8_back (r : Nat) (h : r < 256) : IntKind.u8.wrap (r : Int) = r := IntWalk.u8_in _ (by omega)
theorem ofInt8 (p : Nat) (h : p < 256) : (BitVec.ofInt 8 (p : Int)).toNat = p := by
  rw [BitVec.ofInt_natCast, BitVec.toNat_ofNat]; exact Nat.mod_eq_of_lt (by omega)
theorem Ev.xor8 {T T' : TypeId} {x y : Operand} {p q : Nat} (ho : o.op = .binOp .xor T x y T') (hx : ev S x = some (.int .u8 p)) (hy : ev S y = some (.int .u8 q))
    (hp : p < 256) (hq : q < 256) : Ev P n o S w (.int .u8 ((p ^^^ q : Nat) : Int)) := fun a ha => by
  simp only [execOp, ho]; rw [ha.eval hx, ha.eval hy]
  simp only [eqGuard, binOp, Op.intBits]
  simp
  show IntKind.u8.wrap ((BitVec.ofInt 8 (p : Int) ^^^ BitVec.ofInt 8 (q : Int)).toNat : Int) = _
  rw [BitVec.toNat_xor, ofInt8 p hp, ofInt8 q hq, u8_back _ (Nat.xor_lt_two_pow (n := 8) (by omega) (by omega))]
theorem Ev.toInt {src dst : TypeId} {x : Operand} {k k' : IntKind} {p : Int} {sd : TypeDesc} (ho : o.op = .convert src dst x) (hx : ev S x = some (.int k p)) (hs : P.underlying src = some sd) (hd : P.underlying dst = some (.int k')) : Ev P n o S w (.int k' (k'.wrap p)) := fun a ha => by
  simp only [execOp, ho]; rw [ha.eval hx]
  simp [convert, run_underlying hs, run_underlying hd, Conv.intToInt]
theorem Ev.to64 {src dst : TypeId} {x : Operand} {k : IntKind} {p : Int} {sd : TypeDesc} (ho : o.op = .convert src dst x) (hx : ev S x = some (.int k p)) (hs : P.underlying src = some sd) (hd : P.underlying dst = some (.int .i64))
    (hr : -9223372036854775808 ≤ p ∧ p ≤ 9223372036854775807) : Ev P n o S w (.int .i64 p) := (Ev.toInt ho hx hs hd).conv (by rw [IntWalk.i64_in _ hr])
theorem Ev.to8 {src dst : TypeId} {x : Operand} {k : IntKind} {p : Int} {sd : TypeDesc} (ho : o.op = .convert src dst x) (hx : ev S x = some (.int k p)) (hs : P.underlying src = some sd) (hd : P.underlying dst = some (.int .u8))
    (hr : 0 ≤ p ∧ p ≤ 255) : Ev P n o S w (.int .u8 p) := (Ev.toInt ho hx hs hd).conv (by rw [IntWalk.u8_in _ hr])

/-! builtins that only look -/
theorem Ev.lenSlice {T e : TypeId} {x : Operand} {c : Call} {A : Option Addr} {m cap : Nat} (ho : o.op = .call c) (hc : c = { callee := .builtin .len, args := #[x], argTypes := #[T] }) (hx : ev S x = some (.slice A m cap)) (ht : P.underlying T = some (.slice e)) : Ev P n o S w (.int .i64 m) := fun a ha => by
  simp only [execOp, ho, hc]
  simp [resolve, invoke, builtin, Builtin.len_, run_underlying ht, ha.eval hx, goInt]
theorem Ev.lenStr {T : TypeId} {x : Operand} {c : Call} {s : ByteArray} (ho : o.op = .call c) (hc : c = { callee := .builtin .len, args := #[x], argTypes := #[T] }) (hx : ev S x = some (.string s)) (ht : P.underlying T = some .string) : Ev P n o S w (.int .i64 s.size) := fun a ha => by
  simp only [execOp, ho, hc]
  simp [resolve, invoke, builtin, Builtin.len_, run_underlying ht, ha.eval hx, goInt]
theorem Ev.max2 {T T' : TypeId} {x y : Operand} {c : Call} {k : IntKind} {p q : Int} (ho : o.op = .call c) (hc : c = { callee := .builtin .max, args := #[x, y], argTypes := #[T, T'] }) (hx : ev S x = some (.int k p)) (hy : ev S y = some (.int k q)) : Ev P n o S w (.int k (max p q)) := fun a ha => by
  simp only [execOp, ho, hc]
  simp [resolve, invoke, builtin, Builtin.max_, Builtin.max2, ha.eval hx, ha.eval hy]
  split <;> omega
/-! strings -/
theorem Ev.eqS {T T' : TypeId} {x y : Operand} {s t : ByteArray} (ho : o.op = .binOp .eql T x y T') (hx : ev S x = some (.string s)) (hy : ev S y = some (.string t)) : Ev P n o S w (.bool (decide (s = t))) := fun a ha => by
  simp only [execOp, ho]; rw [ha.eval hx, ha.eval hy]
  simp only [eqGuard, binOp, Op.stringOp]
  simp
  have e : (s.toList == t.toList) = decide (s = t) := by
    rw [Bool.eq_iff_iff]; simp only [beq_iff_eq, decide_eq_true_eq, ByteArray.toList_eq]
    constructor
    · intro h; cases s; cases t; simp only [ByteArray.mk.injEq]; exact Array.toList_inj.1 h
    · rintro rfl; rfl
  exact e
theorem Ev.neS {T T' : TypeId} {x y : Operand} {s t : ByteArray} (ho : o.op = .binOp .neq T x y T') (hx : ev S x = some (.string s)) (hy : ev S y = some (.string t)) : Ev P n o S w (.bool (decide (s ≠ t))) := fun a ha => by
  simp only [execOp, ho]; rw [ha.eval hx, ha.eval hy]
  simp only [eqGuard, binOp, Op.stringOp]
  simp
  have e : (s.toList == t.toList) = decide (s = t) := by
    rw [Bool.eq_iff_iff]; simp only [beq_iff_eq, decide_eq_true_eq, ByteArray.toList_eq]
    constructor
    · intro h; cases s; cases t; simp only [ByteArray.mk.injEq]; exact Array.toList_inj.1 h
    · rintro rfl; rfl
  simp [e]
theorem Ev.cat {T T' : TypeId} {x y : Operand} {s t : ByteArray} (ho : o.op = .binOp .add T x y T') (hx : ev S x = some (.string s)) (hy : ev S y = some (.string t)) (hl : (s.size + t.size : Nat) ≤ 9223372036854775807) : Ev P n o S w (.string (s ++ t)) := fun a ha => by
  simp only [execOp, ho]; rw [ha.eval hx, ha.eval hy]
  simp only [eqGuard, binOp, Op.stringOp]
  simp
  show (s.size : Int) + (t.size : Int) ≤ 9223372036854775807
  omega
theorem Ev.byteAt {T : TypeId} {x y : Operand} {k : IntKind} {s : ByteArray} {i : Int} {b : UInt8} (ho : o.op = .index T x y) (hx : ev S x = some (.string s)) (hy : ev S y = some (.int k i)) (ht : P.underlying T = some .string) (h0 : 0 ≤ i) (hb : s.data.toList[i.toNat]? = some b) : Ev P n o S w (.int .u8 b.toNat) := fun a ha => by
  simp only [execOp, ho]; rw [ha.eval hx, ha.eval hy]
  have : s[i.toNat]? = some b := by
    rw [← hb]; simp; rfl
  simp [Instr.index, asIntOf, run_underlying ht, h0, this]
theorem Ev.cutStr {T : TypeId} {x : Operand} {lo hi : Option Operand} {s : ByteArray} {i j : Nat} (ho : o.op = .slice T x lo hi none) (hx : ev S x = some (.string s)) (ht : P.underlying T = some .string)
    (hlo : match lo with | none => i = 0 | some y => ev S y = some (.int .i64 i)) (hhi : match hi with | none => j = s.size | some y => ev S y = some (.int .i64 j)) (hij : i ≤ j) (hj : j ≤ s.size) : Ev P n o S w (.string (s.extract i j)) := fun a ha => by
  simp only [execOp, ho]; rw [ha.eval hx]
  cases lo <;> cases hi <;> simp only at hlo hhi
  · subst hlo hhi
    simp [Instr.sliceAt, Instr.slice, run_underlying ht, Instr.sliceBounds]
  · subst hlo
    simp [Instr.sliceAt, Instr.slice, run_underlying ht, Instr.sliceBounds, Instr.sliceBound, ha.eval hhi, asIntOf, hj]
  · subst hhi
    simp [Instr.sliceAt, Instr.slice, run_underlying ht, Instr.sliceBounds, Instr.sliceBound, ha.eval hlo, asIntOf, hij]
  · simp [Instr.sliceAt, Instr.slice, run_underlying ht, Instr.sliceBounds, Instr.sliceBound, ha.eval hlo, ha.eval hhi, asIntOf, hij, hj]
end
end Go.Proofs.YtgjnchjkjdnidaaGreat

/- Memory: blocks known whole, slices that read as lists, and the operations that make or write memory. -/
namespace Go.Proofs.YtgjnchjkjdnidaaGreat
open Go.RowKit

theorem block_of_add (a : Addr) (n : Nat) : (a.add n).block = a.block := by unfold Addr.add; split <;> rfl
theorem add_of_add (a : Addr) (i j : Nat) : (a.add i).add j = a.add (i + j) := by
  unfold Addr.add
  by_cases hi : i = 0 <;> by_cases hj : j = 0 <;> simp [hi, hj, Nat.add_assoc]
theorem add_zero_ (a : Addr) : a.add 0 = a := by simp [Addr.add]
theorem add_at (g i : Nat) : (⟨g, 0, none⟩ : Addr).add i = ⟨g, i, none⟩ := by
  unfold Addr.add; split <;> simp_all

abbrev Ex (w w' : World) : Prop := Below w.heap.size w w'
theorem Ex.rfl_ (w : World) : Ex w w := Below.refl _ _
theorem Ex.tr {a b c : World} (h : Ex a b) (k : Ex b c) : Ex a c := h.trans (k.mono h.size)
theorem Ex.of_drew (w : World) : Ex w w.drew := ⟨rfl, rfl, rfl, Nat.le_refl _, fun _ _ => rfl⟩
theorem Ex.of_alloc (w : World) (o : Obj) : Ex w (w.alloc o) := (Below.refl _ _).alloc (Nat.le_refl _) o
def Cells (w : World) (p : Addr) (us : List Value) : Prop := ∀ j u, us[j]? = some u → w.cell? (p.add j) = some u
theorem Cells.ext {w w' : World} {p : Addr} {us : List Value} (h : Cells w p us) (hx : Ex w w') (hp : p.block < w.heap.size) : Cells w' p us :=
  fun j u hu => (hx.cell (p := p.add j) (by rw [block_of_add]; exact hp)).trans (h j u hu)
def Blk (w : World) (g : Nat) (t : TypeId) (cs : List Value) : Prop := w.heap[g]? = some (.cells cs.toArray t (0, 0))
section
variable {w w' : World} {g : Nat} {t : TypeId} {cs : List Value}
theorem Blk.lt (h : Blk w g t cs) : g < w.heap.size := by
  rcases Nat.lt_or_ge g w.heap.size with hlt | hge
  · exact hlt
  · unfold Blk at h; rw [Array.getElem?_eq_none hge] at h; cases h
theorem Blk.cells (h : Blk w g t cs) : Cells w ⟨g, 0, none⟩ cs := fun j u hu => by
  rw [add_at, cell_of_row w g j cs.toArray t (0, 0) h]; simpa using hu
theorem Blk.cell (h : Blk w g t cs) (i : Nat) : w.cell? ⟨g, i, none⟩ = cs[i]? := by
  rw [cell_of_row w g i cs.toArray t (0, 0) h]; simp
theorem Blk.ext (h : Blk w g t cs) (hx : Ex w w') : Blk w' g t cs := (hx.block g h.lt).trans h
theorem Blk.grown {row : Option Nat} (h : Blk w g t cs) (hb : w.grownBy w' row) (hg : some g ≠ row) : Blk w' g t cs := (hb.block g h.lt hg).trans h
end

structure Wr (w w' : World) (g : Nat) : Prop where
  os : w'.os = w.os
  tape : w'.tape = w.tape
  output : w'.output = w.output
  size : w'.heap.size = w.heap.size
  block : ∀ k, k ≠ g → w'.heap[k]? = w.heap[k]?
section
variable {w w' : World} {g : Nat}
theorem Wr.below {B : Nat} {a : World} (h : Below B a w) (k : Wr w w' g) (hg : B ≤ g) : Below B a w' :=
  ⟨k.os.trans h.os, k.tape.trans h.tape, k.output.trans h.output, by rw [k.size]; exact h.size, fun i hi => (k.block i (by omega)).trans (h.block i hi)⟩
theorem Wr.grownBy (k : Wr w w' g) : w.grownBy w' (some g) := ⟨k.os, k.tape, k.output, by rw [k.size]; exact Nat.le_refl _, fun i _ hne => k.block i (fun e => hne (by rw [e]))⟩
theorem Blk.far {h : Nat} {t : TypeId} {cs : List Value} (hb : Blk w h t cs) (k : Wr w w' g) (hne : h ≠ g) : Blk w' h t cs := (k.block h hne).trans hb
end

def RdL {α : Type} (w : World) (sz : Nat) (enc : α → List Value) (v : Value) (l : List α) : Prop :=
  ∃ A c, v = .slice A l.length c ∧ l.length ≤ c ∧ c ≤ maxLen ∧ (0 < l.length → ∃ ad, A = some ad ∧ ad.block < w.heap.size ∧ ∀ i a, l[i]? = some a → Cells w (ad.add (i * sz)) (enc a))
section
variable {α : Type} {w w' : World} {sz : Nat} {enc : α → List Value} {v : Value} {l : List α}
theorem RdL.keep (h : RdL w sz enc v l) (hs : w.heap.size ≤ w'.heap.size) (hk : ∀ ad, v = .slice (some ad) l.length (match v with | .slice _ _ c => c | _ => 0) → 0 < l.length → ∀ us j, Cells w (ad.add j) us → Cells w' (ad.add j) us) : RdL w' sz enc v l := by
  obtain ⟨A, c, rfl, h1, h2, h3⟩ := h
  refine ⟨A, c, rfl, h1, h2, fun hl => ?_⟩
  obtain ⟨ad, rfl, hb, hc⟩ := h3 hl
  exact ⟨ad, rfl, by omega, fun i a hi => hk ad rfl hl _ _ (hc i a hi)⟩
theorem RdL.ext (h : RdL w sz enc v l) (hx : Ex w w') : RdL w' sz enc v l := by
  obtain ⟨A, c, rfl, h1, h2, h3⟩ := h
  refine ⟨A, c, rfl, h1, h2, fun hl => ?_⟩
  obtain ⟨ad, rfl, hb, hc⟩ := h3 hl
  exact ⟨ad, rfl, Nat.lt_of_lt_of_le hb hx.size, fun i a hi => (hc i a hi).ext hx (by rw [block_of_add]; exact hb)⟩
theorem RdL.nil_ (w : World) : RdL w sz enc (.slice none 0 0) [] := ⟨none, 0, rfl, Nat.le_refl _, by simp [maxLen], fun h => absurd h (by simp)⟩
theorem RdL.open_ (h : RdL w sz enc v l) (hl : 0 < l.length) : ∃ ad c, v = .slice (some ad) l.length c ∧ l.length ≤ c ∧ ad.block < w.heap.size ∧ ∀ i a, l[i]? = some a → Cells w (ad.add (i * sz)) (enc a) := by
  obtain ⟨A, c, rfl, h1, h2, h3⟩ := h
  obtain ⟨ad, rfl, hb, hc⟩ := h3 hl
  exact ⟨ad, c, rfl, h1, hb, hc⟩
theorem getElem?_flatMap_at (hsz : ∀ a, (enc a).length = sz) : ∀ (l : List α) (i : Nat) (a : α), l[i]? = some a → ∀ j u, (enc a)[j]? = some u → (l.flatMap enc)[i * sz + j]? = some u
  | [], i, a, h, _, _, _ => by simp at h
  | b :: l, 0, a, h, j, u, hu => by
    simp only [List.getElem?_cons_zero, Option.some.injEq] at h
    subst h
    have hj : j < (enc b).length := by
      rcases Nat.lt_or_ge j (enc b).length with h | h
      · exact h
      · simp [List.getElem?_eq_none h] at hu
    simp [List.flatMap_cons, List.getElem?_append_left hj, hu]
  | b :: l, i + 1, a, h, j, u, hu => by
    have ih := getElem?_flatMap_at hsz l i a (by simpa using h) j u hu
    rw [List.flatMap_cons, List.getElem?_append_right (by rw [hsz]; rw [Nat.add_mul]; omega)]
    rw [← ih, hsz]; congr 1; rw [Nat.add_mul]; omega
theorem length_flatMap_enc (hsz : ∀ a, (enc a).length = sz) : ∀ l : List α, (l.flatMap enc).length = l.length * sz
  | [] => by simp
  | a :: l => by rw [List.flatMap_cons, List.length_append, hsz, length_flatMap_enc hsz l, List.length_cons, Nat.add_mul]; omega
theorem RdL.of_own {B : Nat} {e : TypeId} (hsz : ∀ a, (enc a).length = sz) (h : w.ownsRow B e sz v l.length (l.flatMap enc)) : RdL w sz enc v l := by
  rcases h.2 with ⟨rfl, h0⟩ | ⟨g, cap, cur, rfl, _, hg, hn, hm, _, _⟩
  · have hl : l = [] := List.eq_nil_of_length_eq_zero h0
    subst hl; exact RdL.nil_ w
  · refine ⟨_, cap, rfl, hn, hm, fun _ => ⟨_, rfl, (Array.getElem?_eq_some_iff.1 hg).1, fun i a hi j u hu => ?_⟩⟩
    rw [add_of_add]
    exact h.cells (g := g) rfl _ u (getElem?_flatMap_at hsz l i a hi j u hu)
theorem RdL.of_blk {g : Nat} {t : TypeId} {cap : Nat} (hsz : ∀ a, (enc a).length = sz) (h : Blk w g t (l.flatMap enc)) (hc : l.length ≤ cap) (hm : cap ≤ maxLen) : RdL w sz enc (.slice (some ⟨g, 0, none⟩) l.length cap) l := by
  refine ⟨_, cap, rfl, hc, hm, fun _ => ⟨_, rfl, h.lt, fun i a hi j u hu => ?_⟩⟩
  rw [add_of_add]
  exact h.cells _ u (getElem?_flatMap_at hsz l i a hi j u hu)
end

def aggD : TypeDesc → Bool
  | .struct _ | .array _ _ => true
  | _ => false
def sizeP (P : Program) (T : TypeId) : Option Nat := (P.info? T).map (·.size)
def fldOff (P : Program) (T i : Nat) : Option Nat :=
  match P.underlying T with
  | some (.struct fs) => match fs[i]? with
    | some f => match sizeP P f.type with
      | some (_ + 1) => some f.offset
      | _ => none
    | none => none
  | _ => none

section
variable {P : Program} {ops : Array Oper} {Q : Exit → Act → World → Prop} {n : Nat} {l : List Oper} {o : Oper} {S : Slots} {w w' : World} {d : Nat}

theorem run_sizeOf {T k : Nat} (h : sizeP P T = some k) (w : World) : (sizeOf T).run P w = .ok k w := by
  unfold sizeP at h
  cases hi : P.info? T with
  | none => simp [hi] at h
  | some i => simp [hi] at h; subst h; simp [sizeOf, typeInfo, hi]

theorem Ev.fld {T i k : Nat} {x : Operand} {p : Addr} (ho : o.op = .fieldAddr T x i) (hx : ev S x = some (.pointer (some p))) (hf : fldOff P T i = some k) : Ev P n o S w (.pointer (some (p.add k))) := fun a ha => by
  simp only [execOp, ho]; rw [ha.eval hx]
  unfold fldOff at hf
  cases hu : P.underlying T with
  | none => simp [hu] at hf
  | some D =>
    cases D <;> simp [hu] at hf
    case struct fs =>
      cases hg : fs[i]? with
      | none => simp [hg] at hf
      | some f =>
        simp only [hg] at hf
        cases hs : sizeP P f.type with
        | none => simp [hs] at hf
        | some m =>
          cases m with
          | zero => simp [hs] at hf
          | succ m =>
            simp [hs] at hf
            subst hf
            simp [Instr.fieldAt, run_underlying hu, hg, Instr.sureAddr, fieldPlace, run_sizeOf hs]

theorem run_isAgg {T : Nat} {D : TypeDesc} (h : P.underlying T = some D) (w : World) : (isAgg T).run P w = .ok (aggD D) w := by
  cases D <;> simp [isAgg, run_underlying h, aggD]

theorem Ev.ld {T : Nat} {D : TypeDesc} {x : Operand} {p : Addr} {v : Value} (ho : o.op = .load T x) (hx : ev S x = some (.pointer (some p))) (ht : P.underlying T = some D) (hD : aggD D = false) (hc : w.cell? p = some v) : Ev P n o S w v := fun a ha => by
  simp only [execOp, ho]; rw [ha.eval hx]
  simp [Instr.loadAt, Instr.sureAddr, loadVar, run_isAgg ht, hD, hc]
theorem Ev.ldAt {T k : Nat} {D : TypeDesc} {x : Operand} {p : Addr} {us : List Value} {v : Value} (ho : o.op = .load T x) (hx : ev S x = some (.pointer (some (p.add k)))) (ht : P.underlying T = some D) (hD : aggD D = false) (hc : Cells w p us) (hu : us[k]? = some v) : Ev P n o S w v :=
  Ev.ld ho hx ht hD (hc k v hu)
theorem Ev.ld0 {T : Nat} {D : TypeDesc} {x : Operand} {p : Addr} {us : List Value} {v : Value} (ho : o.op = .load T x) (hx : ev S x = some (.pointer (some p))) (ht : P.underlying T = some D) (hD : aggD D = false) (hc : Cells w p us) (hu : us[0]? = some v) : Ev P n o S w v :=
  Ev.ld ho hx ht hD (by have := hc 0 v hu; rwa [add_zero_] at this)
theorem Ev.ldAgg {T k : Nat} {D : TypeDesc} {x : Operand} {p : Addr} {us : List Value} (ho : o.op = .load T x) (hx : ev S x = some (.pointer (some p))) (ht : P.underlying T = some D) (hD : aggD D = true) (hs : sizeP P T = some k) (hk : us.length = k) (hc : Cells w p us) : Ev P n o S w (.agg us.toArray) := fun a ha => by
  simp only [execOp, ho]; rw [ha.eval hx]
  have hl := run_loadCells_list (P := P) (w := w) p us hc
  rw [hk] at hl
  simp [Instr.loadAt, Instr.sureAddr, loadVar, run_isAgg ht, hD, run_sizeOf hs, hl]

theorem Ev.idx {T e sz m c : Nat} {x y : Operand} {k : IntKind} {ad : Addr} {i : Int} (ho : o.op = .indexAddr T x y) (hx : ev S x = some (.slice (some ad) m c)) (hy : ev S y = some (.int k i)) (ht : P.underlying T = some (.slice e)) (hs : sizeP P e = some sz) (h0 : 0 ≤ i) (h1 : i < m) : Ev P n o S w (.pointer (some (ad.add (i.toNat * sz)))) := fun a ha => by
  simp only [execOp, ho]; rw [ha.eval hx, ha.eval hy]
  simp [Instr.indexAt, asIntOf, run_underlying ht, run_sizeOf hs, h0, h1]
theorem Ev.idxN {T e sz m c : Nat} {x y : Operand} {k : IntKind} {ad : Addr} {i : Nat} (ho : o.op = .indexAddr T x y) (hx : ev S x = some (.slice (some ad) m c)) (hy : ev S y = some (.int k i)) (ht : P.underlying T = some (.slice e)) (hs : sizeP P e = some sz) (h1 : i < m) : Ev P n o S w (.pointer (some (ad.add (i * sz)))) :=
  Ev.idx (i := (i : Int)) ho hx hy ht hs (by omega) (by omega)
theorem Ev.idxA {T e sz m : Nat} {x y : Operand} {k : IntKind} {ad : Addr} {i : Nat} (ho : o.op = .indexAddr T x y) (hx : ev S x = some (.pointer (some ad))) (hy : ev S y = some (.int k i)) (ht : P.underlying T = some (.array m e)) (hs : sizeP P e = some sz) (h1 : i < m) : Ev P n o S w (.pointer (some (ad.add (i * sz)))) := fun a ha => by
  simp only [execOp, ho]; rw [ha.eval hx, ha.eval hy]
  simp [Instr.indexAt, Instr.sureAddr, asIntOf, run_underlying ht, run_sizeOf hs, h1]

theorem RG.idxL {α : Type} {T e sz : Nat} {enc : α → List Value} {v : Value} {xs : List α} {x y : Operand} {k : IntKind} {i : Nat} {u : α} (hw : wantS ops S o = some true) (hd : o.dst = some d) (hdn : Nat.blt d n = true)
    (ho : o.op = .indexAddr T x y) (hx : ev S x = some v) (hy : ev S y = some (.int k i)) (ht : P.underlying T = some (.slice e)) (hs : sizeP P e = some sz) (hr : RdL w sz enc v xs) (hi : xs[i]? = some u)
    (kk : ∀ p : Addr, p.block < w.heap.size → Cells w p (enc u) → RG P ops Q n l ((d, .pointer (some p)) :: S) w) : RG P ops Q n (o :: l) S w := by
  have hlt : i < xs.length := (List.getElem?_eq_some_iff.1 hi).1
  obtain ⟨ad, c, rfl, hc, hb, hcs⟩ := hr.open_ (by omega)
  exact RG.vl hw hd hdn (Ev.idxN ho hx hy ht hs hlt) (kk _ (by rw [block_of_add]; exact hb) (hcs i u hi))

theorem Ev.lenL {w1 : World} {α : Type} {T e sz : Nat} {enc : α → List Value} {v : Value} {xs : List α} {x : Operand} {c : Call} (ho : o.op = .call c) (hc : c = { callee := .builtin .len, args := #[x], argTypes := #[T] }) (hx : ev S x = some v) (ht : P.underlying T = some (.slice e)) (hr : RdL w1 sz enc v xs) : Ev P n o S w (.int .i64 xs.length) := by
  obtain ⟨A, c', rfl, _⟩ := hr
  exact Ev.lenSlice ho hc hx ht

theorem new_blk (w : World) (t : TypeId) (cs : Array Value) : Blk (w.alloc (.cells cs t)) w.heap.size t cs.toList := by
  unfold Blk; simpa using heap_alloc_new w (.cells cs t)

theorem RG.box {T : Nat} {x : Operand} {v : Value} (hw : wantS ops S o = some true) (hd : o.dst = some d) (hdn : Nat.blt d n = true) (ho : o.op = .box T x) (hx : ev S x = some v)
    (kk : ∀ g w', g = w.heap.size → Ex w w' → Blk w' g T v.cells.toList → RG P ops Q n l ((d, .pointer (some ⟨g, 0, none⟩)) :: S) w') : RG P ops Q n (o :: l) S w := by
  refine RG.run (w' := w.alloc (.cells v.cells T)) hw hd hdn (fun a ha => ?_) (kk w.heap.size _ rfl (Ex.of_alloc w _) (new_blk w T _))
  simp only [execOp, ho]; rw [ha.eval hx]
  simp [Instr.box, newVar, newRow]

theorem storeVar_blk {g T k : Nat} {cs us : List Value} (hg : w.heap[g]? = some (.cells cs.toArray T (0, 0))) (v : Value) (hv : v.cells.toList = us) (hs : sizeP P T = some k) (hl : us.length = k) (hcs : cs.length = k) (h1 : us.all (·.oneCell') = true) :
    (storeVar T ⟨g, 0, none⟩ v).run P w = .ok () (w.setRow g us.toArray) := by
  have hst := run_storeCells_at P g 0 T us 0 cs.toArray w hg (by simp; omega) (fun u hu => (List.all_eq_true.1 h1) u hu)
  have hsz : v.cells.size = k := by rw [← Array.length_toList, hv, hl]
  simp [storeVar, run_sizeOf hs, hsz, hv, hst, hl]
  rw [List.drop_eq_nil_of_le (by omega), List.append_nil]

theorem wr_setRow (w : World) (g : Nat) (cs : Array Value) : Wr w (w.setRow g cs) g := ⟨rfl, rfl, rfl, by simp [World.setRow], fun k hk => setRow_other w g k cs hk⟩
theorem blk_setRow {g : Nat} {t : TypeId} {cs us : List Value} (h : Blk w g t cs) : Blk (w.setRow g us.toArray) g t us := setRow_heap w g cs.toArray us.toArray t (0, 0) h

theorem RG.local_ {T k : Nat} {x : Operand} {v z : Value} {by_ : Nat} {o' : Oper} (hw : wantS ops S o = some true) (hd : o.dst = some d) (hdn : Nat.blt d n = true) (ho : o.op = .alloc T)
    (hw' : ∀ u, wantS ops ((d, u) :: S) o' = some true) (hd' : o'.dst = none) (ho' : o'.op = .store T (.tmp d) x) (hx : ∀ u, ev ((d, u) :: S) x = some v)
    (hi : (P.info? T).map (fun i => (i.zero, i.size, i.bytes)) = some (some z, k, by_)) (hz : z.cells.size = k) (hv : v.cells.size = k) (h1 : v.cells.toList.all (·.oneCell') = true)
    (kk : ∀ g w', g = w.heap.size → Ex w w' → Blk w' g T v.cells.toList → RG P ops Q n l ((d, .pointer (some ⟨g, 0, none⟩)) :: S) w') : RG P ops Q n (o :: o' :: l) S w := by
  obtain ⟨i, hii, hz0, hz1, hz2⟩ := info_parts hi
  have hs : sizeP P T = some k := by simp [sizeP, hii, hz1]
  refine RG.run (v := .pointer (some ⟨w.heap.size, 0, none⟩)) (w' := w.alloc (.cells z.cells T)) hw hd hdn (fun a ha => ?_) ?_
  · simp only [execOp, ho]
    simp [Instr.alloc, zeroValue, typeInfo, hii, hz0, newVar, newRow]
  · have hb := new_blk w T z.cells
    refine RG.run0 (w' := (w.alloc (.cells z.cells T)).setRow w.heap.size v.cells.toList.toArray) (hw' _) hd' (fun a ha => ?_) (kk w.heap.size _ rfl ?_ (blk_setRow hb))
    · simp only [execOp, ho']
      rw [ha.eval (hx _), ha.eval (x := .tmp d) (v := .pointer (some ⟨w.heap.size, 0, none⟩)) (by simp [ev, lk])]
      simp [Instr.storeAt, Instr.sureAddr, storeVar_blk hb v rfl hs (by simpa using hv) (by simpa using hz) h1]
    · exact (wr_setRow _ _ _).below (Ex.of_alloc w _) (Nat.le_refl _)

theorem RG.st {T g k : Nat} {t : TypeId} {x y : Operand} {v : Value} {cs : List Value} (hw : wantS ops S o = some true) (hd : o.dst = none) (ho : o.op = .store T x y) (hx : ev S x = some (.pointer (some ((⟨g, 0, none⟩ : Addr).add k)))) (hy : ev S y = some v)
    (hs : sizeP P T = some 1) (h1 : v.oneCell' = true) (hb : Blk w g t cs) (hk' : Nat.blt k cs.length = true)
    (kk : ∀ w', Wr w w' g → Blk w' g t (cs.set k v) → RG P ops Q n l S w') : RG P ops Q n (o :: l) S w := by
  have hvc : v.cells = #[v] := by cases v <;> first | rfl | simp [Value.oneCell'] at h1
  have hk : k < cs.length := by simpa [Nat.blt_eq] using hk'
  have hst := run_storeCells_at P g k t [v] 0 cs.toArray w hb (by simp; omega) (fun u hu => by simp at hu; subst hu; exact h1)
  refine RG.run0 (w' := w.setRow g (cs.set k v).toArray) hw hd (fun a ha => ?_) (kk _ (wr_setRow _ _ _) (blk_setRow hb))
  simp only [execOp, ho]; rw [ha.eval hx, ha.eval hy]
  rw [add_at]
  simp [Instr.storeAt, Instr.sureAddr, storeVar, run_sizeOf hs, hvc, hst]
  congr 2
  rw [List.set_eq_take_append_cons_drop, if_pos hk]

theorem cells_one {v : Value} (h : v.oneCell' = true) : v.cells = #[v] := by cases v <;> first | rfl | simp [Value.oneCell'] at h

theorem set_seg : ∀ (cs : List Value) (A : Array Value) (off : Nat), off + cs.length ≤ A.size → ∀ i, (((cs.zipIdx i).foldl (fun (B : Array Value) x => B.setIfInBounds (off + x.2 - i) x.1) A).toList = A.toList.take off ++ cs ++ A.toList.drop (off + cs.length))
  | [], A, off, _, i => by simp
  | c :: cs, A, off, h, i => by
    rw [List.zipIdx_cons, List.foldl_cons]
    have ih := set_seg cs (A.setIfInBounds (off + i - i) c) (off + 1) (by simp at h ⊢; omega) (i + 1)
    have e : (fun (B : Array Value) (x : Value × Nat) => B.setIfInBounds (off + 1 + x.2 - (i + 1)) x.1) = fun B x => B.setIfInBounds (off + x.2 - i) x.1 := by
      funext B x; congr 1; omega
    rw [e] at ih
    rw [ih]
    simp only [Array.toList_setIfInBounds, List.length_cons, Nat.add_sub_cancel]
    have hlt : off < A.toList.length := by simp at h ⊢; omega
    rw [List.take_set, List.drop_set, if_pos (by omega), List.set_eq_take_append_cons_drop, if_pos (by simp at hlt ⊢; omega)]
    simp [List.take_take, Nat.add_assoc, Nat.add_comm 1, List.append_assoc]
theorem fill_dense (sz : Nat) : ∀ (vs : List Value) (k : Nat) (A : Array Value), (∀ v ∈ vs, v.cells.size = sz) → (k + vs.length) * sz = A.size →
    Instr.fill (fun i => some (i * sz, sz)) A ((vs.zipIdx k).map fun x => (x.2, x.1)) = some (A.toList.take (k * sz) ++ vs.flatMap (fun v => v.cells.toList)).toArray
  | [], k, A, _, hA => by
    simp only [List.zipIdx_nil, List.map_nil, Instr.fill, List.flatMap_nil, List.append_nil]
    rw [List.take_of_length_le (by simp at hA ⊢; omega)]
  | v :: vs, k, A, hv, hA => by
    have hs := hv v (by simp)
    simp only [List.zipIdx_cons, List.map_cons, Instr.fill]
    have hfit : k * sz + sz ≤ A.size := by
      rw [← hA, List.length_cons]
      calc k * sz + sz = (k + 1) * sz := by rw [Nat.add_mul]; omega
        _ ≤ _ := Nat.mul_le_mul_right _ (by omega)
    rw [if_neg (by simp [hs]; omega)]
    have hz : (v.cells.zipIdx.foldl (fun cs (x : Value × Nat) => cs.setIfInBounds (k * sz + x.2) x.1) A) = (A.toList.take (k * sz) ++ v.cells.toList ++ A.toList.drop (k * sz + sz)).toArray := by
      apply Array.toList_inj.1
      rw [← Array.foldl_toList, Array.toList_zipIdx]
      have := set_seg v.cells.toList A (k * sz) (by simp [hs]; omega) 0
      simpa [hs] using this
    have ih := fill_dense sz vs (k + 1) (A.toList.take (k * sz) ++ v.cells.toList ++ A.toList.drop (k * sz + sz)).toArray (fun u hu => hv u (by simp [hu])) (by
      simp [hs] at hA ⊢
      rw [Nat.min_eq_left (by omega)]
      have : (k + 1 + vs.length) * sz = A.size := by rw [← hA]; congr 1; omega
      omega)
    have hz' : (v.cells.zipIdx.foldl (fun cs x => match x with | (c, j) => cs.setIfInBounds (k * sz + j) c) A) = (A.toList.take (k * sz) ++ v.cells.toList ++ A.toList.drop (k * sz + sz)).toArray := hz
    rw [hz', ih]
    congr 2
    have e : (k + 1) * sz = (A.toList.take (k * sz) ++ v.cells.toList).length := by simp [hs]; rw [Nat.min_eq_left (by omega), Nat.add_mul]; omega
    rw [e]
    simp [List.take_append, List.take_of_length_le, hs]
theorem RG.buildD {T e len sz by_ : Nat} {z : Value} {xs : List Operand} {vs : List Value} {parts : Array (Nat × Operand)} (hw : wantS ops S o = some true) (hd : o.dst = some d) (hdn : Nat.blt d n = true) (ho : o.op = .buildSlice T len parts)
    (hp : parts = (xs.zipIdx.map fun x => (x.2, x.1)).toArray) (hx : evs S xs = some vs) (hlen : vs.length = len) (ht : P.underlying T = some (.slice e)) (hi : (P.info? e).map (fun i => (i.zero, i.size, i.bytes)) = some (some z, sz, by_)) (hz : z.cells.size = sz)
    (hsm : Nat.ble (len * sz) 16777216 = true) (hpos : Nat.beq (len * sz) 0 = false) (hv : vs.all (fun v => Nat.beq v.cells.size sz) = true)
    (kk : ∀ g w', g = w.heap.size → Ex w w' → Blk w' g e (vs.flatMap fun v => v.cells.toList) → RG P ops Q n l ((d, .slice (some ⟨g, 0, none⟩) len len) :: S) w') : RG P ops Q n (o :: l) S w := by
  obtain ⟨i, hii, hz0, hz1, hz2⟩ := info_parts hi
  subst hz1
  have h1 : ¬ len * i.size > 2 ^ 24 := by have := Nat.le_of_ble_eq_true hsm; omega
  have h2 : ¬ len * i.size = 0 := Nat.ne_of_beq_eq_false hpos
  have hall : ∀ v ∈ vs, v.cells.size = i.size := fun v hv' => Nat.eq_of_beq_eq_true ((List.all_eq_true.1 hv) v hv')
  have hf := fill_dense i.size vs 0 ((Array.range (len * i.size)).map (z.cells[· % z.cells.size]!)) hall (by simp [hlen])
  simp only [Nat.zero_mul, List.take_zero, List.nil_append] at hf
  refine RG.run (w' := w.alloc (.cells (vs.flatMap fun v => v.cells.toList).toArray e)) hw hd hdn (fun a ha => ?_) (kk w.heap.size _ rfl (Ex.of_alloc w _) (by simpa using new_blk w e (vs.flatMap fun v => v.cells.toList).toArray))
  simp only [execOp, ho]
  have hpe : (parts.map fun (i, x) => (i, a.eval x)).toList = (vs.zipIdx 0).map fun x => (x.2, x.1) := by
    subst hp
    rw [← ha.evals hx]
    simp only [List.map_toArray, List.zipIdx_map, List.map_map]
    rfl
  have := run_buildSlice (P := P) w T e len (parts.map fun (i, x) => (i, a.eval x)) _ i z ht hii hz0 h1 h2 (by rw [hpe]; exact hf)
  simp only [Sem.run_bind, this, Result.andThen_ok]
  rfl

def onesP (P : Program) (T k : Nat) : Bool := match P.underlying T with
  | some (.struct fs) => decide (fs.toList.map (fun f => (f.offset, sizeP P f.type)) = (List.range k).map (fun i => (i, some 1)))
  | _ => false
def evp (S : Slots) : List (Nat × Operand) → Option (List (Nat × Value))
  | [] => some []
  | x :: l => match ev S x.2 with
    | some v => match evp S l with
      | some r => some ((x.1, v) :: r)
      | none => none
    | none => none
theorem Fr.evps {n : Nat} {S : Slots} {a : Act} (h : Fr n S a) : ∀ {l : List (Nat × Operand)} {vs : List (Nat × Value)}, evp S l = some vs → l.map (fun x => (x.1, a.eval x.2)) = vs
  | [], _, e => by simpa [evp] using e
  | x :: l, vs, e => by
    unfold evp at e
    cases hx : ev S x.2 with
    | none => rw [hx] at e; simp at e
    | some v =>
      rw [hx] at e
      cases hl : evp S l with
      | none => rw [hl] at e; simp at e
      | some r =>
        rw [hl] at e
        simp only [Option.some.injEq] at e
        subst e
        rw [List.map_cons, h.eval hx, h.evps hl]
theorem fill_ones (places : List (Nat × Nat)) (k : Nat) (hp : places = (List.range k).map (fun i => (i, 1))) : ∀ (ps : List (Nat × Value)) (zs : List Value), zs.length = k → ps.all (fun p => Nat.blt p.1 k && p.2.oneCell') = true →
    Instr.fill (places.toArray[·]?) zs.toArray ps = some (ps.foldl (fun cs p => cs.set p.1 p.2) zs).toArray
  | [], zs, _, _ => rfl
  | p :: ps, zs, hz, h => by
    simp only [List.all_cons, Bool.and_eq_true, Nat.blt_eq] at h
    obtain ⟨⟨h1, h2⟩, h3⟩ := h
    have hc := cells_one h2
    have hpl : places.toArray[p.1]? = some (p.1, 1) := by subst hp; simp [h1]
    simp only [Instr.fill, hpl, hc]
    rw [if_neg (by simp; omega)]
    have e : (#[p.2].zipIdx.foldl (fun cs x => match x with | (c, j) => cs.setIfInBounds (p.1 + j) c) zs.toArray) = (zs.set p.1 p.2).toArray := by simp
    rw [e]
    exact fill_ones places k hp ps (zs.set p.1 p.2) (by simpa using hz) h3
theorem run_places_ones {fs : List Field} {k : Nat} (h : fs.map (fun f => (f.offset, sizeP P f.type)) = (List.range k).map (fun i => (i, some 1))) (w : World) : ∃ places : List (Nat × Nat), places = (List.range k).map (fun i => (i, 1)) ∧ (fs.mapM fun f => Functor.map (Prod.mk f.offset) (sizeOf f.type)).run P w = .ok places w := by
  have key : ∀ (fs : List Field) (l : List Nat), fs.map (fun f => (f.offset, sizeP P f.type)) = l.map (fun i => (i, some 1)) → (fs.mapM fun f => Functor.map (Prod.mk f.offset) (sizeOf f.type)).run P w = .ok (l.map fun i => (i, 1)) w := by
    intro fs
    induction fs with
    | nil => intro l hl; cases l with
      | nil => simp
      | cons => simp at hl
    | cons f fs ih =>
      intro l hl
      cases l with
      | nil => simp at hl
      | cons i l =>
        simp only [List.map_cons, List.cons.injEq, Prod.mk.injEq] at hl
        obtain ⟨⟨h1, h2⟩, h3⟩ := hl
        simp [List.mapM_cons, run_sizeOf h2, ih l h3, h1]
  exact ⟨_, rfl, key fs _ h⟩
theorem Ev.build1 {T k by_ : Nat} {z : Value} {parts : Array (Nat × Operand)} {ps : List (Nat × Operand)} {vs : List (Nat × Value)} {zs : List Value} (ho : o.op = .build T parts) (hp : parts = ps.toArray) (hx : evp S ps = some vs)
    (hi : (P.info? T).map (fun i => (i.zero, i.size, i.bytes)) = some (some z, k, by_)) (hz : z.cells = zs.toArray) (hk : zs.length = k) (h1 : onesP P T k = true) (ha1 : vs.all (fun p => Nat.blt p.1 k && p.2.oneCell') = true) : Ev P n o S w (.agg (vs.foldl (fun cs p => cs.set p.1 p.2) zs).toArray) := fun a ha => by
  obtain ⟨i, hii, hz0, hz1, hz2⟩ := info_parts hi
  unfold onesP at h1
  cases hu : P.underlying T with
  | none => simp [hu] at h1
  | some D =>
    cases D <;> simp only [hu, Bool.false_eq_true] at h1
    case struct fs =>
      have h1' := of_decide_eq_true h1
      obtain ⟨places, hpl, hrun⟩ := run_places_ones h1' w
      have hf := fill_ones places k hpl vs zs hk ha1
      simp only [List.getElem?_toArray] at hf
      have hpe : parts.toList.map (fun x => (x.1, a.eval x.2)) = vs := by
        subst hp; simpa using ha.evps hx
      simp only [execOp, ho]
      have hmap : (fs.mapM fun (f : Field) => Functor.map (Prod.mk f.offset) (sizeOf f.type)).run P w = .ok places.toArray w := by
        rw [Array.mapM_eq_mapM_toList, Sem.run_map, hrun]; rfl
      simp [Instr.build, run_underlying hu, zeroValue, typeInfo, hii, hz0, hz, hmap, hpe, hf]

theorem run_append_nothing (base : Nat) (t ty e : TypeId) (i : TypeInfo) (size : Nat) (ht : P.underlying t = some (.slice e)) (hi : P.info? e = some i)
    (v : Value) (m : Nat) (xs : List Value) (hown : w.ownsRow base e size v m xs) (c : Nat) : (Builtin.append_ #[t, t] ty #[v, .slice none 0 c]).run P w = .ok v w := by
  rcases hown.2 with ⟨rfl, rfl⟩ | ⟨g, cap, cur, rfl, _, _, hnc, _⟩
  · simp [Builtin.append_, run_underlying ht, sizeOf, typeInfo, hi, Builtin.lenOf, Builtin.firstCells]
  · simp [Builtin.append_, run_underlying ht, sizeOf, typeInfo, hi, Builtin.lenOf, Builtin.firstCells, hnc, storeCells]
theorem RG.app {T e sz by_ base m k cp : Nat} {z v : Value} {x y : Operand} {c : Call} {xs us : List Value} {A : Option Addr} (hw : wantS ops S o = some true) (hd : o.dst = some d) (hdn : Nat.blt d n = true) (ho : o.op = .call c) (hc : c = { callee := .builtin .append, args := #[x, y], argTypes := #[T, T] })
    (hx : ev S x = some v) (hy : ev S y = some (.slice A k cp)) (ht : P.underlying T = some (.slice e)) (hi : (P.info? e).map (fun i => (i.zero, i.size, i.bytes)) = some (some z, sz, by_)) (hz : z.cells.size = sz) (hsz : Nat.blt 0 sz = true)
    (hown : w.ownsRow base e sz v m xs) (hl : us.length = k * sz) (hu : 0 < k → ∃ ad, A = some ad ∧ Cells w ad us) (h1' : us.all (·.oneCell') = true) (hlen : m + k ≤ maxLen) (hby : (m + k) * by_ ≤ 140737488355328) (hbase : base ≤ w.heap.size)
    (kk : ∀ v' w', w'.ownsRow base e sz v' (m + k) (xs ++ us) → w.grownBy w' v.ownBlock → (v'.ownBlock = v.ownBlock ∨ v'.ownBlock = some w.heap.size) → RG P ops Q n l ((d, v') :: S) w') : RG P ops Q n (o :: l) S w := by
  obtain ⟨i, hii, hz0, hz1, hz2⟩ := info_parts hi
  have hsz' : 0 < sz := by simpa [Nat.blt_eq] using hsz
  have h1 : ∀ u ∈ us, u.oneCell' = true := fun u hu => (List.all_eq_true.1 h1') u hu
  rcases Nat.eq_zero_or_pos k with hk | hk
  · subst hk
    have hus : us = [] := List.eq_nil_of_length_eq_zero (by simpa using hl)
    subst hus
    cases A with
    | none =>
      refine RG.run (v := v) (w' := w) hw hd hdn (fun a ha => ?_) (kk v w (by simpa using hown) (World.grownBy.refl w _) (.inl rfl))
      simp only [execOp, ho, hc]
      simp [resolve, invoke, builtin, ha.eval hx, ha.eval hy, run_append_nothing (P := P) base T o.type e i sz ht hii v m xs hown cp]
    | some ad =>
      obtain ⟨v', w', hrun, h2, h3, _, h5⟩ := run_append_own_at (P := P) w base T o.type e i z sz by_ ht hii hz0 hz1 hz2 hz hsz' v m xs hown ad 0 cp [] (by simp) (by simp) (by simp) hlen hby hbase
      refine RG.run (v := v') (w' := w') hw hd hdn (fun a ha => ?_) (kk v' w' h2 h3 h5)
      simp only [execOp, ho, hc]
      simp [resolve, invoke, builtin, ha.eval hx, ha.eval hy, hrun]
  · obtain ⟨ad, rfl, hcs⟩ := hu hk
    obtain ⟨v', w', hrun, h2, h3, _, h5⟩ := run_append_own_at (P := P) w base T o.type e i z sz by_ ht hii hz0 hz1 hz2 hz hsz' v m xs hown ad k cp us hl hcs h1 hlen hby hbase
    refine RG.run (v := v') (w' := w') hw hd hdn (fun a ha => ?_) (kk v' w' h2 h3 h5)
    simp only [execOp, ho, hc]
    simp [resolve, invoke, builtin, ha.eval hx, ha.eval hy, hrun]

theorem own_ext {base : Nat} {e : TypeId} {sz m : Nat} {v : Value} {xs : List Value} (h : w.ownsRow base e sz v m xs) (hx : Ex w w') : w'.ownsRow base e sz v m xs :=
  h.kept (row := none) ⟨hx.os, hx.tape, hx.output, hx.size, fun k hk _ => hx.block k hk⟩ (by cases v.ownBlock <;> simp)
theorem own_block {base : Nat} {e : TypeId} {sz m : Nat} {v : Value} {xs : List Value} (h : w.ownsRow base e sz v m xs) {B : Nat} {a : World} (hb : Below B a w) (hg : w.grownBy w' v.ownBlock) (hB : B ≤ base) (hs : base ≤ w.heap.size) : Below B a w' :=
  hb.grown hg (by omega) (fun k hk => by have := (h.lt k hk).1; omega)
theorem own_nil (w : World) (base : Nat) (e : TypeId) (sz : Nat) : w.ownsRow base e sz (.slice none 0 0) 0 [] := World.ownsRow_nil w base e sz

theorem RG.call {f : FuncId} {c : Call} {xs : List Operand} {fx : Operand} {vs cap : List Value} {tys : Array TypeId} {Φ : Value → World → Prop} (hw : wantS ops S o = some true) (hd : o.dst = some d) (hdn : Nat.blt d n = true)
    (ho : o.op = .call c) (hc : c = { callee := .value fx, args := xs.toArray, argTypes := tys }) (hf : ev S fx = some (.func (.func f) #[] cap.toArray)) (hx : evs S xs = some vs)
    (he : ∀ args w, (callFunc f args).run P w = .ok (.enter f args) w) (hr : Ret P f (vs ++ cap) w Φ)
    (kk : ∀ v w', Φ v w' → RG P ops Q n l ((d, v) :: S) w') : RG P ops Q n (o :: l) S w := by
  intro a ha
  unfold wpList
  rw [if_pos (ha.wanted hw)]
  refine .inl ?_
  have hrun : (execOp a.eval o).run P w = .ok (.enter f (vs ++ cap).toArray) w := by
    simp only [execOp, ho, hc]
    simp only [resolve, Sem.run_bind]
    rw [ha.eval hf]
    have hm : xs.toArray.map a.eval = vs.toArray := by rw [List.map_toArray, ha.evals hx]
    rw [hm]
    simp [Deferred.ofValue, invoke, he]
  unfold Oper.wp
  rw [hrun]
  simp only [Oper.upon]
  refine Calls.mono hr ?_
  rintro e w' ⟨v, rfl, hp⟩
  show wpList P ops Q l (a.put o.dst v) w'
  rw [hd]
  exact kk v w' hp _ (ha.put hdn)
end
end Go.Proofs.YtgjnchjkjdnidaaGreat

/- Regions whose order is open: operations that may be taken first, and the one that must come next. -/
namespace Go.Proofs.YtgjnchjkjdnidaaGreat
open Go.RowKit

section
variable {P : Program} {ops : Array Oper} {Q : Exit → Act → World → Prop}

def NP (Q : Exit → Act → World → Prop) : Exit → Act → World → Prop
  | .panic _, _, _ => False
  | e, a, w => Q e a w
theorem NP.out {e : Exit} {a : Act} {w : World} (h : NP Q e a w) : Q e a w := by cases e <;> first | exact h | exact h.elim

def wpZ (P : Program) (ops : Array Oper) (Q : Exit → Act → World → Prop) (U : List Nat) : Nat → (World → Prop) → Array Bool → Act → World → Prop
  | 0, _, listed, a, w => Region.ready .any ops listed = [] ∧ Q .normal a w
  | f + 1, St, listed, a, w => (Region.ready .any ops listed = [] → Q .normal a w) ∧
    ∀ i ∈ Region.ready .any ops listed, wpOp P ops Q i (fun a' w' =>
      (U.contains i = false → St w' ∧ wpZ P ops Q U f St (listed.setIfInBounds i true) a' w') ∧
      (U.contains i = true → ∃ St' : World → Prop, St' w' ∧ wpZ P ops Q U f St' (listed.setIfInBounds i true) a' w')) a w

theorem wpZ_sound {U : List Nat} : ∀ (f : Nat) (St : World → Prop) (listed : Array Bool) (a : Act) (w : World), wpZ P ops Q U f St listed a w → wpAny P .any ops Q f listed a w
  | 0, _, _, _, _, h => h
  | f + 1, _, _, _, _, h => ⟨h.1, fun i hi => wpOp_mono (fun a' w' hk => by
      cases hu : U.contains i with
      | false => exact wpZ_sound f _ _ a' w' (hk.1 hu).2
      | true => obtain ⟨St', _, h'⟩ := hk.2 hu; exact wpZ_sound f St' _ a' w' h') (h.2 i hi)⟩

theorem wpZ_mono {U : List Nat} : ∀ (f : Nat) {St St' : World → Prop} (_ : ∀ w, St w → St' w) (listed : Array Bool) (a : Act) (w : World), wpZ P ops Q U f St listed a w → wpZ P ops Q U f St' listed a w
  | 0, _, _, _, _, _, _, h => h
  | f + 1, _, _, hs, _, _, _, h => ⟨h.1, fun i hi => wpOp_mono (fun a' w' hk => ⟨fun hu => ⟨hs _ (hk.1 hu).1, wpZ_mono f hs _ a' w' (hk.1 hu).2⟩, hk.2⟩) (h.2 i hi)⟩

theorem set_comm_ (l : Array Bool) (i j : Nat) : (l.setIfInBounds i true).setIfInBounds j true = (l.setIfInBounds j true).setIfInBounds i true := by
  apply Array.ext_getElem?
  intro k
  simp only [Array.getElem?_setIfInBounds, Array.size_setIfInBounds]
  by_cases hi : i = k <;> by_cases hj : j = k <;> simp [hi, hj]

theorem not_waits {i : Nat} {oj : Oper} {listed : Array Bool} (hr : i ∈ Region.ready .any ops listed) (hall : ∀ e ∈ oj.after, Region.binds .any e = true → listed.getD e.on false = true) :
    ∀ e ∈ oj.after, Region.binds .any e = true → e.on ≠ i := by
  intro e he hb heq
  have h1 := hall e he hb
  have h0 := (mem_ready.1 hr).1
  rw [heq] at h1
  rcases Nat.lt_or_ge i listed.size with h' | h'
  · simp [h'] at h0 h1; rw [h0] at h1; cases h1
  · simp [Array.getElem?_eq_none h'] at h1

theorem wpZ_held {U : List Nat} {i : Nat} {oi : Oper} {v : Value} (hi : ops[i]? = some oi) (hsel : ∀ (j : Nat) (o : Oper) cs b, ops[j]? = some o → o.op ≠ .select cs b)
    (hQ : ∀ c a w, Q (.panic c) (a.put oi.dst v) w → Q (.panic c) a w) (hU : U.contains i = false) : ∀ (f : Nat) (St : World → Prop) (listed : Array Bool) (a : Act) (w : World),
    (∀ j oj, ops[j]? = some oj → j ≠ i → listed.getD j true = false → (∀ e ∈ oj.after, Region.binds .any e = true → e.on ≠ i) → oi.apart ops oj = true ∧ U.contains j = false) →
    i ∈ Region.ready .any ops listed → YieldsIf P ops St oi v a → St w →
    wpZ P ops Q U f St (listed.setIfInBounds i true) (a.put oi.dst v) w → wpZ P ops Q U (f + 1) St listed a w := by
  intro f
  induction f with
  | zero =>
    intro St listed a w _ hr hy hS H
    refine ⟨fun h => (by rw [h] at hr; cases hr), fun j hj => ?_⟩
    by_cases hji : j = i
    · subst hji; exact hy.wpOp hi hS ⟨fun _ => ⟨hS, H⟩, fun h => by rw [hU] at h; cases h⟩
    · have := ready_mono hj hji
      rw [H.1] at this
      cases this
  | succ f ih =>
    intro St listed a w hfree hr hy hS H
    refine ⟨fun h => (by rw [h] at hr; cases hr), fun j hj => ?_⟩
    by_cases hji : j = i
    · subst hji; exact hy.wpOp hi hS ⟨fun _ => ⟨hS, H⟩, fun h => by rw [hU] at h; cases h⟩
    · have h1 := H.2 j (ready_mono hj hji)
      obtain ⟨hjun, oj, hoj, hall⟩ := mem_ready.1 hj
      obtain ⟨hap, hsafe⟩ := hfree j oj hoj hji hjun (not_waits hr hall)
      refine wpOp_mono ?_ (wpOp_putIf hoj hap (fun cs b => hsel i oi cs b hi) (fun cs b => hsel j oj cs b hoj) hQ hy h1)
      rintro a' w' ⟨hy', hk, _⟩
      obtain ⟨hS', hz⟩ := hk hsafe
      refine ⟨fun _ => ⟨hS', ih St _ a' w' ?_ (ready_mono hr (fun e => hji e.symm)) hy' hS' (by rw [set_comm_]; exact hz)⟩, fun h => by rw [hsafe] at h; cases h⟩
      intro k ok hk hki hun hno
      refine hfree k ok hk hki ?_ hno
      by_cases hkj : j = k
      · subst hkj; exact hjun
      · rwa [getD_set_ne true hkj] at hun

theorem wpZ_free {U : List Nat} {i : Nat} {oi : Oper} {v : Value} (hi : ops[i]? = some oi) (hsel : ∀ (j : Nat) (o : Oper) cs b, ops[j]? = some o → o.op ≠ .select cs b)
    (hQ : ∀ c a w, Q (.panic c) (a.put oi.dst v) w → Q (.panic c) a w) (hU : U.contains i = false) : ∀ (f : Nat) (St : World → Prop) (listed : Array Bool) (a : Act) (w : World),
    (∀ j oj, ops[j]? = some oj → j ≠ i → listed.getD j true = false → (∀ e ∈ oj.after, Region.binds .any e = true → e.on ≠ i) → oi.apart ops oj = true) →
    i ∈ Region.ready .any ops listed → Yields P ops oi v a → St w →
    wpZ P ops Q U f St (listed.setIfInBounds i true) (a.put oi.dst v) w → wpZ P ops Q U (f + 1) St listed a w := by
  intro f
  induction f with
  | zero =>
    intro St listed a w _ hr hy hS H
    refine ⟨fun h => (by rw [h] at hr; cases hr), fun j hj => ?_⟩
    by_cases hji : j = i
    · subst hji; exact hy.wpOp hi ⟨fun _ => ⟨hS, H⟩, fun h => by rw [hU] at h; cases h⟩
    · have := ready_mono hj hji
      rw [H.1] at this
      cases this
  | succ f ih =>
    intro St listed a w hfree hr hy hS H
    refine ⟨fun h => (by rw [h] at hr; cases hr), fun j hj => ?_⟩
    by_cases hji : j = i
    · subst hji; exact hy.wpOp hi ⟨fun _ => ⟨hS, H⟩, fun h => by rw [hU] at h; cases h⟩
    · have h1 := H.2 j (ready_mono hj hji)
      obtain ⟨hjun, oj, hoj, hall⟩ := mem_ready.1 hj
      have hap := hfree j oj hoj hji hjun (not_waits hr hall)
      have hfree' : ∀ k ok, ops[k]? = some ok → k ≠ i → (listed.setIfInBounds j true).getD k true = false → (∀ e ∈ ok.after, Region.binds .any e = true → e.on ≠ i) → oi.apart ops ok = true := by
        intro k ok hk hki hun hno
        refine hfree k ok hk hki ?_ hno
        by_cases hkj : j = k
        · subst hkj; exact hjun
        · rwa [getD_set_ne true hkj] at hun
      refine wpOp_mono ?_ (wpOp_put hoj hap (fun cs b => hsel i oi cs b hi) (fun cs b => hsel j oj cs b hoj) hQ hy h1)
      rintro a' w' ⟨hy', hk, hk'⟩
      refine ⟨fun hs => ?_, fun hs => ?_⟩
      · obtain ⟨hS', hz⟩ := hk hs
        exact ⟨hS', ih St _ a' w' hfree' (ready_mono hr (fun e => hji e.symm)) hy' hS' (by rw [set_comm_]; exact hz)⟩
      · obtain ⟨St', hS', hz⟩ := hk' hs
        exact ⟨St', hS', ih St' _ a' w' hfree' (ready_mono hr (fun e => hji e.symm)) hy' hS' (by rw [set_comm_]; exact hz)⟩

def freeZ (ops : Array Oper) (U : List Nat) (listed : Array Bool) (i : Nat) (held : Bool) : Bool :=
  match ops[i]? with
  | none => false
  | some oi => (Region.ready .any ops listed).contains i && !U.contains i && (List.range ops.size).all fun j => j == i || listed.getD j true || match ops[j]? with
      | some oj => oj.after.any (fun e => Region.binds .any e && e.on == i) || (oi.apart ops oj && (!held || !U.contains j))
      | none => true

theorem freeZ_spec {U : List Nat} {listed : Array Bool} {i : Nat} {held : Bool} {oi : Oper} (hi : ops[i]? = some oi) (h : freeZ ops U listed i held = true) :
    i ∈ Region.ready .any ops listed ∧ U.contains i = false ∧ ∀ j oj, ops[j]? = some oj → j ≠ i → listed.getD j true = false → (∀ e ∈ oj.after, Region.binds .any e = true → e.on ≠ i) → oi.apart ops oj = true ∧ (held = true → U.contains j = false) := by
  simp only [freeZ, hi, Bool.and_eq_true, List.all_eq_true, List.mem_range] at h
  obtain ⟨⟨h1, h2⟩, h3⟩ := h
  refine ⟨by simpa using h1, by simpa using h2, fun j oj hj hne hun hno => ?_⟩
  have h4 := h3 j (Array.getElem?_eq_some_iff.1 hj).1
  simp only [hj, Bool.or_eq_true, beq_iff_eq, hne, false_or, hun, Bool.false_eq_true] at h4
  rcases h4 with h4 | h4
  · obtain ⟨e, he, hb⟩ := Array.any_eq_true'.1 h4
    simp only [Bool.and_eq_true, beq_iff_eq] at hb
    exact absurd hb.2 (hno e he hb.1)
  · simp only [Bool.and_eq_true] at h4
    refine ⟨h4.1, fun hh => ?_⟩
    have := h4.2
    simpa [hh] using this

inductive Rk where
  | ex
  | row (g : Nat)
  | low (B : Nat)
def Rr : Rk → World → World → Prop
  | .ex, w, w' => Ex w w'
  | .row g, w, w' => w.grownBy w' (some g)
  | .low B, w, w' => w'.os = w.os ∧ w'.tape = w.tape ∧ w'.output = w.output ∧ w.heap.size ≤ w'.heap.size ∧ ∀ k, k < B → k < w.heap.size → w'.heap[k]? = w.heap[k]?
theorem Rr.refl_ (row : Rk) (w : World) : Rr row w w := by
  cases row with
  | ex => exact Ex.rfl_ w
  | row g => exact World.grownBy.refl w _
  | low B => exact ⟨rfl, rfl, rfl, Nat.le_refl _, fun _ _ _ => rfl⟩
theorem Rr.tr {row : Rk} {a b c : World} (h : Rr row a b) (k : Rr row b c) : Rr row a c := by
  cases row with
  | ex => exact Ex.tr h k
  | row g => exact ⟨k.os.trans h.os, k.tape.trans h.tape, k.output.trans h.output, Nat.le_trans h.size k.size, fun i hi hne => (k.block i (Nat.lt_of_lt_of_le hi h.size) hne).trans (h.block i hi hne)⟩
  | low B =>
    obtain ⟨h1, h2, h3, h4, h5⟩ := h
    obtain ⟨k1, k2, k3, k4, k5⟩ := k
    exact ⟨k1.trans h1, k2.trans h2, k3.trans h3, Nat.le_trans h4 k4, fun i hB hi => (k5 i hB (Nat.lt_of_lt_of_le hi h4)).trans (h5 i hB hi)⟩
theorem Rr.of_ex {row : Rk} {a b : World} (h : Ex a b) : Rr row a b := by
  cases row with
  | ex => exact h
  | row g => exact ⟨h.os, h.tape, h.output, h.size, fun k hk _ => h.block k hk⟩
  | low B => exact ⟨h.os, h.tape, h.output, h.size, fun k _ hk => h.block k hk⟩
theorem Rr.of_wr {g : Nat} {a b : World} (h : Wr a b g) : Rr (.row g) a b := h.grownBy
def AG (P : Program) (ops : Array Oper) (Q : Exit → Act → World → Prop) (U : List Nat) (row : Rk) (n f : Nat) (listed : Array Bool) (S : Slots) (w : World) : Prop :=
  ∀ a, Fr n S a → wpZ P ops (NP Q) U f (Rr row w) listed a w

variable {U : List Nat} {row : Rk} {n f : Nat} {listed : Array Bool} {S : Slots} {w w' : World} {d : Nat} {v : Value}

theorem CW.draw {id : Nat} {l : List Oper} (U : List Nat) (row : Rk) (m : Nat) (hl : l.length = m) (hm : P.follows .mixedOrders = true) (k : ∀ w1, Ex w w1 → AG P l.toArray Q U row n m (Array.replicate m false) S w1) : CW P (.region id l.toArray true) Q n S w := by
  intro a ha
  subst hl
  refine wp_mono (wp_region_any (Q := NP Q) hm (wpZ_sound _ _ _ _ _ (k w.drew (Ex.of_drew w) a ha))) fun e a w h => h.out

theorem AG.take (i : Nat) {oi : Oper} (hi : ops[i]? = some oi) (hs : Region.noSelect ops = true) (hf : freeZ ops U listed i true = true) (hw : wantS ops S oi = some true) (hd : oi.dst = some d) (hdn : Nat.blt d n = true)
    (he : ∀ w', Rr row w w' → Ev P n oi S w' v) (k : AG P ops Q U row n f (listed.setIfInBounds i true) ((d, v) :: S) w) : AG P ops Q U row n (f + 1) listed S w := by
  intro a ha
  obtain ⟨h1, h2, h3⟩ := freeZ_spec hi hf
  refine wpZ_held (v := v) hi (Region.noSelect_spec hs) (fun c a w h => h) h2 f _ listed a w (fun j oj hj hne hun hno => ⟨(h3 j oj hj hne hun hno).1, (h3 j oj hj hne hun hno).2 rfl⟩) h1
    (.inl ⟨ha.wanted hw, fun w' hx => he w' hx a ha⟩) (Rr.refl_ row w) ?_
  rw [hd]
  exact k _ (ha.put hdn)
theorem AG.takeW (i : Nat) {oi : Oper} (hi : ops[i]? = some oi) (hs : Region.noSelect ops = true) (hf : freeZ ops U listed i false = true) (hw : wantS ops S oi = some true) (hd : oi.dst = some d) (hdn : Nat.blt d n = true)
    (he : ∀ w', Ev P n oi S w' v) (k : AG P ops Q U row n f (listed.setIfInBounds i true) ((d, v) :: S) w) : AG P ops Q U row n (f + 1) listed S w := by
  intro a ha
  obtain ⟨h1, h2, h3⟩ := freeZ_spec hi hf
  refine wpZ_free (v := v) hi (Region.noSelect_spec hs) (fun c a w h => h) h2 f _ listed a w (fun j oj hj hne hun hno => (h3 j oj hj hne hun hno).1) h1
    (.inl ⟨ha.wanted hw, fun w' => he w' a ha⟩) (Rr.refl_ row w) ?_
  rw [hd]
  exact k _ (ha.put hdn)
theorem AG.idxL {α : Type} {T e sz : Nat} {enc : α → List Value} {vv : Value} {xs : List α} {x y : Operand} {k : IntKind} {ix : Nat} {u : α} (w0 : World) (i : Nat) {oi : Oper} (hi : ops[i]? = some oi) (hs : Region.noSelect ops = true) (hf : freeZ ops U listed i false = true) (hw : wantS ops S oi = some true) (hd : oi.dst = some d) (hdn : Nat.blt d n = true)
    (ho : oi.op = .indexAddr T x y) (hx : ev S x = some vv) (hy : ev S y = some (.int k ix)) (ht : P.underlying T = some (.slice e)) (hsz : sizeP P e = some sz) (hr : RdL w0 sz enc vv xs) (hix : xs[ix]? = some u)
    (kk : ∀ p : Addr, p.block < w0.heap.size → Cells w0 p (enc u) → AG P ops Q U row n f (listed.setIfInBounds i true) ((d, .pointer (some p)) :: S) w) : AG P ops Q U row n (f + 1) listed S w := by
  have hlt : ix < xs.length := (List.getElem?_eq_some_iff.1 hix).1
  obtain ⟨ad, c, rfl, hc, hb, hcs⟩ := hr.open_ (by omega)
  exact AG.takeW i hi hs hf hw hd hdn (fun _ => Ev.idxN ho hx hy ht hsz hlt) (kk _ (by rw [block_of_add]; exact hb) (hcs ix u hix))
theorem AG.pass (i : Nat) {oi : Oper} (hi : ops[i]? = some oi) (hs : Region.noSelect ops = true) (hf : freeZ ops U listed i false = true) (hw : wantS ops S oi = some false) (hd : oi.dst = some d) (hdn : Nat.blt d n = true)
    (k : AG P ops Q U row n f (listed.setIfInBounds i true) ((d, undef) :: S) w) : AG P ops Q U row n (f + 1) listed S w := by
  intro a ha
  obtain ⟨h1, h2, h3⟩ := freeZ_spec hi hf
  refine wpZ_free (v := undef) hi (Region.noSelect_spec hs) (fun c a w h => h) h2 f _ listed a w (fun j oj hj hne hun hno => (h3 j oj hj hne hun hno).1) h1
    (.inr ⟨ha.wanted hw, rfl⟩) (Rr.refl_ row w) ?_
  rw [hd]
  exact k _ (ha.put hdn)

def AN (P : Program) (ops : Array Oper) (Q : Exit → Act → World → Prop) (U : List Nat) (row : Rk) (f : Nat) (listed : Array Bool) (i : Nat) (w : World) : Exit → Act → World → Prop
  | .normal, a', w' => (U.contains i = false → Rr row w w') ∧ wpZ P ops (NP Q) U f (Rr row w') (listed.setIfInBounds i true) a' w'
  | e, a', w' => NP Q e a' w'

theorem Oper.wp_monoQ {o : Oper} {a : Act} {w : World} {K K' : Act → World → Prop} {Q Q' : Exit → Act → World → Prop} (h : ∀ a w, K a w → K' a w) (hq : ∀ e a w, e ≠ .normal → Q e a w → Q' e a w) (hh : o.wp P a w K Q) : o.wp P a w K' Q' := by
  have hl : LetsOut Q → LetsOut Q' := fun ⟨a, w, h⟩ => ⟨a, w, hq _ a w (by simp) h⟩
  unfold Oper.wp at *
  generalize (execOp a.eval o).run P w = r at *
  cases r with
  | ok n w' =>
    cases n <;> simp only [Oper.upon] at hh ⊢ <;>
      first
        | exact h _ _ hh
        | exact Calls.mono hh (fun e w'' he => by cases e <;> first | exact h _ _ he | exact hq _ _ _ (by simp) he | exact hl he)
        | exact Rows.mono hh (fun _ _ he => h _ _ he)
  | halt x w' => cases x <;> simp only [Oper.upon] at hh ⊢ <;> exact hq _ _ _ (by simp) hh

theorem AG.each {rs : List Nat} (hr : Region.ready .any ops listed = rs) (hne : rs ≠ []) (k : ∀ i ∈ rs, ∃ oi, ops[i]? = some oi ∧ RG P ops (AN P ops Q U row f listed i w) n [oi] S w) : AG P ops Q U row n (f + 1) listed S w := by
  intro a ha
  refine ⟨fun h => absurd (hr.symm.trans h) hne, fun j hj => ?_⟩
  rw [hr] at hj
  obtain ⟨oi, hi, kk⟩ := k j hj
  have hk := kk a ha
  unfold wpList at hk
  unfold wpOp
  simp only [hi]
  have conv : ∀ a' w', AN P ops Q U row f listed j w .normal a' w' → (U.contains j = false → Rr row w w' ∧ wpZ P ops (NP Q) U f (Rr row w) (listed.setIfInBounds j true) a' w') ∧ (U.contains j = true → ∃ St' : World → Prop, St' w' ∧ wpZ P ops (NP Q) U f St' (listed.setIfInBounds j true) a' w') :=
    fun a' w' hn => ⟨fun hu => ⟨hn.1 hu, wpZ_mono f (fun x hx => (hn.1 hu).tr hx) _ a' w' hn.2⟩, fun _ => ⟨Rr row w', Rr.refl_ row w', hn.2⟩⟩
  split
  · rename_i hw
    rw [if_pos hw] at hk
    rcases hk with hk | ⟨h1, b, w2, h2⟩
    · exact .inl (Oper.wp_monoQ (fun a' w' hn => conv a' w' hn) (fun e a w hne hq => by cases e <;> first | exact hq | exact absurd rfl hne) hk)
    · exact .inr ⟨h1, b, w2, h2⟩
  · rename_i hw
    rw [if_neg hw] at hk
    exact conv _ _ hk
theorem AG.only (i : Nat) {oi : Oper} (hi : ops[i]? = some oi) (hr : Region.ready .any ops listed = [i]) (k : RG P ops (AN P ops Q U row f listed i w) n [oi] S w) : AG P ops Q U row n (f + 1) listed S w :=
  AG.each hr (by simp) fun j hj => by simp only [List.mem_singleton] at hj; subst hj; exact ⟨oi, hi, k⟩
theorem QW.an {i : Nat} {w0 : World} (hx : U.contains i = false → Rr row w0 w) (k : AG P ops Q U row n f (listed.setIfInBounds i true) S w) : QW (AN P ops Q U row f listed i w0) .normal n S w := fun a ha => ⟨hx, k a ha⟩
theorem AG.done (hr : Region.ready .any ops listed = []) (k : QW Q .normal n S w) : AG P ops Q U row n f listed S w := by
  intro a ha
  have hk : NP Q .normal a w := k a ha
  cases f with
  | zero => exact ⟨hr, hk⟩
  | succ f => exact ⟨fun _ => hk, by rw [hr]; simp⟩
theorem AG.split {d : Nat} {p : Prop} [Decidable p] (hl : lk S d = some (.bool (decide p))) (ht : p → AG P ops Q U row n f listed ((d, .bool true) :: S) w) (hf : ¬ p → AG P ops Q U row n f listed ((d, .bool false) :: S) w) : AG P ops Q U row n f listed S w := by
  intro a ha
  have key : ∀ b, decide p = b → Fr n ((d, .bool b) :: S) a := fun b e => ⟨ha.df, ha.sz, fun k v hk => by
    simp only [lk] at hk
    by_cases hkd : d = k
    · subst hkd
      rw [show Nat.beq d d = true from by simp] at hk
      simp only [cond_true, Option.some.injEq] at hk
      rw [← hk, ← e]; exact ha.get d _ hl
    · rw [show Nat.beq d k = false from beq_no hkd] at hk
      exact ha.get k v hk⟩
  by_cases hp : p
  · exact ht hp a (key true (decide_eq_true hp))
  · exact hf hp a (key false (decide_eq_false hp))
end
end Go.Proofs.YtgjnchjkjdnidaaGreat

/- Equality of structs whose fields are integers, bools, strings; make; cuts of slices; closures. -/
namespace Go.Proofs.YtgjnchjkjdnidaaGreat
open Go.RowKit

def veq : Value → Value → Bool
  | .int _ a, .int _ b => decide (a = b)
  | .bool a, .bool b => decide (a = b)
  | .string a, .string b => decide (a = b)
  | _, _ => false
def tyOk : TypeDesc → Value → Bool
  | .int k, .int k' _ => decide (k = k')
  | .bool, .bool _ => true
  | .string, .string _ => true
  | _, _ => false
def veqs : List Value → List Value → Bool
  | [], _ => true
  | _, [] => true
  | x :: xs, y :: ys => veq x y && veqs xs ys
def fieldsOk (P : Program) : Nat → List Field → List Value → List Value → Bool
  | _, [], [], [] => true
  | i, f :: fs, x :: xs, y :: ys => (f.name != "_") && Nat.beq f.offset i && (match P.underlying f.type with
      | some D => tyOk D x && tyOk D y
      | none => false) && fieldsOk P (i + 1) fs xs ys
  | _, _, _, _ => false
def structOk (P : Program) (T : TypeId) (xs ys : List Value) : Bool :=
  (match P.underlying T with | some (.struct fs) => fieldsOk P 0 fs.toList xs ys | _ => false) && !P.stoodInHeld T && !P.eqGuardType P.depth T

theorem run_veq {P : Program} {T : TypeId} {D : TypeDesc} {x y : Value} (d : Nat) (hu : P.underlying T = some D) (hx : tyOk D x = true) (hy : tyOk D y = true) (w : World) : (Op.equalIn (d + 1) T x y).run P w = .ok (veq x y) w := by
  cases D <;> cases x <;> simp [tyOk] at hx <;> cases y <;> simp [tyOk] at hy
  · exact run_equalIn_bool' w d T _ _ hu
  · subst hx hy; exact run_equalIn_int w d T _ _ _ _ hu
  · rw [run_equalIn_string w d T _ _ hu]
    congr 1
    rename_i s t
    simp only [veq]
    rw [Bool.eq_iff_iff]; simp only [beq_iff_eq, decide_eq_true_eq, ByteArray.toList_eq]
    constructor
    · intro h; cases s; cases t; simp only [ByteArray.mk.injEq]; exact Array.toList_inj.1 h
    · rintro rfl; rfl

theorem run_eqFields {P : Program} (d : Nat) (w : World) (X Y : List Value) : ∀ (fs : List Field) (i : Nat) (xs ys : List Value), (∀ j, xs[j]? = X[i + j]?) → (∀ j, ys[j]? = Y[i + j]?) → fieldsOk P i fs xs ys = true →
    (Op.eqFields (d + 1) X.toArray Y.toArray fs).run P w = .ok (veqs xs ys) w
  | [], i, [], [], _, _, _ => by simp [Op.eqFields, veqs]
  | [], i, x :: xs, _, _, _, h => by simp [fieldsOk] at h
  | [], i, [], y :: ys, _, _, h => by simp [fieldsOk] at h
  | f :: fs, i, [], _, _, _, h => by simp [fieldsOk] at h
  | f :: fs, i, x :: xs, [], _, _, h => by simp [fieldsOk] at h
  | f :: fs, i, x :: xs, y :: ys, hX, hY, h => by
    simp only [fieldsOk, Bool.and_eq_true] at h
    obtain ⟨⟨⟨h1, h2⟩, h3⟩, h4⟩ := h
    have h1' : f.name ≠ "_" := by simpa using h1
    have h2' : f.offset = i := Nat.eq_of_beq_eq_true h2
    cases hu : P.underlying f.type with
    | none => simp [hu] at h3
    | some D =>
      simp only [hu, Bool.and_eq_true] at h3
      have ha : aggD D = false := by cases D <;> simp [tyOk] at h3 <;> rfl
      have hx0 : X[i]? = some x := by have := hX 0; simpa using this.symm
      have hy0 : Y[i]? = some y := by have := hY 0; simpa using this.symm
      have ih := run_eqFields d w X Y fs (i + 1) xs ys (fun j => by have := hX (j + 1); rw [List.getElem?_cons_succ] at this; rw [this]; congr 1; omega) (fun j => by have := hY (j + 1); rw [List.getElem?_cons_succ] at this; rw [this]; congr 1; omega) h4
      simp only [Op.eqFields, ne_eq, h1', not_false_eq_true, if_true]
      simp only [part, Sem.run_bind, run_isAgg hu, Result.andThen_ok, ha, h2', Bool.false_eq_true, if_false, List.getElem?_toArray, hx0, hy0, Sem.run_pure, run_veq d hu h3.1 h3.2]
      cases hv : veq x y
      · simp [veqs, hv]
      · simp [veqs, hv, ih]

section
variable {P : Program} {ops : Array Oper} {Q : Exit → Act → World → Prop} {n : Nat} {l : List Oper} {o : Oper} {S : Slots} {w w' : World} {d : Nat}

theorem run_equalStruct {T : TypeId} {xs ys : List Value} (h : structOk P T xs ys = true) (w : World) : (Op.equalIn 10000 T (.agg xs.toArray) (.agg ys.toArray)).run P w = .ok (veqs xs ys) w ∧ P.eqGuardType P.depth T = false := by
  simp only [structOk, Bool.and_eq_true, Bool.not_eq_true'] at h
  obtain ⟨⟨h1, h2⟩, h3⟩ := h
  cases hu : P.underlying T with
  | none => simp [hu] at h1
  | some D =>
    cases D <;> simp only [hu, Bool.false_eq_true] at h1
    case struct fs =>
      have hf : P.fieldsOf T = fs := by simp [Program.fieldsOf, hu]
      refine ⟨?_, h3⟩
      rw [run_equalIn_agg w 9999 T _ _ (by rw [hf]; exact hu) h2, hf]
      exact run_eqFields 9998 w xs ys fs.toList 0 xs ys (fun j => by simp) (fun j => by simp) h1
theorem Ev.neA {T T' : TypeId} {x y : Operand} {xs ys : List Value} (ho : o.op = .binOp .neq T x y T') (hx : ev S x = some (.agg xs.toArray)) (hy : ev S y = some (.agg ys.toArray)) (h : structOk P T xs ys = true) : Ev P n o S w (.bool (!(veqs xs ys))) := fun a ha => by
  obtain ⟨h1, h2⟩ := run_equalStruct h w
  simp only [execOp, ho]; rw [ha.eval hx, ha.eval hy]
  simp [run_eqGuard_agg w _ _ _ _ _ _ h2, run_neq_struct, h1]
theorem Ev.eqB {T T' : TypeId} {x y : Operand} {p q : Bool} (ho : o.op = .binOp .eql T x y T') (hx : ev S x = some (.bool p)) (hy : ev S y = some (.bool q)) (ht : P.underlying T = some .bool) : Ev P n o S w (.bool (decide (p = q))) := fun a ha => by
  simp only [execOp, ho]; rw [ha.eval hx, ha.eval hy]
  have h := run_equalIn_bool' (P := P) w 9999 T p q ht
  have e : eqGuard .eql T x y (.bool p) (.bool q) = pure () := rfl
  simp [e, binOp, Op.equal, Op.maxDepth, h]
  rfl
end
end Go.Proofs.YtgjnchjkjdnidaaGreat

/- Maps with plain keys, made slices, closures, bytes and strings, results that lie in cells. -/
namespace Go.Proofs.YtgjnchjkjdnidaaGreat
open Go.RowKit

section
variable {κ : Type}
def ents (enc : κ → Value) : List (κ × Value) → Nat → List MapEntry
  | [], _ => []
  | p :: l, i => ⟨enc p.1, p.2, i⟩ :: ents enc l (i + 1)
def Mp (w : World) (g : Nat) (enc : κ → Value) (kvs : List (κ × Value)) : Prop := w.heap[g]? = some (.map (ents enc kvs 0).toArray kvs.length)
structure KeyT [DecidableEq κ] (D : TypeDesc) (enc : κ → Value) : Prop where
  key : ∀ a, MapKept.IsKey D (enc a)
  same : ∀ a b, Instr.sameNow D (enc a) (enc b) = some (decide (a = b))
def mget [DecidableEq κ] : List (κ × Value) → κ → Option Value
  | [], _ => none
  | p :: l, k => if p.1 = k then some p.2 else mget l k
variable {D : TypeDesc} {enc : κ → Value}
theorem find_ents [DecidableEq κ] (K : KeyT D enc) (k : κ) : ∀ (l : List (κ × Value)) (i j : Nat), ∃ r, Instr.findNow D (enc k) (ents enc l i) j = some r ∧ r.map (·.2) = mget l k
  | [], _, _ => ⟨none, rfl, rfl⟩
  | p :: l, i, j => by
    have hs := K.same k p.1
    by_cases e : p.1 = k
    · refine ⟨some (j, p.2), ?_, by simp [mget, e]⟩
      rw [decide_eq_true e.symm] at hs
      simp [ents, Instr.findNow, hs]
    · obtain ⟨r, h1, h2⟩ := find_ents K k l (i + 1) (j + 1)
      refine ⟨r, ?_, by simp [mget, e, h2]⟩
      have : decide (k = p.1) = false := by simpa using fun q : k = p.1 => e q.symm
      simp [ents, Instr.findNow, hs, this, h1]
theorem ents_snoc (enc : κ → Value) (k : κ) (v : Value) : ∀ (l : List (κ × Value)) (i : Nat), ents enc (l ++ [(k, v)]) i = ents enc l i ++ [⟨enc k, v, i + l.length⟩]
  | [], i => by simp [ents]
  | p :: l, i => by rw [List.cons_append, ents, ents_snoc enc k v l (i + 1), ents, List.cons_append, show i + 1 + l.length = i + (p :: l).length from by simp; omega]
theorem keyI : KeyT (.int .i64) (fun i : Int => .int .i64 i) := ⟨fun _ => rfl, fun a b => by
  simp only [Instr.sameNow, if_true, Option.some.injEq]
  by_cases h : a = b <;> simp [h]⟩
theorem keyB : KeyT .bool (fun b : Bool => .bool b) := ⟨fun _ => trivial, fun a b => by cases a <;> cases b <;> rfl⟩

variable {P : Program} {ops : Array Oper} {Q : Exit → Act → World → Prop} {n : Nat} {l : List Oper} {S : Slots} {w w' : World} {o : Oper} {d g : Nat} {kvs : List (κ × Value)}
theorem Mp.lt (h : Mp w g enc kvs) : g < w.heap.size := (Array.getElem?_eq_some_iff.1 h).1
theorem Mp.ext (h : Mp w g enc kvs) (hx : Ex w w') : Mp w' g enc kvs := (hx.block g h.lt).trans h
theorem RG.mkMap {T : Nat} (enc : κ → Value) (hw : wantS ops S o = some true) (hd : o.dst = some d) (hdn : Nat.blt d n = true) (ho : o.op = .makeMap T none)
    (kk : ∀ g w', g = w.heap.size → Ex w w' → Mp w' g enc [] → RG P ops Q n l ((d, .map (some g)) :: S) w') : RG P ops Q n (o :: l) S w := by
  refine RG.run (w' := w.alloc (.map #[] 0)) hw hd hdn (fun a ha => ?_) (kk w.heap.size _ rfl (Ex.of_alloc w _) (by unfold Mp; simpa [ents] using (MapKept.heap_alloc w (.map #[] 0)).1))
  have hr : (Instr.makeMap T none).run P w = .ok (.map (some w.heap.size)) (w.alloc (.map #[] 0)) := rfl
  simp only [execOp, ho, Option.map_none]
  rw [Sem.run_bind, hr]
  rfl

theorem look_run [DecidableEq κ] {T kt E sz by_ : Nat} {z : Value} {c : Bool} (K : KeyT D enc) (h : Mp w g enc kvs) (ht : P.underlying T = some (.map kt E)) (hk : P.underlying kt = some D) (hi : (P.info? E).map (fun i => (i.zero, i.size, i.bytes)) = some (some z, sz, by_)) (k : κ) :
    (Instr.lookup T (.map (some g)) (enc k) c).run P w = .ok (if c then .tuple #[(mget kvs k).getD z, .bool (mget kvs k).isSome] else (mget kvs k).getD z) w := by
  obtain ⟨i, hii, hz0, hz1, hz2⟩ := info_parts hi
  obtain ⟨r, h1, h2⟩ := find_ents K k kvs 0 0
  rw [← h2]
  have hc := fun e => MapKept.run_checkKey (P := P) (w := w) hk (K.key k) e 9999
  have hf := MapKept.run_findKey (P := P) (w := w) hk h1
  simp only [Instr.lookup, Sem.run_bind, run_underlying ht, Result.andThen, MapKept.run_getObj_map h, Sem.run_pure, hc, hf]
  cases r with
  | none => cases c <;> simp [zeroValue, typeInfo, hii, hz0]
  | some p => cases c <;> simp
theorem Ev.look [DecidableEq κ] {T kt E sz by_ : Nat} {z : Value} {c : Bool} {x y : Operand} {k : κ} (K : KeyT D enc) (ho : o.op = .lookup T x y c) (hx : ev S x = some (.map (some g))) (hy : ev S y = some (enc k)) (h : Mp w g enc kvs) (ht : P.underlying T = some (.map kt E)) (hk : P.underlying kt = some D)
    (hi : (P.info? E).map (fun i => (i.zero, i.size, i.bytes)) = some (some z, sz, by_)) : Ev P n o S w (if c then .tuple #[(mget kvs k).getD z, .bool (mget kvs k).isSome] else (mget kvs k).getD z) := fun a ha => by
  simp only [execOp, ho]; rw [ha.eval hx, ha.eval hy]
  simp [look_run K h ht hk hi k]
theorem Ev.lookOk [DecidableEq κ] {T kt E sz by_ : Nat} {z : Value} {x y : Operand} {k : κ} (K : KeyT D enc) (ho : o.op = .lookup T x y true) (hx : ev S x = some (.map (some g))) (hy : ev S y = some (enc k)) (h : Mp w g enc kvs) (ht : P.underlying T = some (.map kt E)) (hk : P.underlying kt = some D)
    (hi : (P.info? E).map (fun i => (i.zero, i.size, i.bytes)) = some (some z, sz, by_)) : Ev P n o S w (.tuple #[(mget kvs k).getD z, .bool (mget kvs k).isSome]) := Ev.look (c := true) K ho hx hy h ht hk hi
theorem Ev.look1 [DecidableEq κ] {T kt E sz by_ : Nat} {z : Value} {x y : Operand} {k : κ} (K : KeyT D enc) (ho : o.op = .lookup T x y false) (hx : ev S x = some (.map (some g))) (hy : ev S y = some (enc k)) (h : Mp w g enc kvs) (ht : P.underlying T = some (.map kt E)) (hk : P.underlying kt = some D)
    (hi : (P.info? E).map (fun i => (i.zero, i.size, i.bytes)) = some (some z, sz, by_)) : Ev P n o S w ((mget kvs k).getD z) := Ev.look (c := false) K ho hx hy h ht hk hi

theorem RG.mapPut [DecidableEq κ] {T kt E : Nat} {x y z : Operand} {k : κ} {v : Value} (K : KeyT D enc) (hw : wantS ops S o = some true) (hd : o.dst = none) (ho : o.op = .mapUpdate T x y z ∨ o.op = .insert T x y z)
    (hx : ev S x = some (.map (some g))) (hy : ev S y = some (enc k)) (hz : ev S z = some v) (ht : P.underlying T = some (.map kt E)) (hk : P.underlying kt = some D) (h : Mp w g enc kvs) (hno : mget kvs k = none)
    (kk : ∀ w', Wr w w' g → Mp w' g enc (kvs ++ [(k, v)]) → RG P ops Q n l S w') : RG P ops Q n (o :: l) S w := by
  obtain ⟨r, h1, h2⟩ := find_ents K k kvs 0 0
  rw [hno] at h2
  have hr : r = none := by cases r <;> simp at h2 ⊢
  subst hr
  have hs := MapKept.heap_set (o' := .map ((ents enc (kvs ++ [(k, v)]) 0).toArray) (kvs.length + 1)) h
  have hrun : (Instr.mapUpdate T (.map (some g)) (enc k) v).run P w = .ok () { w with heap := w.heap.setIfInBounds g (.map ((ents enc (kvs ++ [(k, v)]) 0).toArray) (kvs.length + 1)) } := by
    have hc := fun e => MapKept.run_checkKey (P := P) (w := w) hk (K.key k) e 9999
    have hf := MapKept.run_findKey (P := P) (w := w) hk h1
    simp only [Instr.mapUpdate, Sem.run_bind, run_underlying ht, Result.andThen, MapKept.run_getObj_map h, hc, hf]
    rw [MapKept.run_setObj_map _ h, ents_snoc]
    simp
  refine RG.run0 (w' := { w with heap := w.heap.setIfInBounds g (.map ((ents enc (kvs ++ [(k, v)]) 0).toArray) (kvs.length + 1)) }) hw hd (fun a ha => ?_) (kk _ ⟨rfl, rfl, rfl, by simp, fun j hj => hs.2 j hj⟩ (by unfold Mp; rw [hs.1]; simp))
  rcases ho with ho | ho <;> (simp only [execOp, ho]; rw [ha.eval hx, ha.eval hy, ha.eval hz]; simp [hrun])

def It (w : World) (r g m : Nat) (seen : List Nat) : Prop := w.heap[r]? = some (.mapIter (some g) m seen.toArray m)
end

section
variable {P : Program} {ops : Array Oper} {Q : Exit → Act → World → Prop} {n : Nat} {l : List Oper} {S : Slots} {w w' : World} {o : Oper} {d g : Nat}
theorem madeOne (z : Value) (m : Nat) : (madeCells #[z] m).toList = List.replicate m z := by
  apply List.ext_getElem?
  intro i
  simp only [madeCells, Array.toList_map, Array.toList_range, List.getElem?_map, List.getElem?_replicate]
  by_cases h : i < m
  · simp [h, Nat.mod_one]
  · simp [h]
theorem RG.make1 {T e by_ m : Nat} {c : Int} {z : Value} {x y : Operand} {kx ky : IntKind} (hw : wantS ops S o = some true) (hd : o.dst = some d) (hdn : Nat.blt d n = true) (ho : o.op = .makeSlice T x y) (hx : ev S x = some (.int kx c)) (hy : ev S y = some (.int ky c)) (hc : c = (m : Int))
    (ht : P.underlying T = some (.slice e)) (hi : (P.info? e).map (fun i => (i.zero, i.size, i.bytes)) = some (some z, 1, by_)) (hz : z.oneCell' = true) (hm : m * by_ ≤ 281474976710656) (hm2 : m ≤ maxLen)
    (kk : ∀ g w', g = w.heap.size → Ex w w' → Blk w' g e (List.replicate m z) → RG P ops Q n l ((d, .slice (some ⟨g, 0, none⟩) m m) :: S) w') : RG P ops Q n (o :: l) S w := by
  subst hc
  obtain ⟨i, hii, hz0, hz1, hz2⟩ := info_parts hi
  have hb : (i.bytes : Int) * (m : Int) ≤ 281474976710656 := by
    rw [hz2, ← Int.natCast_mul, Nat.mul_comm]; omega
  have h63 : (m : Int) ≤ 9223372036854775807 := by simp [maxLen] at hm2; omega
  have hr := run_make (P := P) w T e i z ht hii hz0 kx ky m m (by omega) (Int.le_refl _) hb h63
  simp only [Int.toNat_natCast, hz1, Nat.mul_one, cells_one hz] at hr
  refine RG.run (w' := w.alloc (.cells (madeCells #[z] m) e)) hw hd hdn (fun a ha => ?_) (kk w.heap.size _ rfl (Ex.of_alloc w _) (by have := new_blk w e (madeCells #[z] m); rwa [madeOne] at this))
  simp only [execOp, ho]; rw [ha.eval hx, ha.eval hy]
  simp [hr]

theorem Ev.mkFn {f : Fn} {first cap : Array Operand} {xs ys : List Operand} {us vs : List Value} (ho : o.op = .makeFunc f first cap) (h1 : first = xs.toArray) (h2 : cap = ys.toArray) (hx : evs S xs = some us) (hy : evs S ys = some vs) : Ev P n o S w (.func f us.toArray vs.toArray) := fun a ha => by
  simp only [execOp, ho, Instr.makeFunc]
  subst h1; subst h2
  rw [List.map_toArray, List.map_toArray, ha.evals hx, ha.evals hy]
  rfl

theorem RG.alloc_ {T k by_ : Nat} {z : Value} (hw : wantS ops S o = some true) (hd : o.dst = some d) (hdn : Nat.blt d n = true) (ho : o.op = .alloc T) (hi : (P.info? T).map (fun i => (i.zero, i.size, i.bytes)) = some (some z, k, by_))
    (kk : ∀ g w', g = w.heap.size → Ex w w' → Blk w' g T z.cells.toList → RG P ops Q n l ((d, .pointer (some ⟨g, 0, none⟩)) :: S) w') : RG P ops Q n (o :: l) S w := by
  obtain ⟨i, hii, hz0, hz1, hz2⟩ := info_parts hi
  refine RG.run (v := .pointer (some ⟨w.heap.size, 0, none⟩)) (w' := w.alloc (.cells z.cells T)) hw hd hdn (fun a ha => ?_) (kk w.heap.size _ rfl (Ex.of_alloc w _) (new_blk w T z.cells))
  simp only [execOp, ho]
  simp [Instr.alloc, zeroValue, typeInfo, hii, hz0, newVar, newRow]
theorem RG.stAll {T k : Nat} {x y : Operand} {v : Value} {cs : List Value} (hw : wantS ops S o = some true) (hd : o.dst = none) (ho : o.op = .store T x y) (hx : ev S x = some (.pointer (some ⟨g, 0, none⟩))) (hy : ev S y = some v)
    (hs : sizeP P T = some k) (hv : v.cells.size = k) (hcs : cs.length = k) (h1 : v.cells.toList.all (·.oneCell') = true) (hb : Blk w g T cs)
    (kk : ∀ w', Wr w w' g → Blk w' g T v.cells.toList → RG P ops Q n l S w') : RG P ops Q n (o :: l) S w := by
  refine RG.run0 (w' := w.setRow g v.cells.toList.toArray) hw hd (fun a ha => ?_) (kk _ (wr_setRow _ _ _) (blk_setRow hb))
  simp only [execOp, ho]; rw [ha.eval hx, ha.eval hy]
  simp [Instr.storeAt, Instr.sureAddr, storeVar_blk hb v rfl hs (by simpa using hv) hcs h1]

theorem QW.retC {fn : Func} {Φ : Value → World → Prop} {t T k : Nat} {D : TypeDesc} {us : List Value} (hr : fn.results = #[.cell t T]) (hv : lk S t = some (.pointer (some ⟨g, 0, none⟩)))
    (ht : P.underlying T = some D) (hD : aggD D = true) (hs : sizeP P T = some k) (hk : us.length = k) (hb : Blk w g T us) (h : Φ (.agg us.toArray) w) :
    QW (bodyPost P fn fun e w' => ∃ v, e = .returned v ∧ Φ v w') .ret n S w := by
  intro a ha
  have hl := run_loadCells_list (P := P) w ⟨g, 0, none⟩ us (fun j v hj => hb.cells j v hj)
  have hres : (results fn a.tmps).run P w = .ok (.agg us.toArray) w := by
    have he : a.tmps[t]?.getD undef = .pointer (some ⟨g, 0, none⟩) := by
      have := ha.eval (x := .tmp t) hv
      simpa [Act.eval, Array.getD_eq_getD_getElem?] using this
    simp only [results, hr]
    simp [Sem.run_bind, Result.andThen, he, asAddr, loadVar, run_isAgg ht, hD, run_sizeOf hs, ← hk, hl]
  exact bodyPost_ret hres ha.df ⟨_, rfl, h⟩

def encB (b : UInt8) : List Value := [.int .u8 b.toNat]
theorem encB_len (b : UInt8) : (encB b).length = 1 := rfl
theorem RG.toBytes {src dst e : Nat} {x : Operand} {s : ByteArray} {D : TypeDesc} (hw : wantS ops S o = some true) (hd : o.dst = some d) (hdn : Nat.blt d n = true) (ho : o.op = .convert src dst x) (hx : ev S x = some (.string s))
    (h1 : P.underlying src = some D) (h2 : P.underlying dst = some (.slice e)) (h3 : P.underlying e = some (.int .u8)) (hl : s.size ≤ maxLen)
    (kk : ∀ v w', Ex w w' → RdL w' 1 encB v s.data.toList → RG P ops Q n l ((d, v) :: S) w') : RG P ops Q n (o :: l) S w := by
  have hex : Ex w (Lib.bytesWorld w e s) := ⟨rfl, rfl, rfl, by rw [Lib.bytesWorld_size]; omega, fun k hk => Lib.bytesWorld_at_old w e s k hk⟩
  refine RG.run (w' := Lib.bytesWorld w e s) hw hd hdn (fun a ha => ?_) (kk (.slice (some ⟨w.heap.size, 0, none⟩) s.size (grownCap w s.size 0 e)) _ hex ?_)
  · simp only [execOp, ho]; rw [ha.eval hx]
    simp [Lib.run_convert_string_bytes w src dst e s h1 h2 h3]
  · have hsz : s.data.toList.length = s.size := Array.length_toList
    refine ⟨_, _, by rw [hsz], by rw [hsz]; exact grownCap_ge _ _ _ _, grownCap_le_maxLen _ _ _ _ hl, fun _ => ⟨_, rfl, by rw [Lib.bytesWorld_size]; exact Nat.lt_succ_self _, fun i b hi j u hu => ?_⟩⟩
    have hlt : i < s.size := by rw [← hsz]; exact (List.getElem?_eq_some_iff.1 hi).1
    cases j with
    | zero =>
      simp only [encB, List.getElem?_cons_zero, Option.some.injEq] at hu
      subst hu
      rw [add_of_add, add_at, Nat.mul_one, Nat.add_zero, Lib.bytesWorld_cell w e s i hlt]
      simp [List.getD, hi]
    | succ j => simp [encB] at hu
theorem Ev.toStr {src dst e : Nat} {x : Operand} {v : Value} {bs : List UInt8} (ho : o.op = .convert src dst x) (hx : ev S x = some v) (h1 : P.underlying src = some (.slice e)) (h2 : P.underlying e = some (.int .u8)) (h3 : P.underlying dst = some .string)
    (h : RdL w 1 encB v bs) : Ev P n o S w (.string ⟨bs.toArray⟩) := fun a ha => by
  simp only [execOp, ho]; rw [ha.eval hx]
  obtain ⟨A, c, rfl, hc1, hc2, hc3⟩ := h
  rcases Nat.eq_zero_or_pos bs.length with h0 | h0
  · have hb : bs = [] := List.eq_nil_of_length_eq_zero h0
    subst hb
    cases A with
    | none =>
      have := run_convert_bytes_nil (P := P) (w := w) src e h1 h2 ([] : List UInt8).length c dst h3
      rw [Sem.run_bind, this]; rfl
    | some ad =>
      have := run_convert_bytes_back (P := P) w src dst e ad c [] h1 h2 h3 (fun j hj => absurd hj (by simp))
      rw [Sem.run_bind, this]; rfl
  · obtain ⟨ad, rfl, _, hcs⟩ := hc3 h0
    have := run_convert_bytes_back (P := P) w src dst e ad c bs h1 h2 h3 (fun j hj => by
      have := hcs j _ (List.getElem?_eq_getElem hj) 0 _ rfl
      rwa [add_of_add, Nat.mul_one, Nat.add_zero] at this)
    simp [this]
theorem Ev.ext_ {f : FuncId} {c : Call} {xs : List Operand} {vs : List Value} {tys : Array TypeId} {v : Value} (ho : o.op = .call c) (hc : c = { callee := .value (.func f), args := xs.toArray, argTypes := tys }) (hx : evs S xs = some vs)
    (he : (callFunc f vs.toArray).run P w = .ok (.value v) w) : Ev P n o S w v := fun a ha => by
  simp only [execOp, ho, hc]
  simp only [resolve, Sem.run_bind]
  rw [ha.eval (x := .func f) (v := .func (.func f) #[] #[]) rfl]
  have hm : xs.toArray.map a.eval = vs.toArray := by rw [List.map_toArray, ha.evals hx]
  rw [hm]
  simp [Deferred.ofValue, invoke, he]
end
end Go.Proofs.YtgjnchjkjdnidaaGreat

/- Arrays built, indexed; slices of slices; append of what reads as a list. -/
namespace Go.Proofs.YtgjnchjkjdnidaaGreat
open Go.RowKit

section
variable {P : Program} {ops : Array Oper} {Q : Exit → Act → World → Prop} {n : Nat} {l : List Oper} {S : Slots} {w w' : World} {o : Oper} {d g : Nat}
theorem Ev.buildA {T e len sz sz' by_ : Nat} {z : Value} {xs : List Operand} {vs : List Value} {parts : Array (Nat × Operand)} (ho : o.op = .build T parts) (hp : parts = (xs.zipIdx.map fun x => (x.2, x.1)).toArray) (hx : evs S xs = some vs) (hlen : vs.length = len)
    (ht : P.underlying T = some (.array len e)) (hs : sizeP P e = some sz) (hi : (P.info? T).map (fun i => (i.zero, i.size, i.bytes)) = some (some z, sz', by_)) (hz : z.cells.size = len * sz) (hv : vs.all (fun v => Nat.beq v.cells.size sz) = true) :
    Ev P n o S w (.agg (vs.flatMap fun v => v.cells.toList).toArray) := fun a ha => by
  obtain ⟨i, hii, hz0, hz1, hz2⟩ := info_parts hi
  have hall : ∀ v ∈ vs, v.cells.size = sz := fun v hv' => Nat.eq_of_beq_eq_true ((List.all_eq_true.1 hv) v hv')
  have hf := fill_dense sz vs 0 z.cells hall (by simp [hlen, hz])
  simp only [Nat.zero_mul, List.take_zero, List.nil_append] at hf
  have hpe : (parts.map fun (i, x) => (i, a.eval x)).toList = (vs.zipIdx 0).map fun x => (x.2, x.1) := by
    subst hp
    rw [← ha.evals hx]
    simp only [List.map_toArray, List.zipIdx_map, List.map_map]
    rfl
  simp only [execOp, ho, Instr.build, Sem.run_bind, zeroValue, typeInfo, run_underlying ht]
  rw [hpe]
  simp [hii, hz0, run_sizeOf hs, hf]
theorem Ev.idxArr {T e len : Nat} {D : TypeDesc} {x y : Operand} {cs : List Value} {k : IntKind} {i : Nat} {v : Value} (ho : o.op = .index T x y) (hx : ev S x = some (.agg cs.toArray)) (hy : ev S y = some (.int k i)) (ht : P.underlying T = some (.array len e)) (hE : P.underlying e = some D) (hD : aggD D = false)
    (hs : sizeP P e = some 1) (h1 : i < len) (hv : cs[i]? = some v) : Ev P n o S w v := fun a ha => by
  simp only [execOp, ho]; rw [ha.eval hx, ha.eval hy]
  have hlt : i < cs.length := (List.getElem?_eq_some_iff.1 hv).1
  have hg : cs[i] = v := (List.getElem?_eq_some_iff.1 hv).2
  simp [Instr.index, asIntOf, run_underlying ht, run_sizeOf hs, h1, part, run_isAgg hE, hD, hlt, hg]
theorem Ev.ldAA {T j k : Nat} {D : TypeDesc} {x : Operand} {p : Addr} {us : List Value} {v : Value} (ho : o.op = .load T x) (hx : ev S x = some (.pointer (some ((p.add j).add k)))) (ht : P.underlying T = some D) (hD : aggD D = false) (hc : Cells w p us) (hu : us[j + k]? = some v) : Ev P n o S w v :=
  Ev.ldAt ho (by rw [← add_of_add]; exact hx) ht hD hc hu

def bnd (S : Slots) (x : Option Operand) (L : Nat) (dflt : Nat) : Prop := (x = none ∧ L = dflt) ∨ ∃ y k i, x = some y ∧ ev S y = some (.int k i) ∧ i = (L : Int)
theorem slice_ev {α : Type} {T e sz L H : Nat} {enc : α → List Value} {v : Value} {xs : List α} {x : Operand} {lo hi : Option Operand} (w0 : World) (ho : o.op = .slice T x lo hi none) (hx : ev S x = some v)
    (ht : P.underlying T = some (.slice e)) (hs : sizeP P e = some sz) (hr : RdL w0 sz enc v xs) (hl : bnd S lo L 0) (hh : bnd S hi H xs.length) (h1 : L ≤ H) (h2 : H ≤ xs.length) :
    ∃ v', (∀ w, Ev P n o S w v') ∧ RdL w0 sz enc v' ((xs.take H).drop L) := by
  obtain ⟨A, c, rfl, hc1, hc2, hc3⟩ := hr
  have hlen : ((xs.take H).drop L).length = H - L := by rw [List.length_drop, List.length_take, Nat.min_eq_left h2]
  refine ⟨.slice (if c = L then A else A.map (·.add (L * sz))) (H - L) (c - L), fun w a ha => ?_, ?_⟩
  · have key : (Instr.sliceBounds true xs.length c (lo.map a.eval) (hi.map a.eval) none).run P w = .ok (L, H, c) w := by
      rcases hl with ⟨rfl, rfl⟩ | ⟨yl, kl, il, rfl, hyl, rfl⟩ <;> rcases hh with ⟨rfl, rfl⟩ | ⟨yh, kh, ih, rfl, hyh, rfl⟩
      · simp [Instr.sliceBounds]
      · simp [Instr.sliceBounds, Instr.sliceBound, asIntOf, ha.eval hyh, show H ≤ c by omega]
      · simp [Instr.sliceBounds, Instr.sliceBound, asIntOf, ha.eval hyl, h1]
      · simp [Instr.sliceBounds, Instr.sliceBound, asIntOf, ha.eval hyl, ha.eval hyh, h1, show H ≤ c by omega]
    simp only [execOp, ho]; rw [ha.eval hx]
    simp only [Instr.sliceAt, Instr.slice, Option.map_none, Sem.run_bind, run_underlying ht, Result.andThen, key, run_sizeOf hs, Sem.run_pure]
  · refine ⟨_, c - L, by rw [hlen], by rw [hlen]; omega, by omega, fun hpos => ?_⟩
    rw [hlen] at hpos
    obtain ⟨ad, rfl, hbk, hcs⟩ := hc3 (by omega)
    rw [if_neg (by omega)]
    refine ⟨ad.add (L * sz), rfl, by rw [block_of_add]; exact hbk, fun i a hi => ?_⟩
    rw [List.getElem?_drop, List.getElem?_take] at hi
    split at hi
    · have := hcs _ _ hi
      rw [add_of_add, ← Nat.add_mul]; exact this
    · cases hi
theorem RG.sliceL {α : Type} {T e sz L H : Nat} {enc : α → List Value} {v : Value} {xs : List α} {x : Operand} {lo hi : Option Operand} (w0 : World) (hw : wantS ops S o = some true) (hd : o.dst = some d) (hdn : Nat.blt d n = true) (ho : o.op = .slice T x lo hi none) (hx : ev S x = some v)
    (ht : P.underlying T = some (.slice e)) (hs : sizeP P e = some sz) (hr : RdL w0 sz enc v xs) (hl : bnd S lo L 0) (hh : bnd S hi H xs.length) (h1 : L ≤ H) (h2 : H ≤ xs.length)
    (kk : ∀ v', RdL w0 sz enc v' ((xs.take H).drop L) → RG P ops Q n l ((d, v') :: S) w) : RG P ops Q n (o :: l) S w := by
  obtain ⟨v', hv', hr'⟩ := slice_ev (P := P) (n := n) w0 ho hx ht hs hr hl hh h1 h2
  exact RG.vl hw hd hdn (hv' w) (kk v' hr')
theorem AG.sliceL {U : List Nat} {row : Rk} {f : Nat} {listed : Array Bool} {α : Type} {T e sz L H : Nat} {enc : α → List Value} {v : Value} {xs : List α} {x : Operand} {lo hi : Option Operand} (w0 : World) (i : Nat) {oi : Oper} (hi' : ops[i]? = some oi) (hns : Region.noSelect ops = true) (hf : freeZ ops U listed i false = true) (hw : wantS ops S oi = some true) (hd : oi.dst = some d) (hdn : Nat.blt d n = true) (ho : oi.op = .slice T x lo hi none) (hx : ev S x = some v)
    (ht : P.underlying T = some (.slice e)) (hs : sizeP P e = some sz) (hr : RdL w0 sz enc v xs) (hl : bnd S lo L 0) (hh : bnd S hi H xs.length) (h1 : L ≤ H) (h2 : H ≤ xs.length)
    (kk : ∀ v', RdL w0 sz enc v' ((xs.take H).drop L) → AG P ops Q U row n f (listed.setIfInBounds i true) ((d, v') :: S) w) : AG P ops Q U row n (f + 1) listed S w := by
  obtain ⟨v', hv', hr'⟩ := slice_ev (P := P) (n := n) w0 ho hx ht hs hr hl hh h1 h2
  exact AG.takeW i hi' hns hf hw hd hdn (fun w' => hv' w') (kk v' hr')
theorem cells_flat {α : Type} {sz : Nat} {enc : α → List Value} {ad : Addr} (hsz : ∀ a, (enc a).length = sz) : ∀ (xs : List α) (i0 : Nat), (∀ i a, xs[i]? = some a → Cells w (ad.add ((i0 + i) * sz)) (enc a)) → Cells w (ad.add (i0 * sz)) (xs.flatMap enc)
  | [], _, _ => fun j u h => by simp at h
  | x :: xs, i0, h => fun j u hu => by
    rw [List.flatMap_cons] at hu
    by_cases hj : j < (enc x).length
    · rw [List.getElem?_append_left hj] at hu
      have := h 0 x rfl j u hu
      simpa using this
    · rw [List.getElem?_append_right (by omega)] at hu
      have := cells_flat hsz xs (i0 + 1) (fun i a hi => by have := h (i + 1) a (by simpa using hi); rwa [show i0 + (i + 1) = i0 + 1 + i from by omega] at this) (j - (enc x).length) u hu
      rw [add_of_add] at this ⊢
      rw [show i0 * sz + j = (i0 + 1) * sz + (j - (enc x).length) from by rw [hsz] at hj ⊢; rw [Nat.add_mul]; omega]
      exact this
theorem RdL.flat {α : Type} {sz : Nat} {enc : α → List Value} {v : Value} {xs : List α} (hsz : ∀ a, (enc a).length = sz) (h : RdL w sz enc v xs) : ∃ A c, v = .slice A xs.length c ∧ (0 < xs.length → ∃ ad, A = some ad ∧ Cells w ad (xs.flatMap enc)) := by
  obtain ⟨A, c, rfl, h1, h2, h3⟩ := h
  refine ⟨A, c, rfl, fun hl => ?_⟩
  obtain ⟨ad, rfl, hb, hc⟩ := h3 hl
  refine ⟨ad, rfl, ?_⟩
  have := cells_flat (w := w) (ad := ad) hsz xs 0 (fun i a hi => by rw [Nat.zero_add]; exact hc i a hi)
  rwa [Nat.zero_mul, add_zero_] at this
theorem RG.appL {α : Type} {T e sz by_ base m : Nat} {enc : α → List Value} {z v u : Value} {x y : Operand} {c : Call} {xs : List Value} {us : List α} (hw : wantS ops S o = some true) (hd : o.dst = some d) (hdn : Nat.blt d n = true) (ho : o.op = .call c) (hc : c = { callee := .builtin .append, args := #[x, y], argTypes := #[T, T] })
    (hx : ev S x = some v) (hy : ev S y = some u) (ht : P.underlying T = some (.slice e)) (hi : (P.info? e).map (fun i => (i.zero, i.size, i.bytes)) = some (some z, sz, by_)) (hz : z.cells.size = sz) (hsz : Nat.blt 0 sz = true) (henc : ∀ a, (enc a).length = sz) (h1' : ∀ a, (enc a).all (·.oneCell') = true)
    (hown : w.ownsRow base e sz v m xs) (hr : RdL w sz enc u us) (hlen : m + us.length ≤ maxLen) (hby : (m + us.length) * by_ ≤ 140737488355328) (hbase : base ≤ w.heap.size)
    (kk : ∀ v' w', w'.ownsRow base e sz v' (m + us.length) (xs ++ us.flatMap enc) → w.grownBy w' v.ownBlock → (v'.ownBlock = v.ownBlock ∨ v'.ownBlock = some w.heap.size) → RG P ops Q n l ((d, v') :: S) w') : RG P ops Q n (o :: l) S w := by
  obtain ⟨A, cp, rfl, hA⟩ := hr.flat henc
  exact RG.app hw hd hdn ho hc hx hy ht hi hz hsz hown (length_flatMap_enc henc us) hA (List.all_eq_true.2 fun b hb => by
    obtain ⟨a, _, hb'⟩ := List.mem_flatMap.1 hb
    exact (List.all_eq_true.1 (h1' a)) b hb') hlen hby hbase kk
theorem RG.build0 {T e sz : Nat} {parts : Array (Nat × Operand)} (hw : wantS ops S o = some true) (hd : o.dst = some d) (hdn : Nat.blt d n = true) (ho : o.op = .buildSlice T 0 parts) (hp : parts = #[]) (ht : P.underlying T = some (.slice e)) (hs : sizeP P e = some sz)
    (kk : ∀ g w', g = w.heap.size → Ex w w' → Blk w' g e [] → RG P ops Q n l ((d, .slice (some ⟨g, 0, none⟩) 0 0) :: S) w') : RG P ops Q n (o :: l) S w := by
  refine RG.run (w' := w.alloc (.cells #[] e)) hw hd hdn (fun a ha => ?_) (kk w.heap.size _ rfl (Ex.of_alloc w _) (new_blk w e #[]))
  subst hp
  simp only [execOp, ho, Instr.buildSlice, Sem.run_bind, run_underlying ht]
  simp [run_sizeOf hs, Instr.fill, newRow, Array.range_zero']
theorem made_list {α : Type} {z : Value} {sz m : Nat} {enc : α → List Value} {a : α} (henc : ∀ a, (enc a).length = sz) (hz : z.cells.toList = enc a) (hsz : 0 < sz) : (madeCells z.cells (m * sz)).toList = (List.replicate m a).flatMap enc := by
  have hzs : z.cells.size = sz := by rw [← Array.length_toList, hz, henc]
  apply List.ext_getElem?
  intro i
  by_cases hi : i < m * sz
  · have hmod : i % sz < sz := Nat.mod_lt _ hsz
    have hq : i / sz < m := (Nat.div_lt_iff_lt_mul hsz).2 hi
    have hu : (enc a)[i % sz]? = some z.cells[i % sz]! := by
      rw [← hz, Array.getElem?_toList, getElem!_pos z.cells _ (by omega), Array.getElem?_eq_getElem (by omega)]
    have := getElem?_flatMap_at henc (List.replicate m a) (i / sz) a (by simp [hq]) (i % sz) _ hu
    rw [Nat.div_add_mod' i sz] at this
    rw [this]
    simp [madeCells, hi, hzs]
  · rw [List.getElem?_eq_none (by simp [madeCells]; omega), List.getElem?_eq_none (by rw [length_flatMap_enc henc, List.length_replicate]; omega)]
theorem RG.makeL {α : Type} {T e sz by_ m : Nat} {c : Int} {z : Value} {enc : α → List Value} (a : α) {x y : Operand} {kx ky : IntKind} (hw : wantS ops S o = some true) (hd : o.dst = some d) (hdn : Nat.blt d n = true) (ho : o.op = .makeSlice T x y) (hx : ev S x = some (.int kx c)) (hy : ev S y = some (.int ky c)) (hc : c = (m : Int))
    (ht : P.underlying T = some (.slice e)) (hi : (P.info? e).map (fun i => (i.zero, i.size, i.bytes)) = some (some z, sz, by_)) (henc : ∀ a, (enc a).length = sz) (hz : z.cells.toList = enc a) (hsz : Nat.blt 0 sz = true) (hm : m * by_ ≤ 281474976710656) (hm2 : m ≤ maxLen)
    (kk : ∀ g w', g = w.heap.size → Ex w w' → Blk w' g e ((List.replicate m a).flatMap enc) → RdL w' sz enc (.slice (some ⟨g, 0, none⟩) m m) (List.replicate m a) → RG P ops Q n l ((d, .slice (some ⟨g, 0, none⟩) m m) :: S) w') : RG P ops Q n (o :: l) S w := by
  subst hc
  obtain ⟨i, hii, hz0, hz1, hz2⟩ := info_parts hi
  have hb : (i.bytes : Int) * (m : Int) ≤ 281474976710656 := by
    rw [hz2, ← Int.natCast_mul, Nat.mul_comm]; omega
  have h63 : (m : Int) ≤ 9223372036854775807 := by simp [maxLen] at hm2; omega
  have hr := run_make (P := P) w T e i z ht hii hz0 kx ky m m (by omega) (Int.le_refl _) hb h63
  simp only [Int.toNat_natCast, hz1] at hr
  have hbk : Blk (w.alloc (.cells (madeCells z.cells (m * sz)) e)) w.heap.size e ((List.replicate m a).flatMap enc) := by
    have := new_blk w e (madeCells z.cells (m * sz))
    rwa [made_list henc hz (by simpa [Nat.blt_eq] using hsz)] at this
  refine RG.run (w' := w.alloc (.cells (madeCells z.cells (m * sz)) e)) hw hd hdn (fun a ha => ?_) (kk w.heap.size _ rfl (Ex.of_alloc w _) hbk ?_)
  · simp only [execOp, ho]; rw [ha.eval hx, ha.eval hy]
    simp [hr]
  · have := RdL.of_blk (cap := (List.replicate m a).length) henc hbk (Nat.le_refl _) (by rw [List.length_replicate]; exact hm2)
    rwa [List.length_replicate] at this
theorem own_blk {B m sz : Nat} {e : TypeId} {cs : List Value} (h : Blk w g e cs) (hB : B ≤ g) (hm : m ≤ maxLen) (hc : cs.length = m * sz) : w.ownsRow B e sz (.slice (some ⟨g, 0, none⟩) m m) m cs :=
  ⟨hc, .inr ⟨g, m, cs.toArray, rfl, hB, h, Nat.le_refl _, hm, by simpa using hc, by simp [← hc]⟩⟩
theorem own_open {B m sz : Nat} {e : TypeId} {v : Value} {xs : List Value} (h : w.ownsRow B e sz v m xs) (hm : 0 < m) : ∃ g cap cs, v = .slice (some ⟨g, 0, none⟩) m cap ∧ B ≤ g ∧ Blk w g e cs ∧ m ≤ cap ∧ cap ≤ maxLen ∧ cs.length = cap * sz ∧ cs.take (m * sz) = xs := by
  rcases h.2 with ⟨_, h0⟩ | ⟨g, cap, cur, rfl, hb, hg, h1, h2, h3, h4⟩
  · omega
  · exact ⟨g, cap, cur.toList, rfl, hb, by unfold Blk; simpa using hg, h1, h2, by simpa using h3, h4⟩
theorem own_at {B m sz : Nat} {e : TypeId} {v : Value} {xs : List Value} (h : w.ownsRow B e sz v m xs) (hm : 0 < m) : ∃ g cap, v = .slice (some ⟨g, 0, none⟩) m cap ∧ B ≤ g ∧ g < w.heap.size := by
  obtain ⟨g, cap, cs, rfl, hB, hb, _⟩ := own_open h hm
  exact ⟨g, cap, rfl, hB, hb.lt⟩
theorem own_new {B m sz g : Nat} {e : TypeId} {v : Value} {xs : List Value} (h : w.ownsRow B e sz v m xs) (hg : g = w.heap.size) : v.ownBlock ≠ some g := fun e => by have := (h.lt g e).2; omega
theorem sep_app {v v' : Value} {g : Nat} (ha : v'.ownBlock = v.ownBlock ∨ v'.ownBlock = some w.heap.size) (hs : v.ownBlock ≠ some g) (hl : g < w.heap.size) : v'.ownBlock ≠ some g := by
  rcases ha with e | e <;> rw [e]
  · exact hs
  · intro h; injection h with h; omega
theorem RG.stO {T g k m cap B sz : Nat} {e : TypeId} {x y : Operand} {v : Value} {xs : List Value} (hw : wantS ops S o = some true) (hd : o.dst = none) (ho : o.op = .store T x y) (hx : ev S x = some (.pointer (some ((⟨g, 0, none⟩ : Addr).add k)))) (hy : ev S y = some v)
    (hs : sizeP P T = some 1) (h1 : v.oneCell' = true) (hown : w.ownsRow B e sz (.slice (some ⟨g, 0, none⟩) m cap) m xs) (hk : k < m * sz)
    (kk : ∀ w', Wr w w' g → w'.ownsRow B e sz (.slice (some ⟨g, 0, none⟩) m cap) m (xs.set k v) → RG P ops Q n l S w') : RG P ops Q n (o :: l) S w := by
  have hm : 0 < m := Nat.pos_of_ne_zero fun h0 => by rw [h0, Nat.zero_mul] at hk; omega
  obtain ⟨g', cap', cs, he, hB, hb, hmc, hcm, hcl, htk⟩ := own_open hown hm
  injection he with he1 _ he2
  injection he1 with he1
  injection he1 with he1
  subst he1 he2
  have hkc : k < cs.length := by
    rw [hcl]; exact Nat.lt_of_lt_of_le hk (Nat.mul_le_mul_right _ hmc)
  refine RG.st hw hd ho hx hy hs h1 hb (by rw [Nat.blt_eq]; exact hkc) fun w' hwr hb' => kk w' hwr ⟨?_, .inr ⟨g, cap, (cs.set k v).toArray, rfl, hB, hb', hmc, hcm, by simpa using hcl, ?_⟩⟩
  · rw [List.length_set]; exact hown.1
  · show (cs.set k v).take (m * sz) = _
    rw [List.take_set, htk]
theorem RG.stO2 {T g k j m cap B sz : Nat} {e : TypeId} {x y : Operand} {v : Value} {xs : List Value} (hw : wantS ops S o = some true) (hd : o.dst = none) (ho : o.op = .store T x y) (hx : ev S x = some (.pointer (some (((⟨g, 0, none⟩ : Addr).add k).add j)))) (hy : ev S y = some v)
    (hs : sizeP P T = some 1) (h1 : v.oneCell' = true) (hown : w.ownsRow B e sz (.slice (some ⟨g, 0, none⟩) m cap) m xs) (hk : k + j < m * sz)
    (kk : ∀ w', Wr w w' g → w'.ownsRow B e sz (.slice (some ⟨g, 0, none⟩) m cap) m (xs.set (k + j) v) → RG P ops Q n l S w') : RG P ops Q n (o :: l) S w :=
  RG.stO hw hd ho (by rw [← add_of_add]; exact hx) hy hs h1 hown hk kk
theorem RG.st2 {T g k j : Nat} {t : TypeId} {x y : Operand} {v : Value} {cs : List Value} (hw : wantS ops S o = some true) (hd : o.dst = none) (ho : o.op = .store T x y) (hx : ev S x = some (.pointer (some (((⟨g, 0, none⟩ : Addr).add k).add j)))) (hy : ev S y = some v)
    (hs : sizeP P T = some 1) (h1 : v.oneCell' = true) (hb : Blk w g t cs) (hk' : Nat.blt (k + j) cs.length = true)
    (kk : ∀ w', Wr w w' g → Blk w' g t (cs.set (k + j) v) → RG P ops Q n l S w') : RG P ops Q n (o :: l) S w :=
  RG.st hw hd ho (by rw [← add_of_add]; exact hx) hy hs h1 hb hk' kk
theorem set_flat {α : Type} {sz : Nat} {enc : α → List Value} (hsz : ∀ a, (enc a).length = sz) (b : α) (v : Value) (j : Nat) (hj : j < sz) : ∀ (xs : List α) (k : Nat) (a : α), xs[k]? = some a → (enc a).set j v = enc b → (xs.flatMap enc).set (k * sz + j) v = (xs.set k b).flatMap enc
  | [], k, a, h, _ => by simp at h
  | x :: xs, 0, a, h, he => by
    simp only [List.getElem?_cons_zero, Option.some.injEq] at h
    subst h
    rw [List.flatMap_cons, List.set_cons_zero, List.flatMap_cons, Nat.zero_mul, Nat.zero_add, List.set_append_left _ _ (by rw [hsz]; exact hj), he]
  | x :: xs, k + 1, a, h, he => by
    have ih := set_flat hsz b v j hj xs k a (by simpa using h) he
    rw [List.flatMap_cons, List.set_cons_succ, List.flatMap_cons, List.set_append_right _ _ (by rw [hsz, Nat.add_mul]; omega), hsz, show (k + 1) * sz + j - sz = k * sz + j from by rw [Nat.add_mul]; omega, ih]
/-! rows of the call's own, known as lists -/
theorem RG.appLL {α : Type} {T e sz by_ base : Nat} {enc : α → List Value} {z v u : Value} {x y : Operand} {c : Call} {xs us : List α} (hw : wantS ops S o = some true) (hd : o.dst = some d) (hdn : Nat.blt d n = true) (ho : o.op = .call c) (hc : c = { callee := .builtin .append, args := #[x, y], argTypes := #[T, T] })
    (hx : ev S x = some v) (hy : ev S y = some u) (ht : P.underlying T = some (.slice e)) (hi : (P.info? e).map (fun i => (i.zero, i.size, i.bytes)) = some (some z, sz, by_)) (hz : z.cells.size = sz) (hsz : Nat.blt 0 sz = true) (henc : ∀ a, (enc a).length = sz) (h1' : ∀ a, (enc a).all (·.oneCell') = true)
    (hown : w.ownsRow base e sz v xs.length (xs.flatMap enc)) (hr : RdL w sz enc u us) (hlen : xs.length + us.length ≤ maxLen) (hby : (xs.length + us.length) * by_ ≤ 140737488355328) (hbase : base ≤ w.heap.size)
    (kk : ∀ v' w', w'.ownsRow base e sz v' (xs ++ us).length ((xs ++ us).flatMap enc) → w.grownBy w' v.ownBlock → (v'.ownBlock = v.ownBlock ∨ v'.ownBlock = some w.heap.size) → RG P ops Q n l ((d, v') :: S) w') : RG P ops Q n (o :: l) S w :=
  RG.appL hw hd hdn ho hc hx hy ht hi hz hsz henc h1' hown hr hlen hby hbase fun v' w' h => kk v' w' (by rw [List.length_append, List.flatMap_append]; exact h)
theorem own_set {α : Type} {B sz : Nat} {e : TypeId} {v u : Value} {enc : α → List Value} {xs : List α} {a : α} (hsz : ∀ a, (enc a).length = sz) (b : α) (k j : Nat) (hj : j < sz) (hk : xs[k]? = some a) (he : (enc a).set j u = enc b)
    (h : w.ownsRow B e sz v xs.length ((xs.flatMap enc).set (k * sz + j) u)) : w.ownsRow B e sz v (xs.set k b).length ((xs.set k b).flatMap enc) := by
  rw [List.length_set, ← set_flat hsz b u j hj xs k a hk he]; exact h
theorem bx_cut (T : List UInt8) (i j : Nat) : (⟨T.toArray⟩ : ByteArray).extract i j = ⟨((T.take j).drop i).toArray⟩ := by
  apply ByteArray.ext
  simp [List.extract_toArray, List.drop_take]
theorem bx_cat (a b : List UInt8) : (⟨a.toArray⟩ : ByteArray) ++ ⟨b.toArray⟩ = ⟨(a ++ b).toArray⟩ := by
  apply ByteArray.ext; simp
theorem RG.appF {α : Type} {T e sz by_ m : Nat} {enc : α → List Value} {z u : Value} {x y : Operand} {c : Call} {b : Addr} {olds : List Value} {us : List α} (hw : wantS ops S o = some true) (hd : o.dst = some d) (hdn : Nat.blt d n = true) (ho : o.op = .call c) (hc : c = { callee := .builtin .append, args := #[x, y], argTypes := #[T, T] })
    (hx : ev S x = some (.slice (some b) m m)) (hy : ev S y = some u) (ht : P.underlying T = some (.slice e)) (hi : (P.info? e).map (fun i => (i.zero, i.size, i.bytes)) = some (some z, sz, by_)) (hz : z.cells.size = sz) (henc : ∀ a, (enc a).length = sz)
    (hl : olds.length = m * sz) (hcs : Cells w b olds) (hr : RdL w sz enc u us) (hpos : 0 < us.length) (hlen : m + us.length ≤ maxLen) (hby : (m + us.length) * by_ ≤ 140737488355328)
    (kk : ∀ v' w', Ex w w' → w'.ownsRow w.heap.size e sz v' (m + us.length) (olds ++ us.flatMap enc) → RG P ops Q n l ((d, v') :: S) w') : RG P ops Q n (o :: l) S w := by
  obtain ⟨A, cp, rfl, hA⟩ := hr.flat henc
  obtain ⟨ad, rfl, hca⟩ := hA hpos
  obtain ⟨i, hii, hz0, hz1, hz2⟩ := info_parts hi
  subst hz1
  subst hz2
  have hlu := length_flatMap_enc henc us
  have hsm : m + us.length ≤ 9223372036854775807 := by simp only [maxLen] at hlen; omega
  have hr := run_append_grow (P := P) (w := w) T o.type e i z ht hii hz0 b m m olds hl hcs ad us.length cp (us.flatMap enc) hlu hca (by omega) (by omega) (growslice_fits (by omega) hby)
  have hlen2 : (olds ++ us.flatMap enc).length = (m + us.length) * i.size := by rw [List.length_append, hl, hlu, Nat.add_mul]
  have hge := grownCap_ge w (m + us.length) m e
  refine RG.run (w' := w.drew.alloc (.cells (olds.toArray ++ (us.flatMap enc).toArray ++ Builtin.zeroCells z.cells (grownCap w (m + us.length) m e - (m + us.length))) e)) hw hd hdn (fun a ha => ?_) (kk _ _ ((Ex.of_drew w).tr (Ex.of_alloc w.drew _)) ⟨hlen2, .inr ⟨w.heap.size, _, _, rfl, Nat.le_refl _, heap_alloc_new w.drew _, hge, grownCap_le_maxLen w _ _ e hlen, ?_, ?_⟩⟩)
  · simp only [execOp, ho, hc]
    simp [resolve, invoke, builtin, ha.eval hx, ha.eval hy, hr]
  · simp only [Array.size_append, List.size_toArray, size_zeroCells, hz, hl, hlu, ← Nat.add_mul]
    congr 1
    omega
  · simp only [Array.toList_append, List.append_assoc]
    rw [← List.append_assoc, ← hlen2]
    exact List.take_left
end
end Go.Proofs.YtgjnchjkjdnidaaGreat

/- Closed facts on this translation: sizes and fields of types, which functions are entered. Written by program. -/
namespace Go.Proofs.YtgjnchjkjdnidaaGreat

theorem sz_3 : sizeP Tryz.prog 3 = some 1 := by kernel_rfl
theorem inf_3 : (Tryz.prog.info? 3).map (fun i => (i.zero, i.size, i.bytes)) = some (some (.int .i64 0), 1, 8) := by kernel_rfl
theorem sz_4 : sizeP Tryz.prog 4 = some 1 := by kernel_rfl
theorem sz_5 : sizeP Tryz.prog 5 = some 1 := by kernel_rfl
theorem inf_5 : (Tryz.prog.info? 5).map (fun i => (i.zero, i.size, i.bytes)) = some (some (.int .u8 0), 1, 1) := by kernel_rfl
theorem sz_21 : sizeP Tryz.prog 21 = some 1 := by kernel_rfl
theorem inf_21 : (Tryz.prog.info? 21).map (fun i => (i.zero, i.size, i.bytes)) = some (some (.int .i32 0), 1, 4) := by kernel_rfl
theorem sz_23 : sizeP Tryz.prog 23 = some 6 := by kernel_rfl
theorem fld_23_0 : fldOff Tryz.prog 23 0 = some 0 := by kernel_rfl
theorem fld_23_1 : fldOff Tryz.prog 23 1 = some 1 := by kernel_rfl
theorem fld_23_2 : fldOff Tryz.prog 23 2 = some 2 := by kernel_rfl
theorem fld_23_3 : fldOff Tryz.prog 23 3 = some 3 := by kernel_rfl
theorem fld_23_4 : fldOff Tryz.prog 23 4 = some 4 := by kernel_rfl
theorem fld_23_5 : fldOff Tryz.prog 23 5 = some 5 := by kernel_rfl
theorem sz_26 : sizeP Tryz.prog 26 = some 1 := by kernel_rfl
theorem inf_26 : (Tryz.prog.info? 26).map (fun i => (i.zero, i.size, i.bytes)) = some (some (.int .i64 0), 1, 8) := by kernel_rfl
theorem sz_29 : sizeP Tryz.prog 29 = some 1 := by kernel_rfl
theorem sz_31 : sizeP Tryz.prog 31 = some 4 := by kernel_rfl
theorem inf_31 : (Tryz.prog.info? 31).map (fun i => (i.zero, i.size, i.bytes)) = some (some (.agg #[.string ⟨#[]⟩, .bool false, .slice none 0 0, .slice none 0 0]), 4, 72) := by kernel_rfl
theorem fld_31_0 : fldOff Tryz.prog 31 0 = some 0 := by kernel_rfl
theorem fld_31_1 : fldOff Tryz.prog 31 1 = some 1 := by kernel_rfl
theorem fld_31_2 : fldOff Tryz.prog 31 2 = some 2 := by kernel_rfl
theorem fld_31_3 : fldOff Tryz.prog 31 3 = some 3 := by kernel_rfl
theorem sz_36 : sizeP Tryz.prog 36 = some 3 := by kernel_rfl
theorem inf_36 : (Tryz.prog.info? 36).map (fun i => (i.zero, i.size, i.bytes)) = some (some (.agg #[.int .i64 0, .int .i64 0, .int .i64 0]), 3, 24) := by kernel_rfl
theorem fld_36_0 : fldOff Tryz.prog 36 0 = some 0 := by kernel_rfl
theorem fld_36_1 : fldOff Tryz.prog 36 1 = some 1 := by kernel_rfl
theorem fld_36_2 : fldOff Tryz.prog 36 2 = some 2 := by kernel_rfl
theorem sz_37 : sizeP Tryz.prog 37 = some 3 := by kernel_rfl
theorem inf_37 : (Tryz.prog.info? 37).map (fun i => (i.zero, i.size, i.bytes)) = some (some (.agg #[.int .i64 0, .int .i64 0, .int .i64 0]), 3, 24) := by kernel_rfl
theorem fld_37_0 : fldOff Tryz.prog 37 0 = some 0 := by kernel_rfl
theorem fld_37_1 : fldOff Tryz.prog 37 1 = some 1 := by kernel_rfl
theorem fld_37_2 : fldOff Tryz.prog 37 2 = some 2 := by kernel_rfl
theorem sz_38 : sizeP Tryz.prog 38 = some 6 := by kernel_rfl
theorem inf_38 : (Tryz.prog.info? 38).map (fun i => (i.zero, i.size, i.bytes)) = some (some (.agg #[.int .i64 0, .int .i64 0, .int .i64 0, .int .i64 0, .int .i64 0, .int .i64 0]), 6, 48) := by kernel_rfl
theorem fld_38_0 : fldOff Tryz.prog 38 0 = some 0 := by kernel_rfl
theorem fld_38_1 : fldOff Tryz.prog 38 1 = some 1 := by kernel_rfl
theorem fld_38_2 : fldOff Tryz.prog 38 2 = some 2 := by kernel_rfl
theorem fld_38_3 : fldOff Tryz.prog 38 3 = some 3 := by kernel_rfl
theorem fld_38_4 : fldOff Tryz.prog 38 4 = some 4 := by kernel_rfl
theorem fld_38_5 : fldOff Tryz.prog 38 5 = some 5 := by kernel_rfl
theorem sz_39 : sizeP Tryz.prog 39 = some 4 := by kernel_rfl
theorem inf_39 : (Tryz.prog.info? 39).map (fun i => (i.zero, i.size, i.bytes)) = some (some (.agg #[.string ⟨#[]⟩, .bool false, .slice none 0 0, .slice none 0 0]), 4, 72) := by kernel_rfl
theorem fld_39_0 : fldOff Tryz.prog 39 0 = some 0 := by kernel_rfl
theorem fld_39_1 : fldOff Tryz.prog 39 1 = some 1 := by kernel_rfl
theorem fld_39_2 : fldOff Tryz.prog 39 2 = some 2 := by kernel_rfl
theorem fld_39_3 : fldOff Tryz.prog 39 3 = some 3 := by kernel_rfl
theorem sz_58 : sizeP Tryz.prog 58 = some 1 := by kernel_rfl
theorem inf_58 : (Tryz.prog.info? 58).map (fun i => (i.zero, i.size, i.bytes)) = some (some (.slice none 0 0), 1, 24) := by kernel_rfl
theorem sz_62 : sizeP Tryz.prog 62 = some 16 := by kernel_rfl
theorem inf_62 : (Tryz.prog.info? 62).map (fun i => (i.zero, i.size, i.bytes)) = some (some (.agg #[.int .u8 0, .int .u8 0, .int .u8 0, .int .u8 0, .int .u8 0, .int .u8 0, .int .u8 0, .int .u8 0, .int .u8 0, .int .u8 0, .int .u8 0, .int .u8 0, .int .u8 0, .int .u8 0, .int .u8 0, .int .u8 0]), 16, 16) := by kernel_rfl
theorem sz_73 : sizeP Tryz.prog 73 = some 2 := by kernel_rfl
theorem inf_73 : (Tryz.prog.info? 73).map (fun i => (i.zero, i.size, i.bytes)) = some (some (.agg #[.slice none 0 0, .slice none 0 0]), 2, 48) := by kernel_rfl
theorem fld_73_0 : fldOff Tryz.prog 73 0 = some 0 := by kernel_rfl
theorem fld_73_1 : fldOff Tryz.prog 73 1 = some 1 := by kernel_rfl
theorem inf_89 : (Tryz.prog.info? 89).map (fun i => (i.zero, i.size, i.bytes)) = some (some (.agg #[.pointer none, .slice none 0 0]), 2, 32) := by kernel_rfl
theorem sz_107 : sizeP Tryz.prog 107 = some 3 := by kernel_rfl
theorem inf_107 : (Tryz.prog.info? 107).map (fun i => (i.zero, i.size, i.bytes)) = some (some (.agg #[.int .u8 0, .int .u8 0, .int .u8 0]), 3, 3) := by kernel_rfl
theorem sz_108 : sizeP Tryz.prog 108 = some 9 := by kernel_rfl
theorem inf_108 : (Tryz.prog.info? 108).map (fun i => (i.zero, i.size, i.bytes)) = some (some (.agg #[.int .u8 0, .int .u8 0, .int .u8 0, .int .u8 0, .int .u8 0, .int .u8 0, .int .u8 0, .int .u8 0, .int .u8 0]), 9, 9) := by kernel_rfl
theorem sz_127 : sizeP Tryz.prog 127 = some 63 := by kernel_rfl
theorem inf_127 : (Tryz.prog.info? 127).map (fun i => (i.zero, i.size, i.bytes)) = some (some (.agg #[.bool false, .bool false, .bool false, .bool false, .bool false, .bool false, .bool false, .bool false, .bool false, .bool false, .bool false, .bool false, .bool false, .bool false, .bool false, .bool false, .bool false, .bool false, .bool false, .bool false, .bool false, .bool false, .bool false, .bool false, .bool false, .bool false, .bool false, .bool false, .bool false, .bool false, .bool false, .bool false, .bool false, .bool false, .bool false, .bool false, .bool false, .bool false, .bool false, .bool false, .bool false, .bool false, .bool false, .bool false, .bool false, .bool false, .bool false, .bool false, .bool false, .bool false, .bool false, .bool false, .bool false, .bool false, .bool false, .bool false, .bool false, .bool false, .bool false, .bool false, .bool false, .bool false, .bool false]), 63, 63) := by kernel_rfl
theorem sz_128 : sizeP Tryz.prog 128 = some 4 := by kernel_rfl
theorem inf_128 : (Tryz.prog.info? 128).map (fun i => (i.zero, i.size, i.bytes)) = some (some (.agg #[.int .u8 0, .int .u8 0, .int .u8 0, .int .u8 0]), 4, 4) := by kernel_rfl
theorem sz_133 : sizeP Tryz.prog 133 = some 5 := by kernel_rfl
theorem sz_135 : sizeP Tryz.prog 135 = some 20 := by kernel_rfl
theorem inf_135 : (Tryz.prog.info? 135).map (fun i => (i.zero, i.size, i.bytes)) = some (some (.agg #[.int .u8 0, .int .u8 0, .int .u8 0, .int .u8 0, .int .u8 0, .int .u8 0, .int .u8 0, .int .u8 0, .int .u8 0, .int .u8 0, .int .u8 0, .int .u8 0, .int .u8 0, .int .u8 0, .int .u8 0, .int .u8 0, .int .u8 0, .int .u8 0, .int .u8 0, .int .u8 0]), 20, 20) := by kernel_rfl
theorem inf_178 : (Tryz.prog.info? 178).map (fun i => (i.zero, i.size, i.bytes)) = some (some (.agg #[.int .u8 0, .int .u8 0, .int .u8 0, .int .u8 0, .int .u8 0, .int .u8 0, .int .u8 0, .int .u8 0, .int .u8 0, .int .u8 0, .int .u8 0, .int .u8 0, .int .u8 0, .int .u8 0, .int .u8 0, .int .u8 0]), 16, 16) := by kernel_rfl
theorem sz_185 : sizeP Tryz.prog 185 = some 63 := by kernel_rfl
theorem inf_185 : (Tryz.prog.info? 185).map (fun i => (i.zero, i.size, i.bytes)) = some (some (.agg #[.int .u8 0, .int .u8 0, .int .u8 0, .int .u8 0, .int .u8 0, .int .u8 0, .int .u8 0, .int .u8 0, .int .u8 0, .int .u8 0, .int .u8 0, .int .u8 0, .int .u8 0, .int .u8 0, .int .u8 0, .int .u8 0, .int .u8 0, .int .u8 0, .int .u8 0, .int .u8 0, .int .u8 0, .int .u8 0, .int .u8 0, .int .u8 0, .int .u8 0, .int .u8 0, .int .u8 0, .int .u8 0, .int .u8 0, .int .u8 0, .int .u8 0, .int .u8 0, .int .u8 0, .int .u8 0, .int .u8 0, .int .u8 0, .int .u8 0, .int .u8 0, .int .u8 0, .int .u8 0, .int .u8 0, .int .u8 0, .int .u8 0, .int .u8 0, .int .u8 0, .int .u8 0, .int .u8 0, .int .u8 0, .int .u8 0, .int .u8 0, .int .u8 0, .int .u8 0, .int .u8 0, .int .u8 0, .int .u8 0, .int .u8 0, .int .u8 0, .int .u8 0, .int .u8 0, .int .u8 0, .int .u8 0, .int .u8 0, .int .u8 0]), 63, 63) := by kernel_rfl
theorem sz_187 : sizeP Tryz.prog 187 = some 64 := by kernel_rfl
theorem inf_187 : (Tryz.prog.info? 187).map (fun i => (i.zero, i.size, i.bytes)) = some (some (.agg #[.int .u8 0, .int .u8 0, .int .u8 0, .int .u8 0, .int .u8 0, .int .u8 0, .int .u8 0, .int .u8 0, .int .u8 0, .int .u8 0, .int .u8 0, .int .u8 0, .int .u8 0, .int .u8 0, .int .u8 0, .int .u8 0, .int .u8 0, .int .u8 0, .int .u8 0, .int .u8 0, .int .u8 0, .int .u8 0, .int .u8 0, .int .u8 0, .int .u8 0, .int .u8 0, .int .u8 0, .int .u8 0, .int .u8 0, .int .u8 0, .int .u8 0, .int .u8 0, .int .u8 0, .int .u8 0, .int .u8 0, .int .u8 0, .int .u8 0, .int .u8 0, .int .u8 0, .int .u8 0, .int .u8 0, .int .u8 0, .int .u8 0, .int .u8 0, .int .u8 0, .int .u8 0, .int .u8 0, .int .u8 0, .int .u8 0, .int .u8 0, .int .u8 0, .int .u8 0, .int .u8 0, .int .u8 0, .int .u8 0, .int .u8 0, .int .u8 0, .int .u8 0, .int .u8 0, .int .u8 0, .int .u8 0, .int .u8 0, .int .u8 0, .int .u8 0]), 64, 64) := by kernel_rfl
theorem fld_190_0 : fldOff Tryz.prog 190 0 = some 0 := by kernel_rfl
theorem fld_190_1 : fldOff Tryz.prog 190 1 = some 63 := by kernel_rfl
theorem mixed : Tryz.prog.follows .mixedOrders = true := by kernel_rfl
theorem en_5 : ∀ (args : Array Value) (w : World), (callFunc 5 args).run Tryz.prog w = .ok (.enter 5 args) w := fun _ _ => by kernel_rfl
theorem en_6 : ∀ (args : Array Value) (w : World), (callFunc 6 args).run Tryz.prog w = .ok (.enter 6 args) w := fun _ _ => by kernel_rfl
theorem en_7 : ∀ (args : Array Value) (w : World), (callFunc 7 args).run Tryz.prog w = .ok (.enter 7 args) w := fun _ _ => by kernel_rfl
theorem en_8 : ∀ (args : Array Value) (w : World), (callFunc 8 args).run Tryz.prog w = .ok (.enter 8 args) w := fun _ _ => by kernel_rfl
theorem en_9 : ∀ (args : Array Value) (w : World), (callFunc 9 args).run Tryz.prog w = .ok (.enter 9 args) w := fun _ _ => by kernel_rfl
theorem en_10 : ∀ (args : Array Value) (w : World), (callFunc 10 args).run Tryz.prog w = .ok (.enter 10 args) w := fun _ _ => by kernel_rfl
theorem en_11 : ∀ (args : Array Value) (w : World), (callFunc 11 args).run Tryz.prog w = .ok (.enter 11 args) w := fun _ _ => by kernel_rfl
theorem en_12 : ∀ (args : Array Value) (w : World), (callFunc 12 args).run Tryz.prog w = .ok (.enter 12 args) w := fun _ _ => by kernel_rfl
theorem en_13 : ∀ (args : Array Value) (w : World), (callFunc 13 args).run Tryz.prog w = .ok (.enter 13 args) w := fun _ _ => by kernel_rfl
theorem en_14 : ∀ (args : Array Value) (w : World), (callFunc 14 args).run Tryz.prog w = .ok (.enter 14 args) w := fun _ _ => by kernel_rfl
theorem en_15 : ∀ (args : Array Value) (w : World), (callFunc 15 args).run Tryz.prog w = .ok (.enter 15 args) w := fun _ _ => by kernel_rfl
theorem en_16 : ∀ (args : Array Value) (w : World), (callFunc 16 args).run Tryz.prog w = .ok (.enter 16 args) w := fun _ _ => by kernel_rfl
theorem en_17 : ∀ (args : Array Value) (w : World), (callFunc 17 args).run Tryz.prog w = .ok (.enter 17 args) w := fun _ _ => by kernel_rfl
theorem en_18 : ∀ (args : Array Value) (w : World), (callFunc 18 args).run Tryz.prog w = .ok (.enter 18 args) w := fun _ _ => by kernel_rfl
theorem en_19 : ∀ (args : Array Value) (w : World), (callFunc 19 args).run Tryz.prog w = .ok (.enter 19 args) w := fun _ _ => by kernel_rfl
theorem en_20 : ∀ (args : Array Value) (w : World), (callFunc 20 args).run Tryz.prog w = .ok (.enter 20 args) w := fun _ _ => by kernel_rfl
theorem en_21 : ∀ (args : Array Value) (w : World), (callFunc 21 args).run Tryz.prog w = .ok (.enter 21 args) w := fun _ _ => by kernel_rfl
theorem en_22 : ∀ (args : Array Value) (w : World), (callFunc 22 args).run Tryz.prog w = .ok (.enter 22 args) w := fun _ _ => by kernel_rfl
theorem en_23 : ∀ (args : Array Value) (w : World), (callFunc 23 args).run Tryz.prog w = .ok (.enter 23 args) w := fun _ _ => by kernel_rfl
theorem en_24 : ∀ (args : Array Value) (w : World), (callFunc 24 args).run Tryz.prog w = .ok (.enter 24 args) w := fun _ _ => by kernel_rfl
theorem en_25 : ∀ (args : Array Value) (w : World), (callFunc 25 args).run Tryz.prog w = .ok (.enter 25 args) w := fun _ _ => by kernel_rfl
theorem en_26 : ∀ (args : Array Value) (w : World), (callFunc 26 args).run Tryz.prog w = .ok (.enter 26 args) w := fun _ _ => by kernel_rfl
theorem en_27 : ∀ (args : Array Value) (w : World), (callFunc 27 args).run Tryz.prog w = .ok (.enter 27 args) w := fun _ _ => by kernel_rfl
theorem en_28 : ∀ (args : Array Value) (w : World), (callFunc 28 args).run Tryz.prog w = .ok (.enter 28 args) w := fun _ _ => by kernel_rfl
theorem en_29 : ∀ (args : Array Value) (w : World), (callFunc 29 args).run Tryz.prog w = .ok (.enter 29 args) w := fun _ _ => by kernel_rfl
theorem en_30 : ∀ (args : Array Value) (w : World), (callFunc 30 args).run Tryz.prog w = .ok (.enter 30 args) w := fun _ _ => by kernel_rfl
theorem en_31 : ∀ (args : Array Value) (w : World), (callFunc 31 args).run Tryz.prog w = .ok (.enter 31 args) w := fun _ _ => by kernel_rfl
theorem en_32 : ∀ (args : Array Value) (w : World), (callFunc 32 args).run Tryz.prog w = .ok (.enter 32 args) w := fun _ _ => by kernel_rfl
theorem en_33 : ∀ (args : Array Value) (w : World), (callFunc 33 args).run Tryz.prog w = .ok (.enter 33 args) w := fun _ _ => by kernel_rfl
theorem en_34 : ∀ (args : Array Value) (w : World), (callFunc 34 args).run Tryz.prog w = .ok (.enter 34 args) w := fun _ _ => by kernel_rfl
theorem en_35 : ∀ (args : Array Value) (w : World), (callFunc 35 args).run Tryz.prog w = .ok (.enter 35 args) w := fun _ _ => by kernel_rfl
theorem en_36 : ∀ (args : Array Value) (w : World), (callFunc 36 args).run Tryz.prog w = .ok (.enter 36 args) w := fun _ _ => by kernel_rfl
theorem en_38 : ∀ (args : Array Value) (w : World), (callFunc 38 args).run Tryz.prog w = .ok (.enter 38 args) w := fun _ _ => by kernel_rfl
theorem en_42 : ∀ (args : Array Value) (w : World), (callFunc 42 args).run Tryz.prog w = .ok (.enter 42 args) w := fun _ _ => by kernel_rfl
theorem en_43 : ∀ (args : Array Value) (w : World), (callFunc 43 args).run Tryz.prog w = .ok (.enter 43 args) w := fun _ _ => by kernel_rfl
theorem en_44 : ∀ (args : Array Value) (w : World), (callFunc 44 args).run Tryz.prog w = .ok (.enter 44 args) w := fun _ _ => by kernel_rfl
theorem en_45 : ∀ (args : Array Value) (w : World), (callFunc 45 args).run Tryz.prog w = .ok (.enter 45 args) w := fun _ _ => by kernel_rfl
theorem en_46 : ∀ (args : Array Value) (w : World), (callFunc 46 args).run Tryz.prog w = .ok (.enter 46 args) w := fun _ _ => by kernel_rfl
theorem en_47 : ∀ (args : Array Value) (w : World), (callFunc 47 args).run Tryz.prog w = .ok (.enter 47 args) w := fun _ _ => by kernel_rfl
theorem en_48 : ∀ (args : Array Value) (w : World), (callFunc 48 args).run Tryz.prog w = .ok (.enter 48 args) w := fun _ _ => by kernel_rfl
theorem en_49 : ∀ (args : Array Value) (w : World), (callFunc 49 args).run Tryz.prog w = .ok (.enter 49 args) w := fun _ _ => by kernel_rfl
theorem en_50 : ∀ (args : Array Value) (w : World), (callFunc 50 args).run Tryz.prog w = .ok (.enter 50 args) w := fun _ _ => by kernel_rfl
theorem en_51 : ∀ (args : Array Value) (w : World), (callFunc 51 args).run Tryz.prog w = .ok (.enter 51 args) w := fun _ _ => by kernel_rfl
theorem en_52 : ∀ (args : Array Value) (w : World), (callFunc 52 args).run Tryz.prog w = .ok (.enter 52 args) w := fun _ _ => by kernel_rfl
theorem en_53 : ∀ (args : Array Value) (w : World), (callFunc 53 args).run Tryz.prog w = .ok (.enter 53 args) w := fun _ _ => by kernel_rfl
theorem en_54 : ∀ (args : Array Value) (w : World), (callFunc 54 args).run Tryz.prog w = .ok (.enter 54 args) w := fun _ _ => by kernel_rfl
theorem en_55 : ∀ (args : Array Value) (w : World), (callFunc 55 args).run Tryz.prog w = .ok (.enter 55 args) w := fun _ _ => by kernel_rfl
theorem en_56 : ∀ (args : Array Value) (w : World), (callFunc 56 args).run Tryz.prog w = .ok (.enter 56 args) w := fun _ _ => by kernel_rfl
theorem en_57 : ∀ (args : Array Value) (w : World), (callFunc 57 args).run Tryz.prog w = .ok (.enter 57 args) w := fun _ _ => by kernel_rfl
theorem en_58 : ∀ (args : Array Value) (w : World), (callFunc 58 args).run Tryz.prog w = .ok (.enter 58 args) w := fun _ _ => by kernel_rfl
theorem en_59 : ∀ (args : Array Value) (w : World), (callFunc 59 args).run Tryz.prog w = .ok (.enter 59 args) w := fun _ _ => by kernel_rfl
theorem en_60 : ∀ (args : Array Value) (w : World), (callFunc 60 args).run Tryz.prog w = .ok (.enter 60 args) w := fun _ _ => by kernel_rfl
theorem en_61 : ∀ (args : Array Value) (w : World), (callFunc 61 args).run Tryz.prog w = .ok (.enter 61 args) w := fun _ _ => by kernel_rfl
theorem en_62 : ∀ (args : Array Value) (w : World), (callFunc 62 args).run Tryz.prog w = .ok (.enter 62 args) w := fun _ _ => by kernel_rfl
theorem en_63 : ∀ (args : Array Value) (w : World), (callFunc 63 args).run Tryz.prog w = .ok (.enter 63 args) w := fun _ _ => by kernel_rfl
theorem en_64 : ∀ (args : Array Value) (w : World), (callFunc 64 args).run Tryz.prog w = .ok (.enter 64 args) w := fun _ _ => by kernel_rfl
theorem en_65 : ∀ (args : Array Value) (w : World), (callFunc 65 args).run Tryz.prog w = .ok (.enter 65 args) w := fun _ _ => by kernel_rfl
theorem en_66 : ∀ (args : Array Value) (w : World), (callFunc 66 args).run Tryz.prog w = .ok (.enter 66 args) w := fun _ _ => by kernel_rfl
theorem en_67 : ∀ (args : Array Value) (w : World), (callFunc 67 args).run Tryz.prog w = .ok (.enter 67 args) w := fun _ _ => by kernel_rfl
theorem en_68 : ∀ (args : Array Value) (w : World), (callFunc 68 args).run Tryz.prog w = .ok (.enter 68 args) w := fun _ _ => by kernel_rfl
theorem en_69 : ∀ (args : Array Value) (w : World), (callFunc 69 args).run Tryz.prog w = .ok (.enter 69 args) w := fun _ _ => by kernel_rfl
theorem en_70 : ∀ (args : Array Value) (w : World), (callFunc 70 args).run Tryz.prog w = .ok (.enter 70 args) w := fun _ _ => by kernel_rfl
theorem en_71 : ∀ (args : Array Value) (w : World), (callFunc 71 args).run Tryz.prog w = .ok (.enter 71 args) w := fun _ _ => by kernel_rfl
theorem en_72 : ∀ (args : Array Value) (w : World), (callFunc 72 args).run Tryz.prog w = .ok (.enter 72 args) w := fun _ _ => by kernel_rfl
theorem en_73 : ∀ (args : Array Value) (w : World), (callFunc 73 args).run Tryz.prog w = .ok (.enter 73 args) w := fun _ _ => by kernel_rfl
theorem en_74 : ∀ (args : Array Value) (w : World), (callFunc 74 args).run Tryz.prog w = .ok (.enter 74 args) w := fun _ _ => by kernel_rfl
theorem en_75 : ∀ (args : Array Value) (w : World), (callFunc 75 args).run Tryz.prog w = .ok (.enter 75 args) w := fun _ _ => by kernel_rfl
theorem en_76 : ∀ (args : Array Value) (w : World), (callFunc 76 args).run Tryz.prog w = .ok (.enter 76 args) w := fun _ _ => by kernel_rfl
theorem en_77 : ∀ (args : Array Value) (w : World), (callFunc 77 args).run Tryz.prog w = .ok (.enter 77 args) w := fun _ _ => by kernel_rfl
theorem en_78 : ∀ (args : Array Value) (w : World), (callFunc 78 args).run Tryz.prog w = .ok (.enter 78 args) w := fun _ _ => by kernel_rfl
theorem en_81 : ∀ (args : Array Value) (w : World), (callFunc 81 args).run Tryz.prog w = .ok (.enter 81 args) w := fun _ _ => by kernel_rfl
theorem en_84 : ∀ (args : Array Value) (w : World), (callFunc 84 args).run Tryz.prog w = .ok (.enter 84 args) w := fun _ _ => by kernel_rfl
theorem en_85 : ∀ (args : Array Value) (w : World), (callFunc 85 args).run Tryz.prog w = .ok (.enter 85 args) w := fun _ _ => by kernel_rfl
theorem en_86 : ∀ (args : Array Value) (w : World), (callFunc 86 args).run Tryz.prog w = .ok (.enter 86 args) w := fun _ _ => by kernel_rfl
theorem en_87 : ∀ (args : Array Value) (w : World), (callFunc 87 args).run Tryz.prog w = .ok (.enter 87 args) w := fun _ _ => by kernel_rfl
theorem en_88 : ∀ (args : Array Value) (w : World), (callFunc 88 args).run Tryz.prog w = .ok (.enter 88 args) w := fun _ _ => by kernel_rfl
theorem en_89 : ∀ (args : Array Value) (w : World), (callFunc 89 args).run Tryz.prog w = .ok (.enter 89 args) w := fun _ _ => by kernel_rfl
theorem en_90 : ∀ (args : Array Value) (w : World), (callFunc 90 args).run Tryz.prog w = .ok (.enter 90 args) w := fun _ _ => by kernel_rfl
theorem en_91 : ∀ (args : Array Value) (w : World), (callFunc 91 args).run Tryz.prog w = .ok (.enter 91 args) w := fun _ _ => by kernel_rfl
theorem en_92 : ∀ (args : Array Value) (w : World), (callFunc 92 args).run Tryz.prog w = .ok (.enter 92 args) w := fun _ _ => by kernel_rfl
theorem en_93 : ∀ (args : Array Value) (w : World), (callFunc 93 args).run Tryz.prog w = .ok (.enter 93 args) w := fun _ _ => by kernel_rfl
theorem en_94 : ∀ (args : Array Value) (w : World), (callFunc 94 args).run Tryz.prog w = .ok (.enter 94 args) w := fun _ _ => by kernel_rfl
theorem en_95 : ∀ (args : Array Value) (w : World), (callFunc 95 args).run Tryz.prog w = .ok (.enter 95 args) w := fun _ _ => by kernel_rfl
theorem en_96 : ∀ (args : Array Value) (w : World), (callFunc 96 args).run Tryz.prog w = .ok (.enter 96 args) w := fun _ _ => by kernel_rfl
theorem en_97 : ∀ (args : Array Value) (w : World), (callFunc 97 args).run Tryz.prog w = .ok (.enter 97 args) w := fun _ _ => by kernel_rfl
theorem en_98 : ∀ (args : Array Value) (w : World), (callFunc 98 args).run Tryz.prog w = .ok (.enter 98 args) w := fun _ _ => by kernel_rfl
theorem en_99 : ∀ (args : Array Value) (w : World), (callFunc 99 args).run Tryz.prog w = .ok (.enter 99 args) w := fun _ _ => by kernel_rfl
theorem en_100 : ∀ (args : Array Value) (w : World), (callFunc 100 args).run Tryz.prog w = .ok (.enter 100 args) w := fun _ _ => by kernel_rfl
theorem en_101 : ∀ (args : Array Value) (w : World), (callFunc 101 args).run Tryz.prog w = .ok (.enter 101 args) w := fun _ _ => by kernel_rfl
theorem en_102 : ∀ (args : Array Value) (w : World), (callFunc 102 args).run Tryz.prog w = .ok (.enter 102 args) w := fun _ _ => by kernel_rfl
theorem en_103 : ∀ (args : Array Value) (w : World), (callFunc 103 args).run Tryz.prog w = .ok (.enter 103 args) w := fun _ _ => by kernel_rfl
theorem en_104 : ∀ (args : Array Value) (w : World), (callFunc 104 args).run Tryz.prog w = .ok (.enter 104 args) w := fun _ _ => by kernel_rfl
theorem en_105 : ∀ (args : Array Value) (w : World), (callFunc 105 args).run Tryz.prog w = .ok (.enter 105 args) w := fun _ _ => by kernel_rfl
theorem en_106 : ∀ (args : Array Value) (w : World), (callFunc 106 args).run Tryz.prog w = .ok (.enter 106 args) w := fun _ _ => by kernel_rfl
theorem en_109 : ∀ (args : Array Value) (w : World), (callFunc 109 args).run Tryz.prog w = .ok (.enter 109 args) w := fun _ _ => by kernel_rfl
theorem en_110 : ∀ (args : Array Value) (w : World), (callFunc 110 args).run Tryz.prog w = .ok (.enter 110 args) w := fun _ _ => by kernel_rfl
theorem en_111 : ∀ (args : Array Value) (w : World), (callFunc 111 args).run Tryz.prog w = .ok (.enter 111 args) w := fun _ _ => by kernel_rfl
theorem en_112 : ∀ (args : Array Value) (w : World), (callFunc 112 args).run Tryz.prog w = .ok (.enter 112 args) w := fun _ _ => by kernel_rfl
theorem en_113 : ∀ (args : Array Value) (w : World), (callFunc 113 args).run Tryz.prog w = .ok (.enter 113 args) w := fun _ _ => by kernel_rfl
theorem en_114 : ∀ (args : Array Value) (w : World), (callFunc 114 args).run Tryz.prog w = .ok (.enter 114 args) w := fun _ _ => by kernel_rfl
theorem en_115 : ∀ (args : Array Value) (w : World), (callFunc 115 args).run Tryz.prog w = .ok (.enter 115 args) w := fun _ _ => by kernel_rfl
theorem en_116 : ∀ (args : Array Value) (w : World), (callFunc 116 args).run Tryz.prog w = .ok (.enter 116 args) w := fun _ _ => by kernel_rfl
theorem en_119 : ∀ (args : Array Value) (w : World), (callFunc 119 args).run Tryz.prog w = .ok (.enter 119 args) w := fun _ _ => by kernel_rfl
theorem en_122 : ∀ (args : Array Value) (w : World), (callFunc 122 args).run Tryz.prog w = .ok (.enter 122 args) w := fun _ _ => by kernel_rfl
theorem en_123 : ∀ (args : Array Value) (w : World), (callFunc 123 args).run Tryz.prog w = .ok (.enter 123 args) w := fun _ _ => by kernel_rfl
theorem en_124 : ∀ (args : Array Value) (w : World), (callFunc 124 args).run Tryz.prog w = .ok (.enter 124 args) w := fun _ _ => by kernel_rfl
theorem en_125 : ∀ (args : Array Value) (w : World), (callFunc 125 args).run Tryz.prog w = .ok (.enter 125 args) w := fun _ _ => by kernel_rfl
theorem en_126 : ∀ (args : Array Value) (w : World), (callFunc 126 args).run Tryz.prog w = .ok (.enter 126 args) w := fun _ _ => by kernel_rfl
theorem en_127 : ∀ (args : Array Value) (w : World), (callFunc 127 args).run Tryz.prog w = .ok (.enter 127 args) w := fun _ _ => by kernel_rfl
theorem en_128 : ∀ (args : Array Value) (w : World), (callFunc 128 args).run Tryz.prog w = .ok (.enter 128 args) w := fun _ _ => by kernel_rfl
theorem xt_121 (s : ByteArray) (c : Int) (w : World) : (callFunc 121 #[.string s, .int .u8 c]).run Tryz.prog w = .ok (.value (.int .i64 (Lib.indexByte s.data.toList c.toNat.toUInt8))) w := by
  rw [run_callFunc_extern Tryz.func121 (by kernel_rfl) (by kernel_rfl) (by kernel_rfl) (e := Extern.BytealgIndexByte.indexByte) (by kernel_rfl), Lib.run_indexByteString]; rfl
end Go.Proofs.YtgjnchjkjdnidaaGreat

/- The number that carries a payload: its digits to a base, multiplied, divided; texts of digits. -/
namespace Go.Proofs.YtgjnchjkjdnidaaGreat
def vb (b : Nat) : Nat → List Nat → Nat
  | a, [] => a
  | a, d :: l => vb b (b * a + d) l
theorem vb_app (b : Nat) : ∀ (l m : List Nat) (a : Nat), vb b a (l ++ m) = vb b (vb b a l) m
  | [], _, _ => rfl
  | d :: l, m, a => vb_app b l m (b * a + d)
theorem vb_snoc (b a : Nat) (l : List Nat) (d : Nat) : vb b a (l ++ [d]) = b * vb b a l + d := by rw [vb_app]; rfl
theorem vb_ahead (b : Nat) : ∀ (l : List Nat) (a : Nat), vb b a l = a * b ^ l.length + vb b 0 l
  | [], a => by simp [vb]
  | d :: l, a => by
    show vb b (b * a + d) l = _ + vb b (b * 0 + d) l
    rw [vb_ahead b l (b * a + d), vb_ahead b l (b * 0 + d), List.length_cons, Nat.pow_succ, Nat.mul_zero, Nat.zero_add, Nat.add_mul, Nat.mul_comm b a, Nat.mul_assoc, Nat.mul_comm b, Nat.add_assoc]
theorem vb_lt {b : Nat} (hb : 0 < b) : ∀ {l : List Nat}, (∀ d ∈ l, d < b) → vb b 0 l < b ^ l.length
  | [], _ => by simp [vb]
  | d :: l, h => by
    have h1 := vb_lt hb (l := l) fun x hx => h x (List.mem_cons_of_mem _ hx)
    have h2 := h d (List.mem_cons_self ..)
    show vb b (b * 0 + d) l < _
    rw [vb_ahead, List.length_cons, Nat.pow_succ, Nat.mul_zero, Nat.zero_add]
    have h3 : (d + 1) * b ^ l.length ≤ b * b ^ l.length := Nat.mul_le_mul_right _ h2
    rw [Nat.add_mul, Nat.one_mul] at h3
    rw [Nat.mul_comm _ b]
    omega
theorem vb_inj {b : Nat} (hb : 0 < b) : ∀ {l m : List Nat}, l.length = m.length → (∀ d ∈ l, d < b) → (∀ d ∈ m, d < b) → vb b 0 l = vb b 0 m → l = m
  | [], [], _, _, _, _ => rfl
  | [], _ :: _, h, _, _, _ => by simp at h
  | _ :: _, [], h, _, _, _ => by simp at h
  | d :: l, e :: m, h, hl, hm, hv => by
    have hlen : l.length = m.length := by simpa using h
    have h1 := vb_lt hb (l := l) fun x hx => hl x (List.mem_cons_of_mem _ hx)
    have h2 := vb_lt hb (l := m) fun x hx => hm x (List.mem_cons_of_mem _ hx)
    have hv : vb b (b * 0 + d) l = vb b (b * 0 + e) m := hv
    rw [vb_ahead b l, vb_ahead b m, Nat.mul_zero, Nat.zero_add, Nat.zero_add, hlen] at hv
    rw [hlen] at h1
    have hp : 0 < b ^ m.length := Nat.pow_pos hb
    have hde : d = e := by
      have a1 : (d * b ^ m.length + vb b 0 l) / b ^ m.length = d := by rw [Nat.mul_comm, Nat.mul_add_div hp, Nat.div_eq_of_lt h1, Nat.add_zero]
      have a2 : (e * b ^ m.length + vb b 0 m) / b ^ m.length = e := by rw [Nat.mul_comm, Nat.mul_add_div hp, Nat.div_eq_of_lt h2, Nat.add_zero]
      rw [← a1, ← a2, hv]
    subst hde
    rw [vb_inj hb hlen (fun x hx => hl x (List.mem_cons_of_mem _ hx)) (fun x hx => hm x (List.mem_cons_of_mem _ hx)) (by omega)]
def ld (b : Nat) : Nat → Nat → List Nat
  | 0, _ => []
  | k + 1, n => n % b :: ld b k (n / b)
theorem ld_len (b : Nat) : ∀ (k n : Nat), (ld b k n).length = k
  | 0, _ => rfl
  | k + 1, n => by rw [ld, List.length_cons, ld_len b k]
theorem ld_lt {b : Nat} (hb : 0 < b) : ∀ (k n : Nat), ∀ d ∈ ld b k n, d < b
  | 0, _, d, h => by cases h
  | k + 1, n, d, h => by
    rcases List.mem_cons.1 h with h | h
    · rw [h]; exact Nat.mod_lt _ hb
    · exact ld_lt hb k _ d h
theorem ld_get (b : Nat) : ∀ (k n i : Nat), i < k → (ld b k n)[i]? = some (n / b ^ i % b)
  | 0, _, _, h => by omega
  | k + 1, n, 0, _ => by simp [ld]
  | k + 1, n, i + 1, h => by
    rw [ld, List.getElem?_cons_succ, ld_get b k (n / b) i (by omega), Nat.div_div_eq_div_mul, Nat.pow_succ, Nat.mul_comm b]
theorem ld_snoc (b : Nat) : ∀ (k n : Nat), ld b (k + 1) n = ld b k n ++ [n / b ^ k % b]
  | 0, n => by simp [ld]
  | k + 1, n => by
    rw [ld, ld_snoc b k (n / b), Nat.div_div_eq_div_mul, ← Nat.pow_succ']
    rfl
theorem vb_ld (b a : Nat) : ∀ (k n : Nat), vb b a (ld b k n).reverse = a * b ^ k + n % b ^ k
  | 0, n => by simp [ld, vb, Nat.mod_one]
  | k + 1, n => by
    rw [ld, List.reverse_cons, vb_snoc, vb_ld b a k (n / b), Nat.mul_add, Nat.pow_succ', Nat.mod_mul]
    rw [show b * (a * b ^ k) = a * (b * b ^ k) from Nat.mul_left_comm ..]
    omega
def b64 (n : Nat) : List Nat := (ld 64 16 n).reverse
theorem b64_len (n : Nat) : (b64 n).length = 16 := by rw [b64, List.length_reverse, ld_len]
theorem b64_lt (n : Nat) : ∀ d ∈ b64 n, d < 64 := fun d h => ld_lt (by decide) 16 n d (List.mem_reverse.1 h)
theorem b64_get (n p : Nat) (h : p < 16) : (b64 n)[15 - p]? = some (n / 64 ^ p % 64) := by
  rw [b64, List.getElem?_reverse (by rw [ld_len]; omega), ld_len, show 16 - 1 - (15 - p) = p by omega, ld_get _ _ _ _ h]
def car (b f m v p : Nat) : Nat := (f * (v % b ^ p) + m) / b ^ p
theorem car_zero (b f m v : Nat) : car b f m v 0 = m := by simp [car, Nat.mod_one]
theorem car_sum {b : Nat} (hb : 0 < b) (f m v p : Nat) : car b f m v p + f * (v / b ^ p % b) = (f * (v % b ^ (p + 1)) + m) / b ^ p := by
  have hp : 0 < b ^ p := Nat.pow_pos hb
  rw [Nat.mod_pow_succ, Nat.mul_add, Nat.mul_left_comm f (b ^ p), show f * (v % b ^ p) + b ^ p * (f * (v / b ^ p % b)) + m = (f * (v % b ^ p) + m) + b ^ p * (f * (v / b ^ p % b)) by omega, Nat.add_mul_div_left _ _ hp]
  rfl
theorem car_step {b : Nat} (hb : 0 < b) (f m v p : Nat) : (car b f m v p + f * (v / b ^ p % b)) / b = car b f m v (p + 1) := by
  rw [car_sum hb, Nat.div_div_eq_div_mul, ← Nat.pow_succ]; rfl
theorem car_dig {b : Nat} (hb : 0 < b) (f m v p : Nat) : (car b f m v p + f * (v / b ^ p % b)) % b = (f * v + m) / b ^ p % b := by
  have hp : 0 < b ^ p := Nat.pow_pos hb
  rw [car_sum hb]
  have e : f * v + m = (f * (v % b ^ (p + 1)) + m) + b ^ p * (b * (f * (v / b ^ (p + 1)))) := by
    have h1 : b ^ p * (b * (f * (v / b ^ (p + 1)))) = f * (b ^ (p + 1) * (v / b ^ (p + 1))) := by
      rw [Nat.pow_succ, Nat.mul_left_comm f, Nat.mul_assoc]
    have h2 := Nat.mod_add_div v (b ^ (p + 1))
    rw [h1, show f * (v % b ^ (p + 1)) + m + f * (b ^ (p + 1) * (v / b ^ (p + 1))) = f * (v % b ^ (p + 1) + b ^ (p + 1) * (v / b ^ (p + 1))) + m by rw [Nat.mul_add]; omega, h2]
  rw [e, Nat.add_mul_div_left _ _ hp, Nat.add_mul_mod_self_left]
theorem car_le {b f m : Nat} (hb : 0 < b) (hm : m ≤ f) (v p : Nat) : car b f m v p ≤ f := by
  have hp : 0 < b ^ p := Nat.pow_pos hb
  have h1 : v % b ^ p + 1 ≤ b ^ p := Nat.mod_lt _ hp
  unfold car
  rw [Nat.div_le_iff_le_mul_add_pred hp]
  have h2 : f * (v % b ^ p + 1) ≤ f * b ^ p := Nat.mul_le_mul_left _ h1
  rw [Nat.mul_add, Nat.mul_one] at h2
  rw [Nat.mul_comm (b ^ p)]
  omega
def tmL (n x p : Nat) : List Nat := (b64 n).take (16 - p) ++ (b64 x).drop (16 - p)
theorem tmL_len (n x p : Nat) : (tmL n x p).length = 16 := by unfold tmL; rw [List.length_append, List.length_take, List.length_drop, b64_len, b64_len]; omega
theorem tmL_zero (n x : Nat) : tmL n x 0 = b64 n := by
  unfold tmL
  rw [List.take_of_length_le (by rw [b64_len]; omega), List.drop_eq_nil_of_le (by rw [b64_len]; omega), List.append_nil]
theorem tmL_end (n x : Nat) : tmL n x 16 = b64 x := by unfold tmL; simp
theorem tmL_at (n x p : Nat) (h : p < 16) : (tmL n x p)[15 - p]? = some (n / 64 ^ p % 64) := by
  unfold tmL
  rw [List.getElem?_append_left (by rw [List.length_take, b64_len]; omega), List.getElem?_take_of_lt (by omega), b64_get n p h]
theorem tmL_step (n x p : Nat) (h : p < 16) : (tmL n x p).set (15 - p) (x / 64 ^ p % 64) = tmL n x (p + 1) := by
  have h1 : (b64 n).take (16 - p) = (b64 n).take (15 - p) ++ [n / 64 ^ p % 64] := by
    rw [show 16 - p = 15 - p + 1 by omega, List.take_add_one, b64_get n p h]; rfl
  have h2 : (b64 x).drop (15 - p) = (x / 64 ^ p % 64) :: (b64 x).drop (16 - p) := by
    have h3 := b64_get x p h
    rw [show 16 - p = 15 - p + 1 by omega]
    have h4 : 15 - p < (b64 x).length := by rw [b64_len]; omega
    rw [List.drop_eq_getElem_cons h4]
    rw [List.getElem?_eq_getElem h4] at h3
    injection h3 with h3
    rw [h3]
  unfold tmL
  rw [show 16 - (p + 1) = 15 - p by omega, h1, h2, List.append_assoc, List.set_append_right _ _ (by rw [List.length_take, b64_len]; omega), List.length_take, b64_len, show 15 - p - min (15 - p) 16 = 0 by omega]
  rfl
def dv (b d : Nat) : Nat → List Nat → List Nat × Nat
  | r, [] => ([], r)
  | r, x :: l => ((b * r + x) / d :: (dv b d ((b * r + x) % d) l).1, (dv b d ((b * r + x) % d) l).2)
theorem dv_snoc (b d : Nat) : ∀ (l : List Nat) (r x : Nat), dv b d r (l ++ [x]) = ((dv b d r l).1 ++ [(b * (dv b d r l).2 + x) / d], (b * (dv b d r l).2 + x) % d)
  | [], r, x => rfl
  | y :: l, r, x => by
    show ((b * r + y) / d :: (dv b d ((b * r + y) % d) (l ++ [x])).1, (dv b d ((b * r + y) % d) (l ++ [x])).2) = _
    rw [dv_snoc b d l]
    rfl
theorem dv_len (b d : Nat) : ∀ (l : List Nat) (r : Nat), (dv b d r l).1.length = l.length
  | [], _ => rfl
  | x :: l, r => by show (dv b d ((b * r + x) % d) l).1.length + 1 = _; rw [dv_len b d l, List.length_cons]
theorem dv_rest {d : Nat} (b : Nat) (hd : 0 < d) : ∀ (l : List Nat) (r : Nat), r < d → (dv b d r l).2 < d
  | [], _, h => h
  | _ :: l, _, _ => dv_rest b hd l _ (Nat.mod_lt _ hd)
theorem dv_lt {b d : Nat} (hd : 0 < d) : ∀ (l : List Nat) (r : Nat), r < d → (∀ x ∈ l, x < b) → ∀ q ∈ (dv b d r l).1, q < b
  | [], _, _, _, q, h => by cases h
  | x :: l, r, hr, hl, q, h => by
    rcases List.mem_cons.1 h with h | h
    · have hx := hl x (List.mem_cons_self ..)
      rw [h, Nat.div_lt_iff_lt_mul hd]
      have h2 : b * (r + 1) ≤ b * d := Nat.mul_le_mul_left _ hr
      rw [Nat.mul_add, Nat.mul_one] at h2
      omega
    · exact dv_lt hd l _ (Nat.mod_lt _ hd) (fun y hy => hl y (List.mem_cons_of_mem _ hy)) q h
theorem dv_val {b d : Nat} : ∀ (l : List Nat) (r : Nat), vb b 0 (dv b d r l).1 * d + (dv b d r l).2 = vb b r l := fun l => by
  -- from the end
  have key : ∀ (n : Nat) (l : List Nat), l.length = n → ∀ r, vb b 0 (dv b d r l).1 * d + (dv b d r l).2 = vb b r l := by
    intro n
    induction n with
    | zero => intro l h r; obtain rfl := List.eq_nil_of_length_eq_zero h; simp [dv, vb]
    | succ n ih =>
      intro l h r
      rcases List.eq_nil_or_concat l with rfl | ⟨m, x, rfl⟩
      · simp at h
      · rw [List.concat_eq_append] at h ⊢
        have hm : m.length = n := by simpa using h
        have h1 := ih m hm r
        rw [dv_snoc, vb_snoc, vb_snoc, ← h1]
        show (b * vb b 0 (dv b d r m).1 + (b * (dv b d r m).2 + x) / d) * d + (b * (dv b d r m).2 + x) % d = _
        have h2 := Nat.div_add_mod (b * (dv b d r m).2 + x) d
        rw [Nat.add_mul, Nat.mul_add, Nat.mul_assoc, Nat.mul_comm _ d]
        rw [Nat.mul_comm d] at h2
        rw [Nat.mul_comm d]
        omega
  exact key l.length l rfl
theorem dv_quo {b d : Nat} (hd : 0 < d) (l : List Nat) : vb b 0 (dv b d 0 l).1 = vb b 0 l / d ∧ (dv b d 0 l).2 = vb b 0 l % d := by
  have h1 := dv_val (b := b) (d := d) l 0
  have h2 := dv_rest b hd l 0 hd
  rw [← h1]
  constructor
  · rw [Nat.mul_comm, Nat.mul_add_div hd, Nat.div_eq_of_lt h2, Nat.add_zero]
  · rw [Nat.mul_comm, Nat.mul_add_mod, Nat.mod_eq_of_lt h2]
def dvL (b d : Nat) (l : List Nat) (i : Nat) : List Nat := (dv b d 0 (l.take i)).1 ++ l.drop i
theorem dvL_len (b d : Nat) (l : List Nat) (i : Nat) : (dvL b d l i).length = l.length := by unfold dvL; rw [List.length_append, dv_len, List.length_take, List.length_drop]; omega
theorem dvL_end (b d : Nat) (l : List Nat) : dvL b d l l.length = (dv b d 0 l).1 := by unfold dvL; rw [List.take_length, List.drop_length, List.append_nil]
theorem dvL_at {b d : Nat} {l : List Nat} {i x : Nat} (h : l[i]? = some x) : (dvL b d l i)[i]? = some x := by
  have hi := (List.getElem?_eq_some_iff.1 h).1
  unfold dvL
  rw [List.getElem?_append_right (by rw [dv_len, List.length_take]; omega), dv_len, List.length_take, show i - min i l.length = 0 by omega, List.getElem?_drop, Nat.add_zero]
  exact h
theorem dv_take {b d : Nat} {l : List Nat} {i x : Nat} (h : l[i]? = some x) : dv b d 0 (l.take (i + 1)) = ((dv b d 0 (l.take i)).1 ++ [(b * (dv b d 0 (l.take i)).2 + x) / d], (b * (dv b d 0 (l.take i)).2 + x) % d) := by
  rw [List.take_add_one, h, Option.toList_some, dv_snoc]
theorem dvL_step {b d : Nat} {l : List Nat} {i x : Nat} (h : l[i]? = some x) : (dvL b d l i).set i ((b * (dv b d 0 (l.take i)).2 + x) / d) = dvL b d l (i + 1) := by
  have hi := (List.getElem?_eq_some_iff.1 h).1
  have hd : l.drop i = x :: l.drop (i + 1) := by
    rw [List.drop_eq_getElem_cons hi]
    rw [List.getElem?_eq_getElem hi] at h
    injection h with h
    rw [h]
  unfold dvL
  rw [dv_take h, hd, List.set_append_right _ _ (by rw [dv_len, List.length_take]; omega), dv_len, List.length_take, show i - min i l.length = 0 by omega, List.append_assoc]
  rfl
theorem vb_zero {l : List Nat} : vb 64 0 l = 0 ↔ ∀ x ∈ l, x = 0 := by
  induction l with
  | nil => simp [vb]
  | cons d l ih =>
    rw [show vb 64 0 (d :: l) = vb 64 (64 * 0 + d) l from rfl, vb_ahead]
    have hp : 0 < 64 ^ l.length := Nat.pow_pos (by decide)
    constructor
    · intro h x hx
      have h1 : d = 0 := by
        rcases Nat.eq_zero_or_pos d with h2 | h2
        · exact h2
        · have := Nat.mul_pos h2 hp
          rw [Nat.mul_zero, Nat.zero_add] at h
          omega
      rcases List.mem_cons.1 hx with h2 | h2
      · rw [h2, h1]
      · exact ih.1 (by omega) x h2
    · intro h
      rw [h d (List.mem_cons_self ..), ih.2 fun x hx => h x (List.mem_cons_of_mem _ hx)]
      simp
def isDg (c : UInt8) : Bool := decide (48 ≤ c.toNat) && decide (c.toNat ≤ 57)
def dgv (c : UInt8) : Nat := c.toNat - 48
def numT (t : List UInt8) : Nat := vb 10 1 (t.map dgv)
def dch (d : Nat) : UInt8 := UInt8.ofNat (48 + d)
theorem dg_lt {c : UInt8} (h : isDg c = true) : dgv c < 10 := by
  unfold isDg at h; unfold dgv
  rw [Bool.and_eq_true, decide_eq_true_eq, decide_eq_true_eq] at h
  omega
theorem dgs_lt {t : List UInt8} (h : t.all isDg = true) : ∀ d ∈ t.map dgv, d < 10 := fun d hd => by
  obtain ⟨c, hc, rfl⟩ := List.mem_map.1 hd
  exact dg_lt (List.all_eq_true.1 h c hc)
theorem dch_dgv {c : UInt8} (h : isDg c = true) : dch (dgv c) = c := by
  unfold isDg at h; unfold dch dgv
  rw [Bool.and_eq_true, decide_eq_true_eq, decide_eq_true_eq] at h
  rw [show 48 + (c.toNat - 48) = c.toNat by omega]
  simp
theorem dch_nat {d : Nat} (h : d < 10) : (dch d).toNat = 48 + d := by unfold dch; rw [UInt8.toNat_ofNat_of_lt' (show 48 + d < 256 by omega)]
theorem dgv_dch {d : Nat} (h : d < 10) : dgv (dch d) = d := by unfold dgv; rw [dch_nat h]; omega
theorem dch_is {d : Nat} (h : d < 10) : isDg (dch d) = true := by
  unfold isDg; rw [dch_nat h, Bool.and_eq_true, decide_eq_true_eq, decide_eq_true_eq]; omega
theorem dchs_all {l : List Nat} (h : ∀ d ∈ l, d < 10) : (l.map dch).all isDg = true := by
  rw [List.all_eq_true]
  intro c hc
  obtain ⟨d, hd, rfl⟩ := List.mem_map.1 hc
  exact dch_is (h d hd)
theorem dgs_dchs {l : List Nat} (h : ∀ d ∈ l, d < 10) : (l.map dch).map dgv = l := by
  rw [List.map_map]
  exact (List.map_congr_left fun d hd => dgv_dch (h d hd)).trans (List.map_id l)
theorem dchs_dgs {t : List UInt8} (h : t.all isDg = true) : (t.map dgv).map dch = t := by
  rw [List.map_map]
  exact (List.map_congr_left fun c hc => dch_dgv (List.all_eq_true.1 h c hc)).trans (List.map_id t)
theorem numT_eq (t : List UInt8) : numT t = 10 ^ t.length + vb 10 0 (t.map dgv) := by rw [numT, vb_ahead, List.length_map, Nat.one_mul]
theorem numT_bd {t : List UInt8} (h : t.all isDg = true) : 10 ^ t.length ≤ numT t ∧ numT t < 2 * 10 ^ t.length := by
  have h1 := vb_lt (by decide) (dgs_lt h)
  rw [List.length_map] at h1
  rw [numT_eq]
  omega
theorem pow_lt_le {a b : Nat} (h : 10 ^ a < 2 * 10 ^ b) : a ≤ b := by
  rcases Nat.lt_or_ge b a with h1 | h1
  · have : 10 ^ (b + 1) ≤ 10 ^ a := Nat.pow_le_pow_right (by decide) h1
    rw [Nat.pow_succ] at this
    omega
  · exact h1
theorem numT_len {t u : List UInt8} (ht : t.all isDg = true) (hu : u.all isDg = true) (h : numT t = numT u) : t.length = u.length := by
  have a := numT_bd ht
  have b := numT_bd hu
  exact Nat.le_antisymm (pow_lt_le (by omega)) (pow_lt_le (by omega))
theorem numT_inj {t u : List UInt8} (ht : t.all isDg = true) (hu : u.all isDg = true) (h : numT t = numT u) : t = u := by
  have hl := numT_len ht hu h
  rw [numT_eq, numT_eq, hl] at h
  have := vb_inj (b := 10) (by decide) (by rw [List.length_map, List.length_map, hl]) (dgs_lt ht) (dgs_lt hu) (by omega)
  rw [← dchs_dgs ht, ← dchs_dgs hu, this]
def PayT (n : Nat) : Option (List UInt8) → Prop
  | some t => t.all isDg = true ∧ numT t = n
  | none => ∀ t : List UInt8, t.all isDg = true → numT t ≠ n
theorem pay_uniq {n : Nat} {a b : Option (List UInt8)} (ha : PayT n a) (hb : PayT n b) : a = b := by
  match a, b, ha, hb with
  | some t, some u, ha, hb => rw [numT_inj ha.1 hb.1 (ha.2.trans hb.2.symm)]
  | some t, none, ha, hb => exact absurd ha.2 (hb t ha.1)
  | none, some t, ha, hb => exact absurd hb.2 (ha t hb.1)
  | none, none, _, _ => rfl
theorem pay_zero : PayT 0 none := fun t ht h => by
  have := (numT_bd ht).1
  have : 0 < 10 ^ t.length := Nat.pow_pos (by decide)
  omega
theorem pay_some {n j : Nat} (h : n / 10 ^ j = 1) : PayT n (some ((ld 10 j n).reverse.map dch)) := by
  have hl : ∀ d ∈ (ld 10 j n).reverse, d < 10 := fun d hd => ld_lt (by decide) _ _ d (List.mem_reverse.1 hd)
  refine ⟨dchs_all hl, ?_⟩
  rw [numT, dgs_dchs hl, vb_ld]
  have := Nat.div_add_mod n (10 ^ j)
  rw [h] at this
  omega
theorem pay_none {n j : Nat} (h1 : 10 ^ j ≤ n) (h2 : n < 10 ^ (j + 1)) (h : n / 10 ^ j ≠ 1) : PayT n none := fun t ht he => by
  have hb := numT_bd ht
  rw [he] at hb
  have a : t.length ≤ j := by
    rcases Nat.lt_or_ge j t.length with hh | hh
    · have : 10 ^ (j + 1) ≤ 10 ^ t.length := Nat.pow_le_pow_right (by decide) hh
      omega
    · exact hh
  have b : j ≤ t.length := pow_lt_le (by omega)
  obtain rfl : j = t.length := by omega
  apply h
  have hp : 0 < 10 ^ t.length := Nat.pow_pos (by decide)
  exact Nat.div_eq_of_lt_le (by omega) (by omega)
theorem top_dig {n j : Nat} (h0 : n / 10 ^ j ≠ 0) (h1 : n / 10 ^ (j + 1) = 0) : 10 ^ j ≤ n ∧ n < 10 ^ (j + 1) ∧ n / 10 ^ j % 10 = n / 10 ^ j := by
  have hp : 0 < 10 ^ j := Nat.pow_pos (by decide)
  have hq : 0 < 10 ^ (j + 1) := Nat.pow_pos (by decide)
  have a : 10 ^ j ≤ n := by
    rcases Nat.lt_or_ge n (10 ^ j) with h | h
    · exact absurd (Nat.div_eq_of_lt h) h0
    · exact h
  have b : n < 10 ^ (j + 1) := by
    rcases Nat.lt_or_ge n (10 ^ (j + 1)) with h | h
    · exact h
    · have := Nat.div_pos h hq; omega
  refine ⟨a, b, Nat.mod_eq_of_lt ?_⟩
  rw [Nat.div_lt_iff_lt_mul hp, Nat.mul_comm, ← Nat.pow_succ]
  exact b
end Go.Proofs.YtgjnchjkjdnidaaGreat

/- Lists of the call's own: slices that it made or appended to, and may write. -/
namespace Go.Proofs.YtgjnchjkjdnidaaGreat
open Go.RowKit

def Own {α : Type} (w : World) (B : Nat) (e : TypeId) (sz : Nat) (enc : α → List Value) (v : Value) (xs : List α) : Prop := w.ownsRow B e sz v xs.length (xs.flatMap enc)
section
variable {α : Type} {w w' : World} {B sz : Nat} {e : TypeId} {enc : α → List Value} {v : Value} {xs : List α}
theorem Own.rdl (h : Own w B e sz enc v xs) (hsz : ∀ a, (enc a).length = sz) : RdL w sz enc v xs := RdL.of_own hsz h
theorem Own.ext (h : Own w B e sz enc v xs) (hx : Ex w w') : Own w' B e sz enc v xs := own_ext h hx
theorem Own.nil_ (w : World) (B : Nat) (e : TypeId) (sz : Nat) (enc : α → List Value) : Own w B e sz enc (.slice none 0 0) [] := own_nil w B e sz
theorem Own.low {B' : Nat} (h : Own w B e sz enc v xs) (hB : B' ≤ B) : Own w B' e sz enc v xs := by
  refine ⟨h.1, ?_⟩
  rcases h.2 with h0 | ⟨g, cap, cur, h1, h2, h3⟩
  · exact .inl h0
  · exact .inr ⟨g, cap, cur, h1, Nat.le_trans hB h2, h3⟩
theorem Own.grown {b : Option Nat} (h : Own w B e sz enc v xs) (hg : w.grownBy w' b) (hne : ∀ k, v.ownBlock = some k → b = some k → False) : Own w' B e sz enc v xs := by
  refine World.ownsRow.kept h hg ?_
  cases hv : v.ownBlock with
  | none => exact .inl rfl
  | some k => exact .inr fun e => hne k hv e.symm
theorem Own.far {g : Nat} (h : Own w B e sz enc v xs) (hw : Wr w w' g) (hne : v.ownBlock = some g → False) : Own w' B e sz enc v xs :=
  h.grown hw.grownBy fun k hk hb => by injection hb with hb; subst hb; exact hne hk
theorem Own.lt {g : Nat} (h : Own w B e sz enc v xs) (hg : v.ownBlock = some g) : g < w.heap.size := (World.ownsRow.lt h g hg).2
theorem Own.ge {g : Nat} (h : Own w B e sz enc v xs) (hg : v.ownBlock = some g) : B ≤ g := (World.ownsRow.lt h g hg).1
theorem Own.cells {g i : Nat} {a : α} (h : Own w B e sz enc v xs) (hsz : ∀ a, (enc a).length = sz) (hg : v.ownBlock = some g) (hi : xs[i]? = some a) : Cells w ((⟨g, 0, none⟩ : Addr).add (i * sz)) (enc a) := fun j u hu => by
  rw [add_of_add]
  exact World.ownsRow.cells h hg _ u (getElem?_flatMap_at hsz xs i a hi j u hu)
theorem Own.shape (h : Own w B e sz enc v xs) : ∃ A c, v = .slice A xs.length c := by
  rcases h.2 with ⟨rfl, h0⟩ | ⟨g, cap, cur, rfl, _⟩
  · exact ⟨none, 0, by rw [h0]⟩
  · exact ⟨_, _, rfl⟩
theorem RdL.shape (h : RdL w sz enc v xs) : ∃ A c, v = .slice A xs.length c := by
  obtain ⟨A, c, rfl, _⟩ := h; exact ⟨A, c, rfl⟩
abbrev encN (n : Nat) : List Value := [.int .u8 (n : Int)]
theorem encN_len (n : Nat) : (encN n).length = 1 := rfl
abbrev encV (v : Value) : List Value := [v]
theorem encV_len (v : Value) : (encV v).length = 1 := rfl
abbrev encI (n : Int) : List Value := [.int .i64 n]
def Sep (v u : Value) : Prop := ∀ k, v.ownBlock = some k → u.ownBlock = some k → False
theorem Sep.symm {v u : Value} (h : Sep v u) : Sep u v := fun k a b => h k b a
theorem Sep.nil_ (u : Value) : Sep (.slice none 0 0) u := fun k h => by cases h
theorem Sep.of_new {u : Value} {β : Type} {B' : Nat} {e' : TypeId} {sz' : Nat} {enc' : β → List Value} {ys : List β} (h : Own w B' e' sz' enc' u ys) (hv : ∀ k, v.ownBlock = some k → w.heap.size ≤ k) : Sep v u := fun k h1 h2 => by
  have := hv k h1; have := h.lt h2; omega
theorem Sep.app {v' u : Value} {β : Type} {B' : Nat} {e' : TypeId} {sz' : Nat} {enc' : β → List Value} {ys : List β} (hs : Sep v u) (h : Own w B' e' sz' enc' u ys) (ha : v'.ownBlock = v.ownBlock ∨ v'.ownBlock = some w.heap.size) : Sep v' u := fun k h1 h2 => by
  rcases ha with e | e
  · exact hs k (by rw [← e]; exact h1) h2
  · rw [h1] at e; injection e with e; have := h.lt h2; omega
theorem sep_new {g : Nat} (h : Own w B e sz enc v xs) (hg : g = w.heap.size) (hv : v.ownBlock = some g) : False := by have := h.lt hv; omega
theorem sepb_app {v' : Value} {g : Nat} {t : TypeId} {cs : List Value} (hs : v.ownBlock = some g → False) (h : Blk w g t cs) (ha : v'.ownBlock = v.ownBlock ∨ v'.ownBlock = some w.heap.size) : v'.ownBlock = some g → False := fun h1 => by
  rcases ha with e | e
  · exact hs (by rw [← e]; exact h1)
  · rw [h1] at e; injection e with e; have := h.lt; omega
theorem sep_blk {g : Nat} {t : TypeId} {cs : List Value} (h : Blk w g t cs) (hB : w.heap.size ≤ B) {w2 : World} (h2 : Own w2 B e sz enc v xs) : v.ownBlock = some g → False := fun e => by
  have := h2.ge e; have := h.lt; omega
end

section
variable {P : Program} {ops : Array Oper} {Q : Exit → Act → World → Prop} {n : Nat} {l : List Oper} {S : Slots} {w w' : World} {o : Oper} {d g : Nat}
variable {α : Type} {B sz : Nat} {e : TypeId} {enc : α → List Value} {v : Value} {xs : List α}

theorem Own.idx_ev {T : Nat} {x y : Operand} {k : IntKind} {i : Nat} {a : α} (h : Own w B e sz enc v xs) (hsz : ∀ a, (enc a).length = sz) (ho : o.op = .indexAddr T x y) (hx : ev S x = some v) (hy : ev S y = some (.int k i)) (ht : P.underlying T = some (.slice e)) (hs : sizeP P e = some sz) (hi : xs[i]? = some a) :
    ∃ g, v.ownBlock = some g ∧ B ≤ g ∧ g < w.heap.size ∧ Cells w ((⟨g, 0, none⟩ : Addr).add (i * sz)) (enc a) ∧ ∀ w', Ev P n o S w' (.pointer (some ((⟨g, 0, none⟩ : Addr).add (i * sz)))) := by
  have hlt : i < xs.length := (List.getElem?_eq_some_iff.1 hi).1
  obtain ⟨g, cap, rfl, hB, hg⟩ := own_at h (by omega)
  exact ⟨g, rfl, hB, hg, h.cells hsz rfl hi, fun _ => Ev.idxN ho hx hy ht hs hlt⟩
theorem RG.idxO {T : Nat} {x y : Operand} {k : IntKind} {i : Nat} {a : α} (hw : wantS ops S o = some true) (hd : o.dst = some d) (hdn : Nat.blt d n = true) (ho : o.op = .indexAddr T x y) (hx : ev S x = some v) (hy : ev S y = some (.int k i)) (ht : P.underlying T = some (.slice e)) (hs : sizeP P e = some sz)
    (hsz : ∀ a, (enc a).length = sz) (h : Own w B e sz enc v xs) (hi : xs[i]? = some a)
    (kk : ∀ g, v.ownBlock = some g → B ≤ g → (((⟨g, 0, none⟩ : Addr).add (i * sz)).block < w.heap.size) → Cells w ((⟨g, 0, none⟩ : Addr).add (i * sz)) (enc a) → RG P ops Q n l ((d, .pointer (some ((⟨g, 0, none⟩ : Addr).add (i * sz)))) :: S) w) : RG P ops Q n (o :: l) S w := by
  obtain ⟨g, h1, h2, h3, h4, h5⟩ := h.idx_ev (P := P) (n := n) hsz ho hx hy ht hs hi
  exact RG.vl hw hd hdn (h5 w) (kk g h1 h2 (by rw [block_of_add]; exact h3) h4)
theorem AG.idxO {U : List Nat} {row : Rk} {f : Nat} {listed : Array Bool} {T : Nat} {x y : Operand} {k : IntKind} {ix : Nat} {a : α} (w0 : World) (i : Nat) {oi : Oper} (hi : ops[i]? = some oi) (hns : Region.noSelect ops = true) (hf : freeZ ops U listed i false = true) (hw : wantS ops S oi = some true) (hd : oi.dst = some d) (hdn : Nat.blt d n = true)
    (ho : oi.op = .indexAddr T x y) (hx : ev S x = some v) (hy : ev S y = some (.int k ix)) (ht : P.underlying T = some (.slice e)) (hs : sizeP P e = some sz)
    (hsz : ∀ a, (enc a).length = sz) (h : Own w0 B e sz enc v xs) (hix : xs[ix]? = some a)
    (kk : ∀ g, v.ownBlock = some g → B ≤ g → (((⟨g, 0, none⟩ : Addr).add (ix * sz)).block < w0.heap.size) → Cells w0 ((⟨g, 0, none⟩ : Addr).add (ix * sz)) (enc a) → AG P ops Q U row n f (listed.setIfInBounds i true) ((d, .pointer (some ((⟨g, 0, none⟩ : Addr).add (ix * sz)))) :: S) w) : AG P ops Q U row n (f + 1) listed S w := by
  obtain ⟨g, h1, h2, h3, h4, h5⟩ := h.idx_ev (P := P) (n := n) hsz ho hx hy ht hs hix
  exact AG.takeW i hi hns hf hw hd hdn h5 (kk g h1 h2 (by rw [block_of_add]; exact h3) h4)
theorem RG.stOw {T k j : Nat} {x y : Operand} {u : Value} {a : α} (b : α) (hw : wantS ops S o = some true) (hd : o.dst = none) (ho : o.op = .store T x y) (hx : ev S x = some (.pointer (some (((⟨g, 0, none⟩ : Addr).add (k * sz)).add j)))) (hy : ev S y = some u)
    (hs : sizeP P T = some 1) (h1 : u.oneCell' = true) (hsz : ∀ a, (enc a).length = sz) (hown : Own w B e sz enc v xs) (hg : v.ownBlock = some g) (hk : xs[k]? = some a) (hj : Nat.blt j sz = true) (he : (enc a).set j u = enc b)
    (kk : ∀ w', Wr w w' g → Own w' B e sz enc v (xs.set k b) → RG P ops Q n l S w') : RG P ops Q n (o :: l) S w := by
  have hlt : k < xs.length := (List.getElem?_eq_some_iff.1 hk).1
  have hj' : j < sz := by simpa [Nat.blt_eq] using hj
  obtain ⟨g', cap, rfl, hB, hgl⟩ := own_at hown (by omega)
  have : g' = g := by simpa [Value.ownBlock] using hg
  subst this
  refine RG.stO2 hw hd ho hx hy hs h1 hown ?_ fun w' hwr h' => kk w' hwr ?_
  · calc k * sz + j < k * sz + sz := by omega
      _ = (k + 1) * sz := by rw [Nat.add_mul]; omega
      _ ≤ _ := Nat.mul_le_mul_right _ hlt
  · unfold Own; exact own_set hsz b k j hj' hk he h'
theorem RG.stOw0 {T k : Nat} {x y : Operand} {u : Value} {a : α} (b : α) (hw : wantS ops S o = some true) (hd : o.dst = none) (ho : o.op = .store T x y) (hx : ev S x = some (.pointer (some ((⟨g, 0, none⟩ : Addr).add (k * sz))))) (hy : ev S y = some u)
    (hs : sizeP P T = some 1) (h1 : u.oneCell' = true) (hsz : ∀ a, (enc a).length = sz) (hown : Own w B e sz enc v xs) (hg : v.ownBlock = some g) (hk : xs[k]? = some a) (hj : Nat.blt 0 sz = true) (he : (enc a).set 0 u = enc b)
    (kk : ∀ w', Wr w w' g → Own w' B e sz enc v (xs.set k b) → RG P ops Q n l S w') : RG P ops Q n (o :: l) S w :=
  RG.stOw (j := 0) b hw hd ho (by rw [add_zero_]; exact hx) hy hs h1 hsz hown hg hk hj he kk
theorem Ev.nilC {x : Operand} {p : Addr} (ho : o.op = .nilCheck x) (hx : ev S x = some (.pointer (some p))) : Ev P n o S w (.pointer (some p)) := fun a ha => by
  simp only [execOp, ho]; rw [ha.eval hx]
  simp
theorem RG.appO {T by_ : Nat} {z u : Value} {x y : Operand} {c : Call} {us : List α} (hw : wantS ops S o = some true) (hd : o.dst = some d) (hdn : Nat.blt d n = true) (ho : o.op = .call c) (hc : c = { callee := .builtin .append, args := #[x, y], argTypes := #[T, T] })
    (hx : ev S x = some v) (hy : ev S y = some u) (ht : P.underlying T = some (.slice e)) (hi : (P.info? e).map (fun i => (i.zero, i.size, i.bytes)) = some (some z, sz, by_)) (hz : z.cells.size = sz) (hsz0 : Nat.blt 0 sz = true) (henc : ∀ a, (enc a).length = sz) (h1' : ∀ a, (enc a).all (·.oneCell') = true)
    (hown : Own w B e sz enc v xs) (hr : RdL w sz enc u us) (hlen : xs.length + us.length ≤ maxLen) (hby : (xs.length + us.length) * by_ ≤ 140737488355328) (hbase : B ≤ w.heap.size)
    (kk : ∀ v' w', Own w' B e sz enc v' (xs ++ us) → w.grownBy w' v.ownBlock → (v'.ownBlock = v.ownBlock ∨ v'.ownBlock = some w.heap.size) → RG P ops Q n l ((d, v') :: S) w') : RG P ops Q n (o :: l) S w :=
  RG.appLL hw hd hdn ho hc hx hy ht hi hz hsz0 henc h1' hown hr hlen hby hbase kk
theorem RG.makeO {T by_ m : Nat} {c : Int} {z : Value} (a : α) {x y : Operand} {kx ky : IntKind} (hw : wantS ops S o = some true) (hd : o.dst = some d) (hdn : Nat.blt d n = true) (ho : o.op = .makeSlice T x y) (hx : ev S x = some (.int kx c)) (hy : ev S y = some (.int ky c)) (hc : c = (m : Int))
    (ht : P.underlying T = some (.slice e)) (hi : (P.info? e).map (fun i => (i.zero, i.size, i.bytes)) = some (some z, sz, by_)) (henc : ∀ a, (enc a).length = sz) (hz : z.cells.toList = enc a) (hsz : Nat.blt 0 sz = true) (hm : m * by_ ≤ 281474976710656) (hm2 : m ≤ maxLen)
    (kk : ∀ v w', Ex w w' → Own w' w.heap.size e sz enc v (List.replicate m a) → (∀ k, v.ownBlock = some k → w.heap.size ≤ k) → RG P ops Q n l ((d, v) :: S) w') : RG P ops Q n (o :: l) S w :=
  RG.makeL a hw hd hdn ho hx hy hc ht hi henc hz hsz hm hm2 fun g w' hg hx' hb _ => kk _ w' hx' (by
    unfold Own
    rw [List.length_replicate]
    exact own_blk hb (by omega) hm2 (by rw [length_flatMap_enc henc, List.length_replicate])) (fun k hk => by injection hk with hk; simp at hk; omega)
theorem RG.build0O {T : Nat} {parts : Array (Nat × Operand)} (hw : wantS ops S o = some true) (hd : o.dst = some d) (hdn : Nat.blt d n = true) (ho : o.op = .buildSlice T 0 parts) (hp : parts = #[]) (ht : P.underlying T = some (.slice e)) (hs : sizeP P e = some sz)
    (kk : ∀ v w', Ex w w' → Own w' w.heap.size e sz enc v [] → (∀ k, v.ownBlock = some k → w.heap.size ≤ k) → RG P ops Q n l ((d, v) :: S) w') : RG P ops Q n (o :: l) S w :=
  RG.build0 hw hd hdn ho hp ht hs fun g w' hg hx' hb => kk _ w' hx' (own_blk hb (by omega) (Nat.zero_le _) (by simp)) (fun k hk => by injection hk with hk; simp at hk; omega)
theorem RG.litO {T len by_ : Nat} {z : Value} {os : List Operand} {vs : List Value} {parts : Array (Nat × Operand)} (us : List α) (hw : wantS ops S o = some true) (hd : o.dst = some d) (hdn : Nat.blt d n = true) (ho : o.op = .buildSlice T len parts)
    (hp : parts = (os.zipIdx.map fun x => (x.2, x.1)).toArray) (hx : evs S os = some vs) (hlen : vs.length = len) (ht : P.underlying T = some (.slice e)) (hi : (P.info? e).map (fun i => (i.zero, i.size, i.bytes)) = some (some z, sz, by_)) (hz : z.cells.size = sz)
    (hsm : Nat.ble (len * sz) 16777216 = true) (hpos : Nat.beq (len * sz) 0 = false) (hv : vs.all (fun v => Nat.beq v.cells.size sz) = true) (hul : us.length = len) (henc : ∀ a, (enc a).length = sz) (hm : Nat.ble len maxLen = true) (he : (vs.flatMap fun v => v.cells.toList) = us.flatMap enc)
    (kk : ∀ v w', Ex w w' → Own w' w.heap.size e sz enc v us → (∀ k, v.ownBlock = some k → w.heap.size ≤ k) → RG P ops Q n l ((d, v) :: S) w') : RG P ops Q n (o :: l) S w :=
  RG.buildD hw hd hdn ho hp hx hlen ht hi hz hsm hpos hv fun g w' hg hx' hb => kk _ w' hx' (by
    unfold Own
    rw [he] at hb
    subst hul
    exact own_blk hb (by omega) (Nat.le_of_ble_eq_true hm) (by rw [length_flatMap_enc henc])) (fun k hk => by injection hk with hk; simp at hk; omega)
end
/-! two ways that meet -/
section
variable {P : Program} {Q : Exit → Act → World → Prop} {n : Nat} {S : Slots} {w : World}
end
end Go.Proofs.YtgjnchjkjdnidaaGreat

/- Shifts, bits of words, capacity, slices up to the capacity. -/
namespace Go.Proofs.YtgjnchjkjdnidaaGreat
open Go.RowKit
section
variable {P : Program} {ops : Array Oper} {Q : Exit → Act → World → Prop} {n : Nat} {l : List Oper} {S : Slots} {w w' : World} {o : Oper} {d : Nat}
theorem Ev.shrI {T T' : TypeId} {x y : Operand} {k yk : IntKind} {p q : Int} (ho : o.op = .binOp .shr T x y T') (hx : ev S x = some (.int k p)) (hy : ev S y = some (.int yk q)) (hq : 0 ≤ q) : Ev P n o S w (.int k (p / 2 ^ min q.toNat k.bits)) := fun a ha => by
  simp only [execOp, ho]; rw [ha.eval hx, ha.eval hy]
  simp only [eqGuard, binOp, shift_shr_any k yk p q hq]
  simp
theorem Ev.shlI {T T' : TypeId} {x y : Operand} {k yk : IntKind} {p q : Int} (ho : o.op = .binOp .shl T x y T') (hx : ev S x = some (.int k p)) (hy : ev S y = some (.int yk q)) (hq : 0 ≤ q) : Ev P n o S w (.int k (k.wrap (p * 2 ^ min q.toNat k.bits))) := fun a ha => by
  simp only [execOp, ho]; rw [ha.eval hx, ha.eval hy]
  simp only [eqGuard, binOp, shift_shl_any k yk p q hq]
  simp
theorem shr_cast (p q : Nat) : (p : Int) / 2 ^ q = ((p >>> q : Nat) : Int) := by
  rw [Nat.shiftRight_eq_div_pow, Int.natCast_ediv, Int.natCast_pow]; rfl
theorem shl_cast (p q : Nat) : (p : Int) * 2 ^ q = ((p <<< q : Nat) : Int) := by
  rw [Nat.shiftLeft_eq, Int.natCast_mul, Int.natCast_pow]; rfl
theorem i64_nat (r : Nat) (h : r < 9223372036854775808) : IntKind.i64.wrap (r : Int) = r := IntWalk.i64_in _ (by omega)
theorem Ev.shrN {T T' : TypeId} {x y : Operand} {k yk : IntKind} {p q : Nat} (ho : o.op = .binOp .shr T x y T') (hx : ev S x = some (.int k p)) (hy : ev S y = some (.int yk q)) (hq : q ≤ k.bits) : Ev P n o S w (.int k ((p >>> q : Nat) : Int)) :=
  (Ev.shrI ho hx hy (by omega)).conv (by rw [Int.toNat_natCast, Nat.min_eq_left hq, shr_cast])
theorem Ev.shlN {T T' : TypeId} {x y : Operand} {yk : IntKind} {p q : Nat} (ho : o.op = .binOp .shl T x y T') (hx : ev S x = some (.int .i64 p)) (hy : ev S y = some (.int yk q)) (hq : q ≤ 64) (hr : p <<< q < 9223372036854775808) : Ev P n o S w (.int .i64 ((p <<< q : Nat) : Int)) :=
  (Ev.shlI ho hx hy (by omega)).conv (by rw [Int.toNat_natCast, show IntKind.i64.bits = 64 from rfl, Nat.min_eq_left hq, shl_cast, i64_nat _ hr])
theorem ofInt64 (p : Nat) (h : p < 9223372036854775808) : (BitVec.ofInt 64 (p : Int)).toNat = p := by
  rw [BitVec.ofInt_natCast, BitVec.toNat_ofNat]; exact Nat.mod_eq_of_lt (by omega)
theorem Ev.xor64 {T T' : TypeId} {x y : Operand} {p q : Nat} (ho : o.op = .binOp .xor T x y T') (hx : ev S x = some (.int .i64 p)) (hy : ev S y = some (.int .i64 q))
    (hp : p < 9223372036854775808) (hq : q < 9223372036854775808) : Ev P n o S w (.int .i64 ((p ^^^ q : Nat) : Int)) := fun a ha => by
  simp only [execOp, ho]; rw [ha.eval hx, ha.eval hy]
  simp only [eqGuard, binOp, Op.intBits]
  simp
  show IntKind.i64.wrap ((BitVec.ofInt 64 (p : Int) ^^^ BitVec.ofInt 64 (q : Int)).toNat : Int) = _
  have := Nat.xor_lt_two_pow (n := 63) (x := p) (y := q) hp hq
  rw [BitVec.toNat_xor, ofInt64 p hp, ofInt64 q hq, IntWalk.i64_in _ (by omega)]
theorem Ev.upTo {T e sz m c H : Nat} {ad : Addr} {x y : Operand} {k : IntKind} (ho : o.op = .slice T x none (some y) none) (hx : ev S x = some (.slice (some ad) m c)) (hy : ev S y = some (.int k (H : Int)))
    (ht : P.underlying T = some (.slice e)) (hs : sizeP P e = some sz) (hc : H ≤ c) : Ev P n o S w (.slice (some ad) H c) := fun a ha => by
  have key : (Instr.sliceBounds true m c (none : Option Value) (some (a.eval y)) none).run P w = .ok (0, H, c) w := by
    simp [Instr.sliceBounds, Instr.sliceBound, asIntOf, ha.eval hy, hc]
  simp only [execOp, ho]; rw [ha.eval hx]
  simp only [Instr.sliceAt, Instr.slice, Option.map_none, Option.map_some, Sem.run_bind, run_underlying ht, Result.andThen, key, run_sizeOf hs, Sem.run_pure]
  simp [add_zero_]
end
end Go.Proofs.YtgjnchjkjdnidaaGreat

/- A store of a whole element into a list of the call's own. -/
namespace Go.Proofs.YtgjnchjkjdnidaaGreat
open Go.RowKit
abbrev I8 : Type := {a : Int // (Lit.int .i8 a).wf = true}
abbrev encS (x : I8) : List Value := [.int .i8 x.1]
section
variable {α : Type} {P : Program} {ops : Array Oper} {Q : Exit → Act → World → Prop} {n : Nat} {l : List Oper} {S : Slots} {w w' : World} {o : Oper} {g : Nat}
end
end Go.Proofs.YtgjnchjkjdnidaaGreat

/- Strings and bytes: append of a string, make with room, a rune as a string, a struct out of an array's value, bits of a byte. -/
namespace Go.Proofs.YtgjnchjkjdnidaaGreat
open Go.RowKit
section
variable {P : Program} {ops : Array Oper} {Q : Exit → Act → World → Prop} {n : Nat} {l : List Oper} {S : Slots} {w w' : World} {o : Oper} {d : Nat}
theorem Ev.to32 {src dst : TypeId} {x : Operand} {k : IntKind} {p : Int} {sd : TypeDesc} (ho : o.op = .convert src dst x) (hx : ev S x = some (.int k p)) (hs : P.underlying src = some sd) (hd : P.underlying dst = some (.int .i32))
    (hr : -2147483648 ≤ p ∧ p ≤ 2147483647) : Ev P n o S w (.int .i32 p) := (Ev.toInt ho hx hs hd).conv (by rw [IntWalk.i32_in _ hr])
theorem Ev.shl8 {T T' : TypeId} {x y : Operand} {yk : IntKind} {p q : Nat} (ho : o.op = .binOp .shl T x y T') (hx : ev S x = some (.int .u8 p)) (hy : ev S y = some (.int yk q)) (hq : q ≤ 8) (hr : p <<< q < 256) : Ev P n o S w (.int .u8 ((p <<< q : Nat) : Int)) :=
  (Ev.shlI ho hx hy (by omega)).conv (by rw [Int.toNat_natCast, show IntKind.u8.bits = 8 from rfl, Nat.min_eq_left hq, shl_cast, u8_back _ hr])
end
end Go.Proofs.YtgjnchjkjdnidaaGreat

/- Strings that are ranged over, lists of runes. -/
namespace Go.Proofs.YtgjnchjkjdnidaaGreat
open Go.RowKit
def Si (w : World) (r : Nat) (s : ByteArray) (pos : Nat) : Prop := w.heap[r]? = some (.stringIter s pos)
section
variable {P : Program} {ops : Array Oper} {Q : Exit → Act → World → Prop} {n d : Nat} {l : List Oper} {S : Slots} {w : World} {o : Oper} {r : Nat} {s : ByteArray} {pos : Nat}
theorem Si.ext {w' : World} (h : Si w r s pos) (hx : Ex w w') : Si w' r s pos := (hx.block r (Array.getElem?_eq_some_iff.1 h).1).trans h
theorem Si.lt (h : Si w r s pos) : r < w.heap.size := (Array.getElem?_eq_some_iff.1 h).1
theorem Si.far {w' : World} {g : Nat} (h : Si w r s pos) (k : Wr w w' g) (hne : r ≠ g) : Si w' r s pos := (k.block r hne).trans h
theorem run_next_si {ty : TypeId} (h : Si w r s pos) (hp : pos < s.size) :
    (Instr.next (.pointer (some ⟨r, 0, none⟩)) true ty).run P w = .ok (.tuple #[.bool true, .int .i64 pos, .int .i32 (Utf8.decode s pos).1]) (ChangeMaps.setBlock w r (.stringIter s (pos + (Utf8.decode s pos).2))) := by
  unfold Si at h
  simp only [Instr.next, getObj, setObj, Sem.run_bind, Sem.run, h, Result.andThen, hp, if_true]
  simp [goInt, ChangeMaps.setBlock]
theorem run_next_si_end {ty : TypeId} (h : Si w r s pos) (hp : ¬ pos < s.size) : (Instr.next (.pointer (some ⟨r, 0, none⟩)) true ty).run P w = .ok (.tuple #[.bool false]) w := by
  unfold Si at h
  simp [Instr.next, getObj, Sem.run, h, hp]
theorem RG.sRange {T : Nat} {x : Operand} (hw : wantS ops S o = some true) (hd : o.dst = some d) (hdn : Nat.blt d n = true) (ho : o.op = .range T x) (hx : ev S x = some (.string s)) (ht : P.underlying T = some .string)
    (kk : ∀ r w', r = w.heap.size → Ex w w' → Si w' r s 0 → RG P ops Q n l ((d, .pointer (some ⟨r, 0, none⟩)) :: S) w') : RG P ops Q n (o :: l) S w := by
  refine RG.run (w' := w.iter s 0) hw hd hdn (fun a ha => ?_) (kk w.heap.size _ rfl (Ex.of_alloc w _) (World.iter_heap w s 0))
  simp only [execOp, ho]; rw [ha.eval hx]
  simp [run_range_string w T s ht]
theorem RG.sNext {x : Operand} (hw : wantS ops S o = some true) (hd : o.dst = some d) (hdn : Nat.blt d n = true) (ho : o.op = .next x true) (hx : ev S x = some (.pointer (some ⟨r, 0, none⟩))) (h : Si w r s pos)
    (k0 : s.size ≤ pos → RG P ops Q n l ((d, .tuple #[.bool false]) :: S) w)
    (k1 : ∀ w', pos < s.size → Wr w w' r → Si w' r s (pos + (Utf8.decode s pos).2) → RG P ops Q n l ((d, .tuple #[.bool true, .int .i64 pos, .int .i32 (Utf8.decode s pos).1]) :: S) w') : RG P ops Q n (o :: l) S w := by
  by_cases hp : pos < s.size
  · have hlt := h.lt
    have hs := MapKept.heap_set (o' := .stringIter s (pos + (Utf8.decode s pos).2)) (show w.heap[r]? = some (.stringIter s pos) from h)
    refine RG.run (w' := ChangeMaps.setBlock w r (.stringIter s (pos + (Utf8.decode s pos).2))) hw hd hdn (fun a ha => ?_) (k1 _ hp ⟨rfl, rfl, rfl, by simp [ChangeMaps.setBlock], fun j hj => hs.2 j hj⟩ hs.1)
    simp only [execOp, ho]; rw [ha.eval hx]
    simp [run_next_si h hp]
  · refine RG.run hw hd hdn (fun a ha => ?_) (k0 (by omega))
    simp only [execOp, ho]; rw [ha.eval hx]
    simp [run_next_si_end h hp]
theorem dec_lo {t : List UInt8} {i : Nat} {c : UInt8} (h : t[i]? = some c) (hc : c.toNat < 128) : Utf8.decode ⟨t.toArray⟩ i = (c.toNat, 1) := by
  obtain ⟨hi, e⟩ := List.getElem?_eq_some_iff.1 h
  have hs : i < (⟨t.toArray⟩ : ByteArray).size := by simpa [ByteArray.size] using hi
  have hb : ((⟨t.toArray⟩ : ByteArray)[i]'hs) = c := by rw [← e]; rfl
  rw [decode_ascii _ _ hs (by rw [hb]; exact hc), hb]
theorem dec_hi {t : List UInt8} {i : Nat} {c : UInt8} (h : t[i]? = some c) (hc : 128 ≤ c.toNat) : 128 ≤ (Utf8.decode ⟨t.toArray⟩ i).1 ∧ 1 ≤ (Utf8.decode ⟨t.toArray⟩ i).2 := by
  obtain ⟨hi, e⟩ := List.getElem?_eq_some_iff.1 h
  have hs : i < (⟨t.toArray⟩ : ByteArray).size := by simpa [ByteArray.size] using hi
  exact decode_high _ _ hs (by rw [show ((⟨t.toArray⟩ : ByteArray)[i]'hs) = c from by rw [← e]; rfl]; exact hc)
theorem CW.scope {c : Code} (k : CW P c (Exit.noGoto Q) n S w) : CW P (.scope c) Q n S w := fun a ha => wp_scope_straight (k a ha)
theorem QW.noGotoR (k : QW Q .ret n S w) : QW (Exit.noGoto Q) .ret n S w := k
theorem Ev.runeStrAny {src dst : TypeId} {x : Operand} {k : IntKind} {p : Int} (ho : o.op = .convert src dst x) (hx : ev S x = some (.int k p)) (hs : P.underlying src = some (.int k)) (hd : P.underlying dst = some .string) : Ev P n o S w (.string (Utf8.encode p)) := fun a ha => by
  simp only [execOp, ho]; rw [ha.eval hx]
  simp [convert, run_underlying hs, run_underlying hd, Conv.intToString]
end
/-! []rune(s) -/
abbrev encR (r : Nat) : List Value := [.int .i32 (r : Int)]
theorem encR_len (r : Nat) : (encR r).length = 1 := rfl
theorem runes_lo {t : List UInt8} (h : ∀ c ∈ t, c.toNat < 128) : ∀ (b i : Nat) (acc : Array Value), t.length ≤ i + b → Conv.runesFrom ⟨t.toArray⟩ b i acc = acc ++ ((t.drop i).map fun c => Value.int .i32 (c.toNat : Int)).toArray
  | 0, i, acc, hb => by rw [List.drop_eq_nil_of_le (by omega)]; simp [Conv.runesFrom]
  | b + 1, i, acc, hb => by
    unfold Conv.runesFrom
    have hsz : (⟨t.toArray⟩ : ByteArray).size = t.length := by simp [ByteArray.size]
    by_cases hi : i < t.length
    · rw [if_pos (by rw [hsz]; exact hi), dec_lo (List.getElem?_eq_getElem hi) (h _ (List.getElem_mem hi))]
      show Conv.runesFrom _ b (i + 1) _ = _
      rw [runes_lo h b (i + 1) _ (by omega), List.drop_eq_getElem_cons hi]
      apply Array.ext'
      simp only [Array.toList_append, Array.toList_push, List.map_cons, List.append_assoc, List.cons_append, List.nil_append]
      rfl
    · rw [if_neg (by rw [hsz]; exact hi), List.drop_eq_nil_of_le (by omega)]
      simp
def Rn (w : World) (g e : Nat) (cap : Nat) (t : List UInt8) : Prop := Blk w g e (t.map (fun c => Value.int .i32 (c.toNat : Int)) ++ List.replicate (cap - t.length) (.int .i32 0)) ∧ t.length ≤ cap ∧ cap ≤ maxLen
theorem Rn.rdl {w : World} {g e cap : Nat} {t : List UInt8} (h : Rn w g e cap t) : RdL w 1 encR (.slice (some ⟨g, 0, none⟩) t.length cap) (t.map (·.toNat)) := by
  obtain ⟨hb, h1, h2⟩ := h
  refine ⟨_, cap, by rw [List.length_map], by rw [List.length_map]; exact h1, h2, fun hl => ⟨_, rfl, (Array.getElem?_eq_some_iff.1 hb).1, fun i a hi j u hu => ?_⟩⟩
  have hlt := (List.getElem?_eq_some_iff.1 hi).1
  rw [List.length_map] at hlt
  match j, hu with
  | 0, hu =>
    simp only [encR, List.getElem?_cons_zero, Option.some.injEq] at hu
    subst hu
    rw [add_of_add, add_at, Nat.mul_one, Nat.add_zero, hb.cell i, List.getElem?_append_left (by rw [List.length_map]; exact hlt)]
    rw [List.getElem?_map] at hi ⊢
    cases hq : t[i]? with
    | none => rw [hq] at hi; cases hi
    | some c => rw [hq] at hi; simp at hi; subst hi; rfl
  | j + 1, hu => simp [encR] at hu
section
variable {P : Program} {ops : Array Oper} {Q : Exit → Act → World → Prop} {n d : Nat} {l : List Oper} {S : Slots} {w : World} {o : Oper}
theorem RG.toRunes {src dst e : Nat} {x : Operand} {t : List UInt8} (hw : wantS ops S o = some true) (hd : o.dst = some d) (hdn : Nat.blt d n = true) (ho : o.op = .convert src dst x) (hx : ev S x = some (.string ⟨t.toArray⟩))
    (h1 : P.underlying src = some .string) (h2 : P.underlying dst = some (.slice e)) (h3 : P.underlying e = some (.int .i32)) (hl : t.length ≤ 1000000) (ha : ∀ c ∈ t, c.toNat < 128)
    (kk : ∀ g cap w', g = w.heap.size → Ex w w' → Rn w' g e cap t → RG P ops Q n l ((d, .slice (some ⟨g, 0, none⟩) t.length cap) :: S) w') : RG P ops Q n (o :: l) S w := by
  have hsz : (⟨t.toArray⟩ : ByteArray).size = t.length := by simp [ByteArray.size]
  have hr := runes_lo ha t.length 0 #[] (by omega)
  rw [List.drop_zero, Array.empty_append] at hr
  have hrs : (Conv.runesFrom ⟨t.toArray⟩ t.length 0 #[]).size = t.length := by rw [hr]; simp
  have hrun := run_runes_of_string (P := P) w src dst e ⟨t.toArray⟩ h1 h2 h3 (by rw [hsz, hrs]; omega)
  rw [hsz, hrs, hr] at hrun
  have hnew : (w.drew.alloc (.cells ((t.map fun c => Value.int .i32 (c.toNat : Int)).toArray ++ Array.replicate (grownCap w t.length 0 e - t.length) (.int .i32 0)) e)).heap[w.heap.size]? = some (.cells ((t.map fun c => Value.int .i32 (c.toNat : Int)).toArray ++ Array.replicate (grownCap w t.length 0 e - t.length) (.int .i32 0)) e) := by
    show (w.heap.push _)[w.heap.size]? = _
    simp
  have hex : Ex w (w.drew.alloc (.cells ((t.map fun c => Value.int .i32 (c.toNat : Int)).toArray ++ Array.replicate (grownCap w t.length 0 e - t.length) (.int .i32 0)) e)) :=
    ⟨rfl, rfl, rfl, by show w.heap.size ≤ (w.heap.push _).size; simp, fun k hk => Below.heap_alloc w.drew _ k hk⟩
  refine RG.run hw hd hdn (fun a ha' => ?_) (kk w.heap.size (grownCap w t.length 0 e) _ rfl hex ⟨?_, grownCap_ge _ _ _ _, grownCap_le_maxLen _ _ _ _ (by unfold maxLen; omega)⟩)
  · simp only [execOp, ho]; rw [ha'.eval hx]
    simp [hrun]
  · unfold Blk
    rw [hnew]
    congr 2
    apply Array.ext'
    simp
end
end Go.Proofs.YtgjnchjkjdnidaaGreat

/- Results out of a cell and a slot; a slice as an array; runes as a string; the front of a list of the call's own. -/
namespace Go.Proofs.YtgjnchjkjdnidaaGreat
open Go.RowKit
section
variable {P : Program} {ops : Array Oper} {Q : Exit → Act → World → Prop} {n d : Nat} {l : List Oper} {S : Slots} {w : World} {o : Oper} {g : Nat}
theorem QW.retCT {fn : Func} {Φ : Value → World → Prop} {t T q k : Nat} {D : TypeDesc} {us : List Value} {x : Value} (hr : fn.results = #[.cell t T, .tmp q]) (hv : lk S t = some (.pointer (some ⟨g, 0, none⟩)))
    (hq : lk S q = some x) (ht : P.underlying T = some D) (hD : aggD D = true) (hs : sizeP P T = some k) (hk : us.length = k) (hb : Blk w g T us) (h : Φ (.tuple #[.agg us.toArray, x]) w) :
    QW (bodyPost P fn fun e w' => ∃ v, e = .returned v ∧ Φ v w') .ret n S w := by
  intro a ha
  have hl := run_loadCells_list (P := P) w ⟨g, 0, none⟩ us (fun j v hj => hb.cells j v hj)
  have hres : (results fn a.tmps).run P w = .ok (.tuple #[.agg us.toArray, x]) w := by
    have he : a.tmps[t]?.getD undef = .pointer (some ⟨g, 0, none⟩) := by
      have := ha.eval (x := .tmp t) hv
      simpa [Act.eval, Array.getD_eq_getD_getElem?] using this
    have hx : a.tmps[q]?.getD undef = x := by
      have := ha.eval (x := .tmp q) hq
      simpa [Act.eval, Array.getD_eq_getD_getElem?] using this
    simp only [results, hr]
    simp [Sem.run_bind, Result.andThen, he, hx, asAddr, loadVar, run_isAgg ht, hD, run_sizeOf hs, ← hk, hl]
  exact bodyPost_ret hres ha.df ⟨_, rfl, h⟩
theorem Ev.toArr {T e m len cap : Nat} {x : Operand} {A : Option Addr} (ho : o.op = .sliceToArrayPointer T x) (hx : ev S x = some (.slice A len cap)) (ht : P.underlying T = some (.array m e)) (hm : m ≤ len) : Ev P n o S w (.pointer A) := fun a ha => by
  simp only [execOp, ho]; rw [ha.eval hx]
  have := run_arrayAt (P := P) (w := w) T e m A len cap ht hm
  simp [this]
theorem enc_lo {r : Nat} (h : r < 128) : Utf8.encode (r : Int) = ⟨#[UInt8.ofNat r]⟩ := by
  unfold Utf8.encode
  simp only [Int.toNat_natCast]
  have hv : Utf8.valid (r : Int) = true := by
    unfold Utf8.valid
    simp
    omega
  rw [if_pos hv, if_pos (by omega)]
theorem runes_bytes : ∀ (l : List Nat) (s : ByteArray), (∀ r ∈ l, r < 128) → (l.map fun r : Nat => (r : Int)).foldl (fun r n => r ++ Utf8.encode n) s = s ++ ⟨(l.map UInt8.ofNat).toArray⟩
  | [], s, _ => by
    show s = s ++ ⟨#[]⟩
    cases s
    simp [ByteArray.ext_iff]
  | r :: l, s, h => by
    rw [List.map_cons, List.foldl_cons, runes_bytes l _ (fun x hx => h x (List.mem_cons_of_mem _ hx)), enc_lo (h r (List.mem_cons_self ..))]
    cases s
    simp [ByteArray.ext_iff]
theorem Ev.ofRunes {src dst e : Nat} {x : Operand} {v : Value} {l : List Nat} (ho : o.op = .convert src dst x) (hx : ev S x = some v) (h1 : P.underlying src = some (.slice e)) (h2 : P.underlying e = some (.int .i32)) (h3 : P.underlying dst = some .string)
    (h : RdL w 1 encR v l) (hlo : ∀ r ∈ l, r < 128) : Ev P n o S w (.string ⟨(l.map UInt8.ofNat).toArray⟩) := fun a ha => by
  simp only [execOp, ho]; rw [ha.eval hx]
  obtain ⟨A, c, rfl, hc1, hc2, hc3⟩ := h
  rcases Nat.eq_zero_or_pos l.length with h0 | h0
  · obtain rfl := List.eq_nil_of_length_eq_zero h0
    cases A with
    | none =>
      have := run_convert_runes_nil (P := P) w src dst e ([] : List Nat).length c h1 h2 h3
      rw [Sem.run_bind, this]; rfl
    | some ad =>
      have := run_convert_runes (P := P) w src dst e ad 0 c [] (Nat.le_refl _) h1 h2 h3 (fun j hj => absurd hj (by simp))
      rw [Sem.run_bind]
      rw [show (([] : List Nat).length) = 0 from rfl, this]; rfl
  · obtain ⟨ad, rfl, _, hcs⟩ := hc3 h0
    have hlen : (l.map fun r : Nat => (r : Int)).length = l.length := List.length_map ..
    have := run_convert_runes (P := P) w src dst e ad l.length c (l.map fun r : Nat => (r : Int)) (by rw [hlen]; exact Nat.le_refl _) h1 h2 h3 (fun j hj => by
      rw [hlen] at hj
      have hg := List.getElem?_eq_getElem hj
      have := hcs j _ hg 0 _ rfl
      rw [add_of_add, Nat.mul_one, Nat.add_zero] at this
      rw [this, List.getD, List.getElem?_map, hg]
      rfl)
    rw [List.take_of_length_le (by rw [hlen]; exact Nat.le_refl _)] at this
    have hb : runesBytes (l.map fun r : Nat => (r : Int)) = ⟨(l.map UInt8.ofNat).toArray⟩ := by
      unfold runesBytes
      rw [runes_bytes l _ hlo]
      simp
    rw [hb] at this
    simp [this]
end
theorem Own.front {α : Type} {w : World} {B g cap k N : Nat} {e sz : Nat} {enc : α → List Value} {xs : List α} (h : Own w B e sz enc (.slice (some ⟨g, 0, none⟩) N cap) xs) (henc : ∀ a, (enc a).length = sz) (hk : k ≤ xs.length) : Own w B e sz enc (.slice (some ⟨g, 0, none⟩) k cap) (xs.take k) := by
  obtain ⟨h1, h2⟩ := h
  have hl : ∀ ys : List α, (ys.flatMap enc).length = ys.length * sz := fun ys => by
    induction ys with
    | nil => simp
    | cons y ys ih => rw [List.flatMap_cons, List.length_append, ih, henc, List.length_cons, Nat.add_mul]; omega
  have htk : (xs.take k).length = k := by rw [List.length_take]; omega
  refine ⟨by rw [hl], ?_⟩
  rcases h2 with ⟨h2, _⟩ | ⟨g', cap', cur, h2, h3, h4, h5, h6, h7, h8⟩
  · cases h2
  · injection h2 with e1 e2 e3
    injection e1 with e1
    injection e1 with e1
    subst e1 e3
    refine .inr ⟨g, cap, cur, by rw [htk], h3, h4, by rw [htk]; omega, h6, h7, ?_⟩
    have hf : xs.flatMap enc = (xs.take k).flatMap enc ++ (xs.drop k).flatMap enc := by rw [← List.flatMap_append, List.take_append_drop]
    have h9 : k * sz ≤ xs.length * sz := Nat.mul_le_mul_right _ hk
    have h10 : cur.toList.take (k * sz) = (cur.toList.take (xs.length * sz)).take (k * sz) := by rw [List.take_take, Nat.min_eq_left h9]
    rw [htk, h10, h8, hf, List.take_append_of_le_length (by rw [hl, htk]; exact Nat.le_refl _), List.take_of_length_le (by rw [hl, htk]; exact Nat.le_refl _)]
end Go.Proofs.YtgjnchjkjdnidaaGreat

/- Plain: letters of bars, runes. -/
namespace Go.Proofs.YtgjnchjkjdnidaaGreat
open Go.RowKit
def isL (c : UInt8) : Bool := decide (c.toNat = 84 ∨ c.toNat = 65 ∨ c.toNat = 68 ∨ c.toNat = 70 ∨ c.toNat = 63)
def errB (m : Nat) (t : List UInt8) : Int := if 200 < t.length + m then 3 else if t.all isL then 0 else 2
theorem sb_len (t : List UInt8) : (⟨t.toArray⟩ : ByteArray).size = t.length := by simp [ByteArray.size]
abbrev s4 : List UInt8 := [84, 65, 68, 70]
theorem enc_hi {r : Nat} (h : 128 ≤ r) : ∃ (E : List UInt8) (z : UInt8), Utf8.encode (r : Int) = ⟨E.toArray⟩ ∧ 2 ≤ E.length ∧ E.length ≤ 4 ∧ E[E.length - 1]? = some z ∧ 128 ≤ z.toNat := by
  have hb : ∀ n, n < 64 → 128 ≤ (UInt8.ofNat (0x80 + n)).toNat := fun n hn => by
    rw [UInt8.toNat_ofNat_of_lt' (show 0x80 + n < 256 by omega)]; omega
  unfold Utf8.encode
  simp only [Int.toNat_natCast]
  generalize hc : (if Utf8.valid (r : Int) = true then r else Utf8.runeError) = c
  have hc128 : 128 ≤ c := by rw [← hc]; unfold Utf8.runeError; split <;> omega
  rw [if_neg (by omega)]
  split
  · exact ⟨[_, _], _, rfl, by simp, by simp, rfl, hb _ (Nat.mod_lt _ (by omega))⟩
  · split
    · exact ⟨[_, _, _], _, rfl, by simp, by simp, rfl, hb _ (Nat.mod_lt _ (by omega))⟩
    · exact ⟨[_, _, _, _], _, rfl, by simp, by simp, rfl, hb _ (Nat.mod_lt _ (by omega))⟩
theorem idx_neg {z : UInt8} (h : 128 ≤ z.toNat) : ∀ {l : List UInt8}, (∀ c ∈ l, c.toNat < 128) → Lib.indexByte l z < 0
  | [], _ => by simp [Lib.indexByte]
  | b :: l, hl => by
    have hb := hl b (by simp)
    have ih := idx_neg h (l := l) (fun c hc => hl c (List.mem_cons_of_mem _ hc))
    have hge := Lib.indexByte_ge l z
    have hm : Lib.indexByte l z = -1 := by omega
    unfold Lib.indexByte
    rw [if_neg (by simp; intro e; subst e; omega), if_pos (by simp [hm])]
    decide
theorem s4_lo : ∀ c ∈ s4, c.toNat < 128 := by decide
theorem s4_cut (i j : Nat) : ∀ c ∈ (s4.take j).drop i, c.toNat < 128 := fun c hc => s4_lo c (List.mem_of_mem_take (List.mem_of_mem_drop hc))
theorem idx_s4 (r : Nat) (h : r < 128) : (0 ≤ Lib.indexByte s4 (UInt8.ofNat r)) ↔ (r = 84 ∨ r = 65 ∨ r = 68 ∨ r = 70) := by
  have key : ∀ r, r < 128 → ((0 ≤ Lib.indexByte s4 (UInt8.ofNat r)) ↔ (r = 84 ∨ r = 65 ∨ r = 68 ∨ r = 70)) := by decide +kernel
  exact key r h
theorem ofNat_cast {r : Nat} (h : r < 128) : ((UInt8.ofNat r).toNat : Int) = (r : Int) := by rw [UInt8.toNat_ofNat_of_lt' (show r < 256 by omega)]
theorem all_take {p : UInt8 → Bool} {t : List UInt8} {i : Nat} {c : UInt8} (h : t[i]? = some c) (ha : (t.take i).all p = true) (hp : p c = true) : (t.take (i + 1)).all p = true := by
  obtain ⟨hi, e⟩ := List.getElem?_eq_some_iff.1 h
  rw [List.take_succ_eq_append_getElem hi, List.all_append, ha, e]; simp [hp]
theorem all_not {p : UInt8 → Bool} {t : List UInt8} {i : Nat} {c : UInt8} (h : t[i]? = some c) (hp : p c = false) : t.all p = false := by
  rw [List.all_eq_false]; exact ⟨c, List.mem_of_getElem? h, by simp [hp]⟩
theorem errB_long {m : Nat} {t : List UInt8} (h : 200 < t.length + m) : errB m t = 3 := by unfold errB; rw [if_pos h]
theorem errB_bad {m : Nat} {t : List UInt8} (h : ¬ 200 < t.length + m) (ha : t.all isL = false) : errB m t = 2 := by unfold errB; rw [if_neg h, ha]; rfl
theorem errB_ok {m : Nat} {t : List UInt8} (h : ¬ 200 < t.length + m) (ha : t.all isL = true) : errB m t = 0 := by unfold errB; rw [if_neg h, ha]; rfl
theorem isL_no {c : UInt8} (h : ¬ (c.toNat = 84 ∨ c.toNat = 65 ∨ c.toNat = 68 ∨ c.toNat = 70)) (h2 : c.toNat ≠ 63) : isL c = false := by unfold isL; rw [decide_eq_false_iff_not]; omega
theorem isL_yes {c : UInt8} (h : c.toNat = 84 ∨ c.toNat = 65 ∨ c.toNat = 68 ∨ c.toNat = 70 ∨ c.toNat = 63) : isL c = true := by unfold isL; rw [decide_eq_true_eq]; exact h
end Go.Proofs.YtgjnchjkjdnidaaGreat

/- Walks (BA). Written by program. -/
namespace Go.Proofs.YtgjnchjkjdnidaaGreat
open Go.RowKit
set_option maxRecDepth 100000 in
set_option maxHeartbeats 1000000 in
theorem idxb0_ret (l : List UInt8) (c : UInt8) (w : World)  :
  Ret Tryz.prog 86 [.string ⟨l.toArray⟩, .int .u8 c.toNat] w (fun v w' => v = .int .i64 (Lib.indexByte l c) ∧ Ex w w') := by
 have hB0 : Ex w w := Ex.rfl_ _
 refine Ret.of Tryz.func86 rfl Tryz.ntmps86 rfl ?_
 refine CW.seq (CW.region ?_)
 refine RG.vl rfl rfl rfl (Ev.assign rfl rfl) ?_
 refine RG.done (QW.then_ (CW.seq (CW.region ?_)))
 refine RG.vl rfl rfl rfl (Ev.move rfl rfl) ?_
 refine RG.vl rfl rfl rfl (Ev.move rfl rfl) ?_
 refine RG.vl rfl rfl rfl (Ev.ext_ rfl rfl rfl (xt_121 _ _ _)) ?_
 refine RG.vl rfl rfl rfl (Ev.assign rfl rfl) ?_
 refine RG.done (QW.then_ (CW.ret ?_))
 refine QW.ret1 rfl rfl ?_
 have hB := hB0
 exact ⟨by simp, hB⟩

set_option maxRecDepth 100000 in
set_option maxHeartbeats 1000000 in
theorem idxb1_ret (l : List UInt8) (c : UInt8) (w : World)  :
  Ret Tryz.prog 46 [.string ⟨l.toArray⟩, .int .u8 c.toNat] w (fun v w' => v = .int .i64 (Lib.indexByte l c) ∧ Ex w w') := by
 have hB0 : Ex w w := Ex.rfl_ _
 refine Ret.of Tryz.func46 rfl Tryz.ntmps46 rfl ?_
 refine CW.seq (CW.region ?_)
 refine RG.vl rfl rfl rfl (Ev.assign rfl rfl) ?_
 refine RG.done (QW.then_ (CW.seq (CW.region ?_)))
 refine RG.vl rfl rfl rfl (Ev.move rfl rfl) ?_
 refine RG.vl rfl rfl rfl (Ev.move rfl rfl) ?_
 refine RG.call rfl rfl rfl rfl rfl rfl rfl en_86 (idxb0_ret _ _ _) ?_
 rintro _ w1 ⟨rfl, hx1⟩
 have hE2 := hx1
 refine RG.vl rfl rfl rfl (Ev.assign rfl rfl) ?_
 refine RG.done (QW.then_ (CW.ret ?_))
 refine QW.ret1 rfl rfl ?_
 have hB := (Ex.tr hB0 hE2)
 exact ⟨rfl, hB⟩

set_option maxRecDepth 100000 in
set_option maxHeartbeats 1000000 in
theorem valid_ret (r : Int) (w : World)  :
  Ret Tryz.prog 106 [.int .i32 r] w (fun v w' => (∃ b, v = .bool b) ∧ Ex w w') := by
 have hB0 : Ex w w := Ex.rfl_ _
 refine Ret.of Tryz.func106 rfl Tryz.ntmps106 rfl ?_
 refine CW.seq (CW.region ?_)
 refine RG.vl rfl rfl rfl (Ev.assign rfl rfl) ?_
 refine RG.done (QW.then_ (CW.seq (CW.block (CW.seq (CW.region ?_)))))
 refine RG.vl rfl rfl rfl (Ev.move rfl rfl) ?_
 refine RG.vl rfl rfl rfl (Ev.leq rfl rfl rfl) ?_
 refine RG.vl rfl rfl rfl (Ev.move rfl rfl) ?_
 refine RG.split (d := 6) rfl (fun hg1 => ?_) (fun hg1 => ?_)
 ·refine RG.vl rfl rfl rfl (Ev.move rfl rfl) ?_
  refine RG.vl rfl rfl rfl (Ev.lss rfl rfl rfl) ?_
  refine RG.vl rfl rfl rfl (Ev.pickT rfl rfl rfl) ?_
  refine RG.vl rfl rfl rfl (Ev.assign rfl rfl) ?_
  refine RG.done (QW.then_ ?_)
  refine CW.condP rfl (fun hc2 => ?_) (fun hc2 => ?_)
  ·refine CW.seq (CW.region ?_)
   refine RG.vl rfl rfl rfl (Ev.assign rfl rfl) ?_
   refine RG.done (QW.then_ (CW.ret (QW.blockR (QW.thenRet ?_))))
   refine QW.ret1 rfl rfl ?_
   have hB := hB0
   exact ⟨⟨_, rfl⟩, hB⟩
  ·refine CW.seq (CW.region ?_)
   refine RG.vl rfl rfl rfl (Ev.move rfl rfl) ?_
   refine RG.vl rfl rfl rfl (Ev.lss rfl rfl rfl) ?_
   refine RG.vl rfl rfl rfl (Ev.move rfl rfl) ?_
   refine RG.split (d := 13) rfl (fun hg3 => ?_) (fun hg3 => ?_)
   ·refine RG.vl rfl rfl rfl (Ev.move rfl rfl) ?_
    refine RG.vl rfl rfl rfl (Ev.leq rfl rfl rfl) ?_
    refine RG.vl rfl rfl rfl (Ev.pickT rfl rfl rfl) ?_
    refine RG.vl rfl rfl rfl (Ev.assign rfl rfl) ?_
    refine RG.done ?_
    refine QW.sub (S' := [(2, _), (10, _)]) ⟨rfl, rfl, trivial⟩ ?_
    refine QW.then_ ?_
    refine CW.condP rfl (fun hc4 => ?_) (fun hc4 => ?_)
    ·refine CW.seq (CW.region ?_)
     refine RG.vl rfl rfl rfl (Ev.assign rfl rfl) ?_
     refine RG.done (QW.then_ (CW.ret (QW.blockR (QW.thenRet ?_))))
     refine QW.ret1 rfl rfl ?_
     have hB := hB0
     exact ⟨⟨_, rfl⟩, hB⟩
    ·refine CW.skip (QW.blockN (QW.then_ (CW.seq (CW.region ?_))))
     refine RG.vl rfl rfl rfl (Ev.assign rfl rfl) ?_
     refine RG.done (QW.then_ (CW.ret ?_))
     refine QW.ret1 rfl rfl ?_
     have hB := hB0
     exact ⟨⟨_, rfl⟩, hB⟩
   ·refine RG.pass rfl rfl rfl ?_
    refine RG.pass rfl rfl rfl ?_
    refine RG.vl rfl rfl rfl (Ev.pickF rfl rfl rfl) ?_
    refine RG.vl rfl rfl rfl (Ev.assign rfl rfl) ?_
    refine RG.done ?_
    refine QW.sub (S' := [(2, _), (10, _)]) ⟨rfl, rfl, trivial⟩ ?_
    refine QW.then_ ?_
    refine CW.condF rfl ?_
    refine CW.skip (QW.blockN (QW.then_ (CW.seq (CW.region ?_))))
    refine RG.vl rfl rfl rfl (Ev.assign rfl rfl) ?_
    refine RG.done (QW.then_ (CW.ret ?_))
    refine QW.ret1 rfl rfl ?_
    have hB := hB0
    exact ⟨⟨_, rfl⟩, hB⟩
 ·refine RG.pass rfl rfl rfl ?_
  refine RG.pass rfl rfl rfl ?_
  refine RG.vl rfl rfl rfl (Ev.pickF rfl rfl rfl) ?_
  refine RG.vl rfl rfl rfl (Ev.assign rfl rfl) ?_
  refine RG.done (QW.then_ ?_)
  refine CW.condF rfl ?_
  refine CW.seq (CW.region ?_)
  refine RG.vl rfl rfl rfl (Ev.move rfl rfl) ?_
  refine RG.vl rfl rfl rfl (Ev.lss rfl rfl rfl) ?_
  refine RG.vl rfl rfl rfl (Ev.move rfl rfl) ?_
  refine RG.split (d := 13) rfl (fun hg5 => ?_) (fun hg5 => ?_)
  ·refine RG.vl rfl rfl rfl (Ev.move rfl rfl) ?_
   refine RG.vl rfl rfl rfl (Ev.leq rfl rfl rfl) ?_
   refine RG.vl rfl rfl rfl (Ev.pickT rfl rfl rfl) ?_
   refine RG.vl rfl rfl rfl (Ev.assign rfl rfl) ?_
   refine RG.done ?_
   refine QW.sub (S' := [(2, _), (10, _)]) ⟨rfl, rfl, trivial⟩ ?_
   refine QW.then_ ?_
   refine CW.condP rfl (fun hc6 => ?_) (fun hc6 => ?_)
   ·refine CW.seq (CW.region ?_)
    refine RG.vl rfl rfl rfl (Ev.assign rfl rfl) ?_
    refine RG.done (QW.then_ (CW.ret (QW.blockR (QW.thenRet ?_))))
    refine QW.ret1 rfl rfl ?_
    have hB := hB0
    exact ⟨⟨_, rfl⟩, hB⟩
   ·refine CW.skip (QW.blockN (QW.then_ (CW.seq (CW.region ?_))))
    refine RG.vl rfl rfl rfl (Ev.assign rfl rfl) ?_
    refine RG.done (QW.then_ (CW.ret ?_))
    refine QW.ret1 rfl rfl ?_
    have hB := hB0
    exact ⟨⟨_, rfl⟩, hB⟩
  ·refine RG.pass rfl rfl rfl ?_
   refine RG.pass rfl rfl rfl ?_
   refine RG.vl rfl rfl rfl (Ev.pickF rfl rfl rfl) ?_
   refine RG.vl rfl rfl rfl (Ev.assign rfl rfl) ?_
   refine RG.done ?_
   refine QW.sub (S' := [(2, _), (10, _)]) ⟨rfl, rfl, trivial⟩ ?_
   refine QW.then_ ?_
   refine CW.condF rfl ?_
   refine CW.skip (QW.blockN (QW.then_ (CW.seq (CW.region ?_))))
   refine RG.vl rfl rfl rfl (Ev.assign rfl rfl) ?_
   refine RG.done (QW.then_ (CW.ret ?_))
   refine QW.ret1 rfl rfl ?_
   have hB := hB0
   exact ⟨⟨_, rfl⟩, hB⟩

set_option maxRecDepth 100000 in
set_option maxHeartbeats 1000000 in
theorem idxr_ret (l : List UInt8) (r : Nat) (w : World) (hr : r < 128) :
  Ret Tryz.prog 65 [.string ⟨l.toArray⟩, .int .i32 (r : Int)] w (fun v w' => v = .int .i64 (Lib.indexByte l (UInt8.ofNat r)) ∧ Ex w w') := by
 have ho8 := ofNat_cast hr
 have hB0 : Ex w w := Ex.rfl_ _
 refine Ret.of Tryz.func65 rfl Tryz.ntmps65 rfl ?_
 refine CW.seq (CW.region ?_)
 refine RG.vl rfl rfl rfl (Ev.assign rfl rfl) ?_
 refine RG.done (QW.then_ (CW.block (CW.seq (CW.region ?_))))
 refine RG.vl rfl rfl rfl (Ev.move rfl rfl) ?_
 refine RG.vl rfl rfl rfl (Ev.isT (Ev.leq rfl rfl rfl) (by omega)) ?_
 refine RG.vl rfl rfl rfl (Ev.move rfl rfl) ?_
 refine RG.vl rfl rfl rfl (Ev.move rfl rfl) ?_
 refine RG.vl rfl rfl rfl (Ev.isT (Ev.lss rfl rfl rfl) (by omega)) ?_
 refine RG.vl rfl rfl rfl (Ev.pickT rfl rfl rfl) ?_
 refine RG.vl rfl rfl rfl (Ev.assign rfl rfl) ?_
 refine RG.done (QW.then_ ?_)
 refine CW.condT rfl ?_
 refine CW.seq (CW.region ?_)
 refine RG.vl rfl rfl rfl (Ev.move rfl rfl) ?_
 refine RG.vl rfl rfl rfl (Ev.move rfl rfl) ?_
 refine RG.vl rfl rfl rfl ((Ev.to8 rfl rfl Tryz.underlying21 Tryz.underlying5 (by omega)).conv (congrArg (Value.int .u8) ho8.symm)) ?_
 refine RG.call rfl rfl rfl rfl rfl rfl rfl en_46 (idxb1_ret _ _ _) ?_
 rintro _ w1 ⟨rfl, hx1⟩
 have hE2 := hx1
 refine RG.vl rfl rfl rfl (Ev.assign rfl rfl) ?_
 refine RG.done (QW.then_ (CW.ret (QW.blockR ?_)))
 refine QW.ret1 rfl rfl ?_
 have hB := (Ex.tr hB0 hE2)
 exact ⟨rfl, hB⟩

set_option maxRecDepth 100000 in
set_option maxHeartbeats 1000000 in
theorem idxrh_ret (r : Nat) (w : World) (hr : 128 ≤ r) :
  Ret Tryz.prog 65 [.string ⟨s4.toArray⟩, .int .i32 (r : Int)] w (fun v w' => v = .int .i64 (-1) ∧ Ex w w') := by
 obtain ⟨E, z, hE, hE2, hE4, hz, hz8⟩ := enc_hi hr
 have hEs := sb_len E
 have h4 : s4.length = 4 := rfl
 have hB0 : Ex w w := Ex.rfl_ _
 refine Ret.of Tryz.func65 rfl Tryz.ntmps65 rfl ?_
 refine CW.seq (CW.region ?_)
 refine RG.vl rfl rfl rfl (Ev.assign rfl rfl) ?_
 refine RG.done (QW.then_ (CW.block (CW.seq (CW.region ?_))))
 refine RG.vl rfl rfl rfl (Ev.move rfl rfl) ?_
 refine RG.vl rfl rfl rfl (Ev.isT (Ev.leq rfl rfl rfl) (by omega)) ?_
 refine RG.vl rfl rfl rfl (Ev.move rfl rfl) ?_
 refine RG.vl rfl rfl rfl (Ev.move rfl rfl) ?_
 refine RG.vl rfl rfl rfl (Ev.isF (Ev.lss rfl rfl rfl) (by omega)) ?_
 refine RG.vl rfl rfl rfl (Ev.pickT rfl rfl rfl) ?_
 refine RG.vl rfl rfl rfl (Ev.assign rfl rfl) ?_
 refine RG.done (QW.then_ ?_)
 refine CW.condF rfl ?_
 refine CW.seq (CW.region ?_)
 refine RG.vl rfl rfl rfl (Ev.move rfl rfl) ?_
 refine RG.vl rfl rfl rfl (Ev.eqI rfl rfl rfl) ?_
 refine RG.vl rfl rfl rfl (Ev.assign rfl rfl) ?_
 refine RG.done (QW.then_ ?_)
 refine CW.condP rfl (fun hc1 => ?_) (fun hc1 => ?_)
 ·refine CW.seq (CW.seq (CW.region ?_))
  refine RG.vl rfl rfl rfl (Ev.move rfl rfl) ?_
  refine RG.sRange rfl rfl rfl rfl rfl Tryz.underlying9 (fun g1 w2 eg1 hx2 hb2 => ?_)
  have hle3 : w.heap.size ≤ g1 := by have := (Ex.rfl_ w).size; omega
  have hE4 := hx2
  refine RG.done (QW.then_ (CW.block ?_))
  refine CW.loop1 [(175, _)] ⟨rfl, trivial⟩ (fun (i : Nat) => []) (fun i w' => (i ≤ 4 ∧ Si w' g1 ⟨s4.toArray⟩ i) ∧ Ex w w') (fun i => 4 - i) (0) trivial ⟨⟨by omega, hb2⟩, (Ex.tr hB0 hE4)⟩ ?_
  rintro i wl5 ⟨⟨hi, hsi⟩, hxwl5⟩
  refine CW.sub (S' := [(175, _)]) ⟨rfl, trivial⟩ ?_
  refine CW.seq (CW.region ?_)
  refine RG.sNext rfl rfl rfl rfl rfl hsi (fun hend => ?_) (fun wn6 hpos hwn6 hiwn6 => ?_)
  ·refine RG.vl rfl rfl rfl (Ev.extract rfl rfl rfl) ?_
   refine RG.done (QW.then_ (CW.seq ?_))
   refine CW.condF rfl ?_
   refine CW.exit (QW.thenExit (QW.thenExit (QW.blockHit (QW.then_ (CW.seq (CW.region ?_))))))
   refine RG.vl rfl rfl rfl (Ev.assign rfl rfl) ?_
   refine RG.done (QW.then_ (CW.ret (QW.blockR ?_)))
   refine QW.ret1 rfl rfl ?_
   have hB := (Ex.tr hB0 hxwl5)
   exact ⟨rfl, hB⟩
  ·replace hxwl5 := Wr.below hxwl5 hwn6 hle3
   refine RG.vl rfl rfl rfl (Ev.extract rfl rfl rfl) ?_
   refine RG.done (QW.then_ (CW.seq ?_))
   refine CW.condT rfl ?_
   refine CW.skip (QW.then_ (CW.block (CW.seq ?_)))
   obtain ⟨c, hc⟩ : ∃ c, s4[i]? = some c := ⟨_, List.getElem?_eq_getElem (by simpa [ByteArray.size] using hpos)⟩
   have hc8 := s4_lo c (List.mem_of_getElem? hc)
   have hii := (List.getElem?_eq_some_iff.1 hc).1
   rw [dec_lo hc hc8] at *
   refine CW.region ?_
   refine RG.vl rfl rfl rfl (Ev.extract rfl rfl rfl) ?_
   refine RG.vl rfl rfl rfl (Ev.extract rfl rfl rfl) ?_
   refine RG.vl rfl rfl rfl (Ev.assign rfl rfl) ?_
   refine RG.vl rfl rfl rfl (Ev.assign rfl rfl) ?_
   refine RG.done (QW.then_ (CW.seq (CW.region ?_)))
   refine RG.vl rfl rfl rfl (Ev.move rfl rfl) ?_
   refine RG.vl rfl rfl rfl (Ev.isF (Ev.eqI rfl rfl rfl) (by omega)) ?_
   refine RG.done (QW.then_ ?_)
   refine CW.condF rfl ?_
   refine CW.skip (QW.blockN ?_)
   refine QW.round1 (i + 1) trivial ⟨rfl, trivial⟩ ⟨⟨by omega, hiwn6⟩, (Ex.tr hB0 hxwl5)⟩ (by omega)
 ·refine CW.seq (CW.region ?_)
  refine RG.vl rfl rfl rfl (Ev.move rfl rfl) ?_
  refine RG.call rfl rfl rfl rfl rfl rfl rfl en_106 (valid_ret _ _) ?_
  rintro _ w7 ⟨⟨b7, rfl⟩, hx7⟩
  have hE8 := hx7
  refine RG.vl rfl rfl rfl (Ev.not rfl rfl) ?_
  refine RG.vl rfl rfl rfl (Ev.assign rfl rfl) ?_
  refine RG.done ?_
  refine QW.sub (S' := [(0, _), (1, _), (4, _), (183, _)]) ⟨rfl, rfl, rfl, rfl, trivial⟩ ?_
  refine QW.then_ ?_
  refine CW.cond rfl (fun hc9 => ?_) (fun hc9 => ?_)
  ·refine CW.seq (CW.region ?_)
   refine RG.vl rfl rfl rfl (Ev.assign rfl rfl) ?_
   refine RG.done (QW.then_ (CW.ret (QW.blockR ?_)))
   refine QW.ret1 rfl rfl ?_
   have hB := (Ex.tr hB0 hE8)
   exact ⟨rfl, hB⟩
  ·refine CW.scope (CW.seq (CW.region ?_))
   refine RG.vl rfl rfl rfl (Ev.move rfl rfl) ?_
   refine RG.vl rfl rfl rfl ((Ev.runeStrAny rfl rfl Tryz.underlying21 Tryz.underlying9).conv (congrArg Value.string hE)) ?_
   refine RG.vl rfl rfl rfl (Ev.assign rfl rfl) ?_
   refine RG.done (QW.then_ (CW.seq (CW.region ?_)))
   refine RG.vl rfl rfl rfl (Ev.move rfl rfl) ?_
   refine RG.vl rfl rfl rfl (Ev.lenStr rfl rfl rfl Tryz.underlying9) ?_
   refine RG.vl rfl rfl rfl ((Ev.subI rfl rfl rfl (by omega)).conv (congrArg (Value.int .i64) (show ((E.length : Nat) : Int) - 1 = ((E.length - 1 : Nat) : Int) by omega))) ?_
   refine RG.vl rfl rfl rfl (Ev.assign rfl rfl) ?_
   refine RG.done (QW.then_ (CW.seq (CW.region ?_)))
   refine RG.vl rfl rfl rfl (Ev.move rfl rfl) ?_
   refine RG.vl rfl rfl rfl (Ev.assign rfl rfl) ?_
   refine RG.done (QW.then_ (CW.seq (CW.region ?_)))
   refine RG.vl rfl rfl rfl (Ev.assign rfl rfl) ?_
   refine RG.done (QW.then_ (CW.seq (CW.block ?_)))
   have hR10 := (Ex.tr hB0 hE8)
   refine CW.loop1 [(0, _), (1, _), (7, _), (8, _)] ⟨rfl, rfl, rfl, rfl, trivial⟩ (fun (q : Nat) => [(9, .int .i64 ((E.length - 1 : Nat) : Int)), (10, .int .i64 0)]) (fun q w' => (q ≤ 1) ∧ Ex w7 w') (fun q => 1 - q) (0) ⟨rfl, rfl, trivial⟩ ⟨by omega, (Ex.rfl_ _)⟩ ?_
   rintro q wl11 ⟨hq, hxwl11⟩
   refine CW.sub (S' := [(9, _), (10, _), (0, _), (1, _), (7, _), (8, _)]) ⟨rfl, rfl, rfl, rfl, rfl, rfl, trivial⟩ ?_
   refine CW.seq (CW.seq (CW.region ?_))
   refine RG.vl rfl rfl rfl (Ev.move rfl rfl) ?_
   refine RG.vl rfl rfl rfl (Ev.move rfl rfl) ?_
   refine RG.vl rfl rfl rfl (Ev.lenStr rfl rfl rfl Tryz.underlying9) ?_
   refine RG.vl rfl rfl rfl (Ev.isT (Ev.lss rfl rfl rfl) (by show _ < 4; omega)) ?_
   refine RG.done (QW.then_ ?_)
   refine CW.condT rfl ?_
   refine CW.skip (QW.then_ (CW.block (CW.scope (CW.seq (CW.seq ?_)))))
   obtain ⟨c, hc⟩ : ∃ c, s4[E.length - 1]? = some c := ⟨_, List.getElem?_eq_getElem (by omega)⟩
   have hc8 := s4_lo c (List.mem_of_getElem? hc)
   refine CW.draw [] (.ex) 7 rfl mixed (fun wd12 hxwd12 => ?_)
   replace hxwl11 := Ex.tr hxwl11 hxwd12
   have hE13 := hxwd12
   refine AG.takeW 0 rfl (by kernel_rfl) (by kernel_rfl) rfl rfl rfl (fun _ => Ev.move rfl rfl) ?_
   refine AG.takeW 1 rfl (by kernel_rfl) (by kernel_rfl) rfl rfl rfl (fun _ => Ev.move rfl rfl) ?_
   refine AG.takeW 2 rfl (by kernel_rfl) (by kernel_rfl) rfl rfl rfl (fun _ => Ev.byteAt rfl rfl rfl Tryz.underlying9 (by omega) (hc)) ?_
   refine AG.takeW 3 rfl (by kernel_rfl) (by kernel_rfl) rfl rfl rfl (fun _ => Ev.move rfl rfl) ?_
   refine AG.takeW 4 rfl (by kernel_rfl) (by kernel_rfl) rfl rfl rfl (fun _ => Ev.move rfl rfl) ?_
   refine AG.takeW 5 rfl (by kernel_rfl) (by kernel_rfl) rfl rfl rfl (fun _ => Ev.byteAt rfl rfl rfl Tryz.underlying9 (by omega) (hz)) ?_
   refine AG.takeW 6 rfl (by kernel_rfl) (by kernel_rfl) rfl rfl rfl (fun _ => Ev.isT (Ev.neI rfl rfl rfl) (by omega)) ?_
   refine AG.done (by kernel_rfl) ?_
   refine QW.then_ ?_
   refine CW.condT rfl ?_
   refine CW.seq ?_
   refine CW.draw [] (.ex) 9 rfl mixed (fun wd14 hxwd14 => ?_)
   replace hxwl11 := Ex.tr hxwl11 hxwd14
   replace hE13 := Ex.tr hE13 hxwd14
   refine AG.takeW 0 rfl (by kernel_rfl) (by kernel_rfl) rfl rfl rfl (fun _ => Ev.move rfl rfl) ?_
   refine AG.takeW 1 rfl (by kernel_rfl) (by kernel_rfl) rfl rfl rfl (fun _ => Ev.move rfl rfl) ?_
   refine AG.takeW 2 rfl (by kernel_rfl) (by kernel_rfl) rfl rfl rfl (fun _ => (Ev.addI rfl rfl rfl (by omega)).conv (congrArg (Value.int .i64) (show ((E.length - 1 : Nat) : Int) + 1 = ((E.length - 1 + 1 : Nat) : Int) by omega))) ?_
   refine AG.takeW 3 rfl (by kernel_rfl) (by kernel_rfl) rfl rfl rfl (fun _ => (Ev.cutStr (i := E.length - 1 + 1) (j := 4) rfl rfl Tryz.underlying9 rfl rfl (by omega) (by show _ ≤ 4; omega)).conv (congrArg Value.string (bx_cut s4 (E.length - 1 + 1) 4))) ?_
   refine AG.takeW 4 rfl (by kernel_rfl) (by kernel_rfl) rfl rfl rfl (fun _ => Ev.move rfl rfl) ?_
   refine AG.takeW 5 rfl (by kernel_rfl) (by kernel_rfl) rfl rfl rfl (fun _ => Ev.move rfl rfl) ?_
   refine AG.takeW 6 rfl (by kernel_rfl) (by kernel_rfl) rfl rfl rfl (fun _ => Ev.byteAt rfl rfl rfl Tryz.underlying9 (by omega) (hz)) ?_
   refine AG.only 7 rfl (by kernel_rfl) ?_
   refine RG.call rfl rfl rfl rfl rfl rfl rfl en_46 (idxb1_ret _ _ _) ?_
   rintro _ w16 ⟨rfl, hx16⟩
   replace hxwl11 := Ex.tr hxwl11 hx16
   replace hE13 := Ex.tr hE13 hx16
   have hE17 := hx16
   refine RG.done ?_
   refine QW.an (fun _ => hE17) ?_
   refine AG.takeW 8 rfl (by kernel_rfl) (by kernel_rfl) rfl rfl rfl (fun _ => Ev.assign rfl rfl) ?_
   refine AG.done (by kernel_rfl) ?_
   refine QW.sub (S' := [(0, _), (1, _), (7, _), (8, _), (9, _), (10, _), (11, _)]) ⟨rfl, rfl, rfl, rfl, rfl, rfl, rfl, trivial⟩ ?_
   refine QW.then_ (CW.seq (CW.seq (CW.region ?_)))
   refine RG.vl rfl rfl rfl (Ev.move rfl rfl) ?_
   refine RG.vl rfl rfl rfl (Ev.isT (Ev.lss rfl rfl rfl) (idx_neg hz8 (s4_cut _ _))) ?_
   refine RG.done (QW.then_ ?_)
   refine CW.condT rfl ?_
   refine CW.seq (CW.region ?_)
   refine RG.vl rfl rfl rfl (Ev.assign rfl rfl) ?_
   refine RG.done (QW.then_ (CW.ret (QW.thenRet (QW.thenRet (QW.noGotoR (QW.blockR ?_))))))
   refine QW.thenRet (QW.blockR (QW.thenRet (QW.noGotoR (QW.blockR ?_))))
   refine QW.ret1 rfl rfl ?_
   have hB := (Ex.tr hR10 hxwl11)
   exact ⟨rfl, hB⟩

set_option maxRecDepth 100000 in
set_option maxHeartbeats 1000000 in
theorem con_ret (l : List UInt8) (r : Nat) (w : World) (hr : r < 128) :
  Ret Tryz.prog 64 [.string ⟨l.toArray⟩, .int .i32 (r : Int)] w (fun v w' => v = .bool (decide (0 ≤ Lib.indexByte l (UInt8.ofNat r))) ∧ Ex w w') := by
 have hB0 : Ex w w := Ex.rfl_ _
 refine Ret.of Tryz.func64 rfl Tryz.ntmps64 rfl ?_
 refine CW.seq (CW.region ?_)
 refine RG.vl rfl rfl rfl (Ev.assign rfl rfl) ?_
 refine RG.done (QW.then_ (CW.seq (CW.region ?_)))
 refine RG.vl rfl rfl rfl (Ev.move rfl rfl) ?_
 refine RG.vl rfl rfl rfl (Ev.move rfl rfl) ?_
 refine RG.call rfl rfl rfl rfl rfl rfl rfl en_65 (idxr_ret _ _ _ hr) ?_
 rintro _ w1 ⟨rfl, hx1⟩
 have hE2 := hx1
 refine RG.vl rfl rfl rfl (Ev.geq rfl rfl rfl) ?_
 refine RG.vl rfl rfl rfl (Ev.assign rfl rfl) ?_
 refine RG.done (QW.then_ (CW.ret ?_))
 refine QW.ret1 rfl rfl ?_
 have hB := (Ex.tr hB0 hE2)
 exact ⟨rfl, hB⟩

set_option maxRecDepth 100000 in
set_option maxHeartbeats 1000000 in
theorem conh_ret (r : Nat) (w : World) (hr : 128 ≤ r) :
  Ret Tryz.prog 64 [.string ⟨s4.toArray⟩, .int .i32 (r : Int)] w (fun v w' => v = .bool false ∧ Ex w w') := by
 have hB0 : Ex w w := Ex.rfl_ _
 refine Ret.of Tryz.func64 rfl Tryz.ntmps64 rfl ?_
 refine CW.seq (CW.region ?_)
 refine RG.vl rfl rfl rfl (Ev.assign rfl rfl) ?_
 refine RG.done (QW.then_ (CW.seq (CW.region ?_)))
 refine RG.vl rfl rfl rfl (Ev.move rfl rfl) ?_
 refine RG.vl rfl rfl rfl (Ev.move rfl rfl) ?_
 refine RG.call rfl rfl rfl rfl rfl rfl rfl en_65 (idxrh_ret _ _ hr) ?_
 rintro _ w1 ⟨rfl, hx1⟩
 have hE2 := hx1
 refine RG.vl rfl rfl rfl (Ev.isF (Ev.geq rfl rfl rfl) (by decide)) ?_
 refine RG.vl rfl rfl rfl (Ev.assign rfl rfl) ?_
 refine RG.done (QW.then_ (CW.ret ?_))
 refine QW.ret1 rfl rfl ?_
 have hB := (Ex.tr hB0 hE2)
 exact ⟨rfl, hB⟩

end Go.Proofs.YtgjnchjkjdnidaaGreat

/- Walks (BB). Written by program. -/
namespace Go.Proofs.YtgjnchjkjdnidaaGreat
open Go.RowKit
set_option maxRecDepth 100000 in
set_option maxHeartbeats 1000000 in
theorem bcheck_ret (t : List UInt8) (m : Nat) (w : World) (hm : m ≤ 100) :
  Ret Tryz.prog 43 [.string ⟨t.toArray⟩, .int .i64 (m : Int)] w (fun v w' => v = .int .i64 (errB m t) ∧ Ex w w') := by
 have hts := sb_len t
 have hB0 : Ex w w := Ex.rfl_ _
 refine Ret.of Tryz.func43 rfl Tryz.ntmps43 rfl ?_
 refine CW.seq (CW.region ?_)
 refine RG.vl rfl rfl rfl (Ev.assign rfl rfl) ?_
 refine RG.done (QW.then_ (CW.seq (CW.seq (CW.region ?_))))
 refine RG.vl rfl rfl rfl (Ev.move rfl rfl) ?_
 refine RG.vl rfl rfl rfl (Ev.lenStr rfl rfl rfl Tryz.underlying9) ?_
 refine RG.vl rfl rfl rfl (Ev.move rfl rfl) ?_
 refine RG.vl rfl rfl rfl (Ev.subI rfl rfl rfl (by omega)) ?_
 refine RG.vl rfl rfl rfl (Ev.gtr rfl rfl rfl) ?_
 refine RG.done (QW.then_ ?_)
 refine CW.condP rfl (fun hc1 => ?_) (fun hc1 => ?_)
 ·refine CW.seq (CW.region ?_)
  refine RG.vl rfl rfl rfl (Ev.assign rfl rfl) ?_
  refine RG.done (QW.then_ (CW.ret (QW.thenRet ?_)))
  refine QW.ret1 rfl rfl ?_
  have hB := hB0
  exact ⟨by rw [errB_long (by omega)], hB⟩
 ·refine CW.skip (QW.then_ (CW.seq (CW.seq (CW.region ?_))))
  refine RG.vl rfl rfl rfl (Ev.move rfl rfl) ?_
  refine RG.sRange rfl rfl rfl rfl rfl Tryz.underlying9 (fun gi w2 egi hx2 hb2 => ?_)
  have hle3 : w.heap.size ≤ gi := by have := (Ex.rfl_ w).size; omega
  have hE4 := hx2
  refine RG.done (QW.then_ (CW.block ?_))
  refine CW.loop1 [(13, _)] ⟨rfl, trivial⟩ (fun (i : Nat) => []) (fun i w' => (i ≤ t.length ∧ (t.take i).all isL = true ∧ Si w' gi ⟨t.toArray⟩ i) ∧ Ex w w') (fun i => t.length - i) (0) trivial ⟨⟨by omega, rfl, hb2⟩, (Ex.tr hB0 hE4)⟩ ?_
  rintro i wl5 ⟨⟨hi, hall, hsi⟩, hxwl5⟩
  refine CW.sub (S' := [(13, _)]) ⟨rfl, trivial⟩ ?_
  refine CW.seq (CW.region ?_)
  refine RG.sNext rfl rfl rfl rfl rfl hsi (fun hend => ?_) (fun wn6 hpos hwn6 hiwn6 => ?_)
  ·refine RG.vl rfl rfl rfl (Ev.extract rfl rfl rfl) ?_
   refine RG.done (QW.then_ (CW.seq ?_))
   refine CW.condF rfl ?_
   refine CW.exit (QW.thenExit (QW.thenExit (QW.blockHit (QW.then_ (CW.seq (CW.region ?_))))))
   refine RG.vl rfl rfl rfl (Ev.assign rfl rfl) ?_
   refine RG.done (QW.then_ (CW.ret ?_))
   refine QW.ret1 rfl rfl ?_
   have hB := (Ex.tr hB0 hxwl5)
   obtain rfl : i = t.length := by rw [sb_len] at hend; omega
   rw [List.take_length] at hall
   exact ⟨by rw [errB_ok (by omega) hall], hB⟩
  ·replace hxwl5 := Wr.below hxwl5 hwn6 hle3
   refine RG.vl rfl rfl rfl (Ev.extract rfl rfl rfl) ?_
   refine RG.done (QW.then_ (CW.seq ?_))
   refine CW.condT rfl ?_
   refine CW.skip (QW.then_ (CW.block (CW.seq ?_)))
   obtain ⟨c, hc⟩ : ∃ c, t[i]? = some c := ⟨_, List.getElem?_eq_getElem (by rw [sb_len] at hpos; exact hpos)⟩
   have hii := (List.getElem?_eq_some_iff.1 hc).1
   rcases Nat.lt_or_ge c.toNat 128 with hlo | hhi
   ·rw [dec_lo hc hlo] at hiwn6 ⊢
    have hix := idx_s4 c.toNat hlo
    refine CW.region ?_
    refine RG.vl rfl rfl rfl (Ev.extract rfl rfl rfl) ?_
    refine RG.vl rfl rfl rfl (Ev.assign rfl rfl) ?_
    refine RG.done (QW.then_ (CW.seq (CW.region ?_)))
    refine RG.vl rfl rfl rfl (Ev.move rfl rfl) ?_
    refine RG.vl rfl rfl rfl (Ev.neI rfl rfl rfl) ?_
    refine RG.vl rfl rfl rfl (Ev.move rfl rfl) ?_
    refine RG.split (d := 19) rfl (fun hg7 => ?_) (fun hg7 => ?_)
    ·refine RG.vl rfl rfl rfl (Ev.move rfl rfl) ?_
     refine RG.call rfl rfl rfl rfl rfl rfl rfl en_64 (con_ret s4 c.toNat _ hlo) ?_
     rintro _ w8 ⟨rfl, hx8⟩
     replace hxwl5 := Ex.tr hxwl5 hx8
     have hE9 := hx8
     refine RG.vl rfl rfl rfl (Ev.notP rfl rfl) ?_
     refine RG.vl rfl rfl rfl (Ev.pickT rfl rfl rfl) ?_
     refine RG.done (QW.then_ ?_)
     refine CW.condP rfl (fun hc10 => ?_) (fun hc10 => ?_)
     ·refine CW.seq (CW.region ?_)
      refine RG.vl rfl rfl rfl (Ev.assign rfl rfl) ?_
      refine RG.done (QW.then_ (CW.ret (QW.blockR (QW.thenRet (QW.blockR (QW.thenRet ?_))))))
      refine QW.ret1 rfl rfl ?_
      have hB := (Ex.tr hB0 hxwl5)
      exact ⟨by rw [errB_bad (by omega) (all_not hc (isL_no (by omega) (by omega)))], hB⟩
     ·refine CW.skip (QW.blockN ?_)
      refine QW.round1 (i + 1) trivial ⟨rfl, trivial⟩ ⟨⟨by omega, all_take hc hall (isL_yes (by omega)), (hiwn6.ext hE9)⟩, (Ex.tr hB0 hxwl5)⟩ (by omega)
    ·refine RG.pass rfl rfl rfl ?_
     refine RG.pass rfl rfl rfl ?_
     refine RG.pass rfl rfl rfl ?_
     refine RG.vl rfl rfl rfl (Ev.pickF rfl rfl rfl) ?_
     refine RG.done (QW.then_ ?_)
     refine CW.condF rfl ?_
     refine CW.skip (QW.blockN ?_)
     refine QW.round1 (i + 1) trivial ⟨rfl, trivial⟩ ⟨⟨by omega, all_take hc hall (isL_yes (by omega)), hiwn6⟩, (Ex.tr hB0 hxwl5)⟩ (by omega)
   ·obtain ⟨hd1, hd2⟩ := dec_hi hc hhi
    generalize Utf8.decode (⟨t.toArray⟩ : ByteArray) i = D at *
    refine CW.region ?_
    refine RG.vl rfl rfl rfl (Ev.extract rfl rfl rfl) ?_
    refine RG.vl rfl rfl rfl (Ev.assign rfl rfl) ?_
    refine RG.done (QW.then_ (CW.seq (CW.region ?_)))
    refine RG.vl rfl rfl rfl (Ev.move rfl rfl) ?_
    refine RG.vl rfl rfl rfl (Ev.isT (Ev.neI rfl rfl rfl) (by omega)) ?_
    refine RG.vl rfl rfl rfl (Ev.move rfl rfl) ?_
    refine RG.vl rfl rfl rfl (Ev.move rfl rfl) ?_
    refine RG.call rfl rfl rfl rfl rfl rfl rfl en_64 (conh_ret D.1 _ hd1) ?_
    rintro _ w11 ⟨rfl, hx11⟩
    replace hxwl5 := Ex.tr hxwl5 hx11
    have hE12 := hx11
    refine RG.vl rfl rfl rfl (Ev.notT rfl rfl) ?_
    refine RG.vl rfl rfl rfl (Ev.pickT rfl rfl rfl) ?_
    refine RG.done (QW.then_ ?_)
    refine CW.condT rfl ?_
    refine CW.seq (CW.region ?_)
    refine RG.vl rfl rfl rfl (Ev.assign rfl rfl) ?_
    refine RG.done (QW.then_ (CW.ret (QW.blockR (QW.thenRet (QW.blockR (QW.thenRet ?_))))))
    refine QW.ret1 rfl rfl ?_
    have hB := (Ex.tr hB0 hxwl5)
    exact ⟨by rw [errB_bad (by omega) (all_not hc (isL_no (by omega) (by omega)))], hB⟩

end Go.Proofs.YtgjnchjkjdnidaaGreat

/- Steps inside a fence: where a range over a function is met. -/
namespace Go.Proofs.YtgjnchjkjdnidaaGreat
open Go.RowKit
structure Open (F : Fence) : Prop where
  fn : ∀ f, F.fn f
  depth : F.depth = none
theorem open_wide : Open Fence.wide := ⟨fun _ => trivial, rfl⟩
theorem open_round (l : Nat) : Open (Fence.wide.inRound l) := ⟨fun _ => trivial, rfl⟩
def FrD (ds : List Deferred) (n : Nat) (S : Slots) (a : Act) : Prop := Fr n S { a with defers := [] } ∧ a.defers = ds
def RGI (F : Fence) (k : Nat) (P : Program) (ops : Array Oper) (Q : Exit → Act → World → Prop) (ds : List Deferred) (n : Nat) (l : List Oper) (S : Slots) (w : World) : Prop := ∀ a, FrD ds n S a → wpListIn F k P ops Q l a w
def CWI (F : Fence) (k : Nat) (P : Program) (c : Code) (Q : Exit → Act → World → Prop) (ds : List Deferred) (n : Nat) (S : Slots) (w : World) : Prop := ∀ a, FrD ds n S a → c.wpIn F k P Q a w
section
variable {F : Fence} {k n d : Nat} {P : Program} {ops : Array Oper} {Q : Exit → Act → World → Prop} {ds : List Deferred} {l : List Oper} {S : Slots} {w : World} {o : Oper} {v : Value}
theorem FrD.put {a : Act} (h : FrD ds n S a) (hd : Nat.blt d n = true) : FrD ds n ((d, v) :: S) (a.put (some d) v) := ⟨h.1.put hd, h.2⟩
theorem FrD.sub {S' : Slots} {a : Act} (h : FrD ds n S a) (hs : Sub S' S) : FrD ds n S' a := ⟨h.1.sub hs, h.2⟩
theorem RGI.run {w' : World} (hO : Open F) (hw : wantS ops S o = some true) (hd : o.dst = some d) (hdn : Nat.blt d n = true) (hnd : ∀ c, o.op ≠ .defer c)
    (hr : ∀ a, Fr n S a → (execOp a.eval o).run P w = .ok (.value v) w') (kk : RGI F k P ops Q ds n l ((d, v) :: S) w') : RGI F k P ops Q ds n (o :: l) S w := by
  intro a ha
  unfold wpListIn
  rw [if_pos (ha.1.wanted hw)]
  refine ⟨fun f _ => hO.fn f, ?_⟩
  rw [Oper.semAt_plain F _ _ hnd]
  have e := hr _ ha.1
  rw [show a.eval = Act.eval { a with defers := [] } from rfl, e]
  show wpListIn F k P ops Q l (a.put o.dst v) w'
  rw [hd]
  exact kk _ (ha.put hdn)
theorem RGI.vl (hO : Open F) (hw : wantS ops S o = some true) (hd : o.dst = some d) (hdn : Nat.blt d n = true) (hnd : ∀ c, o.op ≠ .defer c) (he : Ev P n o S w v) (kk : RGI F k P ops Q ds n l ((d, v) :: S) w) : RGI F k P ops Q ds n (o :: l) S w := RGI.run hO hw hd hdn hnd he kk
theorem RGI.done (kk : ∀ a, FrD ds n S a → Q .normal a w) : RGI F k P ops Q ds n [] S w := fun a ha => wpListIn_nil (kk a ha)
theorem RGI.call {f : FuncId} {c : Call} {xs : List Operand} {fx : Operand} {vs cap : List Value} {tys : Array TypeId} {Φ : Value → World → Prop} (hO : Open F) (hW : CallsIn F (k - 1) P f (vs ++ cap).toArray w (fun e w' => ∃ v, e = .returned v ∧ Φ v w')) (hw : wantS ops S o = some true) (hd : o.dst = some d) (hdn : Nat.blt d n = true)
    (ho : o.op = .call c) (hc : c = { callee := .value fx, args := xs.toArray, argTypes := tys }) (hf : ev S fx = some (.func (.func f) #[] cap.toArray)) (hx : evs S xs = some vs)
    (he : ∀ args w, (callFunc f args).run P w = .ok (.enter f args) w)
    (kk : ∀ v w', Φ v w' → RGI F k P ops Q ds n l ((d, v) :: S) w') : RGI F k P ops Q ds n (o :: l) S w := by
  intro a ha
  unfold wpListIn
  rw [if_pos (ha.1.wanted hw)]
  refine ⟨fun f _ => hO.fn f, ?_⟩
  rw [Oper.semAt_plain F _ _ (by rw [ho]; intro c h; cases h)]
  have hrun : (execOp a.eval o).run P w = .ok (.enter f (vs ++ cap).toArray) w := by
    simp only [execOp, ho, hc]
    simp only [resolve, Sem.run_bind]
    rw [show a.eval = Act.eval { a with defers := [] } from rfl, ha.1.eval hf]
    have hm : xs.toArray.map (Act.eval { a with defers := [] }) = vs.toArray := by rw [List.map_toArray, ha.1.evals hx]
    rw [hm]
    simp [Deferred.ofValue, invoke, he]
  rw [hrun, Oper.uponIn_enter]
  refine ⟨fun h => (by rw [hO.depth] at h; cases h), hW.mono ?_⟩
  rintro e w' ⟨v, rfl, hp⟩
  show wpListIn F k P ops Q l (a.put o.dst v) w'
  rw [hd]
  exact kk v w' hp _ (ha.put hdn)
theorem RGI.yield_ {c : Call} {xs : List Operand} {fx : Operand} {vs : List Value} {tys : Array TypeId} {lp : Nat} {R : Ending → World → Prop} (hO : Open F) (hY : YieldAt F (k - 1) P lp vs.toArray w R) (hw : wantS ops S o = some true) (hd : o.dst = some d) (hdn : Nat.blt d n = true)
    (ho : o.op = .call c) (hc : c = { callee := .value fx, args := xs.toArray, argTypes := tys }) (hf : ev S fx = some (.func (.yield lp) #[] #[])) (hx : evs S xs = some vs)
    (hR : ∀ e w', R e w' → ∃ b, e = .returned (.bool b)) (kk : ∀ b w', R (.returned (.bool b)) w' → RGI F k P ops Q ds n l ((d, .bool b) :: S) w') : RGI F k P ops Q ds n (o :: l) S w := by
  intro a ha
  unfold wpListIn
  rw [if_pos (ha.1.wanted hw)]
  refine ⟨fun f _ => hO.fn f, ?_⟩
  rw [Oper.semAt_plain F _ _ (by rw [ho]; intro c h; cases h)]
  obtain ⟨fn, tmps, assign, body, hy, hr⟩ := hY
  have hrun : (execOp a.eval o).run P w = .ok (.round lp fn tmps assign body) w := by
    simp only [execOp, ho, hc]
    simp only [resolve, Sem.run_bind]
    rw [show a.eval = Act.eval { a with defers := [] } from rfl, ha.1.eval hf]
    have hm : xs.toArray.map (Act.eval { a with defers := [] }) = vs.toArray := by rw [List.map_toArray, ha.1.evals hx]
    rw [hm]
    simp [Deferred.ofValue, invoke, hy]
  rw [hrun, Oper.uponIn_round]
  refine ⟨fun h => (by rw [hO.depth] at h; cases h), hr.mono ?_⟩
  intro e w' hp
  obtain ⟨b, rfl⟩ := hR e w' hp
  show wpListIn F k P ops Q l (a.put o.dst (.bool b)) w'
  rw [hd]
  exact kk b w' hp _ (ha.put hdn)
theorem CWI.region {id : Nat} {l : List Oper} (kk : RGI F k P l.toArray Q ds n l S w) : CWI F k P (.region id l.toArray false) Q ds n S w := fun a ha => wpIn_region_lit (kk a ha)
theorem CWI.seq {x y : Code} (kk : CWI F k P x (Exit.then (fun a w => y.wpIn F k P Q a w) Q) ds n S w) : CWI F k P (.seq x y) Q ds n S w := fun a ha => wpIn_seq (kk a ha)
theorem CWI.ret (kk : ∀ a, FrD ds n S a → Q .ret a w) : CWI F k P .ret Q ds n S w := fun a ha => wpIn_ret (kk a ha)
theorem CW.fenced {c : Code} (k : Nat) (h : CWI Fence.wide k P c Q [] n S w) : CW P c Q n S w := fun a ha => (wpIn_wide (n := k)).1 (h a ⟨⟨rfl, ha.sz, ha.get⟩, ha.df⟩)
theorem FrD.fr {a : Act} (h : FrD [] n S a) : Fr n S a := ⟨h.2, h.1.sz, h.1.get⟩
theorem RGI.doneQ (kk : QW Q .normal n S w) : RGI F k P ops Q [] n [] S w := fun a ha => wpListIn_nil (kk a ha.fr)
theorem RGI.alloc_ {T m by_ : Nat} {z : Value} (hO : Open F) (hw : wantS ops S o = some true) (hd : o.dst = some d) (hdn : Nat.blt d n = true) (ho : o.op = .alloc T) (hi : (P.info? T).map (fun i => (i.zero, i.size, i.bytes)) = some (some z, m, by_))
    (kk : ∀ g w', g = w.heap.size → Ex w w' → Blk w' g T z.cells.toList → RGI F k P ops Q ds n l ((d, .pointer (some ⟨g, 0, none⟩)) :: S) w') : RGI F k P ops Q ds n (o :: l) S w := by
  obtain ⟨i, hii, hz0, hz1, hz2⟩ := info_parts hi
  refine RGI.run hO (v := .pointer (some ⟨w.heap.size, 0, none⟩)) (w' := w.alloc (.cells z.cells T)) hw hd hdn (by rw [ho]; intro c h; cases h) (fun a ha => ?_) (kk w.heap.size _ rfl (Ex.of_alloc w _) (new_blk w T z.cells))
  simp only [execOp, ho]
  simp [Instr.alloc, zeroValue, typeInfo, hii, hz0, newVar, newRow]
theorem CWI.block {id : Nat} {c : Code} (kk : CWI F k P c (Exit.inBlock id Q) ds n S w) : CWI F k P (.block id c) Q ds n S w := fun a ha => wpIn_block (kk a ha)
theorem CWI.then_ {c : Code} {S' : Slots} (hs : Sub S' S) (kk : CWI F k P c Q ds n S' w) : ∀ a, FrD ds n S a → Exit.then (fun a w => c.wpIn F k P Q a w) Q .normal a w := fun a ha => kk a (ha.sub hs)
theorem Ret.ofM {f : FuncId} {fn : Func} {c : Code} {args : List Value} {Φ : Value → World → Prop} {m : Nat} (k : Nat) (hf : P.funcs[f]? = some fn) (hb : fn.body = some c) (hm : fn.ntmps = m) (hl : Nat.ble args.length m = true)
    (h : CWI Fence.wide k P c (bodyPostM Fence.wide k P fn fun e w' => ∃ v, e = .returned v ∧ Φ v w') [] m (frame0 0 args) w) : Ret P f args w Φ := by
  refine (callsIn_wide (n := k)).1 (callsIn_of_wp_marks hf hb trivial (h _ ⟨⟨rfl, ?_, fun i v hi => ?_⟩, rfl⟩) rfl)
  · have : args.length ≤ m := by simpa [Nat.ble_eq] using hl
    simp [hm]; omega
  · obtain ⟨_, h2⟩ := frame0_get args 0 i v hi
    have hlt : i < args.length := by
      rcases Nat.lt_or_ge i args.length with h | h
      · exact h
      · simp [List.getElem?_eq_none h] at h2
    rw [Array.getElem?_append_left (by simpa using hlt)]
    simpa using h2
theorem retM {fn : Func} {Φ : Value → World → Prop} {t D : Nat} (hr : fn.results = #[.tmp t]) (hv : lk S t = some v) (hK : w.heap[D]? = some (.deferred (some []))) (h : Φ v (w.putObj D (.deferred none))) :
    ∀ a, FrD [{ target := .collected D, args := #[] }] n S a → bodyPostM Fence.wide k P fn (fun e w' => ∃ v, e = .returned v ∧ Φ v w') .ret a w := by
  intro a ha
  show LeavesInM Fence.wide k P fn a.tmps _ a.defers .returning w
  rw [ha.2]
  refine ⟨by simp, .inl ⟨_, _, rfl, run_takeDeferred hK, ?_⟩⟩
  refine ⟨_, results_tmp hr _ _ _, _, rfl, ?_⟩
  rw [show a.tmps.getD t undef = v from ha.1.eval (x := .tmp t) hv]
  exact h
theorem assign1 {id p : Nat} {a : Act} {K : Act → World → Prop} {X : Exit → Act → World → Prop} (hO : Open F) (hop : o.op = .assign (.tmp p)) (hd : o.dst = some d) (hg : o.guard = none) (hsz : p < a.tmps.size)
    (h : K (({ tmps := a.tmps.setIfInBounds p v, defers := [] } : Act).put (some d) v) w) : (Code.region id [o].toArray false).wpIn F k P (Exit.then K X) { tmps := (#[p].zip #[v]).foldl (fun t (p, v) => t.setIfInBounds p v) a.tmps, defers := [] } w := by
  refine wpIn_region_lit ?_
  unfold wpListIn
  have e : ({ tmps := (#[p].zip #[v]).foldl (fun t (p, v) => t.setIfInBounds p v) a.tmps, defers := [] } : Act) = { tmps := a.tmps.setIfInBounds p v, defers := [] } := by simp
  rw [e, if_pos (by simp [Region.wanted, hg])]
  refine ⟨fun f _ => hO.fn f, ?_⟩
  rw [Oper.semAt_plain F _ _ (by rw [hop]; intro c h; cases h)]
  have hev : ({ tmps := a.tmps.setIfInBounds p v, defers := [] } : Act).eval (.tmp p) = v := by
    simp [Act.eval, hsz]
  have hrun : (execOp ({ tmps := a.tmps.setIfInBounds p v, defers := [] } : Act).eval o).run P w = .ok (.value v) w := by
    simp only [execOp, hop]; rw [hev]; simp
  rw [hrun, Oper.uponIn_value, hd]
  exact wpListIn_nil h
end
end Go.Proofs.YtgjnchjkjdnidaaGreat

