/- The walk inside a round of a range over a function: what a region does at the wide fence, it does in a round. -/
import Derived.Test.YtjhgihgggofocaaLW
import Derived.Sort.LoopGhostIn
namespace Go.Proofs.Ytjhgihgggofocaa
open Go.RowKit
def noDefer (l : List Oper) : Bool := l.all fun o => match o.op with | .defer _ => false | _ => true
theorem noDefer_cons {o : Oper} {l : List Oper} (h : noDefer (o :: l) = true) : (∀ c, o.op ≠ .defer c) ∧ noDefer l = true := by
  unfold noDefer at h ⊢
  rw [List.all_cons, Bool.and_eq_true] at h
  refine ⟨fun c hc => ?_, h.2⟩
  have h1 := h.1
  rw [hc] at h1; cases h1
theorem rowsIn_round {k l : Nat} {P : Program} {row : String} {args : Array Value} {w : World} {R : Value → World → Prop} (h : Rows P row args w R) : RowsIn (Fence.wide.inRound l) k P row args w R :=
  fun c cs _ => let ⟨v, w', r, s⟩ := h c cs; ⟨v, w', r, stepsIn_wide.2 s⟩
/-- A list of operations, in a round. -/
theorem listIn_round {k l : Nat} {P : Program} {ops : Array Oper} {Q : Exit → Act → World → Prop} (hQ : ∀ a w, Q .outgrown a w → False) : ∀ (os : List Oper), noDefer os = true → ∀ (a : Act) (w : World), wpList P ops Q os a w → wpListIn (Fence.wide.inRound l) k P ops Q os a w := by
  intro os
  induction os with
  | nil => exact fun _ a w h => h
  | cons o os ih =>
    intro hd a w h
    obtain ⟨ho, hd'⟩ := noDefer_cons hd
    unfold wpList at h
    unfold wpListIn
    split at h
    · rename_i hw
      rw [if_pos hw]
      rcases h with h | ⟨_, a', w', h⟩
      · refine ⟨fun f _ => trivial, ?_⟩
        show o.uponIn _ k P a _ Q ((Oper.semAt (some l) a.eval o).run P w)
        rw [Oper.semAt_some l a.eval o ho]
        unfold Oper.wp at h
        generalize (execOp a.eval o).run P w = r at h ⊢
        unfold Oper.upon at h
        split at h
        · exact ih hd' _ _ h
        · exact ih hd' _ _ h
        · exact ih hd' _ _ h
        · refine ⟨(fun h => by cases h), CallsIn.inRound l (callsIn_wide.2 (Calls.mono h ?_))⟩
          intro e w2 h2
          cases e with
          | returned v => exact ih hd' _ _ h2
          | panicked ch => exact h2
          | outgrown => exact h2
        · refine ⟨(fun h => by cases h), ?_⟩
          exact rowsIn_round (Rows.mono h fun v w2 h2 => ih hd' _ _ h2)
        · exact h
        · exact h.elim
      · exact (hQ a' w' h).elim
    · rename_i hw
      rw [if_neg hw]
      exact ⟨fun f _ => trivial, ih hd' _ _ h⟩
def CWJ (r k : Nat) (P : Program) (c : Code) (Q : Exit → Act → World → Prop) (n : Nat) (S : Slots) (w : World) : Prop := ∀ a, Fr n S a → c.wpIn (Fence.wide.inRound r) k P Q a w
section
variable {r k n : Nat} {P : Program} {Q : Exit → Act → World → Prop} {l : List Oper} {S : Slots} {w : World}
theorem CWJ.region {id : Nat} (hd : noDefer l = true) (hQ : ∀ a w, Q .outgrown a w → False) (kk : RG P l.toArray Q n l S w) : CWJ r k P (.region id l.toArray false) Q n S w := fun a ha => wpIn_region_lit (listIn_round hQ l hd a w (kk a ha))
theorem CWJ.seq {x y : Code} (kk : CWJ r k P x (Exit.then (fun a w => y.wpIn (Fence.wide.inRound r) k P Q a w) Q) n S w) : CWJ r k P (.seq x y) Q n S w := fun a ha => wpIn_seq (kk a ha)
theorem QWJ.then_ {c : Code} (kk : CWJ r k P c Q n S w) : QW (Exit.then (fun a w => c.wpIn (Fence.wide.inRound r) k P Q a w) Q) .normal n S w := kk
theorem CWJ.sub {c : Code} {S' : Slots} (hs : Sub S' S) (kk : CWJ r k P c Q n S' w) : CWJ r k P c Q n S w := fun a ha => kk a (ha.sub hs)
theorem CWJ.skip (kk : QW Q .normal n S w) : CWJ r k P .skip Q n S w := fun a ha => wpIn_skip (kk a ha)
theorem CWJ.ret (kk : QW Q .ret n S w) : CWJ r k P .ret Q n S w := fun a ha => wpIn_ret (kk a ha)
theorem CWJ.exit {id : Nat} (kk : QW Q (.exit id) n S w) : CWJ r k P (.exit id) Q n S w := fun a ha => wpIn_exit (kk a ha)
theorem CWJ.block {id : Nat} {c : Code} (kk : CWJ r k P c (Exit.inBlock id Q) n S w) : CWJ r k P (.block id c) Q n S w := fun a ha => wpIn_block (kk a ha)
theorem CWJ.cond {c : Operand} {x y : Code} {t : Bool} (hc : ev S c = some (.bool t)) (ht : t = true → CWJ r k P x Q n S w) (hf : t = false → CWJ r k P y Q n S w) : CWJ r k P (.cond c x y) Q n S w :=
  fun a ha => wpIn_cond_split (ha.eval hc) (fun h => ht h a ha) (fun h => hf h a ha)
theorem CWJ.condT {c : Operand} {x y : Code} (hc : ev S c = some (.bool true)) (kk : CWJ r k P x Q n S w) : CWJ r k P (.cond c x y) Q n S w :=
  fun a ha => wpIn_cond_true (ha.eval hc) (kk a ha)
theorem CWJ.condF {c : Operand} {x y : Code} (hc : ev S c = some (.bool false)) (kk : CWJ r k P y Q n S w) : CWJ r k P (.cond c x y) Q n S w :=
  fun a ha => wpIn_cond_false (ha.eval hc) (kk a ha)
theorem CWJ.condP {c : Operand} {x y : Code} {p : Prop} [Decidable p] (hc : ev S c = some (.bool (decide p))) (ht : p → CWJ r k P x Q n S w) (hf : ¬ p → CWJ r k P y Q n S w) : CWJ r k P (.cond c x y) Q n S w :=
  CWJ.cond hc (fun h => ht (of_decide_eq_true h)) (fun h => hf (of_decide_eq_false h))
theorem CWJ.loop {γ : Type} {c : Code} (I : γ → Slots) (J : γ → World → Prop) (μ : γ → Nat) (g0 : γ) (hS : Sub (I g0) S) (h0 : J g0 w)
    (round : ∀ g w, J g w → CWJ r k P c (Exit.then (fun a' w' => ∃ g', Fr n (I g') a' ∧ J g' w' ∧ μ g' < μ g) Q) n (I g) w) : CWJ r k P (.loop c) Q n S w := by
  intro a ha
  refine wpIn_loop_ghost (fun m a' w' => ∃ g, μ g = m ∧ Fr n (I g) a' ∧ J g w') (μ g0) ⟨g0, rfl, ha.sub hS, h0⟩ ?_
  rintro m a' w' ⟨g, rfl, hf, hj⟩
  refine wpIn_mono (round g w' hj a' hf) ?_
  intro e a₁ w₁ hq
  cases e with
  | normal =>
    obtain ⟨g', h1, h2, h3⟩ := hq
    exact ⟨μ g', h3, g', rfl, h1, h2⟩
  | exit id => exact hq
  | goto l => exact hq
  | ret => exact hq
  | panic ch => exact hq
  | outgrown => exact hq
theorem CWJ.loop1 {α : Type} {c : Code} (F : Slots) (hF : Sub F S) (I : α → Slots) (J : α → World → Prop) (μ : α → Nat) (x0 : α) (hS : Sub (I x0) S) (h0 : J x0 w)
    (round : ∀ x w, J x w → CWJ r k P c (Exit.then (fun a' w' => ∃ x', Fr n (I x' ++ F) a' ∧ J x' w' ∧ μ x' < μ x) Q) n (I x ++ F) w) : CWJ r k P (.loop c) Q n S w :=
  CWJ.loop (fun x => I x ++ F) J μ x0 (hS.app hF) h0 round
theorem CWJ.loop2 {α β : Type} {c : Code} (F : Slots) (hF : Sub F S) (I : α → β → Slots) (J : α → β → World → Prop) (μ : α → β → Nat) (x0 : α) (y0 : β) (hS : Sub (I x0 y0) S) (h0 : J x0 y0 w)
    (round : ∀ x y w, J x y w → CWJ r k P c (Exit.then (fun a' w' => ∃ x' y', Fr n (I x' y' ++ F) a' ∧ J x' y' w' ∧ μ x' y' < μ x y) Q) n (I x y ++ F) w) : CWJ r k P (.loop c) Q n S w :=
  CWJ.loop (γ := α × β) (fun g => I g.1 g.2 ++ F) (fun g => J g.1 g.2) (fun g => μ g.1 g.2) (x0, y0) (hS.app hF) h0 (fun g w hj a ha => wpIn_mono (round g.1 g.2 w hj a ha) (by
    intro e a w h
    cases e <;> first | exact h | (obtain ⟨x, y, h⟩ := h; exact ⟨(x, y), h⟩)))
theorem CWJ.loop3 {α β γ : Type} {c : Code} (F : Slots) (hF : Sub F S) (I : α → β → γ → Slots) (J : α → β → γ → World → Prop) (μ : α → β → γ → Nat) (x0 : α) (y0 : β) (z0 : γ) (hS : Sub (I x0 y0 z0) S) (h0 : J x0 y0 z0 w)
    (round : ∀ x y z w, J x y z w → CWJ r k P c (Exit.then (fun a' w' => ∃ x' y' z', Fr n (I x' y' z' ++ F) a' ∧ J x' y' z' w' ∧ μ x' y' z' < μ x y z) Q) n (I x y z ++ F) w) : CWJ r k P (.loop c) Q n S w :=
  CWJ.loop (γ := α × β × γ) (fun g => I g.1 g.2.1 g.2.2 ++ F) (fun g => J g.1 g.2.1 g.2.2) (fun g => μ g.1 g.2.1 g.2.2) (x0, y0, z0) (hS.app hF) h0 (fun g w hj a ha => wpIn_mono (round g.1 g.2.1 g.2.2 w hj a ha) (by
    intro e a w h
    cases e <;> first | exact h | (obtain ⟨x, y, z, h⟩ := h; exact ⟨(x, y, z), h⟩)))
end
end Go.Proofs.Ytjhgihgggofocaa
