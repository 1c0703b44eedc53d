/- A region in which yield is called: what stands ahead of it and behind it is walked as elsewhere. -/
import Derived.Test.YtjhgihgggofocaaLY
namespace Go.Proofs.Ytjhgihgggofocaa
open Go.RowKit
theorem oper_wide {k : Nat} {P : Program} {o : Oper} {a : Act} {w : World} {next next' : Act → World → Prop} {Q Q' : Exit → Act → World → Prop} (hn : ∀ a w, next a w → next' a w) (hq : ∀ ch a w, Q (.panic ch) a w → Q' (.panic ch) a w) (hl : LetsOut Q → LetsOut Q') (h : o.wp P a w next Q) : o.wpIn Fence.wide k P a w next' Q' := by
  refine ⟨fun f _ => trivial, ?_⟩
  show o.uponIn _ k P a _ Q' ((Oper.semAt none a.eval o).run P w)
  rw [Oper.semAt_none]
  unfold Oper.wp at h
  generalize (execOp a.eval o).run P w = r at h ⊢
  unfold Oper.upon at h
  split at h
  · exact hn _ _ h
  · exact hn _ _ h
  · exact hn _ _ h
  · refine ⟨(fun h => by cases h), callsIn_wide.2 (Calls.mono h ?_)⟩
    intro e w2 h2
    cases e with
    | returned v => exact hn _ _ h2
    | panicked ch => exact hq _ _ _ h2
    | outgrown => exact hl h2
  · refine ⟨(fun h => by cases h), fun c cs _ => ?_⟩
    obtain ⟨v, w2, r, s⟩ := h c cs
    exact ⟨v, w2, hn _ _ r, stepsIn_wide.2 s⟩
  · exact hq _ _ _ h
  · exact h.elim
theorem listIn_wide {k : Nat} {P : Program} {ops : Array Oper} {Q : Exit → Act → World → Prop} (hQ : ∀ a w, Q .outgrown a w → False) : ∀ (os : List Oper) (a : Act) (w : World), wpList P ops Q os a w → wpListIn Fence.wide k P ops Q os a w := by
  intro os
  induction os with
  | nil => exact fun a w h => h
  | cons o os ih =>
    intro a w h
    unfold wpList at h
    unfold wpListIn
    split at h
    · rename_i hw
      rw [if_pos hw]
      rcases h with h | ⟨_, a', w', h⟩
      · exact oper_wide ih (fun _ _ _ h => h) (fun h => h) h
      · exact (hQ a' w' h).elim
    · rename_i hw
      rw [if_neg hw]
      exact ⟨fun f _ => trivial, ih _ _ h⟩
theorem pre_wide {k : Nat} {P : Program} {ops : Array Oper} {Q : Exit → Act → World → Prop} (hQ : ∀ a w, Q .outgrown a w → False) : ∀ (i : Nat) (os : List Oper) (a : Act) (w : World),
    wpList P ops (Exit.then (fun a w => wpListIn Fence.wide k P ops Q (os.drop i) a w) Q) (os.take i) a w → wpListIn Fence.wide k P ops Q os a w := by
  intro i
  induction i with
  | zero => exact fun os a w h => h
  | succ i ih =>
    intro os a w h
    cases os with
    | nil => exact h
    | cons o os =>
      change wpList P ops _ (o :: os.take i) a w at h
      unfold wpList at h
      unfold wpListIn
      split at h
      · rename_i hw
        rw [if_pos hw]
        rcases h with h | ⟨_, a', w', h⟩
        · exact oper_wide (ih os) (fun _ _ _ h => h) (fun ⟨a, w, h⟩ => ⟨a, w, h⟩) h
        · exact (hQ a' w' h).elim
      · rename_i hw
        rw [if_neg hw]
        exact ⟨fun f _ => trivial, ih os _ _ h⟩
section
variable {k n : Nat} {P : Program} {ops : Array Oper} {Q : Exit → Act → World → Prop} {l : List Oper} {S : Slots} {w : World}
theorem RGI.ofRG (hQ : ∀ a w, Q .outgrown a w → False) (h : RG P ops Q n l S w) : RGI Fence.wide k P ops Q [] n l S w := fun a ha => listIn_wide hQ l a w (h a ha.fr)
theorem RGI.ahead (i : Nat) (hQ : ∀ a w, Q .outgrown a w → False) (h : RG P ops (Exit.then (fun a w => wpListIn Fence.wide k P ops Q (l.drop i) a w) Q) n (l.take i) S w) : RGI Fence.wide k P ops Q [] n l S w := fun a ha => pre_wide hQ i l a w (h a ha.fr)
theorem RGI.rest (h : RGI Fence.wide k P ops Q [] n l S w) : QW (Exit.then (fun a w => wpListIn Fence.wide k P ops Q l a w) Q) .normal n S w := fun a ha => h a ⟨⟨rfl, ha.sz, ha.get⟩, ha.df⟩
end
end Go.Proofs.Ytjhgihgggofocaa
