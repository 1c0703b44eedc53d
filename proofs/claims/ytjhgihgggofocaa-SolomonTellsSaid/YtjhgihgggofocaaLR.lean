/- A region that draws its order, inside a round. -/
import Derived.Test.YtjhgihgggofocaaLP
import Derived.OrdersIn
namespace Go.Proofs.Ytjhgihgggofocaa
open Go.RowKit
theorem oper_round {k l : Nat} {P : Program} {o : Oper} {a : Act} {w : World} {next next' : Act → World → Prop} {Q : Exit → Act → World → Prop} (ho : ∀ c, o.op ≠ .defer c) (hn : ∀ a w, next a w → next' a w) (h : o.wp P a w next Q) : o.wpIn (Fence.wide.inRound l) k P a w next' Q := by
  refine ⟨fun f _ => trivial, ?_⟩
  show o.uponIn _ k P a _ Q ((Oper.semAt (some l) a.eval o).run P w)
  rw [Oper.semAt_some l a.eval o ho]
  unfold Oper.wp at h
  generalize (execOp a.eval o).run P w = r at h ⊢
  unfold Oper.upon at h
  split at h
  · exact hn _ _ h
  · exact hn _ _ h
  · exact hn _ _ h
  · refine ⟨(fun h => by cases h), CallsIn.inRound l (callsIn_wide.2 (Calls.mono h ?_))⟩
    intro e w2 h2
    cases e with
    | returned v => exact hn _ _ h2
    | panicked ch => exact h2
    | outgrown => exact h2
  · exact ⟨(fun h => by cases h), rowsIn_round (Rows.mono h fun v w2 h2 => hn _ _ h2)⟩
  · exact h
  · exact h.elim
theorem opsIn_round {k l : Nat} {P : Program} {ops : Array Oper} {Q : Exit → Act → World → Prop} (hQ : ∀ a w, Q .outgrown a w → False) (hd : ∀ (i : Nat) (o : Oper), ops[i]? = some o → ∀ c, o.op ≠ .defer c) : ∀ (is : List Nat) (a : Act) (w : World), wpOps P ops Q is a w → wpOpsIn (Fence.wide.inRound l) k P ops Q is a w := by
  intro is
  induction is with
  | nil => exact fun a w h => h
  | cons i is ih =>
    intro a w h
    unfold wpOps at h
    unfold wpOpsIn
    cases hi : ops[i]? with
    | none => rw [hi] at h; exact ih a w h
    | some o =>
      rw [hi] at h
      dsimp only at h ⊢
      split at h
      · rename_i hw
        rw [if_pos hw]
        rcases h with h | ⟨_, a', w', h⟩
        · exact oper_round (hd i o hi) ih h
        · exact (hQ a' w' h).elim
      · rename_i hw
        rw [if_neg hw]
        exact ⟨fun f _ => trivial, ih _ _ h⟩
theorem noDefer_all {l : List Oper} (h : noDefer l = true) (i : Nat) (o : Oper) (hi : l.toArray[i]? = some o) : ∀ c, o.op ≠ .defer c := fun c hc => by
  have hm : o ∈ l := List.mem_of_getElem? (by simpa using hi)
  have := List.all_eq_true.1 h o hm
  rw [hc] at this; cases this
theorem CWJ.draw {r k n : Nat} {P : Program} {Q : Exit → Act → World → Prop} {S : Slots} {w : World} {id : Nat} {l : List Oper} (U : List Nat) (row : Rk) (m : Nat) (hl : l.length = m) (hm : P.follows .mixedOrders = true) (hd : noDefer l = true) (hQ : ∀ a w, Q .outgrown a w → False)
    (kk : ∀ w1, Ex w w1 → AG P l.toArray Q U row n m (Array.replicate m false) S w1) : CWJ r k P (.region id l.toArray true) Q n S w := by
  intro a ha
  subst hl
  have h := wpZ_sound _ _ _ _ _ (kk w.drew (Ex.of_drew w) a ha)
  refine wpIn_mono (wpIn_region_draw (Q := NP Q) fun t => ?_) fun e a w h => h.out
  simp only [Region.schedule, hm, Bool.true_or, if_true]
  exact opsIn_round (fun a w h => hQ a w h.out) (noDefer_all hd) _ _ _ (wpAny_sound _ t _ a _ h)
/-- The body of a round is gone into. -/
theorem CWJ.into {r k n : Nat} {P : Program} {Q : Exit → Act → World → Prop} {S : Slots} {w : World} {c : Code} {a : Act} (ha : Fr n S a) (h : CWJ r k P c Q n S w) : c.wpIn (Fence.wide.inRound r) k P Q a w := h a ha
theorem QW.of {Q : Exit → Act → World → Prop} {e : Exit} {n : Nat} {S : Slots} {w : World} (h : ∀ a, Q e a w) : QW Q e n S w := fun a _ => h a
end Go.Proofs.Ytjhgihgggofocaa
