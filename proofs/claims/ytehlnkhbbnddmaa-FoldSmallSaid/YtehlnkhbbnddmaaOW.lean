/- Chapter 05: contracts that FoldBoth uses. -/
import Derived.Test.YtehlnkhbbnddmaaOV
import Derived.Test.YtehlnkhbbnddmaaOH
namespace Go.Proofs.Ytehlnkhbbnddmaa
theorem lhas_is (u : Value) (l : List (List UInt8)) (x : List UInt8) (w : World) (hl : RdL w 1 encT u l) (hlen : l.length ≤ 1000) (h : x ∈ l) : Ret Try.prog 14 [u, .string ⟨x.toArray⟩] w (fun v w' => v = .bool true ∧ Ex w w') := by
  have := lhas_ret u l x w hl hlen
  rw [decide_eq_true h] at this; exact this
end Go.Proofs.Ytehlnkhbbnddmaa
