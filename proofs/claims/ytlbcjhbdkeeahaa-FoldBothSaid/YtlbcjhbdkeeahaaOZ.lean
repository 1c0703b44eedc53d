/- Chapter 05: FoldBoth, of any number. -/
import Derived.Test.YtlbcjhbdkeeahaaOY
namespace Go.Proofs.Ytlbcjhbdkeeahaa
theorem foldBoth_any (y : Int) (a b : List UInt8) (w : World) (hy : 0 ≤ y ∧ y ≤ 255) : Ret Try.prog 5 [.int .u8 y, .string ⟨a.toArray⟩, .string ⟨b.toArray⟩] w (fun v w' => v = .bool true ∧ Ex w w') := by
  obtain ⟨k, rfl⟩ : ∃ k : Nat, y = (k : Int) := ⟨y.toNat, by omega⟩
  exact foldBoth_ret k a b w
end Go.Proofs.Ytlbcjhbdkeeahaa
