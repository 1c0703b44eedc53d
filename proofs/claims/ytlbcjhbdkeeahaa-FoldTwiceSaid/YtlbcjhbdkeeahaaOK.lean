/- Chapter 05: plain, at what is known. -/
import Derived.Test.YtlbcjhbdkeeahaaOI
namespace Go.Proofs.Ytlbcjhbdkeeahaa
theorem plain_is (l : List UInt8) (b : Bool) (w : World) (hl : l.length ≤ 100000) (h : b = true ↔ Pl l) : Ret Try.prog 10 [.string ⟨l.toArray⟩] w (fun v w' => v = .bool b ∧ Ex w w') :=
  (plain_ret l w hl).mono fun v w' ⟨b', e, h', hx⟩ => ⟨by rw [e]; congr 1; cases b <;> cases b' <;> simp_all, hx⟩
end Go.Proofs.Ytlbcjhbdkeeahaa
