/- Chapter 05: contracts at what is known. -/
import Derived.Test.YtehlnkhbbnddmaaOG
import Derived.KernelRfl
namespace Go.Proofs.Ytehlnkhbbnddmaa
theorem fold_is (l m : List UInt8) (w : World) (hl : l.length ≤ 100000) (h : foldL l = m) : Ret Try.prog 9 [.string ⟨l.toArray⟩] w (fun v w' => v = .string ⟨m.toArray⟩ ∧ Ex w w') := by subst h; exact fold_ret l w hl
theorem right_is (l : List UInt8) (b : Bool) (w : World) (hl : l.length ≤ 100000) (h : decide (foldL l = l) = b) : Ret Try.prog 11 [.string ⟨l.toArray⟩] w (fun v w' => v = .bool b ∧ Ex w w') := by subst h; exact right_ret l w hl
theorem short_is (k : Nat) (s m : List UInt8) (b : Bool) (w : World) (h : shortR k s = (m, b)) : Ret Try.prog 17 [.int .u8 (k : Int), .string ⟨s.toArray⟩] w (fun v w' => v = .tuple #[.string ⟨m.toArray⟩, .bool b] ∧ Ex w w') := by
  have := short_ret k s w
  rw [h] at this; exact this
theorem kinds_is (s : List UInt8) (n : Nat) (w : World) (h : kindsR s = n) : Ret Try.prog 16 [.string ⟨s.toArray⟩] w (fun v w' => v = .int .u8 (n : Nat) ∧ Ex w w') := by subst h; exact kinds_ret s w
theorem same_is (k : Nat) (a b : List UInt8) (c : Bool) (w : World) (h : sameR k a b = c) : Ret Try.prog 12 [.int .u8 (k : Int), .string ⟨a.toArray⟩, .string ⟨b.toArray⟩] w (fun v w' => v = .bool c ∧ Ex w w') := by subst h; exact same_ret k a b w
theorem longs_is (k : Nat) (s : List UInt8) (m : List (List UInt8)) (w : World) (h : longsR k s = m) : Ret Try.prog 15 [.int .u8 (k : Int), .string ⟨s.toArray⟩] w (fun v w' => Own w' w.heap.size 9 1 encT v m ∧ Ex w w') := by subst h; exact longs_ret k s w
theorem texts_is (u v : Value) (l m : List (List UInt8)) (w : World) (hl : RdL w 1 encT u l) (hm : RdL w 1 encT v m) (hlen : l.length ≤ 1000) (h : l = m) : Ret Try.prog 25 [u, v] w (fun v w' => v = .bool true ∧ Ex w w') := by
  have := texts_ret u v l m w hl hm hlen
  rw [decide_eq_true h] at this; exact this
end Go.Proofs.Ytehlnkhbbnddmaa
