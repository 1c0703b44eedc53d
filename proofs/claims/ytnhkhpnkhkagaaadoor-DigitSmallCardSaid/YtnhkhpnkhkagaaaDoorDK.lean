/- Chapter 16: calls at what is known. -/
import Derived.Test.YtnhkhpnkhkagaaaDoorDI
namespace Go.Proofs.YtnhkhpnkhkagaaaDoor
theorem Check_is {k : Nat} {wv : Value} {ws : List Int} {t : List UInt8} {c : UInt8} {e : Int} {w : World} (hws : RdL w 1 encI wv ws) (h1 : ws.length ≤ 100000) (h2 : t.length ≤ 100000) (h : checkR k ws t = (c, e)) :
    Ret Tryd.prog 20 [.agg #[.int .u8 (k : Int), wv], .string ⟨t.toArray⟩] w (fun v w' => v = .tuple #[.int .u8 c.toNat, .int .i64 e] ∧ Ex w w') := by
  have := Check_ret k wv ws t w hws h1 h2; rw [h] at this; exact this
theorem Append_is {k : Nat} {wv : Value} {ws : List Int} {t c : List UInt8} {e : Int} {w : World} (hws : RdL w 1 encI wv ws) (h1 : ws.length ≤ 100000) (h2 : t.length ≤ 100000) (h : appendR k ws t = (c, e)) :
    Ret Tryd.prog 25 [.agg #[.int .u8 (k : Int), wv], .string ⟨t.toArray⟩] w (fun v w' => v = .tuple #[.string ⟨c.toArray⟩, .int .i64 e] ∧ Ex w w') := by
  have := Append_ret k wv ws t w hws h1 h2; rw [h] at this; exact this
theorem Test_is {k : Nat} {wv : Value} {ws : List Int} {t : List UInt8} {c : Bool} {e : Int} {w : World} (hws : RdL w 1 encI wv ws) (h1 : ws.length ≤ 100000) (h2 : t.length ≤ 100000) (h : testR k ws t = (c, e)) :
    Ret Tryd.prog 21 [.agg #[.int .u8 (k : Int), wv], .string ⟨t.toArray⟩] w (fun v w' => v = .tuple #[.bool c, .int .i64 e] ∧ Ex w w') := by
  have := Test_ret k wv ws t w hws h1 h2; rw [h] at this; exact this
theorem Fill_is {k : Nat} {wv : Value} {ws : List Int} {t c : List UInt8} {e : Int} {w : World} (hws : RdL w 1 encI wv ws) (h1 : ws.length ≤ 100000) (h2 : t.length ≤ 100000) (h : fillR k ws t = (c, e)) :
    Ret Tryd.prog 31 [.agg #[.int .u8 (k : Int), wv], .string ⟨t.toArray⟩] w (fun v w' => v = .tuple #[.string ⟨c.toArray⟩, .int .i64 e] ∧ Ex w w') := by
  have := Fill_ret k wv ws t w hws h1 h2; rw [h] at this; exact this
theorem Misses_is {k : Nat} {wv : Value} {ws : List Int} {n : Int} {l : List MissT} {e : Int} {w : World} (hws : RdL w 1 encI wv ws) (h1 : ws.length ≤ 100000) (h : missR k ws n = (l, e)) :
    Ret Tryd.prog 15 [.agg #[.int .u8 (k : Int), wv], .int .i64 n] w (fun v w' => ∃ r, v = .tuple #[r, .int .i64 e] ∧ Own w' w.heap.size 36 4 encM r l ∧ Ex w w') := by
  have := Misses_ret k wv ws n w hws h1; rw [h] at this; exact this
end Go.Proofs.YtnhkhpnkhkagaaaDoor
