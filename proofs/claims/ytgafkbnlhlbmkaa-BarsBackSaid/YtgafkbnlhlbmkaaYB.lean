/- strings.Builder: what its methods do, from the library's contracts. -/
import Derived.Test.YtgafkbnlhlbmkaaYA
import Derived.Test.YtgafkbnlhlbmkaaLM
import Derived.Shelf.Strings.Builder1
import Derived.Shelf.Strings.Builder2
namespace Go.Proofs.Ytgafkbnlhlbmkaa
open Go.RowKit Go.Shelf
/-- Block b is a builder of the call's own (from w0's end on) that holds l. -/
def Bd (w0 w : World) (b : Nat) (l : List UInt8) : Prop := Lib.IsBuilder (rho.t 72) (rho.t 5) w0.heap.size b (Lib.byteCells l) w
theorem bdAt_ext {T e B b : Nat} {p : Value} {bs : List Value} {w w' : World} (h : Lib.BuilderAt T e B b p bs w) (hx : Ex w w') : Lib.BuilderAt T e B b p bs w' := by
  have hlt := h.lt
  obtain ⟨hB, v, hb, hown, hne⟩ := h
  exact ⟨hB, v, (hx.block b hlt).trans hb, own_ext hown hx, hne⟩
theorem Bd.ext {w0 w w' : World} {b : Nat} {l : List UInt8} (h : Bd w0 w b l) (hx : Ex w w') : Bd w0 w' b l := h.imp (fun k => bdAt_ext k hx) (fun k => bdAt_ext k hx)
theorem bd_new {w0 w : World} {b : Nat} (h : Blk w b 55 [.pointer none, .slice none 0 0]) (hb : w0.heap.size ≤ b) : Bd w0 w b [] := .inl ⟨hb, _, h, own_nil _ _ _ _, fun e => by cases e⟩
theorem bcells (s : List UInt8) : Lib.strCells ⟨s.toArray⟩ = Lib.byteCells s := Lib.strCells_eq _
theorem bd_str {w0 w : World} {b : Nat} {l : List UInt8} (hx0 : Ex w0 w) (h : Bd w0 w b l) :
    Ret Try.prog 28 [.pointer (some ⟨b, 0, none⟩)] w fun v w' => v = .string ⟨l.toArray⟩ ∧ Ex w0 w' :=
  Calls.mono (Any.Builder_String_any lays169 bX w0.heap.size b l w h hx0.size) fun _ _ ⟨h1, h2⟩ => ⟨_, h1, rfl, hx0.trans h2⟩
theorem bd_wbyte {w0 w : World} {b : Nat} {l : List UInt8} (c : UInt8) (hx0 : Ex w0 w) (h : Bd w0 w b l) (hl : l.length + 1 ≤ 100000000) :
    Ret Try.prog 27 [.pointer (some ⟨b, 0, none⟩), .int .u8 (c.toNat : Int)] w fun v w' => v = .nilIface ∧ Bd w0 w' b (l ++ [c]) ∧ Ex w0 w' := by
  refine Calls.mono (Any.Builder_WriteByte lays167 bX w0.heap.size b _ (c.toNat : Int) w h (by rw [Lib.byteCells_length]; omega) hx0.size) fun _ _ ⟨h1, h2, h3⟩ => ⟨_, h1, rfl, .inr ?_, hx0.trans h3⟩
  rw [Lib.byteCells_append]; exact h2
end Go.Proofs.Ytgafkbnlhlbmkaa
