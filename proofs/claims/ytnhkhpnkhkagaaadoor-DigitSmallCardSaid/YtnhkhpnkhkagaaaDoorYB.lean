/- strings.Builder: what its methods do, from the library's contracts. -/
import Derived.Test.YtnhkhpnkhkagaaaDoorYA
import Derived.Test.YtnhkhpnkhkagaaaDoorLM
import Derived.Shelf.Strings.Builder1
import Derived.Shelf.Strings.Builder2
namespace Go.Proofs.YtnhkhpnkhkagaaaDoor
open Go.RowKit Go.Shelf
/-- Block b is a builder of the call's own (from w0's end on) that holds l. -/
def Bd (w0 w : World) (b : Nat) (l : List UInt8) : Prop := Lib.IsBuilder (rho.t 72) (rho.t 5) w0.heap.size b (Lib.byteCells l) w
theorem bdAt_ext {T e B b : Nat} {p : Value} {bs : List Value} {w w' : World} (h : Lib.BuilderAt T e B b p bs w) (hx : Ex w w') : Lib.BuilderAt T e B b p bs w' := by
  have hlt := h.lt
  obtain ⟨hB, v, hb, hown, hne⟩ := h
  exact ⟨hB, v, (hx.block b hlt).trans hb, own_ext hown hx, hne⟩
theorem Bd.ext {w0 w w' : World} {b : Nat} {l : List UInt8} (h : Bd w0 w b l) (hx : Ex w w') : Bd w0 w' b l := h.imp (fun k => bdAt_ext k hx) (fun k => bdAt_ext k hx)
theorem bd_new {w0 w : World} {b : Nat} (h : Blk w b 92 [.pointer none, .slice none 0 0]) (hb : w0.heap.size ≤ b) : Bd w0 w b [] := .inl ⟨hb, _, h, own_nil _ _ _ _, fun e => by cases e⟩
theorem bcells (s : List UInt8) : Lib.strCells ⟨s.toArray⟩ = Lib.byteCells s := Lib.strCells_eq _
theorem bd_grow {w0 w : World} {b n : Nat} (hx0 : Ex w0 w) (h : Blk w b 92 [.pointer none, .slice none 0 0]) (hb : w0.heap.size ≤ b) (hn : n ≤ 100000000) :
    Ret Tryd.prog 58 [.pointer (some ⟨b, 0, none⟩), .int .i64 (n : Int)] w fun v w' => v = .tuple #[] ∧ Bd w0 w' b [] ∧ Ex w0 w' :=
  Calls.mono (Any.Builder_Grow_fresh lays165 bX w0.heap.size b n w hb h hx0.size (by omega)) fun _ _ ⟨h1, h2, h3⟩ => ⟨_, h1, rfl, .inr h2, hx0.trans h3⟩
theorem bd_wstr {w0 w : World} {b : Nat} {l : List UInt8} (s : List UInt8) (hx0 : Ex w0 w) (h : Bd w0 w b l) (hl : l.length + s.length ≤ 100000000) :
    Ret Tryd.prog 60 [.pointer (some ⟨b, 0, none⟩), .string ⟨s.toArray⟩] w fun v w' => v = .tuple #[.int .i64 (s.length : Int), .nilIface] ∧ Bd w0 w' b (l ++ s) ∧ Ex w0 w' := by
  have hs : (⟨s.toArray⟩ : ByteArray).size = s.length := by simp [ByteArray.size]
  refine Calls.mono (Any.Builder_WriteString lays166 bX w0.heap.size b _ ⟨s.toArray⟩ w h (by rw [Lib.byteCells_length, hs]; omega) hx0.size) fun _ _ ⟨h1, h2, h3⟩ => ⟨_, h1, by rw [hs], .inr ?_, hx0.trans h3⟩
  rw [Lib.byteCells_append, ← bcells s]; exact h2
theorem bd_str {w0 w : World} {b : Nat} {l : List UInt8} (hx0 : Ex w0 w) (h : Bd w0 w b l) :
    Ret Tryd.prog 62 [.pointer (some ⟨b, 0, none⟩)] w fun v w' => v = .string ⟨l.toArray⟩ ∧ Ex w0 w' :=
  Calls.mono (Any.Builder_String_any lays169 bX w0.heap.size b l w h hx0.size) fun _ _ ⟨h1, h2⟩ => ⟨_, h1, rfl, hx0.trans h2⟩

end Go.Proofs.YtnhkhpnkhkagaaaDoor
