/- Chapter 21, plain: the chapter's example. -/
import Derived.Test.YtnecppiamecemaaHG
namespace Go.Proofs.Ytnecppiamecemaa
abbrev exS : Su := ⟨4, 10, 20, 5, 8, 12⟩
abbrev exL : List Br := [⟨71, 9, 0⟩, ⟨10, 12, 8⟩, ⟨34, 3, 20⟩]
abbrev exT : ByteArray := ⟨#[65, 84, 63, 70]⟩
theorem aw0 : errOf exS exL = 0 := by decide
theorem aw1 : (⟨(readOf exS exL).toArray⟩ : ByteArray) = ⟨#[65, 68, 63, 63]⟩ := by
  have : readOf exS exL = [65, 68, 63, 63] := by decide
  rw [this]
theorem aw2 : marginR exS exL = 0 := by decide
theorem aw3 : errOf exS (exL ++ [⟨36, 0, 0⟩]) = 210 := by decide
theorem aw4 : errOf exS (exL ++ [⟨30, 0, 0⟩]) = 210 := by decide
theorem aw5 : drawErr exS exT.data.toList = 0 := by decide
theorem aw6 : drawOf exS exT.data.toList = [⟨10, 12, 8⟩, ⟨30, 8, 8⟩, ⟨70, 12, 12⟩] := by decide
def mkBr (x : {xs : List Int // xs.length = 3}) : Br := ⟨x.1.getD 0 0, x.1.getD 1 0, x.1.getD 2 0⟩
theorem mkBr_c (x : {xs : List Int // xs.length = 3}) : (mkBr x).c = x.1.map (.int .i64) := by
  obtain ⟨xs, h⟩ := x
  match xs, h with
  | [a, b, c], _ => rfl
theorem same_self (u v : Value) (l : List Br) (w : World) (hl : RdL w 3 Br.c u l) (hm : RdL w 3 Br.c v l) (hlen : l.length ≤ 1000) : Ret Try.prog 17 [u, v] w (fun v w' => v = .bool true ∧ Ex w w') :=
  (same_ret u v l l w hl hm hlen hlen).mono fun v w' ⟨h, hx⟩ => ⟨by rw [h, decide_eq_true rfl], hx⟩
end Go.Proofs.Ytnecppiamecemaa
