/- Lists of bytes, told as numbers. -/
import Derived.Test.YtgafkbnlhlbmkaaBU
import Derived.Test.YtgafkbnlhlbmkaaLX
import Derived.Test.YtgafkbnlhlbmkaaLJ
namespace Go.Proofs.Ytgafkbnlhlbmkaa
open Go.RowKit
theorem rdl_n {w : World} {v : Value} {l : List UInt8} (h : RdL w 1 encB v l) : RdL w 1 encN v (l.map (·.toNat)) := RdL.map_ (fun c : UInt8 => c.toNat) (fun _ => rfl) h
theorem rdl_b {w : World} {v : Value} {l : List UInt8} (h : RdL w 1 encN v (l.map (·.toNat))) : RdL w 1 encB v l := by
  obtain ⟨A, c, rfl, h1, h2, h3⟩ := h
  rw [List.length_map] at h1 h3 ⊢
  refine ⟨A, c, rfl, h1, h2, fun hl => ?_⟩
  obtain ⟨ad, rfl, hb, hc⟩ := h3 hl
  exact ⟨ad, rfl, hb, fun i b hi => hc i b.toNat (by rw [List.getElem?_map, hi]; rfl)⟩
end Go.Proofs.Ytgafkbnlhlbmkaa
