/- A struct of one integer and one slice of integers, by value. -/
import Derived.Test.YtnhkhpnkhkagaaaDoorLX
import Derived.Test.YtnhkhpnkhkagaaaDoorEI
namespace Go.Proofs.YtnhkhpnkhkagaaaDoor
open Go.ChangeShapes Go.WideShapes Go.ChangeAt Go.RowKit Go.Deep
section
variable {H : Type} {enc : TypeId × Value → H} {P : Program} {w : World} {base : Nat} {spare : Nat → Bool} {held : Bool}
theorem words_row {t e : TypeId} {k : IntKind} {fuel : Nat} {c : Value} {x : DataW H × List MemPlace} (ht : P.underlying t = some (.slice e)) (he : P.underlying e = some (.int k)) (hC : P.cellsOf e = 1) (hf : DataW.trod enc P w base spare held fuel t [c] = some x) :
    ∃ a len cap, c = .slice a len cap ∧ ∃ l : List {a : Int // (Lit.int k a).wf = true}, RdL w 1 (fun x => [.int k x.1]) (.slice a len cap) l := by
  rcases open_slice ht hf with ⟨h0, _⟩ | ⟨ad, len', cap', m, n, D, Pl, hcs, hb, hl, hm, hmm, _, hi⟩
  · simp at h0
    subst h0
    exact ⟨none, 0, 0, rfl, [], RdL.nil_ w⟩
  · simp at hcs
    subst hcs
    refine ⟨_, _, _, rfl, rdl_of (by omega) (fun _ => rfl) hl hm fun i hlt => ?_⟩
    have hlm : len' ≤ m := by rw [hmm]; split <;> omega
    obtain ⟨cs', hc, htr⟩ := hi i (by omega)
    rw [hC] at hc
    obtain ⟨_, hcl, hat⟩ := World.cells?_some hc
    obtain ⟨x, hx, _, hw⟩ := DataW.trod_int he htr
    refine ⟨⟨x, hw⟩, fun j u hu => ?_⟩
    have hj : j < 1 := by have := (List.getElem?_eq_some_iff.1 hu).1; simpa using this
    rw [hat j hj, hx]; exact hu
theorem open_sys {r : Reach} {b0 : Nat} {t tk ts e : TypeId} {fs : Array Field} {f0 f1 : Field} {k k2 : IntKind} {v : Value} {d : DataW H} {p : List MemPlace} (hs : P.underlying t = some (.struct fs)) (hfs : fs = #[f0, f1]) (h0 : f0.type = tk) (h1 : f1.type = ts) (hone : oneCellFields P fs = true)
    (hk : P.underlying tk = some (.int k)) (hts : P.underlying ts = some (.slice e)) (he : P.underlying e = some (.int k2)) (hCe : P.cellsOf e = 1) (hC : P.cellsOf t = 2) (hv : Value.okWide P w r b0 t v) (h : DataW.Trod enc P w base spare held t v d p) :
    ∃ a s len cap, v = .agg #[.int k a, .slice s len cap] ∧ (Lit.int k a).wf = true ∧ ∃ l : List {a : Int // (Lit.int k2 a).wf = true}, RdL w 1 (fun x => [.int k2 x.1]) (.slice s len cap) l := by
  obtain ⟨cs, rfl, hsz⟩ := okWide_struct hs hv
  obtain ⟨fuel, hf⟩ := h
  obtain ⟨ys, m, _, _, hlen, hyl, hf⟩ := DataW.trod_struct hs hf
  rw [hC] at hsz
  obtain ⟨cl⟩ := cs
  match cl, hsz with
  | [c0, c1], _ =>
    have q0 : fs[0]? = some f0 := by rw [hfs]; rfl
    have q1 : fs[1]? = some f1 := by rw [hfs]; rfl
    have g0 := hf 0 _ q0
    have g1 := hf 1 _ q1
    obtain ⟨o0, c0'⟩ := hone_of hone 0 _ q0
    obtain ⟨o1, c1'⟩ := hone_of hone 1 _ q1
    rw [o0, c0'] at g0
    rw [o1, c1'] at g1
    have hys : 2 ≤ ys.length := by rw [hfs] at hyl; simp at hyl; omega
    rw [List.getElem?_eq_getElem (show 0 < ys.length by omega)] at g0
    rw [List.getElem?_eq_getElem (show 1 < ys.length by omega)] at g1
    obtain ⟨a, ha, _, hw⟩ := DataW.trod_int (h0 ▸ hk) g0
    have g1' : DataW.trod enc P w base spare held m f1.type [c1] = some _ := g1
    obtain ⟨s, len, cap, rfl, l, hl⟩ := words_row (h1 ▸ hts) he hCe g1'
    have ha' : c0 = .int k a := by simpa [Value.cells] using ha
    exact ⟨a, s, len, cap, by rw [ha'], hw, l, hl⟩
end
end Go.Proofs.YtnhkhpnkhkagaaaDoor
