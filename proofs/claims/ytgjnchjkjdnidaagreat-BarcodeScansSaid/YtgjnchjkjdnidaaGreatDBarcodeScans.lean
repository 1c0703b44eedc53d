/- BarcodeScans returns true and leaves its arguments as they were, for every setup, every text and every slice of bars. No condition. -/
import Derived.Test.YtgjnchjkjdnidaaGreatRows
import Derived.WalkKit
import Derived.Test.YtgjnchjkjdnidaaGreatMBarcodeScans7
namespace Go.Proofs.YtgjnchjkjdnidaaGreat
open Go.ChangeShapes Go.WideShapes Go.ChangeAt Go.RowKit
open Go.ChangeMaps (open_string shut_string)

theorem ownBarcodeScans : ownKnob Tryz.prog.godebug = none := by kernel_rfl
theorem laidBarcodeScans : laidOutB Tryz.prog = true := by kernel_rfl
set_option maxRecDepth 100000 in
theorem liftedBarcodeScans (os : Os) (started : os.Started) (H : Type) (enc : TypeId × Value → H) :
    ReturnsInHanded {} Tryz.checked os 3 .any (Rows.barcodeScansSpec.pre6 enc Tryz.prog Tryz.f3 Rows.barcodeScansRow.domain false) (Rows.barcodeScansSpec.post enc Tryz.prog Tryz.f3 false true false false) := by
  refine returnsInHanded_of_change (C := Tryz.checked) ownBarcodeScans started (by kernel_rfl) Tryz.func3
    (ChangeSpec.witness6 (enc := enc) (C := Tryz.checked) false ⟨#[], #[.agg #[.int .i64 0, .int .i64 0, .int .i64 0, .int .i64 0, .int .i64 0, .int .i64 0], .string ⟨#[]⟩, .slice none 0 0], []⟩ 8 (by kernel_rfl) (by kernel_rfl) (by kernel_rfl) (by kernel_rfl)) ?_
  intro W base args ds gs before hval0 hW _ _
  have hval : ∀ (j : Nat) t v, Tryz.f3.params[j]? = some t → args[j]? = some v → Value.okWide Tryz.prog W .any base t v := hval0
  have hW' := hW
  obtain ⟨p, q, hA0, hV, rfl, _, _⟩ := hW
  have hA : DataW.TrodAll enc Tryz.prog W 0 (fun _ => true) true Tryz.f3.params.toList args.toList ds p := hA0
  rw [Tryz.params3] at hA hval
  obtain ⟨v0, vs0, d0, ds0, p0, q0, hargs, rfl, rfl, h0, r0⟩ := trodAll_cons hA
  obtain ⟨v1, vs1, d1, ds1, p1, q1, rfl, rfl, rfl, h1, r1⟩ := trodAll_cons r0
  obtain ⟨v2, vs2, d2, ds2, p2, q2, rfl, rfl, rfl, h2, r2⟩ := trodAll_cons r1
  obtain ⟨rfl, rfl, rfl⟩ := trodAll_nil r2
  obtain rfl : args = #[v0, v1, v2] := by cases args; simp_all
  obtain ⟨rfl, rfl⟩ := trodVars_none hV
  have lt0 : ∀ x ∈ p0, x.block < W.heap.size := by obtain ⟨m, hm⟩ := h0; exact DataW.trod_lt m _ _ _ hm
  have k0 := h0
  obtain ⟨xs0, hl0, rfl, wf0⟩ := open_ints_struct Tryz.underlying23 (by kernel_rfl) (fun i f h => (by match i, h with | 0, h => simp at h; subst h; exact Tryz.underlying3 | 1, h => simp at h; subst h; exact Tryz.underlying3 | 2, h => simp at h; subst h; exact Tryz.underlying3 | 3, h => simp at h; subst h; exact Tryz.underlying3 | 4, h => simp at h; subst h; exact Tryz.underlying3 | 5, h => simp at h; subst h; exact Tryz.underlying3 | j + 6, h => simp at h)) (by kernel_rfl) (hval 0 23 v0 rfl rfl) h0
  obtain ⟨x0a, x0b, x0c, x0d, x0e, x0f, rfl⟩ := len6_ xs0 hl0
  have lt1 : ∀ x ∈ p1, x.block < W.heap.size := by obtain ⟨m, hm⟩ := h1; exact DataW.trod_lt m _ _ _ hm
  have k1 := h1
  obtain ⟨a1, rfl, rfl, rfl, wf1⟩ := open_string Tryz.underlying9 (hval 1 9 v1 rfl rfl) h1
  have lt2 : ∀ x ∈ p2, x.block < W.heap.size := by obtain ⟨m, hm⟩ := h2; exact DataW.trod_lt m _ _ _ hm
  obtain ⟨b2, len2, cap2, rfl⟩ := okWide_slice Tryz.underlying24 (hval 2 24 v2 rfl rfl)
  have k2 := h2
  obtain ⟨l2, hr2⟩ := open_ints_slice Tryz.underlying24 Tryz.underlying36 (by kernel_rfl) (fun i f h => (by match i, h with | 0, h => simp at h; subst h; exact Tryz.underlying3 | 1, h => simp at h; subst h; exact Tryz.underlying3 | 2, h => simp at h; subst h; exact Tryz.underlying3 | j + 3, h => simp at h)) (by kernel_rfl) (by decide) h2
  clear hA0 hval0
  refine Calls.mono (by obtain ⟨⟨t1⟩⟩ := a1; exact barcodeScans_ret ⟨x0a, x0b, x0c, x0d, x0e, x0f⟩ t1 _ (l2.map mkBr) W (RdL.map_ mkBr mkBr_c hr2)) ?_
  rintro e W' ⟨v, rfl, rfl, bel⟩
  exact ⟨_, rfl, _, _, _, [], _, [], hW', trodAll_mk1 (shut_bool Tryz.underlying4 _), (trodAll_cons_mk (Below.trod laidBarcodeScans (by kernel_rfl) (of_decide_eq_true (by kernel_rfl)) k0 bel lt0) (trodAll_cons_mk (Below.trod laidBarcodeScans (by kernel_rfl) (of_decide_eq_true (by kernel_rfl)) k1 bel lt1) (trodAll_cons_mk (Below.trod laidBarcodeScans (by kernel_rfl) (of_decide_eq_true (by kernel_rfl)) k2 bel lt2) trodAll_mk0))), rfl, bel.frame _, fun h => by cases h⟩
theorem provedBarcodeScans : Rows.BarcodeScansSaid :=
  OpenClaim.holds_of_wide 3 Tryz.f3 rfl rfl rfl rfl rfl rfl rfl ⟨rfl, rfl, rfl, rfl, rfl⟩ rfl rfl rfl rfl rfl (by kernel_rfl) Tryz.func3 (by kernel_rfl)
    (of_decide_eq_true (by kernel_rfl)) (by unfold Func.isWrapper; rw [if_neg (of_decide_eq_false (by kernel_rfl))]; exact ⟨rfl, rfl⟩)
    (fun os started H enc _ => liftedBarcodeScans os started H enc)
#print axioms provedBarcodeScans
end Go.Proofs.YtgjnchjkjdnidaaGreat
