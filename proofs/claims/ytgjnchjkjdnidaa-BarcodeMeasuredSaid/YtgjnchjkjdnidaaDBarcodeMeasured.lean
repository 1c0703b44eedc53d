/- BarcodeMeasured returns true and leaves its arguments as they were, for every list of bytes, every form, all noise and all bars that are missing. No condition. -/
import Derived.Test.YtgjnchjkjdnidaaRows
import Derived.WalkKit
import Derived.Test.YtgjnchjkjdnidaaMBarcodeMeasured6
namespace Go.Proofs.Ytgjnchjkjdnidaa
open Go.ChangeShapes Go.WideShapes Go.ChangeAt Go.RowKit
open Go.ChangeMaps (open_string shut_string)

theorem ownBarcodeMeasured : ownKnob Try.prog.godebug = none := by kernel_rfl
theorem laidBarcodeMeasured : laidOutB Try.prog = true := by kernel_rfl
set_option maxRecDepth 100000 in
theorem liftedBarcodeMeasured (os : Os) (started : os.Started) (H : Type) (enc : TypeId × Value → H) :
    ReturnsInHanded {} Try.checked os 3 .any (Rows.barcodeMeasuredSpec.pre6 enc Try.prog Try.f3 Rows.barcodeMeasuredRow.domain false) (Rows.barcodeMeasuredSpec.post enc Try.prog Try.f3 false true false false) := by
  refine returnsInHanded_of_change (C := Try.checked) ownBarcodeMeasured started (by kernel_rfl) Try.func3
    (ChangeSpec.witness6 (enc := enc) (C := Try.checked) false ⟨#[], #[.slice none 0 0, .agg #[.int .u8 0, .int .u8 0, .int .u8 0, .int .u8 0, .int .u8 0], .slice none 0 0, .slice none 0 0], []⟩ 8 (by kernel_rfl) (by kernel_rfl) (by kernel_rfl) (by kernel_rfl)) ?_
  intro W base args ds gs before hval0 hW _ _
  have hval : ∀ (j : Nat) t v, Try.f3.params[j]? = some t → args[j]? = some v → Value.okWide Try.prog W .any base t v := hval0
  have hW' := hW
  obtain ⟨p, q, hA0, hV, rfl, _, _⟩ := hW
  have hA : DataW.TrodAll enc Try.prog W 0 (fun _ => true) true Try.f3.params.toList args.toList ds p := hA0
  rw [Try.params3] at hA hval
  obtain ⟨v0, vs0, d0, ds0, p0, q0, hargs, rfl, rfl, h0, r0⟩ := trodAll_cons hA
  obtain ⟨v1, vs1, d1, ds1, p1, q1, rfl, rfl, rfl, h1, r1⟩ := trodAll_cons r0
  obtain ⟨v2, vs2, d2, ds2, p2, q2, rfl, rfl, rfl, h2, r2⟩ := trodAll_cons r1
  obtain ⟨v3, vs3, d3, ds3, p3, q3, rfl, rfl, rfl, h3, r3⟩ := trodAll_cons r2
  obtain ⟨rfl, rfl, rfl⟩ := trodAll_nil r3
  obtain rfl : args = #[v0, v1, v2, v3] := by cases args; simp_all
  obtain ⟨rfl, rfl⟩ := trodVars_none hV
  have lt0 : ∀ x ∈ p0, x.block < W.heap.size := by obtain ⟨m, hm⟩ := h0; exact DataW.trod_lt m _ _ _ hm
  obtain ⟨b0, len0, cap0, rfl⟩ := okWide_slice Try.underlying22 (hval 0 22 v0 rfl rfl)
  have k0 := h0
  obtain ⟨l0, hr0⟩ := open_words_slice Try.underlying22 Try.underlying5 (by kernel_rfl) h0
  have lt1 : ∀ x ∈ p1, x.block < W.heap.size := by obtain ⟨m, hm⟩ := h1; exact DataW.trod_lt m _ _ _ hm
  have k1 := h1
  obtain ⟨xs1, hl1, rfl, wf1⟩ := open_ints_struct Try.underlying24 (by kernel_rfl) (fun i f h => (by match i, h with | 0, h => simp at h; subst h; exact Try.underlying5 | 1, h => simp at h; subst h; exact Try.underlying5 | 2, h => simp at h; subst h; exact Try.underlying5 | 3, h => simp at h; subst h; exact Try.underlying5 | 4, h => simp at h; subst h; exact Try.underlying5 | j + 5, h => simp at h)) (by kernel_rfl) (hval 1 24 v1 rfl rfl) h1
  obtain ⟨x1a, x1b, x1c, x1d, x1e, rfl⟩ := len5_ xs1 hl1
  have lt2 : ∀ x ∈ p2, x.block < W.heap.size := by obtain ⟨m, hm⟩ := h2; exact DataW.trod_lt m _ _ _ hm
  obtain ⟨b2, len2, cap2, rfl⟩ := okWide_slice Try.underlying25 (hval 2 25 v2 rfl rfl)
  have k2 := h2
  obtain ⟨l2, hr2⟩ := open_words_slice Try.underlying25 Try.underlying40 (by kernel_rfl) h2
  have lt3 : ∀ x ∈ p3, x.block < W.heap.size := by obtain ⟨m, hm⟩ := h3; exact DataW.trod_lt m _ _ _ hm
  obtain ⟨b3, len3, cap3, rfl⟩ := okWide_slice Try.underlying22 (hval 3 22 v3 rfl rfl)
  have k3 := h3
  obtain ⟨l3, hr3⟩ := open_words_slice Try.underlying22 Try.underlying5 (by kernel_rfl) h3
  clear hA0 hval0
  refine Calls.mono (barcodeMeasured_ret _ _ _ ⟨x1a, x1b, x1c, x1d, x1e⟩ (l0.map natOf) l2 (l3.map natOf) W ⟨bounds_u8 (wf1 x1a (by simp)), bounds_u8 (wf1 x1b (by simp)), bounds_u8 (wf1 x1c (by simp)), bounds_u8 (wf1 x1d (by simp)), bounds_u8 (wf1 x1e (by simp))⟩ (RdL.map_ natOf natOf_enc hr0) (natOf_lt l0) hr2 (RdL.map_ natOf natOf_enc hr3) (natOf_lt l3)) ?_
  rintro e W' ⟨v, rfl, rfl, bel⟩
  exact ⟨_, rfl, _, _, _, [], _, [], hW', trodAll_mk1 (shut_bool Try.underlying4 _), (trodAll_cons_mk (Below.trod laidBarcodeMeasured (by kernel_rfl) (of_decide_eq_true (by kernel_rfl)) k0 bel lt0) (trodAll_cons_mk (Below.trod laidBarcodeMeasured (by kernel_rfl) (of_decide_eq_true (by kernel_rfl)) k1 bel lt1) (trodAll_cons_mk (Below.trod laidBarcodeMeasured (by kernel_rfl) (of_decide_eq_true (by kernel_rfl)) k2 bel lt2) (trodAll_cons_mk (Below.trod laidBarcodeMeasured (by kernel_rfl) (of_decide_eq_true (by kernel_rfl)) k3 bel lt3) trodAll_mk0)))), rfl, bel.frame _, fun h => by cases h⟩
/-- The statement. -/
theorem provedBarcodeMeasured : Rows.BarcodeMeasuredSaid :=
  OpenClaim.holds_of_wide 3 Try.f3 rfl rfl rfl rfl rfl rfl rfl ⟨rfl, rfl, rfl, rfl, rfl⟩ rfl rfl rfl rfl rfl (by kernel_rfl) Try.func3 (by kernel_rfl)
    (of_decide_eq_true (by kernel_rfl)) (by unfold Func.isWrapper; rw [if_neg (of_decide_eq_false (by kernel_rfl))]; exact ⟨rfl, rfl⟩)
    (fun os started H enc _ => liftedBarcodeMeasured os started H enc)
#print axioms provedBarcodeMeasured
end Go.Proofs.Ytgjnchjkjdnidaa
