/- HeightMargin returns true and leaves its arguments as they were, for every form, every list of bytes and every list of small numbers. No condition. -/
import Derived.Test.YtnecppiamecemaaRows
import Derived.Test.YtnecppiamecemaaIB
import Derived.Test.YtnecppiamecemaaLX
import Derived.WalkKit
namespace Go.Proofs.Ytnecppiamecemaa
open Go.ChangeShapes Go.WideShapes Go.ChangeAt Go.RowKit
open Go.ChangeMaps (open_string shut_string)

theorem ownHeightMargin : ownKnob Try.prog.godebug = none := by kernel_rfl
theorem laidHeightMargin : laidOutB Try.prog = true := by kernel_rfl
set_option maxRecDepth 100000 in
theorem liftedHeightMargin (os : Os) (started : os.Started) (H : Type) (enc : TypeId × Value → H) :
    ReturnsInHanded {} Try.checked os 8 .any (Rows.heightMarginSpec.pre6 enc Try.prog Try.f8 Rows.heightMarginRow.domain false) (Rows.heightMarginSpec.post enc Try.prog Try.f8 false true false false) := by
  refine returnsInHanded_of_change (C := Try.checked) ownHeightMargin started (by kernel_rfl) Try.func8
    (ChangeSpec.witness6 (enc := enc) (C := Try.checked) false ⟨#[], #[.agg #[.int .u8 0, .int .u8 0, .int .u8 0, .int .u8 0, .int .u8 0, .int .u8 0], .slice none 0 0, .slice none 0 0], []⟩ 8 (by kernel_rfl) (by kernel_rfl) (by kernel_rfl) (by kernel_rfl)) ?_
  intro W base args ds gs before hval0 hW _ _
  have hval : ∀ (j : Nat) t v, Try.f8.params[j]? = some t → args[j]? = some v → Value.okWide Try.prog W .any base t v := hval0
  have hW' := hW
  obtain ⟨p, q, hA0, hV, rfl, _, _⟩ := hW
  have hA : DataW.TrodAll enc Try.prog W 0 (fun _ => true) true Try.f8.params.toList args.toList ds p := hA0
  rw [Try.params8] at hA hval
  obtain ⟨v0, vs0, d0, ds0, p0, q0, hargs, rfl, rfl, h0, r0⟩ := trodAll_cons hA
  obtain ⟨v1, vs1, d1, ds1, p1, q1, rfl, rfl, rfl, h1, r1⟩ := trodAll_cons r0
  obtain ⟨v2, vs2, d2, ds2, p2, q2, rfl, rfl, rfl, h2, r2⟩ := trodAll_cons r1
  obtain ⟨rfl, rfl, rfl⟩ := trodAll_nil r2
  obtain rfl : args = #[v0, v1, v2] := by cases args; simp_all
  obtain ⟨rfl, rfl⟩ := trodVars_none hV
  have lt0 : ∀ x ∈ p0, x.block < W.heap.size := by obtain ⟨m, hm⟩ := h0; exact DataW.trod_lt m _ _ _ hm
  have k0 := h0
  obtain ⟨xs0, hl0, rfl, wf0⟩ := open_ints_struct Try.underlying51 (by kernel_rfl) (fun i f h => (by match i, h with | 0, h => simp at h; subst h; exact Try.underlying5 | 1, h => simp at h; subst h; exact Try.underlying5 | 2, h => simp at h; subst h; exact Try.underlying5 | 3, h => simp at h; subst h; exact Try.underlying5 | 4, h => simp at h; subst h; exact Try.underlying5 | 5, h => simp at h; subst h; exact Try.underlying5 | j + 6, h => simp at h)) (by kernel_rfl) (hval 0 51 v0 rfl rfl) h0
  obtain ⟨x0a, x0b, x0c, x0d, x0e, x0f, rfl⟩ := len6_ xs0 hl0
  have lt1 : ∀ x ∈ p1, x.block < W.heap.size := by obtain ⟨m, hm⟩ := h1; exact DataW.trod_lt m _ _ _ hm
  obtain ⟨b1, len1, cap1, rfl⟩ := okWide_slice Try.underlying52 (hval 1 52 v1 rfl rfl)
  have k1 := h1
  obtain ⟨l1, hr1⟩ := open_words_slice Try.underlying52 Try.underlying5 (by kernel_rfl) h1
  have lt2 : ∀ x ∈ p2, x.block < W.heap.size := by obtain ⟨m, hm⟩ := h2; exact DataW.trod_lt m _ _ _ hm
  obtain ⟨b2, len2, cap2, rfl⟩ := okWide_slice Try.underlying53 (hval 2 53 v2 rfl rfl)
  have k2 := h2
  obtain ⟨l2, hr2⟩ := open_words_slice Try.underlying53 Try.underlying56 (by kernel_rfl) h2
  clear hA0 hval0
  refine Calls.mono (heightMargin_ret ⟨x0a, x0b, x0c, x0d, x0e, x0f⟩ _ _ (l1.map byteOf) l2 W ⟨bounds_u8 (wf0 x0a (by simp)), bounds_u8 (wf0 x0b (by simp)), bounds_u8 (wf0 x0c (by simp)), bounds_u8 (wf0 x0d (by simp)), bounds_u8 (wf0 x0e (by simp)), bounds_u8 (wf0 x0f (by simp))⟩ (RdL.map_ byteOf byteOf_enc hr1) hr2) ?_
  rintro e W' ⟨v, rfl, rfl, bel⟩
  exact ⟨_, rfl, _, _, _, [], _, [], hW', trodAll_mk1 (shut_bool Try.underlying4 _), (trodAll_cons_mk (Below.trod laidHeightMargin (by kernel_rfl) (of_decide_eq_true (by kernel_rfl)) k0 bel lt0) (trodAll_cons_mk (Below.trod laidHeightMargin (by kernel_rfl) (of_decide_eq_true (by kernel_rfl)) k1 bel lt1) (trodAll_cons_mk (Below.trod laidHeightMargin (by kernel_rfl) (of_decide_eq_true (by kernel_rfl)) k2 bel lt2) trodAll_mk0))), rfl, bel.frame _, fun h => by cases h⟩
/-- The statement. -/
theorem provedHeightMargin : Rows.HeightMarginSaid :=
  OpenClaim.holds_of_wide 8 Try.f8 rfl rfl rfl rfl rfl rfl rfl ⟨rfl, rfl, rfl, rfl, rfl⟩ rfl rfl rfl rfl rfl (by kernel_rfl) Try.func8 (by kernel_rfl)
    (of_decide_eq_true (by kernel_rfl)) (by unfold Func.isWrapper; rw [if_neg (of_decide_eq_false (by kernel_rfl))]; exact ⟨rfl, rfl⟩)
    (fun os started H enc _ => liftedHeightMargin os started H enc)
#print axioms provedHeightMargin
end Go.Proofs.Ytnecppiamecemaa
