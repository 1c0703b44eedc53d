/- HeightBack returns true and leaves its arguments as they were, for every form, every list of bytes, both lists of small numbers and either way round. No condition. -/
import Derived.Test.YtnecppiamecemaaRows
import Derived.Test.YtnecppiamecemaaHO
import Derived.Test.YtnecppiamecemaaLX
import Derived.WalkKit
namespace Go.Proofs.Ytnecppiamecemaa
open Go.ChangeShapes Go.WideShapes Go.ChangeAt Go.RowKit
open Go.ChangeMaps (open_string shut_string)

theorem ownHeightBack : ownKnob Try.prog.godebug = none := by kernel_rfl
theorem laidHeightBack : laidOutB Try.prog = true := by kernel_rfl
set_option maxRecDepth 100000 in
theorem liftedHeightBack (os : Os) (started : os.Started) (H : Type) (enc : TypeId × Value → H) :
    ReturnsInHanded {} Try.checked os 5 .any (Rows.heightBackSpec.pre6 enc Try.prog Try.f5 Rows.heightBackRow.domain false) (Rows.heightBackSpec.post enc Try.prog Try.f5 false true false false) := by
  refine returnsInHanded_of_change (C := Try.checked) ownHeightBack started (by kernel_rfl) Try.func5
    (ChangeSpec.witness6 (enc := enc) (C := Try.checked) false ⟨#[], #[.agg #[.int .u8 0, .int .u8 0, .int .u8 0, .int .u8 0, .int .u8 0, .int .u8 0], .slice none 0 0, .slice none 0 0, .slice none 0 0, .bool false], []⟩ 8 (by kernel_rfl) (by kernel_rfl) (by kernel_rfl) (by kernel_rfl)) ?_
  intro W base args ds gs before hval0 hW _ _
  have hval : ∀ (j : Nat) t v, Try.f5.params[j]? = some t → args[j]? = some v → Value.okWide Try.prog W .any base t v := hval0
  have hW' := hW
  obtain ⟨p, q, hA0, hV, rfl, _, _⟩ := hW
  have hA : DataW.TrodAll enc Try.prog W 0 (fun _ => true) true Try.f5.params.toList args.toList ds p := hA0
  rw [Try.params5] at hA hval
  obtain ⟨v0, vs0, d0, ds0, p0, q0, hargs, rfl, rfl, h0, r0⟩ := trodAll_cons hA
  obtain ⟨v1, vs1, d1, ds1, p1, q1, rfl, rfl, rfl, h1, r1⟩ := trodAll_cons r0
  obtain ⟨v2, vs2, d2, ds2, p2, q2, rfl, rfl, rfl, h2, r2⟩ := trodAll_cons r1
  obtain ⟨v3, vs3, d3, ds3, p3, q3, rfl, rfl, rfl, h3, r3⟩ := trodAll_cons r2
  obtain ⟨v4, vs4, d4, ds4, p4, q4, rfl, rfl, rfl, h4, r4⟩ := trodAll_cons r3
  obtain ⟨rfl, rfl, rfl⟩ := trodAll_nil r4
  obtain rfl : args = #[v0, v1, v2, v3, v4] := by cases args; simp_all
  obtain ⟨rfl, rfl⟩ := trodVars_none hV
  have lt0 : ∀ x ∈ p0, x.block < W.heap.size := by obtain ⟨m, hm⟩ := h0; exact DataW.trod_lt m _ _ _ hm
  have k0 := h0
  obtain ⟨xs0, hl0, rfl, wf0⟩ := open_ints_struct Try.underlying51 (by kernel_rfl) (fun i f h => (by match i, h with | 0, h => simp at h; subst h; exact Try.underlying5 | 1, h => simp at h; subst h; exact Try.underlying5 | 2, h => simp at h; subst h; exact Try.underlying5 | 3, h => simp at h; subst h; exact Try.underlying5 | 4, h => simp at h; subst h; exact Try.underlying5 | 5, h => simp at h; subst h; exact Try.underlying5 | j + 6, h => simp at h)) (by kernel_rfl) (hval 0 51 v0 rfl rfl) h0
  obtain ⟨x0a, x0b, x0c, x0d, x0e, x0f, rfl⟩ := len6_ xs0 hl0
  have lt1 : ∀ x ∈ p1, x.block < W.heap.size := by obtain ⟨m, hm⟩ := h1; exact DataW.trod_lt m _ _ _ hm
  obtain ⟨b1, len1, cap1, rfl⟩ := okWide_slice Try.underlying52 (hval 1 52 v1 rfl rfl)
  have k1 := h1
  obtain ⟨l1, hr1⟩ := open_words_slice Try.underlying52 Try.underlying5 (by kernel_rfl) h1
  have lt2 : ∀ x ∈ p2, x.block < W.heap.size := by obtain ⟨m, hm⟩ := h2; exact DataW.trod_lt m _ _ _ hm
  obtain ⟨b2, len2, cap2, rfl⟩ := okWide_slice Try.underlying53 (hval 2 53 v2 rfl rfl)
  have k2 := h2
  obtain ⟨l2, hr2⟩ := open_words_slice Try.underlying53 Try.underlying56 (by kernel_rfl) h2
  have lt3 : ∀ x ∈ p3, x.block < W.heap.size := by obtain ⟨m, hm⟩ := h3; exact DataW.trod_lt m _ _ _ hm
  obtain ⟨b3, len3, cap3, rfl⟩ := okWide_slice Try.underlying53 (hval 3 53 v3 rfl rfl)
  have k3 := h3
  obtain ⟨l3, hr3⟩ := open_words_slice Try.underlying53 Try.underlying56 (by kernel_rfl) h3
  have lt4 : ∀ x ∈ p4, x.block < W.heap.size := by obtain ⟨m, hm⟩ := h4; exact DataW.trod_lt m _ _ _ hm
  have k4 := h4
  obtain ⟨a4, rfl, rfl, rfl⟩ := open_bool Try.underlying4 (hval 4 4 v4 rfl rfl) h4
  clear hA0 hval0
  refine Calls.mono (heightBack_ret ⟨x0a, x0b, x0c, x0d, x0e, x0f⟩ _ _ _ (l1.map byteOf) l2 l3 a4 W ⟨bounds_u8 (wf0 x0a (by simp)), bounds_u8 (wf0 x0b (by simp)), bounds_u8 (wf0 x0c (by simp)), bounds_u8 (wf0 x0d (by simp)), bounds_u8 (wf0 x0e (by simp)), bounds_u8 (wf0 x0f (by simp))⟩ (RdL.map_ byteOf byteOf_enc hr1) hr2 hr3) ?_
  rintro e W' ⟨v, rfl, rfl, bel⟩
  exact ⟨_, rfl, _, _, _, [], _, [], hW', trodAll_mk1 (shut_bool Try.underlying4 _), (trodAll_cons_mk (Below.trod laidHeightBack (by kernel_rfl) (of_decide_eq_true (by kernel_rfl)) k0 bel lt0) (trodAll_cons_mk (Below.trod laidHeightBack (by kernel_rfl) (of_decide_eq_true (by kernel_rfl)) k1 bel lt1) (trodAll_cons_mk (Below.trod laidHeightBack (by kernel_rfl) (of_decide_eq_true (by kernel_rfl)) k2 bel lt2) (trodAll_cons_mk (Below.trod laidHeightBack (by kernel_rfl) (of_decide_eq_true (by kernel_rfl)) k3 bel lt3) (trodAll_cons_mk (Below.trod laidHeightBack (by kernel_rfl) (of_decide_eq_true (by kernel_rfl)) k4 bel lt4) trodAll_mk0))))), rfl, bel.frame _, fun h => by cases h⟩
/-- The statement. -/
theorem provedHeightBack : Rows.HeightBackSaid :=
  OpenClaim.holds_of_wide 5 Try.f5 rfl rfl rfl rfl rfl rfl rfl ⟨rfl, rfl, rfl, rfl, rfl⟩ rfl rfl rfl rfl rfl (by kernel_rfl) Try.func5 (by kernel_rfl)
    (of_decide_eq_true (by kernel_rfl)) (by unfold Func.isWrapper; rw [if_neg (of_decide_eq_false (by kernel_rfl))]; exact ⟨rfl, rfl⟩)
    (fun os started H enc _ => liftedHeightBack os started H enc)
#print axioms provedHeightBack
end Go.Proofs.Ytnecppiamecemaa
