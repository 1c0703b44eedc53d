/- HeightReads returns true and leaves its arguments as they were, for every setup and every slice of bars. No condition. -/
import Derived.Test.YtnecppiamecemaaRows
import Derived.Test.YtnecppiamecemaaHI
import Derived.Test.YtnecppiamecemaaLX
import Derived.WalkKit
namespace Go.Proofs.Ytnecppiamecemaa
open Go.ChangeShapes Go.WideShapes Go.ChangeAt Go.RowKit
open Go.ChangeMaps (open_string shut_string)

theorem ownHeightReads : ownKnob Try.prog.godebug = none := by kernel_rfl
theorem laidHeightReads : laidOutB Try.prog = true := by kernel_rfl
set_option maxRecDepth 100000 in
theorem liftedHeightReads (os : Os) (started : os.Started) (H : Type) (enc : TypeId × Value → H) :
    ReturnsInHanded {} Try.checked os 3 .any (Rows.heightReadsSpec.pre6 enc Try.prog Try.f3 Rows.heightReadsRow.domain false) (Rows.heightReadsSpec.post enc Try.prog Try.f3 false true false false) := by
  refine returnsInHanded_of_change (C := Try.checked) ownHeightReads started (by kernel_rfl) Try.func3
    (ChangeSpec.witness6 (enc := enc) (C := Try.checked) false ⟨#[], #[.agg #[.int .i64 0, .int .i64 0, .int .i64 0, .int .i64 0, .int .i64 0, .int .i64 0], .slice none 0 0], []⟩ 8 (by kernel_rfl) (by kernel_rfl) (by kernel_rfl) (by kernel_rfl)) ?_
  intro W base args ds gs before hval0 hW _ _
  have hval : ∀ (j : Nat) t v, Try.f3.params[j]? = some t → args[j]? = some v → Value.okWide Try.prog W .any base t v := hval0
  have hW' := hW
  obtain ⟨p, q, hA0, hV, rfl, _, _⟩ := hW
  have hA : DataW.TrodAll enc Try.prog W 0 (fun _ => true) true Try.f3.params.toList args.toList ds p := hA0
  rw [Try.params3] at hA hval
  obtain ⟨v0, vs0, d0, ds0, p0, q0, hargs, rfl, rfl, h0, r0⟩ := trodAll_cons hA
  obtain ⟨v1, vs1, d1, ds1, p1, q1, rfl, rfl, rfl, h1, r1⟩ := trodAll_cons r0
  obtain ⟨rfl, rfl, rfl⟩ := trodAll_nil r1
  obtain rfl : args = #[v0, v1] := by cases args; simp_all
  obtain ⟨rfl, rfl⟩ := trodVars_none hV
  have lt0 : ∀ x ∈ p0, x.block < W.heap.size := by obtain ⟨m, hm⟩ := h0; exact DataW.trod_lt m _ _ _ hm
  have k0 := h0
  obtain ⟨xs0, hl0, rfl, wf0⟩ := open_ints_struct Try.underlying23 (by kernel_rfl) (fun i f h => (by match i, h with | 0, h => simp at h; subst h; exact Try.underlying3 | 1, h => simp at h; subst h; exact Try.underlying3 | 2, h => simp at h; subst h; exact Try.underlying3 | 3, h => simp at h; subst h; exact Try.underlying3 | 4, h => simp at h; subst h; exact Try.underlying3 | 5, h => simp at h; subst h; exact Try.underlying3 | j + 6, h => simp at h)) (by kernel_rfl) (hval 0 23 v0 rfl rfl) h0
  obtain ⟨x0a, x0b, x0c, x0d, x0e, x0f, rfl⟩ := len6_ xs0 hl0
  have lt1 : ∀ x ∈ p1, x.block < W.heap.size := by obtain ⟨m, hm⟩ := h1; exact DataW.trod_lt m _ _ _ hm
  obtain ⟨b1, len1, cap1, rfl⟩ := okWide_slice Try.underlying24 (hval 1 24 v1 rfl rfl)
  have k1 := h1
  obtain ⟨l1, hr1⟩ := open_ints_slice Try.underlying24 Try.underlying48 (by kernel_rfl) (fun i f h => (by match i, h with | 0, h => simp at h; subst h; exact Try.underlying3 | 1, h => simp at h; subst h; exact Try.underlying3 | 2, h => simp at h; subst h; exact Try.underlying3 | j + 3, h => simp at h)) (by kernel_rfl) (by decide) h1
  clear hA0 hval0
  refine Calls.mono (heightReads_ret ⟨x0a, x0b, x0c, x0d, x0e, x0f⟩ _ (l1.map mkBr) W (RdL.map_ mkBr mkBr_c hr1)) ?_
  rintro e W' ⟨v, rfl, rfl, bel⟩
  exact ⟨_, rfl, _, _, _, [], _, [], hW', trodAll_mk1 (shut_bool Try.underlying4 _), (trodAll_cons_mk (Below.trod laidHeightReads (by kernel_rfl) (of_decide_eq_true (by kernel_rfl)) k0 bel lt0) (trodAll_cons_mk (Below.trod laidHeightReads (by kernel_rfl) (of_decide_eq_true (by kernel_rfl)) k1 bel lt1) trodAll_mk0)), rfl, bel.frame _, fun h => by cases h⟩
/-- The statement. -/
theorem provedHeightReads : Rows.HeightReadsSaid :=
  OpenClaim.holds_of_wide 3 Try.f3 rfl rfl rfl rfl rfl rfl rfl ⟨rfl, rfl, rfl, rfl, rfl⟩ rfl rfl rfl rfl rfl (by kernel_rfl) Try.func3 (by kernel_rfl)
    (of_decide_eq_true (by kernel_rfl)) (by unfold Func.isWrapper; rw [if_neg (of_decide_eq_false (by kernel_rfl))]; exact ⟨rfl, rfl⟩)
    (fun os started H enc _ => liftedHeightReads os started H enc)
#print axioms provedHeightReads
end Go.Proofs.Ytnecppiamecemaa
