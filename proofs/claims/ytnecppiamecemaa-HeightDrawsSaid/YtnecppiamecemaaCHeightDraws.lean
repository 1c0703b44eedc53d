/- HeightDraws returns true and leaves its arguments as they were, for every setup and every text. No condition. -/
import Derived.Test.YtnecppiamecemaaRows
import Derived.Test.YtnecppiamecemaaHI
import Derived.Test.YtnecppiamecemaaLX
import Derived.WalkKit
namespace Go.Proofs.Ytnecppiamecemaa
open Go.ChangeShapes Go.WideShapes Go.ChangeAt Go.RowKit
open Go.ChangeMaps (open_string shut_string)

theorem ownHeightDraws : ownKnob Try.prog.godebug = none := by kernel_rfl
theorem laidHeightDraws : laidOutB Try.prog = true := by kernel_rfl
set_option maxRecDepth 100000 in
theorem liftedHeightDraws (os : Os) (started : os.Started) (H : Type) (enc : TypeId × Value → H) :
    ReturnsInHanded {} Try.checked os 4 .any (Rows.heightDrawsSpec.pre6 enc Try.prog Try.f4 Rows.heightDrawsRow.domain false) (Rows.heightDrawsSpec.post enc Try.prog Try.f4 false true false false) := by
  refine returnsInHanded_of_change (C := Try.checked) ownHeightDraws started (by kernel_rfl) Try.func4
    (ChangeSpec.witness6 (enc := enc) (C := Try.checked) false ⟨#[], #[.agg #[.int .i64 0, .int .i64 0, .int .i64 0, .int .i64 0, .int .i64 0, .int .i64 0], .string ⟨#[]⟩], []⟩ 8 (by kernel_rfl) (by kernel_rfl) (by kernel_rfl) (by kernel_rfl)) ?_
  intro W base args ds gs before hval0 hW _ _
  have hval : ∀ (j : Nat) t v, Try.f4.params[j]? = some t → args[j]? = some v → Value.okWide Try.prog W .any base t v := hval0
  have hW' := hW
  obtain ⟨p, q, hA0, hV, rfl, _, _⟩ := hW
  have hA : DataW.TrodAll enc Try.prog W 0 (fun _ => true) true Try.f4.params.toList args.toList ds p := hA0
  rw [Try.params4] at hA hval
  obtain ⟨v0, vs0, d0, ds0, p0, q0, hargs, rfl, rfl, h0, r0⟩ := trodAll_cons hA
  obtain ⟨v1, vs1, d1, ds1, p1, q1, rfl, rfl, rfl, h1, r1⟩ := trodAll_cons r0
  obtain ⟨rfl, rfl, rfl⟩ := trodAll_nil r1
  obtain rfl : args = #[v0, v1] := by cases args; simp_all
  obtain ⟨rfl, rfl⟩ := trodVars_none hV
  have lt0 : ∀ x ∈ p0, x.block < W.heap.size := by obtain ⟨m, hm⟩ := h0; exact DataW.trod_lt m _ _ _ hm
  have k0 := h0
  obtain ⟨xs0, hl0, rfl, wf0⟩ := open_ints_struct Try.underlying23 (by kernel_rfl) (fun i f h => (by match i, h with | 0, h => simp at h; subst h; exact Try.underlying3 | 1, h => simp at h; subst h; exact Try.underlying3 | 2, h => simp at h; subst h; exact Try.underlying3 | 3, h => simp at h; subst h; exact Try.underlying3 | 4, h => simp at h; subst h; exact Try.underlying3 | 5, h => simp at h; subst h; exact Try.underlying3 | j + 6, h => simp at h)) (by kernel_rfl) (hval 0 23 v0 rfl rfl) h0
  obtain ⟨x0a, x0b, x0c, x0d, x0e, x0f, rfl⟩ := len6_ xs0 hl0
  have lt1 : ∀ x ∈ p1, x.block < W.heap.size := by obtain ⟨m, hm⟩ := h1; exact DataW.trod_lt m _ _ _ hm
  have k1 := h1
  obtain ⟨a1, rfl, rfl, rfl, wf1⟩ := open_string Try.underlying9 (hval 1 9 v1 rfl rfl) h1
  clear hA0 hval0
  refine Calls.mono (heightDraws_ret ⟨x0a, x0b, x0c, x0d, x0e, x0f⟩ a1 W) ?_
  rintro e W' ⟨v, rfl, rfl, bel⟩
  exact ⟨_, rfl, _, _, _, [], _, [], hW', trodAll_mk1 (shut_bool Try.underlying4 _), (trodAll_cons_mk (Below.trod laidHeightDraws (by kernel_rfl) (of_decide_eq_true (by kernel_rfl)) k0 bel lt0) (trodAll_cons_mk (Below.trod laidHeightDraws (by kernel_rfl) (of_decide_eq_true (by kernel_rfl)) k1 bel lt1) trodAll_mk0)), rfl, bel.frame _, fun h => by cases h⟩
/-- The statement. -/
theorem provedHeightDraws : Rows.HeightDrawsSaid :=
  OpenClaim.holds_of_wide 4 Try.f4 rfl rfl rfl rfl rfl rfl rfl ⟨rfl, rfl, rfl, rfl, rfl⟩ rfl rfl rfl rfl rfl (by kernel_rfl) Try.func4 (by kernel_rfl)
    (of_decide_eq_true (by kernel_rfl)) (by unfold Func.isWrapper; rw [if_neg (of_decide_eq_false (by kernel_rfl))]; exact ⟨rfl, rfl⟩)
    (fun os started H enc _ => liftedHeightDraws os started H enc)
#print axioms provedHeightDraws
end Go.Proofs.Ytnecppiamecemaa
