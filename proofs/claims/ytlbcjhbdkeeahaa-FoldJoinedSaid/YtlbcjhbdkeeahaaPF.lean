/- Walks (PF). Written by program. -/
import Derived.Test.YtlbcjhbdkeeahaaT
import Derived.Test.YtlbcjhbdkeeahaaPE
namespace Go.Proofs.Ytlbcjhbdkeeahaa
open Go.RowKit
set_option maxRecDepth 100000 in
set_option maxHeartbeats 1000000 in
theorem joined_ret (a b : List UInt8) (w : World) (ha : a.length ≤ 100000) (hb : b.length ≤ 100000) :
    Ret Try.prog 21 [.string ⟨a.toArray⟩, .string ⟨b.toArray⟩] w (fun v w' => v = .string ⟨(joinL a b).toArray⟩ ∧ Ex w w') := by
  have hsa := sbytes a
  have hsb := sbytes b
  have hB0 : Ex w w := Ex.rfl_ _
  refine Ret.of Try.func21 rfl Try.ntmps21 rfl ?_
  refine CW.seq ?_
  refine CW.region ?_
  refine RG.vl rfl rfl rfl (Ev.assign rfl rfl) ?_
  refine RG.done ?_
  refine QW.then_ ?_
  refine CW.seq ?_
  refine CW.seq ?_
  refine CW.region ?_
  refine RG.vl rfl rfl rfl (Ev.move rfl rfl) ?_
  refine RG.vl rfl rfl rfl (Ev.eqS rfl rfl rfl) ?_
  refine RG.vl rfl rfl rfl (Ev.move rfl rfl) ?_
  refine RG.split (d := 7) rfl (fun hg1 => ?_) (fun hg1 => ?_)
  · refine RG.pass rfl rfl rfl ?_
    refine RG.pass rfl rfl rfl ?_
    refine RG.vl rfl rfl rfl (Ev.pickT rfl rfl rfl) ?_
    refine RG.done ?_
    refine QW.then_ ?_
    refine CW.condT rfl ?_
    refine CW.seq ?_
    refine CW.region ?_
    refine RG.vl rfl rfl rfl (Ev.move rfl rfl) ?_
    refine RG.vl rfl rfl rfl (Ev.move rfl rfl) ?_
    refine RG.vl rfl rfl rfl ((Ev.cat rfl rfl rfl (by rw [sbytes, sbytes]; omega)).conv (congrArg Value.string (bx_cat a b))) ?_
    refine RG.vl rfl rfl rfl (Ev.assign rfl rfl) ?_
    refine RG.done ?_
    refine QW.then_ ?_
    refine CW.ret ?_
    refine QW.thenRet ?_
    refine QW.ret1 rfl rfl ?_
    have hB := hB0
    exact ⟨(by unfold joinL; rw [if_pos (by first | exact .inl ((binj (b := [])).1 (by assumption)) | exact .inr ((binj (b := [])).1 (by assumption)))]), hB⟩
  · refine RG.vl rfl rfl rfl (Ev.move rfl rfl) ?_
    refine RG.vl rfl rfl rfl (Ev.eqS rfl rfl rfl) ?_
    refine RG.vl rfl rfl rfl (Ev.pickF rfl rfl rfl) ?_
    refine RG.done ?_
    refine QW.then_ ?_
    refine CW.condP rfl (fun hc2 => ?_) (fun hc2 => ?_)
    · refine CW.seq ?_
      refine CW.region ?_
      refine RG.vl rfl rfl rfl (Ev.move rfl rfl) ?_
      refine RG.vl rfl rfl rfl (Ev.move rfl rfl) ?_
      refine RG.vl rfl rfl rfl ((Ev.cat rfl rfl rfl (by rw [sbytes, sbytes]; omega)).conv (congrArg Value.string (bx_cat a b))) ?_
      refine RG.vl rfl rfl rfl (Ev.assign rfl rfl) ?_
      refine RG.done ?_
      refine QW.then_ ?_
      refine CW.ret ?_
      refine QW.thenRet ?_
      refine QW.ret1 rfl rfl ?_
      have hB := hB0
      exact ⟨(by unfold joinL; rw [if_pos (by first | exact .inl ((binj (b := [])).1 (by assumption)) | exact .inr ((binj (b := [])).1 (by assumption)))]), hB⟩
    · refine CW.skip ?_
      refine QW.then_ ?_
      refine CW.seq ?_
      refine CW.region ?_
      refine RG.vl rfl rfl rfl (Ev.move rfl rfl) ?_
      refine RG.vl rfl rfl rfl ((Ev.cat rfl rfl rfl (by rw [sbytes]; show _ + 1 ≤ _; omega)).conv (congrArg Value.string (bx_cat a [32]))) ?_
      refine RG.vl rfl rfl rfl (Ev.move rfl rfl) ?_
      refine RG.vl rfl rfl rfl ((Ev.cat rfl rfl rfl (by rw [sbytes, sbytes, List.length_append]; show _ + 1 + _ ≤ _; omega)).conv (congrArg Value.string (bx_cat _ b))) ?_
      refine RG.vl rfl rfl rfl (Ev.assign rfl rfl) ?_
      refine RG.done ?_
      refine QW.then_ ?_
      refine CW.ret ?_
      refine QW.ret1 rfl rfl ?_
      have hB := hB0
      exact ⟨(by unfold joinL; rw [if_neg (by rintro (e | e); exact absurd (binj.2 e) (by assumption); exact absurd (binj.2 e) (by assumption))]), hB⟩

end Go.Proofs.Ytlbcjhbdkeeahaa
