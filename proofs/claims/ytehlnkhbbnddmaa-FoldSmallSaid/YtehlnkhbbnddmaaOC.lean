/- Walks (OC). Written by program. -/
import Derived.Test.YtehlnkhbbnddmaaT
import Derived.Test.YtehlnkhbbnddmaaOQ
namespace Go.Proofs.Ytehlnkhbbnddmaa
open Go.RowKit
set_option maxRecDepth 100000 in
set_option maxHeartbeats 4000000 in
theorem rows_ret  (w : World)  :
    Ret Try.prog 30 [] w (fun v w' => v = .agg (tab.flatMap Rw.c).toArray ∧ Ex w w') := by
  have hB0 : Ex w w := Ex.rfl_ _
  refine Ret.of Try.func30 rfl Try.ntmps30 rfl ?_
  refine CW.seq ?_
  refine CW.region ?_
  refine RG.alloc_ rfl rfl rfl rfl inf_49 (fun g1 w1 eg1 hx1 hb1 => ?_)
  have hle2 : w.heap.size ≤ g1 := by have := (Ex.rfl_ w).size; omega
  have hE3 := hx1
  refine RG.done ?_
  refine QW.then_ ?_
  refine CW.seq ?_
  refine CW.region ?_
  refine RG.vl rfl rfl rfl (Ev.build1 rfl rfl rfl inf_30 rfl rfl (by kernel_rfl) rfl) ?_
  refine RG.vl rfl rfl rfl (Ev.build1 rfl rfl rfl inf_30 rfl rfl (by kernel_rfl) rfl) ?_
  refine RG.vl rfl rfl rfl (Ev.build1 rfl rfl rfl inf_30 rfl rfl (by kernel_rfl) rfl) ?_
  refine RG.vl rfl rfl rfl (Ev.build1 rfl rfl rfl inf_30 rfl rfl (by kernel_rfl) rfl) ?_
  refine RG.vl rfl rfl rfl (Ev.build1 rfl rfl rfl inf_30 rfl rfl (by kernel_rfl) rfl) ?_
  refine RG.vl rfl rfl rfl (Ev.build1 rfl rfl rfl inf_30 rfl rfl (by kernel_rfl) rfl) ?_
  refine RG.vl rfl rfl rfl (Ev.build1 rfl rfl rfl inf_30 rfl rfl (by kernel_rfl) rfl) ?_
  refine RG.vl rfl rfl rfl (Ev.build1 rfl rfl rfl inf_30 rfl rfl (by kernel_rfl) rfl) ?_
  refine RG.vl rfl rfl rfl (Ev.build1 rfl rfl rfl inf_30 rfl rfl (by kernel_rfl) rfl) ?_
  refine RG.vl rfl rfl rfl (Ev.build1 rfl rfl rfl inf_30 rfl rfl (by kernel_rfl) rfl) ?_
  refine RG.vl rfl rfl rfl (Ev.build1 rfl rfl rfl inf_30 rfl rfl (by kernel_rfl) rfl) ?_
  refine RG.vl rfl rfl rfl (Ev.build1 rfl rfl rfl inf_30 rfl rfl (by kernel_rfl) rfl) ?_
  refine RG.vl rfl rfl rfl (Ev.build1 rfl rfl rfl inf_30 rfl rfl (by kernel_rfl) rfl) ?_
  refine RG.vl rfl rfl rfl (Ev.build1 rfl rfl rfl inf_30 rfl rfl (by kernel_rfl) rfl) ?_
  refine RG.vl rfl rfl rfl (Ev.build1 rfl rfl rfl inf_30 rfl rfl (by kernel_rfl) rfl) ?_
  refine RG.vl rfl rfl rfl (Ev.build1 rfl rfl rfl inf_30 rfl rfl (by kernel_rfl) rfl) ?_
  refine RG.vl rfl rfl rfl (Ev.build1 rfl rfl rfl inf_30 rfl rfl (by kernel_rfl) rfl) ?_
  refine RG.vl rfl rfl rfl (Ev.build1 rfl rfl rfl inf_30 rfl rfl (by kernel_rfl) rfl) ?_
  refine RG.vl rfl rfl rfl (Ev.build1 rfl rfl rfl inf_30 rfl rfl (by kernel_rfl) rfl) ?_
  refine RG.vl rfl rfl rfl (Ev.build1 rfl rfl rfl inf_30 rfl rfl (by kernel_rfl) rfl) ?_
  refine RG.vl rfl rfl rfl (Ev.build1 rfl rfl rfl inf_30 rfl rfl (by kernel_rfl) rfl) ?_
  refine RG.vl rfl rfl rfl (Ev.build1 rfl rfl rfl inf_30 rfl rfl (by kernel_rfl) rfl) ?_
  refine RG.vl rfl rfl rfl (Ev.build1 rfl rfl rfl inf_30 rfl rfl (by kernel_rfl) rfl) ?_
  refine RG.vl rfl rfl rfl (Ev.build1 rfl rfl rfl inf_30 rfl rfl (by kernel_rfl) rfl) ?_
  refine RG.vl rfl rfl rfl (Ev.build1 rfl rfl rfl inf_30 rfl rfl (by kernel_rfl) rfl) ?_
  refine RG.vl rfl rfl rfl (Ev.build1 rfl rfl rfl inf_30 rfl rfl (by kernel_rfl) rfl) ?_
  refine RG.vl rfl rfl rfl (Ev.build1 rfl rfl rfl inf_30 rfl rfl (by kernel_rfl) rfl) ?_
  refine RG.vl rfl rfl rfl (Ev.build1 rfl rfl rfl inf_30 rfl rfl (by kernel_rfl) rfl) ?_
  refine RG.vl rfl rfl rfl (Ev.build1 rfl rfl rfl inf_30 rfl rfl (by kernel_rfl) rfl) ?_
  refine RG.vl rfl rfl rfl (Ev.build1 rfl rfl rfl inf_30 rfl rfl (by kernel_rfl) rfl) ?_
  refine RG.vl rfl rfl rfl (Ev.build1 rfl rfl rfl inf_30 rfl rfl (by kernel_rfl) rfl) ?_
  refine RG.vl rfl rfl rfl (Ev.build1 rfl rfl rfl inf_30 rfl rfl (by kernel_rfl) rfl) ?_
  refine RG.vl rfl rfl rfl (Ev.build1 rfl rfl rfl inf_30 rfl rfl (by kernel_rfl) rfl) ?_
  refine RG.vl rfl rfl rfl (Ev.build1 rfl rfl rfl inf_30 rfl rfl (by kernel_rfl) rfl) ?_
  refine RG.vl rfl rfl rfl (Ev.build1 rfl rfl rfl inf_30 rfl rfl (by kernel_rfl) rfl) ?_
  refine RG.vl rfl rfl rfl (Ev.build1 rfl rfl rfl inf_30 rfl rfl (by kernel_rfl) rfl) ?_
  refine RG.vl rfl rfl rfl (Ev.build1 rfl rfl rfl inf_30 rfl rfl (by kernel_rfl) rfl) ?_
  refine RG.vl rfl rfl rfl (Ev.build1 rfl rfl rfl inf_30 rfl rfl (by kernel_rfl) rfl) ?_
  refine RG.vl rfl rfl rfl (Ev.build1 rfl rfl rfl inf_30 rfl rfl (by kernel_rfl) rfl) ?_
  refine RG.vl rfl rfl rfl (Ev.build1 rfl rfl rfl inf_30 rfl rfl (by kernel_rfl) rfl) ?_
  refine RG.vl rfl rfl rfl (Ev.buildA (len := 40) (xs := [.tmp 1, .tmp 2, .tmp 3, .tmp 4, .tmp 5, .tmp 6, .tmp 7, .tmp 8, .tmp 9, .tmp 10, .tmp 11, .tmp 12, .tmp 13, .tmp 14, .tmp 15, .tmp 16, .tmp 17, .tmp 18, .tmp 19, .tmp 20, .tmp 21, .tmp 22, .tmp 23, .tmp 24, .tmp 25, .tmp 26, .tmp 27, .tmp 28, .tmp 29, .tmp 30, .tmp 31, .tmp 32, .tmp 33, .tmp 34, .tmp 35, .tmp 36, .tmp 37, .tmp 38, .tmp 39, .tmp 40]) rfl rfl rfl rfl Try.underlying49 sz_30 inf_49 rfl rfl) ?_
  refine RG.stAll (g := g1) rfl rfl rfl rfl rfl sz_49 rfl rfl rfl hb1 (fun ws4 hwws4 hbws4 => ?_)
  replace hE3 := Wr.below hE3 hwws4 hle2
  refine RG.done ?_
  refine QW.sub (S' := [(0, _)]) ⟨rfl, trivial⟩ ?_
  refine QW.then_ ?_
  refine CW.ret ?_
  refine QW.retC rfl rfl Try.underlying49 rfl sz_49 rfl hbws4 ?_
  have hB := (Ex.tr hB0 hE3)
  exact ⟨rfl, hB⟩

end Go.Proofs.Ytehlnkhbbnddmaa
