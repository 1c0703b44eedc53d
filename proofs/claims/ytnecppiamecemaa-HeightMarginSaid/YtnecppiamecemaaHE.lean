/- Walks (HE). Written by program. -/
import Derived.Test.YtnecppiamecemaaT
import Derived.Test.YtnecppiamecemaaHQ
namespace Go.Proofs.Ytnecppiamecemaa
open Go.RowKit
set_option maxRecDepth 100000 in
set_option maxHeartbeats 1000000 in
theorem within_ret (n m : Int) (w : World)  :
    Ret Try.prog 36 [.int .i64 n, .int .i64 m] w (fun v w' => v = .bool (decide (0 ≤ n ∧ n ≤ m)) ∧ Ex w w') := by
  have hB0 : Ex w w := Ex.rfl_ _
  refine Ret.of Try.func36 rfl Try.ntmps36 rfl ?_
  refine CW.seq ?_
  refine CW.region ?_
  refine RG.vl rfl rfl rfl (Ev.assign rfl rfl) ?_
  refine RG.done ?_
  refine QW.then_ ?_
  refine CW.seq ?_
  refine CW.region ?_
  refine RG.vl rfl rfl rfl (Ev.move rfl rfl) ?_
  refine RG.vl rfl rfl rfl (Ev.geq rfl rfl rfl) ?_
  refine RG.vl rfl rfl rfl (Ev.move rfl rfl) ?_
  refine RG.split (d := 7) rfl (fun hg1 => ?_) (fun hg1 => ?_)
  · refine RG.vl rfl rfl rfl (Ev.move rfl rfl) ?_
    refine RG.vl rfl rfl rfl (Ev.move rfl rfl) ?_
    refine RG.vl rfl rfl rfl (Ev.leq rfl rfl rfl) ?_
    refine RG.vl rfl rfl rfl (Ev.pickT rfl rfl rfl) ?_
    refine RG.vl rfl rfl rfl (Ev.assign rfl rfl) ?_
    refine RG.done ?_
    refine QW.then_ ?_
    refine CW.ret ?_
    refine QW.ret1 rfl rfl ?_
    have hB := hB0
    refine ⟨congrArg Value.bool ?_, hB⟩; rw [eq_comm]; first | (rw [decide_eq_decide]; omega) | (rw [decide_eq_false_iff_not]; omega)
  · refine RG.pass rfl rfl rfl ?_
    refine RG.pass rfl rfl rfl ?_
    refine RG.pass rfl rfl rfl ?_
    refine RG.vl rfl rfl rfl (Ev.pickF rfl rfl rfl) ?_
    refine RG.vl rfl rfl rfl (Ev.assign rfl rfl) ?_
    refine RG.done ?_
    refine QW.then_ ?_
    refine CW.ret ?_
    refine QW.ret1 rfl rfl ?_
    have hB := hB0
    refine ⟨congrArg Value.bool ?_, hB⟩; rw [eq_comm]; first | (rw [decide_eq_decide]; omega) | (rw [decide_eq_false_iff_not]; omega)

set_option maxRecDepth 100000 in
set_option maxHeartbeats 1000000 in
theorem half_ret (s : Su) (n : Int) (g : Nat) (w : World) (hb : Blk w g 23 s.v.cells.toList) :
    Ret Try.prog 37 [.int .i64 n, .pointer (some ⟨g, 0, none⟩)] w (fun v w' => v = .int .i64 (half s n : Nat) ∧ Ex w w') := by
  have hB0 : Ex w w := Ex.rfl_ _
  refine Ret.of Try.func37 rfl Try.ntmps37 rfl ?_
  refine CW.seq ?_
  refine CW.region ?_
  refine RG.vl rfl rfl rfl (Ev.assign rfl rfl) ?_
  refine RG.done ?_
  refine QW.then_ ?_
  refine CW.seq ?_
  refine CW.block ?_
  refine CW.seq ?_
  refine CW.region ?_
  refine RG.vl rfl rfl rfl (Ev.move rfl rfl) ?_
  refine RG.vl rfl rfl rfl (Ev.fld rfl rfl fld_23_4) ?_
  refine RG.vl rfl rfl rfl (Ev.ldAt rfl rfl Try.underlying3 rfl (hb.cells) (rfl)) ?_
  refine RG.vl rfl rfl rfl (Ev.leq rfl rfl rfl) ?_
  refine RG.vl rfl rfl rfl (Ev.assign rfl rfl) ?_
  refine RG.done ?_
  refine QW.then_ ?_
  refine CW.condP rfl (fun hc1 => ?_) (fun hc1 => ?_)
  · refine CW.seq ?_
    refine CW.region ?_
    refine RG.vl rfl rfl rfl (Ev.assign rfl rfl) ?_
    refine RG.done ?_
    refine QW.then_ ?_
    refine CW.ret ?_
    refine QW.blockR ?_
    refine QW.thenRet ?_
    refine QW.ret1 rfl rfl ?_
    have hB := hB0
    refine ⟨?_, hB⟩; unfold half; rw [if_pos (by omega)]; rfl
  · refine CW.seq ?_
    refine CW.region ?_
    refine RG.vl rfl rfl rfl (Ev.move rfl rfl) ?_
    refine RG.vl rfl rfl rfl (Ev.fld rfl rfl fld_23_5) ?_
    refine RG.vl rfl rfl rfl (Ev.ldAt rfl rfl Try.underlying3 rfl (hb.cells) (rfl)) ?_
    refine RG.vl rfl rfl rfl (Ev.geq rfl rfl rfl) ?_
    refine RG.vl rfl rfl rfl (Ev.assign rfl rfl) ?_
    refine RG.done ?_
    refine QW.then_ ?_
    refine CW.condP rfl (fun hc2 => ?_) (fun hc2 => ?_)
    · refine CW.seq ?_
      refine CW.region ?_
      refine RG.vl rfl rfl rfl (Ev.assign rfl rfl) ?_
      refine RG.done ?_
      refine QW.then_ ?_
      refine CW.ret ?_
      refine QW.blockR ?_
      refine QW.thenRet ?_
      refine QW.ret1 rfl rfl ?_
      have hB := hB0
      refine ⟨?_, hB⟩; unfold half; rw [if_neg (by omega), if_pos (by omega)]; rfl
    · refine CW.skip ?_
      refine QW.blockN ?_
      refine QW.then_ ?_
      refine CW.seq ?_
      refine CW.region ?_
      refine RG.vl rfl rfl rfl (Ev.assign rfl rfl) ?_
      refine RG.done ?_
      refine QW.then_ ?_
      refine CW.ret ?_
      refine QW.ret1 rfl rfl ?_
      have hB := hB0
      refine ⟨?_, hB⟩; unfold half; rw [if_neg (by omega), if_neg (by omega)]; rfl

set_option maxRecDepth 100000 in
set_option maxHeartbeats 1000000 in
theorem halfBy_ret (s : Su) (w : World)  :
    Ret Try.prog 26 [s.v] w (fun v w' => ∃ g, v = .func (.func 37) #[] #[.pointer (some ⟨g, 0, none⟩)] ∧ w.heap.size ≤ g ∧ Blk w' g 23 s.v.cells.toList ∧ Ex w w') := by
  have hB0 : Ex w w := Ex.rfl_ _
  refine Ret.of Try.func26 rfl Try.ntmps26 rfl ?_
  refine CW.seq ?_
  refine CW.region ?_
  refine RG.box rfl rfl rfl rfl rfl (fun g1 w1 eg1 hx1 hb1 => ?_)
  have hE2 := hx1
  refine RG.vl rfl rfl rfl (Ev.assign rfl rfl) ?_
  refine RG.done ?_
  refine QW.then_ ?_
  refine CW.seq ?_
  refine CW.region ?_
  refine RG.vl rfl rfl rfl (Ev.mkFn rfl rfl rfl rfl rfl) ?_
  refine RG.vl rfl rfl rfl (Ev.assign rfl rfl) ?_
  refine RG.done ?_
  refine QW.then_ ?_
  refine CW.ret ?_
  refine QW.ret1 rfl rfl ?_
  have hB := (Ex.tr hB0 hE2)
  exact ⟨_, rfl, Nat.le_of_eq eg1.symm, hb1, hB⟩

set_option maxRecDepth 100000 in
set_option maxHeartbeats 1000000 in
theorem letters_ret  (w : World)  :
    Ret Try.prog 27 [] w (fun v w' => v = .agg tbl.toArray ∧ Ex w w') := by
  have hB0 : Ex w w := Ex.rfl_ _
  refine Ret.of Try.func27 rfl Try.ntmps27 rfl ?_
  refine CW.seq ?_
  refine CW.region ?_
  refine RG.alloc_ rfl rfl rfl rfl inf_73 (fun g1 w1 eg1 hx1 hb1 => ?_)
  have hle2 : w.heap.size ≤ g1 := by have := (Ex.rfl_ w).size; omega
  have hE3 := hx1
  refine RG.done ?_
  refine QW.then_ ?_
  refine CW.seq ?_
  refine CW.region ?_
  refine RG.vl rfl rfl rfl (Ev.buildA (xs := [_, _, _]) rfl rfl rfl rfl Try.underlying72 sz_5 inf_72 rfl rfl) ?_
  refine RG.vl rfl rfl rfl (Ev.buildA (xs := [_, _, _]) rfl rfl rfl rfl Try.underlying72 sz_5 inf_72 rfl rfl) ?_
  refine RG.vl rfl rfl rfl (Ev.buildA (xs := [_, _, _]) rfl rfl rfl rfl Try.underlying72 sz_5 inf_72 rfl rfl) ?_
  refine RG.vl rfl rfl rfl (Ev.buildA (xs := [.tmp 1, .tmp 2, .tmp 3]) rfl rfl rfl rfl Try.underlying73 sz_72 inf_73 rfl rfl) ?_
  refine RG.stAll (g := g1) rfl rfl rfl rfl rfl sz_73 rfl rfl rfl hb1 (fun ws4 hwws4 hbws4 => ?_)
  replace hE3 := Wr.below hE3 hwws4 hle2
  refine RG.done ?_
  refine QW.then_ ?_
  refine CW.ret ?_
  refine QW.retC rfl rfl Try.underlying73 rfl sz_73 rfl hbws4 ?_
  have hB := (Ex.tr hB0 hE3)
  exact ⟨rfl, hB⟩

set_option maxRecDepth 100000 in
set_option maxHeartbeats 1000000 in
theorem example_ret  (w : World)  :
    Ret Try.prog 24 [] w (fun v w' => v = (⟨4, 10, 20, 5, 8, 12⟩ : Su).v ∧ Ex w w') := by
  have hB0 : Ex w w := Ex.rfl_ _
  refine Ret.of Try.func24 rfl Try.ntmps24 rfl ?_
  refine CW.seq ?_
  refine CW.region ?_
  refine RG.alloc_ rfl rfl rfl rfl inf_23 (fun g1 w1 eg1 hx1 hb1 => ?_)
  have hle2 : w.heap.size ≤ g1 := by have := (Ex.rfl_ w).size; omega
  have hE3 := hx1
  refine RG.done ?_
  refine QW.then_ ?_
  refine CW.seq ?_
  refine CW.region ?_
  refine RG.vl rfl rfl rfl (Ev.build1 rfl rfl rfl inf_23 rfl rfl (by kernel_rfl) rfl) ?_
  refine RG.stAll (g := g1) rfl rfl rfl rfl rfl sz_23 rfl rfl rfl hb1 (fun ws4 hwws4 hbws4 => ?_)
  replace hE3 := Wr.below hE3 hwws4 hle2
  refine RG.done ?_
  refine QW.then_ ?_
  refine CW.ret ?_
  refine QW.retC rfl rfl Try.underlying23 rfl sz_23 rfl hbws4 ?_
  have hB := (Ex.tr hB0 hE3)
  exact ⟨rfl, hB⟩

set_option maxRecDepth 100000 in
set_option maxHeartbeats 1000000 in
theorem idxb0_ret (s : ByteArray) (c : Int) (w : World)  :
    Ret Try.prog 38 [.string s, .int .u8 c] w (fun v w' => v = .int .i64 (Lib.indexByte s.data.toList c.toNat.toUInt8) ∧ Ex w w') := by
  have hB0 : Ex w w := Ex.rfl_ _
  refine Ret.of Try.func38 rfl Try.ntmps38 rfl ?_
  refine CW.seq ?_
  refine CW.region ?_
  refine RG.vl rfl rfl rfl (Ev.assign rfl rfl) ?_
  refine RG.done ?_
  refine QW.then_ ?_
  refine CW.seq ?_
  refine CW.region ?_
  refine RG.vl rfl rfl rfl (Ev.move rfl rfl) ?_
  refine RG.vl rfl rfl rfl (Ev.move rfl rfl) ?_
  refine RG.vl rfl rfl rfl (Ev.ext_ rfl rfl rfl (xt_40 _ _ _)) ?_
  refine RG.vl rfl rfl rfl (Ev.assign rfl rfl) ?_
  refine RG.done ?_
  refine QW.then_ ?_
  refine CW.ret ?_
  refine QW.ret1 rfl rfl ?_
  have hB := hB0
  exact ⟨rfl, hB⟩

set_option maxRecDepth 100000 in
set_option maxHeartbeats 1000000 in
theorem idxb1_ret (s : ByteArray) (c : Int) (w : World)  :
    Ret Try.prog 32 [.string s, .int .u8 c] w (fun v w' => v = .int .i64 (Lib.indexByte s.data.toList c.toNat.toUInt8) ∧ Ex w w') := by
  have hB0 : Ex w w := Ex.rfl_ _
  refine Ret.of Try.func32 rfl Try.ntmps32 rfl ?_
  refine CW.seq ?_
  refine CW.region ?_
  refine RG.vl rfl rfl rfl (Ev.assign rfl rfl) ?_
  refine RG.done ?_
  refine QW.then_ ?_
  refine CW.seq ?_
  refine CW.region ?_
  refine RG.vl rfl rfl rfl (Ev.move rfl rfl) ?_
  refine RG.vl rfl rfl rfl (Ev.move rfl rfl) ?_
  refine RG.call rfl rfl rfl rfl rfl rfl rfl en_38 (idxb0_ret _ _ _) ?_
  rintro _ w1 ⟨rfl, hx1⟩
  have hE2 := hx1
  refine RG.vl rfl rfl rfl (Ev.assign rfl rfl) ?_
  refine RG.done ?_
  refine QW.then_ ?_
  refine CW.ret ?_
  refine QW.ret1 rfl rfl ?_
  have hB := (Ex.tr hB0 hE2)
  exact ⟨rfl, hB⟩

end Go.Proofs.Ytnecppiamecemaa
