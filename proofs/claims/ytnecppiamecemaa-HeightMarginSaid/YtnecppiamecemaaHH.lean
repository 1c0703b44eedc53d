/- Walks (HH). Written by program. -/
import Derived.Test.YtnecppiamecemaaT
import Derived.Test.YtnecppiamecemaaHR
namespace Go.Proofs.Ytnecppiamecemaa
open Go.RowKit
set_option maxRecDepth 100000 in
set_option maxHeartbeats 1000000 in
theorem awake_ret  (w : World)  :
    Ret Try.prog 9 [] w (fun v w' => v = .bool true ∧ Ex w w') := by
  have hB0 : Ex w w := Ex.rfl_ _
  refine Ret.of Try.func9 rfl Try.ntmps9 rfl ?_
  refine CW.seq ?_
  refine CW.region ?_
  refine RG.vl rfl rfl rfl (Ev.assign rfl rfl) ?_
  refine RG.done ?_
  refine QW.then_ ?_
  refine CW.seq ?_
  refine CW.region ?_
  refine RG.vl rfl rfl rfl (Ev.build1 rfl rfl rfl inf_48 rfl rfl (by kernel_rfl) rfl) ?_
  refine RG.vl rfl rfl rfl (Ev.build1 rfl rfl rfl inf_48 rfl rfl (by kernel_rfl) rfl) ?_
  refine RG.vl rfl rfl rfl (Ev.build1 rfl rfl rfl inf_48 rfl rfl (by kernel_rfl) rfl) ?_
  refine RG.buildD (xs := [.tmp 12, .tmp 13, .tmp 14]) rfl rfl rfl rfl rfl rfl rfl Try.underlying24 inf_48 rfl rfl rfl rfl (fun gL w1 egL hx1 hb1 => ?_)
  have hE2 := hx1
  have hlit3 : RdL w1 3 Br.c (.slice (some ⟨gL, 0, none⟩) 3 3) (exL) := RdL.of_blk Br.c_len (l := exL) hb1 (Nat.le_refl _) (by decide)
  refine RG.vl rfl rfl rfl (Ev.assign rfl rfl) ?_
  refine RG.done ?_
  refine QW.then_ ?_
  refine CW.seq ?_
  refine CW.region ?_
  refine RG.call rfl rfl rfl rfl rfl rfl rfl en_24 ((show Ret Try.prog 24 [] w1 (fun v w' => v = exS.v ∧ Ex w1 w') from example_ret _)) ?_
  rintro _ w4 ⟨rfl, hx4⟩
  replace hE2 := Ex.tr hE2 hx4
  have hE5 := hx4
  refine RG.vl rfl rfl rfl (Ev.move rfl rfl) ?_
  refine RG.call rfl rfl rfl rfl rfl rfl rfl en_10 (read_ret exS _ (exL) _ ((hlit3.ext hE5)) (by decide)) ?_
  rintro _ w6 ⟨rfl, hx6⟩
  replace hE2 := Ex.tr hE2 hx6
  replace hE5 := Ex.tr hE5 hx6
  have hE7 := hx6
  refine RG.vl rfl rfl rfl (Ev.move rfl rfl) ?_
  refine RG.vl rfl rfl rfl (Ev.extract rfl rfl rfl) ?_
  refine RG.vl rfl rfl rfl (Ev.extract rfl rfl rfl) ?_
  refine RG.vl rfl rfl rfl (Ev.assign rfl rfl) ?_
  refine RG.vl rfl rfl rfl (Ev.assign rfl rfl) ?_
  refine RG.done ?_
  refine QW.sub (S' := [(0, _), (1, _), (2, _), (3, _)]) ⟨rfl, rfl, rfl, rfl, trivial⟩ ?_
  refine QW.then_ ?_
  refine CW.seq ?_
  refine CW.region ?_
  refine RG.call rfl rfl rfl rfl rfl rfl rfl en_24 ((show Ret Try.prog 24 [] w6 (fun v w' => v = exS.v ∧ Ex w6 w') from example_ret _)) ?_
  rintro _ w8 ⟨rfl, hx8⟩
  replace hE2 := Ex.tr hE2 hx8
  replace hE5 := Ex.tr hE5 hx8
  replace hE7 := Ex.tr hE7 hx8
  have hE9 := hx8
  refine RG.vl rfl rfl rfl (Ev.move rfl rfl) ?_
  refine RG.call rfl rfl rfl rfl rfl rfl rfl en_11 (margin_ret exS _ (exL) _ ((hlit3.ext hE5)) (by decide)) ?_
  rintro _ w10 ⟨rfl, hx10⟩
  replace hE2 := Ex.tr hE2 hx10
  replace hE5 := Ex.tr hE5 hx10
  replace hE7 := Ex.tr hE7 hx10
  replace hE9 := Ex.tr hE9 hx10
  have hE11 := hx10
  refine RG.vl rfl rfl rfl (Ev.move rfl rfl) ?_
  refine RG.vl rfl rfl rfl (Ev.extract rfl rfl rfl) ?_
  refine RG.vl rfl rfl rfl (Ev.extract rfl rfl rfl) ?_
  refine RG.vl rfl rfl rfl (Ev.assign rfl rfl) ?_
  refine RG.vl rfl rfl rfl (Ev.assign rfl rfl) ?_
  refine RG.done ?_
  refine QW.then_ ?_
  refine CW.seq ?_
  refine CW.region ?_
  refine RG.call rfl rfl rfl rfl rfl rfl rfl en_24 ((show Ret Try.prog 24 [] w10 (fun v w' => v = exS.v ∧ Ex w10 w') from example_ret _)) ?_
  rintro _ w12 ⟨rfl, hx12⟩
  replace hE2 := Ex.tr hE2 hx12
  replace hE5 := Ex.tr hE5 hx12
  replace hE7 := Ex.tr hE7 hx12
  replace hE9 := Ex.tr hE9 hx12
  replace hE11 := Ex.tr hE11 hx12
  have hE13 := hx12
  refine RG.vl rfl rfl rfl (Ev.move rfl rfl) ?_
  refine RG.vl rfl rfl rfl (Ev.build1 rfl rfl rfl inf_48 rfl rfl (by kernel_rfl) rfl) ?_
  refine RG.buildD (xs := [.tmp 31]) rfl rfl rfl rfl rfl rfl rfl Try.underlying24 inf_48 rfl rfl rfl rfl (fun g14 w14 eg14 hx14 hb14 => ?_)
  replace hE2 := Ex.tr hE2 hx14
  replace hE5 := Ex.tr hE5 hx14
  replace hE7 := Ex.tr hE7 hx14
  replace hE9 := Ex.tr hE9 hx14
  replace hE11 := Ex.tr hE11 hx14
  replace hE13 := Ex.tr hE13 hx14
  have hlit15 : RdL w14 3 Br.c (.slice (some ⟨g14, 0, none⟩) 1 1) ([⟨36, 0, 0⟩]) := RdL.of_blk Br.c_len (l := [⟨36, 0, 0⟩]) hb14 (Nat.le_refl _) (by decide)
  refine RG.appF (enc := Br.c) (olds := (exL).flatMap Br.c) (us := [⟨36, 0, 0⟩]) rfl rfl rfl rfl rfl rfl rfl Try.underlying24 inf_48 rfl Br.c_len rfl (hb1.ext hE5).cells hlit15 (by decide) (by decide) (by decide) (fun v16 wf17 hx18 hown19 => ?_)
  have hr20 : RdL wf17 3 Br.c v16 (exL ++ [⟨36, 0, 0⟩]) := RdL.of_own Br.c_len hown19
  replace hE2 := Ex.tr hE2 hx18
  replace hE5 := Ex.tr hE5 hx18
  replace hE7 := Ex.tr hE7 hx18
  replace hE9 := Ex.tr hE9 hx18
  replace hE11 := Ex.tr hE11 hx18
  replace hE13 := Ex.tr hE13 hx18
  have hE21 := hx18
  refine RG.call rfl rfl rfl rfl rfl rfl rfl en_10 (read_ret exS _ (exL ++ [⟨36, 0, 0⟩]) _ (hr20) (by decide)) ?_
  rintro _ w22 ⟨rfl, hx22⟩
  replace hE2 := Ex.tr hE2 hx22
  replace hE5 := Ex.tr hE5 hx22
  replace hE7 := Ex.tr hE7 hx22
  replace hE9 := Ex.tr hE9 hx22
  replace hE11 := Ex.tr hE11 hx22
  replace hE13 := Ex.tr hE13 hx22
  replace hE21 := Ex.tr hE21 hx22
  have hE23 := hx22
  refine RG.vl rfl rfl rfl (Ev.move rfl rfl) ?_
  refine RG.vl rfl rfl rfl (Ev.extract rfl rfl rfl) ?_
  refine RG.vl rfl rfl rfl (Ev.extract rfl rfl rfl) ?_
  refine RG.vl rfl rfl rfl (Ev.assign rfl rfl) ?_
  refine RG.vl rfl rfl rfl (Ev.assign rfl rfl) ?_
  refine RG.done ?_
  refine QW.sub (S' := [(0, _), (1, _), (2, _), (3, _), (4, _), (5, _), (7, _)]) ⟨rfl, rfl, rfl, rfl, rfl, rfl, rfl, trivial⟩ ?_
  refine QW.then_ ?_
  refine CW.seq ?_
  refine CW.region ?_
  refine RG.call rfl rfl rfl rfl rfl rfl rfl en_24 ((show Ret Try.prog 24 [] w22 (fun v w' => v = exS.v ∧ Ex w22 w') from example_ret _)) ?_
  rintro _ w24 ⟨rfl, hx24⟩
  replace hE2 := Ex.tr hE2 hx24
  replace hE5 := Ex.tr hE5 hx24
  replace hE7 := Ex.tr hE7 hx24
  replace hE9 := Ex.tr hE9 hx24
  replace hE11 := Ex.tr hE11 hx24
  replace hE13 := Ex.tr hE13 hx24
  replace hE21 := Ex.tr hE21 hx24
  replace hE23 := Ex.tr hE23 hx24
  have hE25 := hx24
  refine RG.vl rfl rfl rfl (Ev.move rfl rfl) ?_
  refine RG.vl rfl rfl rfl (Ev.build1 rfl rfl rfl inf_48 rfl rfl (by kernel_rfl) rfl) ?_
  refine RG.buildD (xs := [.tmp 40]) rfl rfl rfl rfl rfl rfl rfl Try.underlying24 inf_48 rfl rfl rfl rfl (fun g26 w26 eg26 hx26 hb26 => ?_)
  replace hE2 := Ex.tr hE2 hx26
  replace hE5 := Ex.tr hE5 hx26
  replace hE7 := Ex.tr hE7 hx26
  replace hE9 := Ex.tr hE9 hx26
  replace hE11 := Ex.tr hE11 hx26
  replace hE13 := Ex.tr hE13 hx26
  replace hE21 := Ex.tr hE21 hx26
  replace hE23 := Ex.tr hE23 hx26
  replace hE25 := Ex.tr hE25 hx26
  have hlit27 : RdL w26 3 Br.c (.slice (some ⟨g26, 0, none⟩) 1 1) ([⟨30, 0, 0⟩]) := RdL.of_blk Br.c_len (l := [⟨30, 0, 0⟩]) hb26 (Nat.le_refl _) (by decide)
  refine RG.appF (enc := Br.c) (olds := (exL).flatMap Br.c) (us := [⟨30, 0, 0⟩]) rfl rfl rfl rfl rfl rfl rfl Try.underlying24 inf_48 rfl Br.c_len rfl (hb1.ext hE5).cells hlit27 (by decide) (by decide) (by decide) (fun v28 wf29 hx30 hown31 => ?_)
  have hr32 : RdL wf29 3 Br.c v28 (exL ++ [⟨30, 0, 0⟩]) := RdL.of_own Br.c_len hown31
  replace hE2 := Ex.tr hE2 hx30
  replace hE5 := Ex.tr hE5 hx30
  replace hE7 := Ex.tr hE7 hx30
  replace hE9 := Ex.tr hE9 hx30
  replace hE11 := Ex.tr hE11 hx30
  replace hE13 := Ex.tr hE13 hx30
  replace hE21 := Ex.tr hE21 hx30
  replace hE23 := Ex.tr hE23 hx30
  replace hE25 := Ex.tr hE25 hx30
  have hE33 := hx30
  refine RG.call rfl rfl rfl rfl rfl rfl rfl en_10 (read_ret exS _ (exL ++ [⟨30, 0, 0⟩]) _ (hr32) (by decide)) ?_
  rintro _ w34 ⟨rfl, hx34⟩
  replace hE2 := Ex.tr hE2 hx34
  replace hE5 := Ex.tr hE5 hx34
  replace hE7 := Ex.tr hE7 hx34
  replace hE9 := Ex.tr hE9 hx34
  replace hE11 := Ex.tr hE11 hx34
  replace hE13 := Ex.tr hE13 hx34
  replace hE21 := Ex.tr hE21 hx34
  replace hE23 := Ex.tr hE23 hx34
  replace hE25 := Ex.tr hE25 hx34
  replace hE33 := Ex.tr hE33 hx34
  have hE35 := hx34
  refine RG.vl rfl rfl rfl (Ev.move rfl rfl) ?_
  refine RG.vl rfl rfl rfl (Ev.extract rfl rfl rfl) ?_
  refine RG.vl rfl rfl rfl (Ev.extract rfl rfl rfl) ?_
  refine RG.vl rfl rfl rfl (Ev.assign rfl rfl) ?_
  refine RG.vl rfl rfl rfl (Ev.assign rfl rfl) ?_
  refine RG.done ?_
  refine QW.then_ ?_
  refine CW.seq ?_
  refine CW.region ?_
  refine RG.call rfl rfl rfl rfl rfl rfl rfl en_24 ((show Ret Try.prog 24 [] w34 (fun v w' => v = exS.v ∧ Ex w34 w') from example_ret _)) ?_
  rintro _ w36 ⟨rfl, hx36⟩
  replace hE2 := Ex.tr hE2 hx36
  replace hE5 := Ex.tr hE5 hx36
  replace hE7 := Ex.tr hE7 hx36
  replace hE9 := Ex.tr hE9 hx36
  replace hE11 := Ex.tr hE11 hx36
  replace hE13 := Ex.tr hE13 hx36
  replace hE21 := Ex.tr hE21 hx36
  replace hE23 := Ex.tr hE23 hx36
  replace hE25 := Ex.tr hE25 hx36
  replace hE33 := Ex.tr hE33 hx36
  replace hE35 := Ex.tr hE35 hx36
  have hE37 := hx36
  refine RG.call rfl rfl rfl rfl rfl rfl rfl en_18 (draw_ret exS exT _ (by decide)) ?_
  rintro _ w38 ⟨dr38, rfl, hdr38, hx38⟩
  replace hE2 := Ex.tr hE2 hx38
  replace hE5 := Ex.tr hE5 hx38
  replace hE7 := Ex.tr hE7 hx38
  replace hE9 := Ex.tr hE9 hx38
  replace hE11 := Ex.tr hE11 hx38
  replace hE13 := Ex.tr hE13 hx38
  replace hE21 := Ex.tr hE21 hx38
  replace hE23 := Ex.tr hE23 hx38
  replace hE25 := Ex.tr hE25 hx38
  replace hE33 := Ex.tr hE33 hx38
  replace hE35 := Ex.tr hE35 hx38
  replace hE37 := Ex.tr hE37 hx38
  have hE39 := hx38
  refine RG.vl rfl rfl rfl (Ev.move rfl rfl) ?_
  refine RG.vl rfl rfl rfl (Ev.extract rfl rfl rfl) ?_
  refine RG.vl rfl rfl rfl (Ev.extract rfl rfl rfl) ?_
  refine RG.vl rfl rfl rfl (Ev.assign rfl rfl) ?_
  refine RG.vl rfl rfl rfl (Ev.assign rfl rfl) ?_
  refine RG.done ?_
  refine QW.sub (S' := [(0, _), (2, _), (3, _), (4, _), (5, _), (7, _), (9, _), (10, _), (11, _)]) ⟨rfl, rfl, rfl, rfl, rfl, rfl, rfl, rfl, rfl, trivial⟩ ?_
  refine QW.then_ ?_
  refine CW.seq ?_
  have e0 := aw0
  have e2 := aw2
  have e3 := aw3
  have e4 := aw4
  have e5 := aw5
  refine CW.region ?_
  refine RG.vl rfl rfl rfl (Ev.move rfl rfl) ?_
  refine RG.vl rfl rfl rfl (Ev.move rfl rfl) ?_
  refine RG.vl rfl rfl rfl (Ev.addI rfl rfl rfl (by omega)) ?_
  refine RG.vl rfl rfl rfl (Ev.move rfl rfl) ?_
  refine RG.vl rfl rfl rfl (Ev.addI rfl rfl rfl (by omega)) ?_
  refine RG.vl rfl rfl rfl (Ev.isT (Ev.eqI rfl rfl rfl) (by omega)) ?_
  refine RG.vl rfl rfl rfl (Ev.move rfl rfl) ?_
  refine RG.vl rfl rfl rfl (Ev.move rfl rfl) ?_
  refine RG.vl rfl rfl rfl (Ev.isT (Ev.eqS rfl rfl rfl) (aw1)) ?_
  refine RG.vl rfl rfl rfl (Ev.pickT rfl rfl rfl) ?_
  refine RG.vl rfl rfl rfl (Ev.move rfl rfl) ?_
  refine RG.vl rfl rfl rfl (Ev.move rfl rfl) ?_
  refine RG.vl rfl rfl rfl (Ev.isT (Ev.eqI rfl rfl rfl) (by omega)) ?_
  refine RG.vl rfl rfl rfl (Ev.pickT rfl rfl rfl) ?_
  refine RG.vl rfl rfl rfl (Ev.move rfl rfl) ?_
  refine RG.vl rfl rfl rfl (Ev.move rfl rfl) ?_
  refine RG.vl rfl rfl rfl (Ev.isT (Ev.eqI rfl rfl rfl) (by omega)) ?_
  refine RG.vl rfl rfl rfl (Ev.pickT rfl rfl rfl) ?_
  refine RG.vl rfl rfl rfl (Ev.move rfl rfl) ?_
  refine RG.vl rfl rfl rfl (Ev.move rfl rfl) ?_
  refine RG.vl rfl rfl rfl (Ev.move rfl rfl) ?_
  refine RG.vl rfl rfl rfl (Ev.isT (Ev.eqI rfl rfl rfl) (by omega)) ?_
  refine RG.vl rfl rfl rfl (Ev.pickT rfl rfl rfl) ?_
  refine RG.vl rfl rfl rfl (Ev.move rfl rfl) ?_
  refine RG.vl rfl rfl rfl (Ev.move rfl rfl) ?_
  refine RG.vl rfl rfl rfl (Ev.build1 rfl rfl rfl inf_48 rfl rfl (by kernel_rfl) rfl) ?_
  refine RG.vl rfl rfl rfl (Ev.build1 rfl rfl rfl inf_48 rfl rfl (by kernel_rfl) rfl) ?_
  refine RG.vl rfl rfl rfl (Ev.build1 rfl rfl rfl inf_48 rfl rfl (by kernel_rfl) rfl) ?_
  refine RG.buildD (xs := [.tmp 76, .tmp 77, .tmp 78]) rfl rfl rfl rfl rfl rfl rfl Try.underlying24 inf_48 rfl rfl rfl rfl (fun g40 w40 eg40 hx40 hb40 => ?_)
  replace hE2 := Ex.tr hE2 hx40
  replace hE5 := Ex.tr hE5 hx40
  replace hE7 := Ex.tr hE7 hx40
  replace hE9 := Ex.tr hE9 hx40
  replace hE11 := Ex.tr hE11 hx40
  replace hE13 := Ex.tr hE13 hx40
  replace hE21 := Ex.tr hE21 hx40
  replace hE23 := Ex.tr hE23 hx40
  replace hE25 := Ex.tr hE25 hx40
  replace hE33 := Ex.tr hE33 hx40
  replace hE35 := Ex.tr hE35 hx40
  replace hE37 := Ex.tr hE37 hx40
  replace hE39 := Ex.tr hE39 hx40
  have hE41 := hx40
  have hlit42 : RdL w40 3 Br.c (.slice (some ⟨g40, 0, none⟩) 3 3) ([⟨10, 12, 8⟩, ⟨30, 8, 8⟩, ⟨70, 12, 12⟩]) := RdL.of_blk Br.c_len (l := [⟨10, 12, 8⟩, ⟨30, 8, 8⟩, ⟨70, 12, 12⟩]) hb40 (Nat.le_refl _) (by decide)
  refine RG.call rfl rfl rfl rfl rfl rfl rfl en_17 (same_ret _ _ (drawOf exS exT.data.toList) [⟨10, 12, 8⟩, ⟨30, 8, 8⟩, ⟨70, 12, 12⟩] _ ((hdr38.ext hE41)) (hlit42) (by decide) (by decide)) ?_
  rintro _ w43 ⟨rfl, hx43⟩
  replace hE2 := Ex.tr hE2 hx43
  replace hE5 := Ex.tr hE5 hx43
  replace hE7 := Ex.tr hE7 hx43
  replace hE9 := Ex.tr hE9 hx43
  replace hE11 := Ex.tr hE11 hx43
  replace hE13 := Ex.tr hE13 hx43
  replace hE21 := Ex.tr hE21 hx43
  replace hE23 := Ex.tr hE23 hx43
  replace hE25 := Ex.tr hE25 hx43
  replace hE33 := Ex.tr hE33 hx43
  replace hE35 := Ex.tr hE35 hx43
  replace hE37 := Ex.tr hE37 hx43
  replace hE39 := Ex.tr hE39 hx43
  replace hE41 := Ex.tr hE41 hx43
  have hE44 := hx43
  refine RG.vl rfl rfl rfl (Ev.pickT rfl rfl rfl) ?_
  refine RG.vl rfl rfl rfl (Ev.assign rfl rfl) ?_
  refine RG.done ?_
  refine QW.sub (S' := [(0, _)]) ⟨rfl, trivial⟩ ?_
  refine QW.then_ ?_
  refine CW.ret ?_
  refine QW.ret1 rfl rfl ?_
  have hB := (Ex.tr hB0 hE2)
  exact ⟨congrArg Value.bool (decide_eq_true (by rw [aw6])), hB⟩

end Go.Proofs.Ytnecppiamecemaa
