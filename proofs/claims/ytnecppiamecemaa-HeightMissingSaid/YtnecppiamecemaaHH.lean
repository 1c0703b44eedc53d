/- Walks (HH). Written by program. -/
import Derived.Test.YtnecppiamecemaaT
import Derived.Test.YtnecppiamecemaaHR
namespace Go.Proofs.Ytnecppiamecemaa
open Go.RowKit
set_option maxRecDepth 100000 in
set_option maxHeartbeats 1000000 in
theorem awake_ret  (w : World)  :
    Ret Try.prog 9 [] w (fun v w' => v = .bool true ∧ Ex w w') := by
  have hB0 : Ex w w := Ex.rfl_ _
  refine Ret.of Try.func9 rfl Try.ntmps9 rfl ?_
  refine CW.seq ?_
  refine CW.region ?_
  refine RG.vl rfl rfl rfl (Ev.assign rfl rfl) ?_
  refine RG.done ?_
  refine QW.then_ ?_
  refine CW.seq ?_
  refine CW.region ?_
  refine RG.vl rfl rfl rfl (Ev.build1 rfl rfl rfl inf_48 rfl rfl (by kernel_rfl) rfl) ?_
  refine RG.vl rfl rfl rfl (Ev.build1 rfl rfl rfl inf_48 rfl rfl (by kernel_rfl) rfl) ?_
  refine RG.vl rfl rfl rfl (Ev.build1 rfl rfl rfl inf_48 rfl rfl (by kernel_rfl) rfl) ?_
  refine RG.buildD (xs := [.tmp 12, .tmp 13, .tmp 14]) rfl rfl rfl rfl rfl rfl rfl Try.underlying24 inf_48 rfl rfl rfl rfl (fun gL w1 egL hx1 hb1 => ?_)
  have hE2 := hx1
  have hlit3 : RdL w1 3 Br.c (.slice (some ⟨gL, 0, none⟩) 3 3) (exL) := RdL.of_blk Br.c_len (l := exL) hb1 (Nat.le_refl _) (by decide)
  refine RG.vl rfl rfl rfl (Ev.assign rfl rfl) ?_
  refine RG.done ?_
  refine QW.then_ ?_
  refine CW.seq ?_
  refine CW.region ?_
  refine RG.call rfl rfl rfl rfl rfl rfl rfl en_24 ((show Ret Try.prog 24 [] w1 (fun v w' => v = exS.v ∧ Ex w1 w') from example_ret _)) ?_
  rintro _ w4 ⟨rfl, hx4⟩
  replace hE2 := Ex.tr hE2 hx4
  have hE5 := hx4
  refine RG.vl rfl rfl rfl (Ev.move rfl rfl) ?_
  refine RG.call rfl rfl rfl rfl rfl rfl rfl en_10 (read_ret exS _ (exL) _ ((hlit3.ext hE5)) (by decide)) ?_
  rintro _ w6 ⟨rfl, hx6⟩
  replace hE2 := Ex.tr hE2 hx6
  replace hE5 := Ex.tr hE5 hx6
  refine RG.vl rfl rfl rfl (Ev.move rfl rfl) ?_
  refine RG.vl rfl rfl rfl (Ev.extract rfl rfl rfl) ?_
  refine RG.vl rfl rfl rfl (Ev.extract rfl rfl rfl) ?_
  refine RG.vl rfl rfl rfl (Ev.assign rfl rfl) ?_
  refine RG.vl rfl rfl rfl (Ev.assign rfl rfl) ?_
  refine RG.done ?_
  refine QW.sub (S' := [(0, _), (1, _), (2, _), (3, _)]) ⟨rfl, rfl, rfl, rfl, trivial⟩ ?_
  refine QW.then_ ?_
  refine CW.seq ?_
  refine CW.region ?_
  refine RG.call rfl rfl rfl rfl rfl rfl rfl en_24 ((show Ret Try.prog 24 [] w6 (fun v w' => v = exS.v ∧ Ex w6 w') from example_ret _)) ?_
  rintro _ w7 ⟨rfl, hx7⟩
  replace hE2 := Ex.tr hE2 hx7
  replace hE5 := Ex.tr hE5 hx7
  refine RG.vl rfl rfl rfl (Ev.move rfl rfl) ?_
  refine RG.call rfl rfl rfl rfl rfl rfl rfl en_11 (margin_ret exS _ (exL) _ ((hlit3.ext hE5)) (by decide)) ?_
  rintro _ w8 ⟨rfl, hx8⟩
  replace hE2 := Ex.tr hE2 hx8
  replace hE5 := Ex.tr hE5 hx8
  refine RG.vl rfl rfl rfl (Ev.move rfl rfl) ?_
  refine RG.vl rfl rfl rfl (Ev.extract rfl rfl rfl) ?_
  refine RG.vl rfl rfl rfl (Ev.extract rfl rfl rfl) ?_
  refine RG.vl rfl rfl rfl (Ev.assign rfl rfl) ?_
  refine RG.vl rfl rfl rfl (Ev.assign rfl rfl) ?_
  refine RG.done ?_
  refine QW.then_ ?_
  refine CW.seq ?_
  refine CW.region ?_
  refine RG.call rfl rfl rfl rfl rfl rfl rfl en_24 ((show Ret Try.prog 24 [] w8 (fun v w' => v = exS.v ∧ Ex w8 w') from example_ret _)) ?_
  rintro _ w9 ⟨rfl, hx9⟩
  replace hE2 := Ex.tr hE2 hx9
  replace hE5 := Ex.tr hE5 hx9
  refine RG.vl rfl rfl rfl (Ev.move rfl rfl) ?_
  refine RG.vl rfl rfl rfl (Ev.build1 rfl rfl rfl inf_48 rfl rfl (by kernel_rfl) rfl) ?_
  refine RG.buildD (xs := [.tmp 31]) rfl rfl rfl rfl rfl rfl rfl Try.underlying24 inf_48 rfl rfl rfl rfl (fun g10 w10 eg10 hx10 hb10 => ?_)
  replace hE2 := Ex.tr hE2 hx10
  replace hE5 := Ex.tr hE5 hx10
  have hlit11 : RdL w10 3 Br.c (.slice (some ⟨g10, 0, none⟩) 1 1) ([⟨36, 0, 0⟩]) := RdL.of_blk Br.c_len (l := [⟨36, 0, 0⟩]) hb10 (Nat.le_refl _) (by decide)
  refine RG.appF (enc := Br.c) (olds := (exL).flatMap Br.c) (us := [⟨36, 0, 0⟩]) rfl rfl rfl rfl rfl rfl rfl Try.underlying24 inf_48 rfl Br.c_len rfl (hb1.ext hE5).cells hlit11 (by decide) (by decide) (by decide) (fun v12 wf13 hx14 hown15 => ?_)
  have hr16 : RdL wf13 3 Br.c v12 (exL ++ [⟨36, 0, 0⟩]) := RdL.of_own Br.c_len hown15
  replace hE2 := Ex.tr hE2 hx14
  replace hE5 := Ex.tr hE5 hx14
  have hE17 := hx14
  refine RG.call rfl rfl rfl rfl rfl rfl rfl en_10 (read_ret exS _ (exL ++ [⟨36, 0, 0⟩]) _ (hr16) (by decide)) ?_
  rintro _ w18 ⟨rfl, hx18⟩
  replace hE2 := Ex.tr hE2 hx18
  replace hE5 := Ex.tr hE5 hx18
  replace hE17 := Ex.tr hE17 hx18
  have hE19 := hx18
  refine RG.vl rfl rfl rfl (Ev.move rfl rfl) ?_
  refine RG.vl rfl rfl rfl (Ev.extract rfl rfl rfl) ?_
  refine RG.vl rfl rfl rfl (Ev.extract rfl rfl rfl) ?_
  refine RG.vl rfl rfl rfl (Ev.assign rfl rfl) ?_
  refine RG.vl rfl rfl rfl (Ev.assign rfl rfl) ?_
  refine RG.done ?_
  refine QW.sub (S' := [(0, _), (1, _), (2, _), (3, _), (4, _), (5, _), (7, _)]) ⟨rfl, rfl, rfl, rfl, rfl, rfl, rfl, trivial⟩ ?_
  refine QW.then_ ?_
  refine CW.seq ?_
  refine CW.region ?_
  refine RG.call rfl rfl rfl rfl rfl rfl rfl en_24 ((show Ret Try.prog 24 [] w18 (fun v w' => v = exS.v ∧ Ex w18 w') from example_ret _)) ?_
  rintro _ w20 ⟨rfl, hx20⟩
  replace hE2 := Ex.tr hE2 hx20
  replace hE5 := Ex.tr hE5 hx20
  replace hE17 := Ex.tr hE17 hx20
  replace hE19 := Ex.tr hE19 hx20
  refine RG.vl rfl rfl rfl (Ev.move rfl rfl) ?_
  refine RG.vl rfl rfl rfl (Ev.build1 rfl rfl rfl inf_48 rfl rfl (by kernel_rfl) rfl) ?_
  refine RG.buildD (xs := [.tmp 40]) rfl rfl rfl rfl rfl rfl rfl Try.underlying24 inf_48 rfl rfl rfl rfl (fun g21 w21 eg21 hx21 hb21 => ?_)
  replace hE2 := Ex.tr hE2 hx21
  replace hE5 := Ex.tr hE5 hx21
  replace hE17 := Ex.tr hE17 hx21
  replace hE19 := Ex.tr hE19 hx21
  have hlit22 : RdL w21 3 Br.c (.slice (some ⟨g21, 0, none⟩) 1 1) ([⟨30, 0, 0⟩]) := RdL.of_blk Br.c_len (l := [⟨30, 0, 0⟩]) hb21 (Nat.le_refl _) (by decide)
  refine RG.appF (enc := Br.c) (olds := (exL).flatMap Br.c) (us := [⟨30, 0, 0⟩]) rfl rfl rfl rfl rfl rfl rfl Try.underlying24 inf_48 rfl Br.c_len rfl (hb1.ext hE5).cells hlit22 (by decide) (by decide) (by decide) (fun v23 wf24 hx25 hown26 => ?_)
  have hr27 : RdL wf24 3 Br.c v23 (exL ++ [⟨30, 0, 0⟩]) := RdL.of_own Br.c_len hown26
  replace hE2 := Ex.tr hE2 hx25
  replace hE5 := Ex.tr hE5 hx25
  replace hE17 := Ex.tr hE17 hx25
  replace hE19 := Ex.tr hE19 hx25
  have hE28 := hx25
  refine RG.call rfl rfl rfl rfl rfl rfl rfl en_10 (read_ret exS _ (exL ++ [⟨30, 0, 0⟩]) _ (hr27) (by decide)) ?_
  rintro _ w29 ⟨rfl, hx29⟩
  replace hE2 := Ex.tr hE2 hx29
  replace hE5 := Ex.tr hE5 hx29
  replace hE17 := Ex.tr hE17 hx29
  replace hE19 := Ex.tr hE19 hx29
  replace hE28 := Ex.tr hE28 hx29
  have hE30 := hx29
  refine RG.vl rfl rfl rfl (Ev.move rfl rfl) ?_
  refine RG.vl rfl rfl rfl (Ev.extract rfl rfl rfl) ?_
  refine RG.vl rfl rfl rfl (Ev.extract rfl rfl rfl) ?_
  refine RG.vl rfl rfl rfl (Ev.assign rfl rfl) ?_
  refine RG.vl rfl rfl rfl (Ev.assign rfl rfl) ?_
  refine RG.done ?_
  refine QW.then_ ?_
  refine CW.seq ?_
  refine CW.region ?_
  refine RG.call rfl rfl rfl rfl rfl rfl rfl en_24 ((show Ret Try.prog 24 [] w29 (fun v w' => v = exS.v ∧ Ex w29 w') from example_ret _)) ?_
  rintro _ w31 ⟨rfl, hx31⟩
  replace hE2 := Ex.tr hE2 hx31
  replace hE5 := Ex.tr hE5 hx31
  replace hE17 := Ex.tr hE17 hx31
  replace hE19 := Ex.tr hE19 hx31
  replace hE28 := Ex.tr hE28 hx31
  replace hE30 := Ex.tr hE30 hx31
  refine RG.call rfl rfl rfl rfl rfl rfl rfl en_18 (draw_ret exS exT _ (by decide)) ?_
  rintro _ w32 ⟨dr32, rfl, hdr32, hx32⟩
  replace hE2 := Ex.tr hE2 hx32
  replace hE5 := Ex.tr hE5 hx32
  replace hE17 := Ex.tr hE17 hx32
  replace hE19 := Ex.tr hE19 hx32
  replace hE28 := Ex.tr hE28 hx32
  replace hE30 := Ex.tr hE30 hx32
  refine RG.vl rfl rfl rfl (Ev.move rfl rfl) ?_
  refine RG.vl rfl rfl rfl (Ev.extract rfl rfl rfl) ?_
  refine RG.vl rfl rfl rfl (Ev.extract rfl rfl rfl) ?_
  refine RG.vl rfl rfl rfl (Ev.assign rfl rfl) ?_
  refine RG.vl rfl rfl rfl (Ev.assign rfl rfl) ?_
  refine RG.done ?_
  refine QW.sub (S' := [(0, _), (2, _), (3, _), (4, _), (5, _), (7, _), (9, _), (10, _), (11, _)]) ⟨rfl, rfl, rfl, rfl, rfl, rfl, rfl, rfl, rfl, trivial⟩ ?_
  refine QW.then_ ?_
  refine CW.seq ?_
  have e0 := aw0
  have e2 := aw2
  have e3 := aw3
  have e4 := aw4
  have e5 := aw5
  refine CW.region ?_
  refine RG.vl rfl rfl rfl (Ev.move rfl rfl) ?_
  refine RG.vl rfl rfl rfl (Ev.move rfl rfl) ?_
  refine RG.vl rfl rfl rfl (Ev.addI rfl rfl rfl (by omega)) ?_
  refine RG.vl rfl rfl rfl (Ev.move rfl rfl) ?_
  refine RG.vl rfl rfl rfl (Ev.addI rfl rfl rfl (by omega)) ?_
  refine RG.vl rfl rfl rfl (Ev.isT (Ev.eqI rfl rfl rfl) (by omega)) ?_
  refine RG.vl rfl rfl rfl (Ev.move rfl rfl) ?_
  refine RG.vl rfl rfl rfl (Ev.move rfl rfl) ?_
  refine RG.vl rfl rfl rfl (Ev.isT (Ev.eqS rfl rfl rfl) (aw1)) ?_
  refine RG.vl rfl rfl rfl (Ev.pickT rfl rfl rfl) ?_
  refine RG.vl rfl rfl rfl (Ev.move rfl rfl) ?_
  refine RG.vl rfl rfl rfl (Ev.move rfl rfl) ?_
  refine RG.vl rfl rfl rfl (Ev.isT (Ev.eqI rfl rfl rfl) (by omega)) ?_
  refine RG.vl rfl rfl rfl (Ev.pickT rfl rfl rfl) ?_
  refine RG.vl rfl rfl rfl (Ev.move rfl rfl) ?_
  refine RG.vl rfl rfl rfl (Ev.move rfl rfl) ?_
  refine RG.vl rfl rfl rfl (Ev.isT (Ev.eqI rfl rfl rfl) (by omega)) ?_
  refine RG.vl rfl rfl rfl (Ev.pickT rfl rfl rfl) ?_
  refine RG.vl rfl rfl rfl (Ev.move rfl rfl) ?_
  refine RG.vl rfl rfl rfl (Ev.move rfl rfl) ?_
  refine RG.vl rfl rfl rfl (Ev.move rfl rfl) ?_
  refine RG.vl rfl rfl rfl (Ev.isT (Ev.eqI rfl rfl rfl) (by omega)) ?_
  refine RG.vl rfl rfl rfl (Ev.pickT rfl rfl rfl) ?_
  refine RG.vl rfl rfl rfl (Ev.move rfl rfl) ?_
  refine RG.vl rfl rfl rfl (Ev.move rfl rfl) ?_
  refine RG.vl rfl rfl rfl (Ev.build1 rfl rfl rfl inf_48 rfl rfl (by kernel_rfl) rfl) ?_
  refine RG.vl rfl rfl rfl (Ev.build1 rfl rfl rfl inf_48 rfl rfl (by kernel_rfl) rfl) ?_
  refine RG.vl rfl rfl rfl (Ev.build1 rfl rfl rfl inf_48 rfl rfl (by kernel_rfl) rfl) ?_
  refine RG.buildD (xs := [.tmp 76, .tmp 77, .tmp 78]) rfl rfl rfl rfl rfl rfl rfl Try.underlying24 inf_48 rfl rfl rfl rfl (fun g33 w33 eg33 hx33 hb33 => ?_)
  replace hE2 := Ex.tr hE2 hx33
  replace hE5 := Ex.tr hE5 hx33
  replace hE17 := Ex.tr hE17 hx33
  replace hE19 := Ex.tr hE19 hx33
  replace hE28 := Ex.tr hE28 hx33
  replace hE30 := Ex.tr hE30 hx33
  have hE34 := hx33
  have hlit35 : RdL w33 3 Br.c (.slice (some ⟨g33, 0, none⟩) 3 3) ([⟨10, 12, 8⟩, ⟨30, 8, 8⟩, ⟨70, 12, 12⟩]) := RdL.of_blk Br.c_len (l := [⟨10, 12, 8⟩, ⟨30, 8, 8⟩, ⟨70, 12, 12⟩]) hb33 (Nat.le_refl _) (by decide)
  refine RG.call rfl rfl rfl rfl rfl rfl rfl en_17 (same_ret _ _ (drawOf exS exT.data.toList) [⟨10, 12, 8⟩, ⟨30, 8, 8⟩, ⟨70, 12, 12⟩] _ ((hdr32.ext hE34)) (hlit35) (by decide) (by decide)) ?_
  rintro _ w36 ⟨rfl, hx36⟩
  replace hE2 := Ex.tr hE2 hx36
  replace hE5 := Ex.tr hE5 hx36
  replace hE17 := Ex.tr hE17 hx36
  replace hE19 := Ex.tr hE19 hx36
  replace hE28 := Ex.tr hE28 hx36
  replace hE30 := Ex.tr hE30 hx36
  replace hE34 := Ex.tr hE34 hx36
  have hE37 := hx36
  refine RG.vl rfl rfl rfl (Ev.pickT rfl rfl rfl) ?_
  refine RG.vl rfl rfl rfl (Ev.assign rfl rfl) ?_
  refine RG.done ?_
  refine QW.sub (S' := [(0, _)]) ⟨rfl, trivial⟩ ?_
  refine QW.then_ ?_
  refine CW.ret ?_
  refine QW.ret1 rfl rfl ?_
  have hB := (Ex.tr hB0 hE2)
  exact ⟨congrArg Value.bool (decide_eq_true (by rw [aw6])), hB⟩

end Go.Proofs.Ytnecppiamecemaa
