/- Walks (BI). Written by program. -/
import Derived.Test.YtgafkbnlhlbmkaaT
import Derived.Test.YtgafkbnlhlbmkaaBH
namespace Go.Proofs.Ytgafkbnlhlbmkaa
open Go.RowKit
set_option maxRecDepth 100000 in
set_option maxHeartbeats 4000000 in
theorem awake_ret  (w : World)  :
    Ret Try.prog 10 [] w (fun v w' => v = .bool true ∧ Ex w w') := by
  have hB0 : Ex w w := Ex.rfl_ _
  refine Ret.of Try.func10 rfl Try.ntmps10 rfl ?_
  refine CW.seq ?_
  refine CW.region ?_
  refine RG.vl rfl rfl rfl (Ev.assign rfl rfl) ?_
  refine RG.done ?_
  refine QW.then_ ?_
  refine CW.seq ?_
  refine CW.region ?_
  refine RG.litO (os := [_, _, _]) (enc := encB) ([0, 63, 27]) rfl rfl rfl rfl rfl rfl rfl Try.underlying22 inf_5 rfl rfl rfl rfl rfl encB_len rfl rfl (fun v1 wk2 hxwk2 hown3 hnew4 => ?_)
  have hE5 := hxwk2
  refine RG.call rfl rfl rfl rfl rfl rfl rfl en_12 (write_is _ [0, 63, 27] [84, 84, 84, 70, 70, 70, 65, 68, 70] 0 _ ((hown3.rdl encB_len)) (by decide +kernel)) ?_
  rintro _ w6 ⟨rfl, hx6⟩
  replace hE5 := Ex.tr hE5 hx6
  have hE7 := hx6
  refine RG.vl rfl rfl rfl (Ev.move rfl rfl) ?_
  refine RG.vl rfl rfl rfl (Ev.extract rfl rfl rfl) ?_
  refine RG.vl rfl rfl rfl (Ev.extract rfl rfl rfl) ?_
  refine RG.vl rfl rfl rfl (Ev.assign rfl rfl) ?_
  refine RG.vl rfl rfl rfl (Ev.assign rfl rfl) ?_
  refine RG.done ?_
  refine QW.then_ ?_
  refine CW.seq ?_
  refine CW.region ?_
  refine RG.call rfl rfl rfl rfl rfl rfl rfl en_17 (turn_is [65, 68, 70, 84, 63] [63, 84, 70, 65, 68] 0 _ (by decide +kernel)) ?_
  rintro _ w8 ⟨rfl, hx8⟩
  replace hE5 := Ex.tr hE5 hx8
  replace hE7 := Ex.tr hE7 hx8
  have hE9 := hx8
  refine RG.vl rfl rfl rfl (Ev.move rfl rfl) ?_
  refine RG.vl rfl rfl rfl (Ev.extract rfl rfl rfl) ?_
  refine RG.vl rfl rfl rfl (Ev.extract rfl rfl rfl) ?_
  refine RG.vl rfl rfl rfl (Ev.assign rfl rfl) ?_
  refine RG.vl rfl rfl rfl (Ev.assign rfl rfl) ?_
  refine RG.done ?_
  refine QW.sub (S' := [(0, _), (1, _), (2, _), (3, _), (4, _)]) ⟨rfl, rfl, rfl, rfl, rfl, trivial⟩ ?_
  refine QW.then_ ?_
  refine CW.seq ?_
  refine CW.region ?_
  refine RG.call rfl rfl rfl rfl rfl rfl rfl en_15 (read_is [65, 65, 65, 84, 63, 84] [21, 0] [1] 0 _ (by decide +kernel)) ?_
  have hpre10 := (Ex.tr hB0 hE5)
  rintro _ w10 ⟨r10, x10, rfl, hr10, hz10, hx10⟩
  replace hE5 := Ex.tr hE5 hx10
  replace hE7 := Ex.tr hE7 hx10
  replace hE9 := Ex.tr hE9 hx10
  have hE11 := hx10
  refine RG.vl rfl rfl rfl (Ev.move rfl rfl) ?_
  refine RG.vl rfl rfl rfl (Ev.extract rfl rfl rfl) ?_
  refine RG.vl rfl rfl rfl (Ev.extract rfl rfl rfl) ?_
  refine RG.vl rfl rfl rfl (Ev.extract rfl rfl rfl) ?_
  refine RG.vl rfl rfl rfl (Ev.assign rfl rfl) ?_
  refine RG.vl rfl rfl rfl (Ev.assign rfl rfl) ?_
  refine RG.vl rfl rfl rfl (Ev.assign rfl rfl) ?_
  refine RG.done ?_
  refine QW.then_ ?_
  refine CW.seq ?_
  refine CW.region ?_
  refine RG.call rfl rfl rfl rfl rfl rfl rfl en_20 (unf_is [65, 84, 68, 70, 68] [68] false 0 _ (by decide +kernel)) ?_
  rintro _ w12 ⟨rfl, hx12⟩
  replace hE5 := Ex.tr hE5 hx12
  replace hE7 := Ex.tr hE7 hx12
  replace hE9 := Ex.tr hE9 hx12
  replace hE11 := Ex.tr hE11 hx12
  have hE13 := hx12
  refine RG.vl rfl rfl rfl (Ev.move rfl rfl) ?_
  refine RG.vl rfl rfl rfl (Ev.extract rfl rfl rfl) ?_
  refine RG.vl rfl rfl rfl (Ev.extract rfl rfl rfl) ?_
  refine RG.vl rfl rfl rfl (Ev.extract rfl rfl rfl) ?_
  refine RG.vl rfl rfl rfl (Ev.assign rfl rfl) ?_
  refine RG.vl rfl rfl rfl (Ev.assign rfl rfl) ?_
  refine RG.vl rfl rfl rfl (Ev.assign rfl rfl) ?_
  refine RG.done ?_
  refine QW.sub (S' := [(0, _), (1, _), (2, _), (3, _), (4, _), (5, _), (6, _), (7, _), (8, _), (9, _), (10, _)]) ⟨rfl, rfl, rfl, rfl, rfl, rfl, rfl, rfl, rfl, rfl, rfl, trivial⟩ ?_
  refine QW.then_ ?_
  refine CW.seq ?_
  refine CW.region ?_
  refine RG.call rfl rfl rfl rfl rfl rfl rfl en_20 (unf_is [65, 70, 65, 84, 68] [68] true 0 _ (by decide +kernel)) ?_
  rintro _ w14 ⟨rfl, hx14⟩
  replace hE5 := Ex.tr hE5 hx14
  replace hE7 := Ex.tr hE7 hx14
  replace hE9 := Ex.tr hE9 hx14
  replace hE11 := Ex.tr hE11 hx14
  replace hE13 := Ex.tr hE13 hx14
  have hE15 := hx14
  refine RG.vl rfl rfl rfl (Ev.move rfl rfl) ?_
  refine RG.vl rfl rfl rfl (Ev.extract rfl rfl rfl) ?_
  refine RG.vl rfl rfl rfl (Ev.extract rfl rfl rfl) ?_
  refine RG.vl rfl rfl rfl (Ev.extract rfl rfl rfl) ?_
  refine RG.vl rfl rfl rfl (Ev.assign rfl rfl) ?_
  refine RG.vl rfl rfl rfl (Ev.assign rfl rfl) ?_
  refine RG.vl rfl rfl rfl (Ev.assign rfl rfl) ?_
  refine RG.done ?_
  refine QW.then_ ?_
  refine CW.seq ?_
  refine CW.region ?_
  refine RG.call rfl rfl rfl rfl rfl rfl rfl en_20 (unf_is [65, 84, 63, 68] [] false 200 _ (by decide +kernel)) ?_
  rintro _ w16 ⟨rfl, hx16⟩
  replace hE5 := Ex.tr hE5 hx16
  replace hE7 := Ex.tr hE7 hx16
  replace hE9 := Ex.tr hE9 hx16
  replace hE11 := Ex.tr hE11 hx16
  replace hE13 := Ex.tr hE13 hx16
  replace hE15 := Ex.tr hE15 hx16
  have hE17 := hx16
  refine RG.vl rfl rfl rfl (Ev.move rfl rfl) ?_
  refine RG.vl rfl rfl rfl (Ev.extract rfl rfl rfl) ?_
  refine RG.vl rfl rfl rfl (Ev.extract rfl rfl rfl) ?_
  refine RG.vl rfl rfl rfl (Ev.extract rfl rfl rfl) ?_
  refine RG.vl rfl rfl rfl (Ev.assign rfl rfl) ?_
  refine RG.vl rfl rfl rfl (Ev.assign rfl rfl) ?_
  refine RG.vl rfl rfl rfl (Ev.assign rfl rfl) ?_
  refine RG.done ?_
  refine QW.sub (S' := [(0, _), (1, _), (2, _), (3, _), (4, _), (5, _), (6, _), (7, _), (8, _), (9, _), (10, _), (11, _), (12, _), (13, _), (16, _)]) ⟨rfl, rfl, rfl, rfl, rfl, rfl, rfl, rfl, rfl, rfl, rfl, rfl, rfl, rfl, rfl, trivial⟩ ?_
  refine QW.then_ ?_
  refine CW.seq ?_
  refine CW.region ?_
  refine RG.vl rfl rfl rfl (Ev.move rfl rfl) ?_
  refine RG.vl rfl rfl rfl (Ev.move rfl rfl) ?_
  refine RG.vl rfl rfl rfl (Ev.addI rfl rfl rfl (by omega)) ?_
  refine RG.vl rfl rfl rfl (Ev.move rfl rfl) ?_
  refine RG.vl rfl rfl rfl (Ev.addI rfl rfl rfl (by omega)) ?_
  refine RG.vl rfl rfl rfl (Ev.move rfl rfl) ?_
  refine RG.vl rfl rfl rfl (Ev.addI rfl rfl rfl (by omega)) ?_
  refine RG.vl rfl rfl rfl (Ev.move rfl rfl) ?_
  refine RG.vl rfl rfl rfl (Ev.addI rfl rfl rfl (by omega)) ?_
  refine RG.vl rfl rfl rfl (Ev.isT (Ev.eqI rfl rfl rfl) (rfl)) ?_
  refine RG.vl rfl rfl rfl (Ev.move rfl rfl) ?_
  refine RG.vl rfl rfl rfl (Ev.move rfl rfl) ?_
  refine RG.vl rfl rfl rfl (Ev.isT (Ev.eqS rfl rfl rfl) (rfl)) ?_
  refine RG.vl rfl rfl rfl (Ev.pickT rfl rfl rfl) ?_
  refine RG.vl rfl rfl rfl (Ev.move rfl rfl) ?_
  refine RG.vl rfl rfl rfl (Ev.move rfl rfl) ?_
  refine RG.vl rfl rfl rfl (Ev.isT (Ev.eqS rfl rfl rfl) (rfl)) ?_
  refine RG.vl rfl rfl rfl (Ev.pickT rfl rfl rfl) ?_
  refine RG.vl rfl rfl rfl (Ev.move rfl rfl) ?_
  refine RG.vl rfl rfl rfl (Ev.move rfl rfl) ?_
  refine RG.litO (os := [_, _]) (enc := encB) ([21, 0]) rfl rfl rfl rfl rfl rfl rfl Try.underlying22 inf_5 rfl rfl rfl rfl rfl encB_len rfl rfl (fun v18 wk19 hxwk19 hown20 hnew21 => ?_)
  replace hE5 := Ex.tr hE5 hxwk19
  replace hE7 := Ex.tr hE7 hxwk19
  replace hE9 := Ex.tr hE9 hxwk19
  replace hE11 := Ex.tr hE11 hxwk19
  replace hE13 := Ex.tr hE13 hxwk19
  replace hE15 := Ex.tr hE15 hxwk19
  replace hE17 := Ex.tr hE17 hxwk19
  have hE22 := hxwk19
  refine RG.call rfl rfl rfl rfl rfl rfl rfl en_18 (sameBt_ret _ _ [21, 0] _ (((Own.ext hr10 hE13).rdl encB_len)) ((hown20.rdl encB_len)) (by decide)) ?_
  rintro _ w23 ⟨rfl, hx23⟩
  replace hE5 := Ex.tr hE5 hx23
  replace hE7 := Ex.tr hE7 hx23
  replace hE9 := Ex.tr hE9 hx23
  replace hE11 := Ex.tr hE11 hx23
  replace hE13 := Ex.tr hE13 hx23
  replace hE15 := Ex.tr hE15 hx23
  replace hE17 := Ex.tr hE17 hx23
  replace hE22 := Ex.tr hE22 hx23
  have hE24 := hx23
  refine RG.vl rfl rfl rfl (Ev.pickT rfl rfl rfl) ?_
  refine RG.vl rfl rfl rfl (Ev.move rfl rfl) ?_
  refine RG.vl rfl rfl rfl (Ev.move rfl rfl) ?_
  refine RG.litO (os := [_]) (enc := encZ) ([1]) rfl rfl rfl rfl rfl rfl rfl Try.underlying33 inf_3 rfl rfl rfl rfl rfl encZ_len rfl rfl (fun v25 wk26 hxwk26 hown27 hnew28 => ?_)
  replace hE5 := Ex.tr hE5 hxwk26
  replace hE7 := Ex.tr hE7 hxwk26
  replace hE9 := Ex.tr hE9 hxwk26
  replace hE11 := Ex.tr hE11 hxwk26
  replace hE13 := Ex.tr hE13 hxwk26
  replace hE15 := Ex.tr hE15 hxwk26
  replace hE17 := Ex.tr hE17 hxwk26
  replace hE22 := Ex.tr hE22 hxwk26
  replace hE24 := Ex.tr hE24 hxwk26
  have hE29 := hxwk26
  refine RG.call rfl rfl rfl rfl rfl rfl rfl en_22 (sameIt_ret _ _ [1] _ (((Own.ext hz10 hE13).rdl encZ_len)) ((hown27.rdl encZ_len)) (by decide)) ?_
  rintro _ w30 ⟨rfl, hx30⟩
  replace hE5 := Ex.tr hE5 hx30
  replace hE7 := Ex.tr hE7 hx30
  replace hE9 := Ex.tr hE9 hx30
  replace hE11 := Ex.tr hE11 hx30
  replace hE13 := Ex.tr hE13 hx30
  replace hE15 := Ex.tr hE15 hx30
  replace hE17 := Ex.tr hE17 hx30
  replace hE22 := Ex.tr hE22 hx30
  replace hE24 := Ex.tr hE24 hx30
  replace hE29 := Ex.tr hE29 hx30
  have hE31 := hx30
  refine RG.vl rfl rfl rfl (Ev.pickT rfl rfl rfl) ?_
  refine RG.vl rfl rfl rfl (Ev.move rfl rfl) ?_
  refine RG.vl rfl rfl rfl (Ev.move rfl rfl) ?_
  refine RG.vl rfl rfl rfl (Ev.isT (Ev.eqS rfl rfl rfl) (rfl)) ?_
  refine RG.vl rfl rfl rfl (Ev.pickT rfl rfl rfl) ?_
  refine RG.vl rfl rfl rfl (Ev.move rfl rfl) ?_
  refine RG.vl rfl rfl rfl (Ev.move rfl rfl) ?_
  refine RG.vl rfl rfl rfl (Ev.notT rfl rfl) ?_
  refine RG.vl rfl rfl rfl (Ev.pickT rfl rfl rfl) ?_
  refine RG.vl rfl rfl rfl (Ev.move rfl rfl) ?_
  refine RG.vl rfl rfl rfl (Ev.move rfl rfl) ?_
  refine RG.vl rfl rfl rfl (Ev.isT (Ev.eqS rfl rfl rfl) (rfl)) ?_
  refine RG.vl rfl rfl rfl (Ev.pickT rfl rfl rfl) ?_
  refine RG.vl rfl rfl rfl (Ev.move rfl rfl) ?_
  refine RG.vl rfl rfl rfl (Ev.move rfl rfl) ?_
  refine RG.vl rfl rfl rfl (Ev.pickT rfl rfl rfl) ?_
  refine RG.vl rfl rfl rfl (Ev.move rfl rfl) ?_
  refine RG.vl rfl rfl rfl (Ev.move rfl rfl) ?_
  refine RG.vl rfl rfl rfl (Ev.isT (Ev.eqI rfl rfl rfl) (rfl)) ?_
  refine RG.vl rfl rfl rfl (Ev.pickT rfl rfl rfl) ?_
  refine RG.vl rfl rfl rfl (Ev.assign rfl rfl) ?_
  refine RG.done ?_
  refine QW.sub (S' := [(0, _)]) ⟨rfl, trivial⟩ ?_
  refine QW.then_ ?_
  refine CW.ret ?_
  refine QW.ret1 rfl rfl ?_
  have hB := (Ex.tr hB0 hE5)
  exact ⟨rfl, hB⟩

end Go.Proofs.Ytgafkbnlhlbmkaa
