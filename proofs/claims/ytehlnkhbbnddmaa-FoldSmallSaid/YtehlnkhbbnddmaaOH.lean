/- Walks (OH). Written by program. -/
import Derived.Test.YtehlnkhbbnddmaaT
import Derived.Test.YtehlnkhbbnddmaaOS
namespace Go.Proofs.Ytehlnkhbbnddmaa
open Go.RowKit
set_option maxRecDepth 100000 in
set_option maxHeartbeats 4000000 in
theorem awake_ret  (w : World)  :
    Ret Try.prog 8 [] w (fun v w' => v = .bool true ∧ Ex w w') := by
  have hB0 : Ex w w := Ex.rfl_ _
  refine Ret.of Try.func8 rfl Try.ntmps8 rfl ?_
  refine CW.seq ?_
  refine CW.region ?_
  refine RG.vl rfl rfl rfl (Ev.assign rfl rfl) ?_
  refine RG.done ?_
  refine QW.then_ ?_
  refine CW.seq ?_
  refine CW.seq ?_
  refine CW.region ?_
  refine RG.call rfl rfl rfl rfl rfl rfl rfl en_9 (fold_is [32, 49, 50, 45, 97, 32, 32, 82, 117, 101, 194, 160, 83, 116, 46, 32, 74, 101, 97, 110, 44] [49, 50, 45, 65, 32, 82, 85, 69, 32, 83, 84, 32, 74, 69, 65, 78] _ (by decide) (by kernel_rfl)) ?_
  rintro _ w1 ⟨rfl, hx1⟩
  have hE2 := hx1
  refine RG.vl rfl rfl rfl (Ev.isF (Ev.neS rfl rfl rfl) (fun h => h rfl)) ?_
  refine RG.vl rfl rfl rfl (Ev.move rfl rfl) ?_
  refine RG.call rfl rfl rfl rfl rfl rfl rfl en_9 (fold_is [195, 132, 120, 195, 159] [65, 69, 88, 83, 83] _ (by decide) (by kernel_rfl)) ?_
  rintro _ w3 ⟨rfl, hx3⟩
  replace hE2 := Ex.tr hE2 hx3
  have hE4 := hx3
  refine RG.vl rfl rfl rfl (Ev.isF (Ev.neS rfl rfl rfl) (fun h => h rfl)) ?_
  refine RG.vl rfl rfl rfl (Ev.pickF rfl rfl rfl) ?_
  refine RG.vl rfl rfl rfl (Ev.move rfl rfl) ?_
  refine RG.call rfl rfl rfl rfl rfl rfl rfl en_9 (fold_is [195, 151] [] _ (by decide) (by kernel_rfl)) ?_
  rintro _ w5 ⟨rfl, hx5⟩
  replace hE2 := Ex.tr hE2 hx5
  replace hE4 := Ex.tr hE4 hx5
  have hE6 := hx5
  refine RG.vl rfl rfl rfl (Ev.isF (Ev.neS rfl rfl rfl) (fun h => h rfl)) ?_
  refine RG.vl rfl rfl rfl (Ev.pickF rfl rfl rfl) ?_
  refine RG.vl rfl rfl rfl (Ev.move rfl rfl) ?_
  refine RG.call rfl rfl rfl rfl rfl rfl rfl en_9 (fold_is [195] [] _ (by decide) (by kernel_rfl)) ?_
  rintro _ w7 ⟨rfl, hx7⟩
  replace hE2 := Ex.tr hE2 hx7
  replace hE4 := Ex.tr hE4 hx7
  replace hE6 := Ex.tr hE6 hx7
  have hE8 := hx7
  refine RG.vl rfl rfl rfl (Ev.isF (Ev.neS rfl rfl rfl) (fun h => h rfl)) ?_
  refine RG.vl rfl rfl rfl (Ev.pickF rfl rfl rfl) ?_
  refine RG.done ?_
  refine QW.sub (S' := [(0, _), (18, _)]) ⟨rfl, rfl, trivial⟩ ?_
  refine QW.then_ ?_
  refine CW.condF rfl ?_
  refine CW.skip ?_
  refine QW.then_ ?_
  refine CW.seq ?_
  refine CW.region ?_
  refine RG.call rfl rfl rfl rfl rfl rfl rfl en_17 (short_is 2 [65, 86, 69, 78, 85, 69] [65, 86, 69] true _ (by kernel_rfl)) ?_
  rintro _ w9 ⟨rfl, hx9⟩
  replace hE2 := Ex.tr hE2 hx9
  replace hE4 := Ex.tr hE4 hx9
  replace hE6 := Ex.tr hE6 hx9
  replace hE8 := Ex.tr hE8 hx9
  have hE10 := hx9
  refine RG.vl rfl rfl rfl (Ev.move rfl rfl) ?_
  refine RG.vl rfl rfl rfl (Ev.extract rfl rfl rfl) ?_
  refine RG.vl rfl rfl rfl (Ev.extract rfl rfl rfl) ?_
  refine RG.vl rfl rfl rfl (Ev.assign rfl rfl) ?_
  refine RG.vl rfl rfl rfl (Ev.assign rfl rfl) ?_
  refine RG.done ?_
  refine QW.then_ ?_
  refine CW.seq ?_
  refine CW.region ?_
  refine RG.call rfl rfl rfl rfl rfl rfl rfl en_17 (short_is 2 [83, 84] [] false _ (by kernel_rfl)) ?_
  rintro _ w11 ⟨rfl, hx11⟩
  replace hE2 := Ex.tr hE2 hx11
  replace hE4 := Ex.tr hE4 hx11
  replace hE6 := Ex.tr hE6 hx11
  replace hE8 := Ex.tr hE8 hx11
  replace hE10 := Ex.tr hE10 hx11
  have hE12 := hx11
  refine RG.vl rfl rfl rfl (Ev.move rfl rfl) ?_
  refine RG.vl rfl rfl rfl (Ev.extract rfl rfl rfl) ?_
  refine RG.vl rfl rfl rfl (Ev.extract rfl rfl rfl) ?_
  refine RG.vl rfl rfl rfl (Ev.assign rfl rfl) ?_
  refine RG.vl rfl rfl rfl (Ev.assign rfl rfl) ?_
  refine RG.done ?_
  refine QW.then_ ?_
  refine CW.seq ?_
  refine CW.seq ?_
  refine CW.region ?_
  refine RG.vl rfl rfl rfl (Ev.move rfl rfl) ?_
  refine RG.vl rfl rfl rfl (Ev.isF (Ev.neS rfl rfl rfl) (fun h => h rfl)) ?_
  refine RG.vl rfl rfl rfl (Ev.move rfl rfl) ?_
  refine RG.vl rfl rfl rfl (Ev.move rfl rfl) ?_
  refine RG.vl rfl rfl rfl (Ev.notF rfl rfl) ?_
  refine RG.vl rfl rfl rfl (Ev.pickF rfl rfl rfl) ?_
  refine RG.vl rfl rfl rfl (Ev.move rfl rfl) ?_
  refine RG.vl rfl rfl rfl (Ev.move rfl rfl) ?_
  refine RG.vl rfl rfl rfl (Ev.isF (Ev.neS rfl rfl rfl) (fun h => h rfl)) ?_
  refine RG.vl rfl rfl rfl (Ev.pickF rfl rfl rfl) ?_
  refine RG.vl rfl rfl rfl (Ev.move rfl rfl) ?_
  refine RG.vl rfl rfl rfl (Ev.move rfl rfl) ?_
  refine RG.vl rfl rfl rfl (Ev.pickF rfl rfl rfl) ?_
  refine RG.vl rfl rfl rfl (Ev.move rfl rfl) ?_
  refine RG.call rfl rfl rfl rfl rfl rfl rfl en_16 (kinds_is [83, 84] 36 _ (by kernel_rfl)) ?_
  rintro _ w13 ⟨rfl, hx13⟩
  replace hE2 := Ex.tr hE2 hx13
  replace hE4 := Ex.tr hE4 hx13
  replace hE6 := Ex.tr hE6 hx13
  replace hE8 := Ex.tr hE8 hx13
  replace hE10 := Ex.tr hE10 hx13
  replace hE12 := Ex.tr hE12 hx13
  have hE14 := hx13
  refine RG.vl rfl rfl rfl (Ev.isF (Ev.neI rfl rfl rfl) (fun h => h rfl)) ?_
  refine RG.vl rfl rfl rfl (Ev.pickF rfl rfl rfl) ?_
  refine RG.vl rfl rfl rfl (Ev.move rfl rfl) ?_
  refine RG.call rfl rfl rfl rfl rfl rfl rfl en_16 (kinds_is [88] 0 _ (by kernel_rfl)) ?_
  rintro _ w15 ⟨rfl, hx15⟩
  replace hE2 := Ex.tr hE2 hx15
  replace hE4 := Ex.tr hE4 hx15
  replace hE6 := Ex.tr hE6 hx15
  replace hE8 := Ex.tr hE8 hx15
  replace hE10 := Ex.tr hE10 hx15
  replace hE12 := Ex.tr hE12 hx15
  replace hE14 := Ex.tr hE14 hx15
  have hE16 := hx15
  refine RG.vl rfl rfl rfl (Ev.isF (Ev.neI rfl rfl rfl) (fun h => h rfl)) ?_
  refine RG.vl rfl rfl rfl (Ev.pickF rfl rfl rfl) ?_
  refine RG.done ?_
  refine QW.sub (S' := [(0, _), (47, _)]) ⟨rfl, rfl, trivial⟩ ?_
  refine QW.then_ ?_
  refine CW.condF rfl ?_
  refine CW.skip ?_
  refine QW.then_ ?_
  refine CW.seq ?_
  refine CW.seq ?_
  refine CW.region ?_
  refine RG.call rfl rfl rfl rfl rfl rfl rfl en_12 (same_is 2 [80, 76, 65, 84, 90] [80, 76, 65, 67, 69] false _ (by kernel_rfl)) ?_
  rintro _ w17 ⟨rfl, hx17⟩
  replace hE2 := Ex.tr hE2 hx17
  replace hE4 := Ex.tr hE4 hx17
  replace hE6 := Ex.tr hE6 hx17
  replace hE8 := Ex.tr hE8 hx17
  replace hE10 := Ex.tr hE10 hx17
  replace hE12 := Ex.tr hE12 hx17
  replace hE14 := Ex.tr hE14 hx17
  replace hE16 := Ex.tr hE16 hx17
  have hE18 := hx17
  refine RG.vl rfl rfl rfl (Ev.move rfl rfl) ?_
  refine RG.call rfl rfl rfl rfl rfl rfl rfl en_12 (same_is 2 [80, 76] [80, 76, 65, 67, 69] true _ (by kernel_rfl)) ?_
  rintro _ w19 ⟨rfl, hx19⟩
  replace hE2 := Ex.tr hE2 hx19
  replace hE4 := Ex.tr hE4 hx19
  replace hE6 := Ex.tr hE6 hx19
  replace hE8 := Ex.tr hE8 hx19
  replace hE10 := Ex.tr hE10 hx19
  replace hE12 := Ex.tr hE12 hx19
  replace hE14 := Ex.tr hE14 hx19
  replace hE16 := Ex.tr hE16 hx19
  replace hE18 := Ex.tr hE18 hx19
  have hE20 := hx19
  refine RG.vl rfl rfl rfl (Ev.notF rfl rfl) ?_
  refine RG.vl rfl rfl rfl (Ev.pickF rfl rfl rfl) ?_
  refine RG.vl rfl rfl rfl (Ev.move rfl rfl) ?_
  refine RG.call rfl rfl rfl rfl rfl rfl rfl en_12 (same_is 0 [83, 84] [83, 65, 73, 78, 84] true _ (by kernel_rfl)) ?_
  rintro _ w21 ⟨rfl, hx21⟩
  replace hE2 := Ex.tr hE2 hx21
  replace hE4 := Ex.tr hE4 hx21
  replace hE6 := Ex.tr hE6 hx21
  replace hE8 := Ex.tr hE8 hx21
  replace hE10 := Ex.tr hE10 hx21
  replace hE12 := Ex.tr hE12 hx21
  replace hE14 := Ex.tr hE14 hx21
  replace hE16 := Ex.tr hE16 hx21
  replace hE18 := Ex.tr hE18 hx21
  replace hE20 := Ex.tr hE20 hx21
  have hE22 := hx21
  refine RG.vl rfl rfl rfl (Ev.notF rfl rfl) ?_
  refine RG.vl rfl rfl rfl (Ev.pickF rfl rfl rfl) ?_
  refine RG.done ?_
  refine QW.then_ ?_
  refine CW.condF rfl ?_
  refine CW.skip ?_
  refine QW.then_ ?_
  refine CW.seq ?_
  refine CW.region ?_
  refine RG.call rfl rfl rfl rfl rfl rfl rfl en_15 (longs_is 0 [83, 84] [[83, 84, 82, 69, 69, 84], [83, 65, 73, 78, 84]] _ (by kernel_rfl)) ?_
  have hpre23 := (Ex.tr hB0 hE2)
  rintro lv23 w23 ⟨hlv23, hx23⟩
  replace hE2 := Ex.tr hE2 hx23
  replace hE4 := Ex.tr hE4 hx23
  replace hE6 := Ex.tr hE6 hx23
  replace hE8 := Ex.tr hE8 hx23
  replace hE10 := Ex.tr hE10 hx23
  replace hE12 := Ex.tr hE12 hx23
  replace hE14 := Ex.tr hE14 hx23
  replace hE16 := Ex.tr hE16 hx23
  replace hE18 := Ex.tr hE18 hx23
  replace hE20 := Ex.tr hE20 hx23
  replace hE22 := Ex.tr hE22 hx23
  have hE24 := hx23
  refine RG.litO (os := [_, _]) (enc := encT) ([[83, 84, 82, 69, 69, 84], [83, 65, 73, 78, 84]]) rfl rfl rfl rfl rfl rfl rfl Try.underlying32 inf_9 rfl rfl rfl rfl rfl encT_len rfl rfl (fun v25 wk26 hxwk26 hown27 hnew28 => ?_)
  replace hE2 := Ex.tr hE2 hxwk26
  replace hE4 := Ex.tr hE4 hxwk26
  replace hE6 := Ex.tr hE6 hxwk26
  replace hE8 := Ex.tr hE8 hxwk26
  replace hE10 := Ex.tr hE10 hxwk26
  replace hE12 := Ex.tr hE12 hxwk26
  replace hE14 := Ex.tr hE14 hxwk26
  replace hE16 := Ex.tr hE16 hxwk26
  replace hE18 := Ex.tr hE18 hxwk26
  replace hE20 := Ex.tr hE20 hxwk26
  replace hE22 := Ex.tr hE22 hxwk26
  replace hE24 := Ex.tr hE24 hxwk26
  have hE29 := hxwk26
  refine RG.call rfl rfl rfl rfl rfl rfl rfl en_25 (texts_is _ _ [[83, 84, 82, 69, 69, 84], [83, 65, 73, 78, 84]] [[83, 84, 82, 69, 69, 84], [83, 65, 73, 78, 84]] _ (((Own.ext hlv23 hE29).rdl encT_len)) ((hown27.rdl encT_len)) (by decide) rfl) ?_
  rintro _ w30 ⟨rfl, hx30⟩
  replace hE2 := Ex.tr hE2 hx30
  replace hE4 := Ex.tr hE4 hx30
  replace hE6 := Ex.tr hE6 hx30
  replace hE8 := Ex.tr hE8 hx30
  replace hE10 := Ex.tr hE10 hx30
  replace hE12 := Ex.tr hE12 hx30
  replace hE14 := Ex.tr hE14 hx30
  replace hE16 := Ex.tr hE16 hx30
  replace hE18 := Ex.tr hE18 hx30
  replace hE20 := Ex.tr hE20 hx30
  replace hE22 := Ex.tr hE22 hx30
  replace hE24 := Ex.tr hE24 hx30
  replace hE29 := Ex.tr hE29 hx30
  have hE31 := hx30
  refine RG.vl rfl rfl rfl (Ev.move rfl rfl) ?_
  refine RG.call rfl rfl rfl rfl rfl rfl rfl en_15 (longs_is 5 [83, 84] [[83, 65, 73, 78, 84]] _ (by kernel_rfl)) ?_
  have hpre32 := (Ex.tr hB0 hE2)
  rintro lv32 w32 ⟨hlv32, hx32⟩
  replace hE2 := Ex.tr hE2 hx32
  replace hE4 := Ex.tr hE4 hx32
  replace hE6 := Ex.tr hE6 hx32
  replace hE8 := Ex.tr hE8 hx32
  replace hE10 := Ex.tr hE10 hx32
  replace hE12 := Ex.tr hE12 hx32
  replace hE14 := Ex.tr hE14 hx32
  replace hE16 := Ex.tr hE16 hx32
  replace hE18 := Ex.tr hE18 hx32
  replace hE20 := Ex.tr hE20 hx32
  replace hE22 := Ex.tr hE22 hx32
  replace hE24 := Ex.tr hE24 hx32
  replace hE29 := Ex.tr hE29 hx32
  replace hE31 := Ex.tr hE31 hx32
  have hE33 := hx32
  refine RG.litO (os := [_]) (enc := encT) ([[83, 65, 73, 78, 84]]) rfl rfl rfl rfl rfl rfl rfl Try.underlying32 inf_9 rfl rfl rfl rfl rfl encT_len rfl rfl (fun v34 wk35 hxwk35 hown36 hnew37 => ?_)
  replace hE2 := Ex.tr hE2 hxwk35
  replace hE4 := Ex.tr hE4 hxwk35
  replace hE6 := Ex.tr hE6 hxwk35
  replace hE8 := Ex.tr hE8 hxwk35
  replace hE10 := Ex.tr hE10 hxwk35
  replace hE12 := Ex.tr hE12 hxwk35
  replace hE14 := Ex.tr hE14 hxwk35
  replace hE16 := Ex.tr hE16 hxwk35
  replace hE18 := Ex.tr hE18 hxwk35
  replace hE20 := Ex.tr hE20 hxwk35
  replace hE22 := Ex.tr hE22 hxwk35
  replace hE24 := Ex.tr hE24 hxwk35
  replace hE29 := Ex.tr hE29 hxwk35
  replace hE31 := Ex.tr hE31 hxwk35
  replace hE33 := Ex.tr hE33 hxwk35
  have hE38 := hxwk35
  refine RG.call rfl rfl rfl rfl rfl rfl rfl en_25 (texts_is _ _ [[83, 65, 73, 78, 84]] [[83, 65, 73, 78, 84]] _ (((Own.ext hlv32 hE38).rdl encT_len)) ((hown36.rdl encT_len)) (by decide) rfl) ?_
  rintro _ w39 ⟨rfl, hx39⟩
  replace hE2 := Ex.tr hE2 hx39
  replace hE4 := Ex.tr hE4 hx39
  replace hE6 := Ex.tr hE6 hx39
  replace hE8 := Ex.tr hE8 hx39
  replace hE10 := Ex.tr hE10 hx39
  replace hE12 := Ex.tr hE12 hx39
  replace hE14 := Ex.tr hE14 hx39
  replace hE16 := Ex.tr hE16 hx39
  replace hE18 := Ex.tr hE18 hx39
  replace hE20 := Ex.tr hE20 hx39
  replace hE22 := Ex.tr hE22 hx39
  replace hE24 := Ex.tr hE24 hx39
  replace hE29 := Ex.tr hE29 hx39
  replace hE31 := Ex.tr hE31 hx39
  replace hE33 := Ex.tr hE33 hx39
  replace hE38 := Ex.tr hE38 hx39
  have hE40 := hx39
  refine RG.vl rfl rfl rfl (Ev.pickT rfl rfl rfl) ?_
  refine RG.vl rfl rfl rfl (Ev.move rfl rfl) ?_
  refine RG.call rfl rfl rfl rfl rfl rfl rfl en_15 (longs_is 2 [65, 86, 69, 78, 85, 69] [[65, 86, 69, 78, 85, 69]] _ (by kernel_rfl)) ?_
  have hpre41 := (Ex.tr hB0 hE2)
  rintro lv41 w41 ⟨hlv41, hx41⟩
  replace hE2 := Ex.tr hE2 hx41
  replace hE4 := Ex.tr hE4 hx41
  replace hE6 := Ex.tr hE6 hx41
  replace hE8 := Ex.tr hE8 hx41
  replace hE10 := Ex.tr hE10 hx41
  replace hE12 := Ex.tr hE12 hx41
  replace hE14 := Ex.tr hE14 hx41
  replace hE16 := Ex.tr hE16 hx41
  replace hE18 := Ex.tr hE18 hx41
  replace hE20 := Ex.tr hE20 hx41
  replace hE22 := Ex.tr hE22 hx41
  replace hE24 := Ex.tr hE24 hx41
  replace hE29 := Ex.tr hE29 hx41
  replace hE31 := Ex.tr hE31 hx41
  replace hE33 := Ex.tr hE33 hx41
  replace hE38 := Ex.tr hE38 hx41
  replace hE40 := Ex.tr hE40 hx41
  have hE42 := hx41
  refine RG.litO (os := [_]) (enc := encT) ([[65, 86, 69, 78, 85, 69]]) rfl rfl rfl rfl rfl rfl rfl Try.underlying32 inf_9 rfl rfl rfl rfl rfl encT_len rfl rfl (fun v43 wk44 hxwk44 hown45 hnew46 => ?_)
  replace hE2 := Ex.tr hE2 hxwk44
  replace hE4 := Ex.tr hE4 hxwk44
  replace hE6 := Ex.tr hE6 hxwk44
  replace hE8 := Ex.tr hE8 hxwk44
  replace hE10 := Ex.tr hE10 hxwk44
  replace hE12 := Ex.tr hE12 hxwk44
  replace hE14 := Ex.tr hE14 hxwk44
  replace hE16 := Ex.tr hE16 hxwk44
  replace hE18 := Ex.tr hE18 hxwk44
  replace hE20 := Ex.tr hE20 hxwk44
  replace hE22 := Ex.tr hE22 hxwk44
  replace hE24 := Ex.tr hE24 hxwk44
  replace hE29 := Ex.tr hE29 hxwk44
  replace hE31 := Ex.tr hE31 hxwk44
  replace hE33 := Ex.tr hE33 hxwk44
  replace hE38 := Ex.tr hE38 hxwk44
  replace hE40 := Ex.tr hE40 hxwk44
  replace hE42 := Ex.tr hE42 hxwk44
  have hE47 := hxwk44
  refine RG.call rfl rfl rfl rfl rfl rfl rfl en_25 (texts_is _ _ [[65, 86, 69, 78, 85, 69]] [[65, 86, 69, 78, 85, 69]] _ (((Own.ext hlv41 hE47).rdl encT_len)) ((hown45.rdl encT_len)) (by decide) rfl) ?_
  rintro _ w48 ⟨rfl, hx48⟩
  replace hE2 := Ex.tr hE2 hx48
  replace hE4 := Ex.tr hE4 hx48
  replace hE6 := Ex.tr hE6 hx48
  replace hE8 := Ex.tr hE8 hx48
  replace hE10 := Ex.tr hE10 hx48
  replace hE12 := Ex.tr hE12 hx48
  replace hE14 := Ex.tr hE14 hx48
  replace hE16 := Ex.tr hE16 hx48
  replace hE18 := Ex.tr hE18 hx48
  replace hE20 := Ex.tr hE20 hx48
  replace hE22 := Ex.tr hE22 hx48
  replace hE24 := Ex.tr hE24 hx48
  replace hE29 := Ex.tr hE29 hx48
  replace hE31 := Ex.tr hE31 hx48
  replace hE33 := Ex.tr hE33 hx48
  replace hE38 := Ex.tr hE38 hx48
  replace hE40 := Ex.tr hE40 hx48
  replace hE42 := Ex.tr hE42 hx48
  replace hE47 := Ex.tr hE47 hx48
  have hE49 := hx48
  refine RG.vl rfl rfl rfl (Ev.pickT rfl rfl rfl) ?_
  refine RG.vl rfl rfl rfl (Ev.move rfl rfl) ?_
  refine RG.call rfl rfl rfl rfl rfl rfl rfl en_15 (longs_is 2 [80, 76] [[80, 76, 65, 67, 69], [80, 76, 65, 84, 90]] _ (by kernel_rfl)) ?_
  have hpre50 := (Ex.tr hB0 hE2)
  rintro lv50 w50 ⟨hlv50, hx50⟩
  replace hE2 := Ex.tr hE2 hx50
  replace hE4 := Ex.tr hE4 hx50
  replace hE6 := Ex.tr hE6 hx50
  replace hE8 := Ex.tr hE8 hx50
  replace hE10 := Ex.tr hE10 hx50
  replace hE12 := Ex.tr hE12 hx50
  replace hE14 := Ex.tr hE14 hx50
  replace hE16 := Ex.tr hE16 hx50
  replace hE18 := Ex.tr hE18 hx50
  replace hE20 := Ex.tr hE20 hx50
  replace hE22 := Ex.tr hE22 hx50
  replace hE24 := Ex.tr hE24 hx50
  replace hE29 := Ex.tr hE29 hx50
  replace hE31 := Ex.tr hE31 hx50
  replace hE33 := Ex.tr hE33 hx50
  replace hE38 := Ex.tr hE38 hx50
  replace hE40 := Ex.tr hE40 hx50
  replace hE42 := Ex.tr hE42 hx50
  replace hE47 := Ex.tr hE47 hx50
  replace hE49 := Ex.tr hE49 hx50
  have hE51 := hx50
  refine RG.litO (os := [_, _]) (enc := encT) ([[80, 76, 65, 67, 69], [80, 76, 65, 84, 90]]) rfl rfl rfl rfl rfl rfl rfl Try.underlying32 inf_9 rfl rfl rfl rfl rfl encT_len rfl rfl (fun v52 wk53 hxwk53 hown54 hnew55 => ?_)
  replace hE2 := Ex.tr hE2 hxwk53
  replace hE4 := Ex.tr hE4 hxwk53
  replace hE6 := Ex.tr hE6 hxwk53
  replace hE8 := Ex.tr hE8 hxwk53
  replace hE10 := Ex.tr hE10 hxwk53
  replace hE12 := Ex.tr hE12 hxwk53
  replace hE14 := Ex.tr hE14 hxwk53
  replace hE16 := Ex.tr hE16 hxwk53
  replace hE18 := Ex.tr hE18 hxwk53
  replace hE20 := Ex.tr hE20 hxwk53
  replace hE22 := Ex.tr hE22 hxwk53
  replace hE24 := Ex.tr hE24 hxwk53
  replace hE29 := Ex.tr hE29 hxwk53
  replace hE31 := Ex.tr hE31 hxwk53
  replace hE33 := Ex.tr hE33 hxwk53
  replace hE38 := Ex.tr hE38 hxwk53
  replace hE40 := Ex.tr hE40 hxwk53
  replace hE42 := Ex.tr hE42 hxwk53
  replace hE47 := Ex.tr hE47 hxwk53
  replace hE49 := Ex.tr hE49 hxwk53
  replace hE51 := Ex.tr hE51 hxwk53
  have hE56 := hxwk53
  refine RG.call rfl rfl rfl rfl rfl rfl rfl en_25 (texts_is _ _ [[80, 76, 65, 67, 69], [80, 76, 65, 84, 90]] [[80, 76, 65, 67, 69], [80, 76, 65, 84, 90]] _ (((Own.ext hlv50 hE56).rdl encT_len)) ((hown54.rdl encT_len)) (by decide) rfl) ?_
  rintro _ w57 ⟨rfl, hx57⟩
  replace hE2 := Ex.tr hE2 hx57
  replace hE4 := Ex.tr hE4 hx57
  replace hE6 := Ex.tr hE6 hx57
  replace hE8 := Ex.tr hE8 hx57
  replace hE10 := Ex.tr hE10 hx57
  replace hE12 := Ex.tr hE12 hx57
  replace hE14 := Ex.tr hE14 hx57
  replace hE16 := Ex.tr hE16 hx57
  replace hE18 := Ex.tr hE18 hx57
  replace hE20 := Ex.tr hE20 hx57
  replace hE22 := Ex.tr hE22 hx57
  replace hE24 := Ex.tr hE24 hx57
  replace hE29 := Ex.tr hE29 hx57
  replace hE31 := Ex.tr hE31 hx57
  replace hE33 := Ex.tr hE33 hx57
  replace hE38 := Ex.tr hE38 hx57
  replace hE40 := Ex.tr hE40 hx57
  replace hE42 := Ex.tr hE42 hx57
  replace hE47 := Ex.tr hE47 hx57
  replace hE49 := Ex.tr hE49 hx57
  replace hE51 := Ex.tr hE51 hx57
  replace hE56 := Ex.tr hE56 hx57
  have hE58 := hx57
  refine RG.vl rfl rfl rfl (Ev.pickT rfl rfl rfl) ?_
  refine RG.vl rfl rfl rfl (Ev.assign rfl rfl) ?_
  refine RG.done ?_
  refine QW.sub (S' := [(0, _)]) ⟨rfl, trivial⟩ ?_
  refine QW.then_ ?_
  refine CW.ret ?_
  refine QW.ret1 rfl rfl ?_
  have hB := (Ex.tr hB0 hE2)
  exact ⟨rfl, hB⟩

end Go.Proofs.Ytehlnkhbbnddmaa
