/- Walks (FG). Written by program. -/
import Derived.Test.YtjaledljhiihmaaT
import Derived.Test.YtjaledljhiihmaaFY
namespace Go.Proofs.Ytjaledljhiihmaa
open Go.RowKit
set_option maxRecDepth 100000 in
set_option maxHeartbeats 4000000 in
theorem awake_ret  (w : World)  :
    Ret Try.prog 13 [] w (fun v w' => v = .bool true ∧ Ex w w') := by
  have hB0 : Ex w w := Ex.rfl_ _
  refine Ret.of Try.func13 rfl Try.ntmps13 rfl ?_
  refine CW.seq ?_
  refine CW.region ?_
  refine RG.vl rfl rfl rfl (Ev.assign rfl rfl) ?_
  refine RG.done ?_
  refine QW.then_ ?_
  refine CW.seq ?_
  refine CW.region ?_
  refine RG.call rfl rfl rfl rfl rfl rfl rfl en_15 (Mul_el 2 32 _ (by decide) (by decide)) ?_
  rintro _ w1 ⟨rfl, hx1⟩
  have hE2 := hx1
  refine RG.vl rfl rfl rfl (Ev.move rfl rfl) ?_
  refine RG.vl rfl rfl rfl (Ev.extract rfl rfl rfl) ?_
  refine RG.vl rfl rfl rfl (Ev.extract rfl rfl rfl) ?_
  refine RG.vl rfl rfl rfl (Ev.assign rfl rfl) ?_
  refine RG.vl rfl rfl rfl (Ev.assign rfl rfl) ?_
  refine RG.done ?_
  refine QW.then_ ?_
  refine CW.seq ?_
  refine CW.region ?_
  refine RG.call rfl rfl rfl rfl rfl rfl rfl en_16 (Inv_el 2 _ (by decide) (by decide)) ?_
  rintro _ w3 ⟨rfl, hx3⟩
  replace hE2 := Ex.tr hE2 hx3
  have hE4 := hx3
  refine RG.vl rfl rfl rfl (Ev.move rfl rfl) ?_
  refine RG.vl rfl rfl rfl (Ev.extract rfl rfl rfl) ?_
  refine RG.vl rfl rfl rfl (Ev.extract rfl rfl rfl) ?_
  refine RG.vl rfl rfl rfl (Ev.assign rfl rfl) ?_
  refine RG.vl rfl rfl rfl (Ev.assign rfl rfl) ?_
  refine RG.done ?_
  refine QW.then_ ?_
  refine CW.seq ?_
  refine CW.region ?_
  refine RG.call rfl rfl rfl rfl rfl rfl rfl en_17 (Log_el 3 _ (by decide) (by decide)) ?_
  rintro _ w5 ⟨rfl, hx5⟩
  replace hE2 := Ex.tr hE2 hx5
  replace hE4 := Ex.tr hE4 hx5
  have hE6 := hx5
  refine RG.vl rfl rfl rfl (Ev.move rfl rfl) ?_
  refine RG.vl rfl rfl rfl (Ev.extract rfl rfl rfl) ?_
  refine RG.vl rfl rfl rfl (Ev.extract rfl rfl rfl) ?_
  refine RG.vl rfl rfl rfl (Ev.assign rfl rfl) ?_
  refine RG.vl rfl rfl rfl (Ev.assign rfl rfl) ?_
  refine RG.done ?_
  refine QW.sub (S' := [(0, _), (1, _), (2, _), (3, _), (4, _), (5, _), (6, _)]) ⟨rfl, rfl, rfl, rfl, rfl, rfl, rfl, trivial⟩ ?_
  refine QW.then_ ?_
  refine CW.seq ?_
  refine CW.region ?_
  refine RG.call rfl rfl rfl rfl rfl rfl rfl en_11 (Pow_el 2 (-1) _ (by decide) (by decide)) ?_
  rintro _ w7 ⟨rfl, hx7⟩
  replace hE2 := Ex.tr hE2 hx7
  replace hE4 := Ex.tr hE4 hx7
  replace hE6 := Ex.tr hE6 hx7
  have hE8 := hx7
  refine RG.vl rfl rfl rfl (Ev.move rfl rfl) ?_
  refine RG.vl rfl rfl rfl (Ev.extract rfl rfl rfl) ?_
  refine RG.vl rfl rfl rfl (Ev.extract rfl rfl rfl) ?_
  refine RG.vl rfl rfl rfl (Ev.assign rfl rfl) ?_
  refine RG.vl rfl rfl rfl (Ev.assign rfl rfl) ?_
  refine RG.done ?_
  refine QW.then_ ?_
  refine CW.seq ?_
  refine CW.region ?_
  refine RG.call rfl rfl rfl rfl rfl rfl rfl en_11 (pow_ret 0 0 _) ?_
  rintro _ w9 ⟨rfl, hx9⟩
  replace hE2 := Ex.tr hE2 hx9
  replace hE4 := Ex.tr hE4 hx9
  replace hE6 := Ex.tr hE6 hx9
  replace hE8 := Ex.tr hE8 hx9
  have hE10 := hx9
  refine RG.vl rfl rfl rfl (Ev.move rfl rfl) ?_
  refine RG.vl rfl rfl rfl (Ev.extract rfl rfl rfl) ?_
  refine RG.vl rfl rfl rfl (Ev.extract rfl rfl rfl) ?_
  refine RG.vl rfl rfl rfl (Ev.assign rfl rfl) ?_
  refine RG.vl rfl rfl rfl (Ev.assign rfl rfl) ?_
  refine RG.done ?_
  refine QW.then_ ?_
  refine CW.seq ?_
  refine CW.seq ?_
  refine CW.region ?_
  refine RG.vl rfl rfl rfl (Ev.move rfl rfl) ?_
  refine RG.vl rfl rfl rfl (Ev.move rfl rfl) ?_
  refine RG.vl rfl rfl rfl (Ev.addI rfl rfl rfl (by decide)) ?_
  refine RG.vl rfl rfl rfl (Ev.move rfl rfl) ?_
  refine RG.vl rfl rfl rfl (Ev.addI rfl rfl rfl (by decide)) ?_
  refine RG.vl rfl rfl rfl (Ev.move rfl rfl) ?_
  refine RG.vl rfl rfl rfl (Ev.addI rfl rfl rfl (by decide)) ?_
  refine RG.vl rfl rfl rfl (Ev.move rfl rfl) ?_
  refine RG.vl rfl rfl rfl (Ev.addI rfl rfl rfl (by decide)) ?_
  refine RG.vl rfl rfl rfl (Ev.isF (Ev.neI rfl rfl rfl) (by decide)) ?_
  refine RG.vl rfl rfl rfl (Ev.move rfl rfl) ?_
  refine RG.vl rfl rfl rfl (Ev.move rfl rfl) ?_
  refine RG.vl rfl rfl rfl (Ev.isF (Ev.neI rfl rfl rfl) (by decide)) ?_
  refine RG.vl rfl rfl rfl (Ev.pickF rfl rfl rfl) ?_
  refine RG.vl rfl rfl rfl (Ev.move rfl rfl) ?_
  refine RG.vl rfl rfl rfl (Ev.move rfl rfl) ?_
  refine RG.vl rfl rfl rfl (Ev.isF (Ev.neI rfl rfl rfl) (by decide)) ?_
  refine RG.vl rfl rfl rfl (Ev.pickF rfl rfl rfl) ?_
  refine RG.vl rfl rfl rfl (Ev.move rfl rfl) ?_
  refine RG.vl rfl rfl rfl (Ev.move rfl rfl) ?_
  refine RG.vl rfl rfl rfl (Ev.isF (Ev.neI rfl rfl rfl) (by decide)) ?_
  refine RG.vl rfl rfl rfl (Ev.pickF rfl rfl rfl) ?_
  refine RG.vl rfl rfl rfl (Ev.move rfl rfl) ?_
  refine RG.vl rfl rfl rfl (Ev.move rfl rfl) ?_
  refine RG.vl rfl rfl rfl (Ev.isF (Ev.neI rfl rfl rfl) (by decide)) ?_
  refine RG.vl rfl rfl rfl (Ev.pickF rfl rfl rfl) ?_
  refine RG.vl rfl rfl rfl (Ev.move rfl rfl) ?_
  refine RG.vl rfl rfl rfl (Ev.move rfl rfl) ?_
  refine RG.vl rfl rfl rfl (Ev.isF (Ev.neI rfl rfl rfl) (by decide)) ?_
  refine RG.vl rfl rfl rfl (Ev.pickF rfl rfl rfl) ?_
  refine RG.done ?_
  refine QW.sub (S' := [(0, _), (2, _), (4, _), (6, _), (8, _), (65, _)]) ⟨rfl, rfl, rfl, rfl, rfl, rfl, trivial⟩ ?_
  refine QW.then_ ?_
  refine CW.condF rfl ?_
  refine CW.skip ?_
  refine QW.then_ ?_
  refine CW.seq ?_
  refine CW.region ?_
  refine RG.litO (os := [_, _]) (enc := encN) ([1, 1]) rfl rfl rfl rfl rfl rfl rfl Try.underlying39 inf_5 rfl rfl rfl rfl rfl encN_len rfl rfl (fun v11 wk12 hxwk12 hown13 hnew14 => ?_)
  replace hE2 := Ex.tr hE2 hxwk12
  replace hE4 := Ex.tr hE4 hxwk12
  replace hE6 := Ex.tr hE6 hxwk12
  replace hE8 := Ex.tr hE8 hxwk12
  replace hE10 := Ex.tr hE10 hxwk12
  have hE15 := hxwk12
  refine RG.litO (os := [_, _]) (enc := encN) ([2, 1]) rfl rfl rfl rfl rfl rfl rfl Try.underlying39 inf_5 rfl rfl rfl rfl rfl encN_len rfl rfl (fun v16 wk17 hxwk17 hown18 hnew19 => ?_)
  have hsep20 : Sep v16 _ := Sep.of_new hown13 hnew19
  replace hE2 := Ex.tr hE2 hxwk17
  replace hE4 := Ex.tr hE4 hxwk17
  replace hE6 := Ex.tr hE6 hxwk17
  replace hE8 := Ex.tr hE8 hxwk17
  replace hE10 := Ex.tr hE10 hxwk17
  replace hE15 := Ex.tr hE15 hxwk17
  have hE21 := hxwk17
  refine RG.call rfl rfl rfl rfl rfl rfl rfl en_37 (product_ret _ _ [1, 1] [2, 1] _ (((Own.ext hown13 hE21).rdl encN_len)) ((hown18.rdl encN_len)) (by decide) (by decide)) ?_
  have hpre22 := (Ex.tr hB0 hE2)
  rintro _ w22 ⟨r22, rfl, hop22, hx22⟩
  have hsep23 : Sep r22 _ := Sep.of_new (Own.ext hown13 hE21) (fun k h => Own.ge hop22 h)
  have hsep24 : Sep r22 _ := Sep.of_new hown18 (fun k h => Own.ge hop22 h)
  replace hE2 := Ex.tr hE2 hx22
  replace hE4 := Ex.tr hE4 hx22
  replace hE6 := Ex.tr hE6 hx22
  replace hE8 := Ex.tr hE8 hx22
  replace hE10 := Ex.tr hE10 hx22
  replace hE15 := Ex.tr hE15 hx22
  replace hE21 := Ex.tr hE21 hx22
  have hE25 := hx22
  rw [if_pos aw1, aw2] at hop22
  refine RG.vl rfl rfl rfl (Ev.move rfl rfl) ?_
  refine RG.vl rfl rfl rfl (Ev.extract rfl rfl rfl) ?_
  refine RG.vl rfl rfl rfl (Ev.extract rfl rfl rfl) ?_
  refine RG.vl rfl rfl rfl (Ev.assign rfl rfl) ?_
  refine RG.vl rfl rfl rfl (Ev.assign rfl rfl) ?_
  refine RG.done ?_
  refine QW.then_ ?_
  refine CW.seq ?_
  refine CW.region ?_
  refine RG.vl rfl rfl rfl (Ev.move rfl rfl) ?_
  refine RG.call rfl rfl rfl rfl rfl rfl rfl en_24 (roots_ret _ [2, 3, 1] _ ((hop22.rdl encN_len)) (by decide)) ?_
  have hpre26 := (Ex.tr hB0 hE2)
  rintro _ w26 ⟨r26, rfl, hor26, hx26⟩
  have hsep27 : Sep r26 _ := Sep.of_new (Own.ext hown13 hE21) (fun k h => Own.ge hor26 h)
  have hsep28 : Sep r26 _ := Sep.of_new (Own.ext hown18 hE25) (fun k h => Own.ge hor26 h)
  have hsep29 : Sep r26 _ := Sep.of_new hop22 (fun k h => Own.ge hor26 h)
  replace hE2 := Ex.tr hE2 hx26
  replace hE4 := Ex.tr hE4 hx26
  replace hE6 := Ex.tr hE6 hx26
  replace hE8 := Ex.tr hE8 hx26
  replace hE10 := Ex.tr hE10 hx26
  replace hE15 := Ex.tr hE15 hx26
  replace hE21 := Ex.tr hE21 hx26
  replace hE25 := Ex.tr hE25 hx26
  have hE30 := hx26
  rw [if_pos aw9, aw4] at hor26
  refine RG.vl rfl rfl rfl (Ev.move rfl rfl) ?_
  refine RG.vl rfl rfl rfl (Ev.extract rfl rfl rfl) ?_
  refine RG.vl rfl rfl rfl (Ev.extract rfl rfl rfl) ?_
  refine RG.vl rfl rfl rfl (Ev.assign rfl rfl) ?_
  refine RG.vl rfl rfl rfl (Ev.assign rfl rfl) ?_
  refine RG.done ?_
  refine QW.sub (S' := [(0, _), (2, _), (4, _), (6, _), (8, _), (11, _), (12, _)]) ⟨rfl, rfl, rfl, rfl, rfl, rfl, rfl, trivial⟩ ?_
  refine QW.then_ ?_
  refine CW.seq ?_
  refine CW.region ?_
  refine RG.litO (os := [_, _, _]) (enc := encN) ([0, 0, 1]) rfl rfl rfl rfl rfl rfl rfl Try.underlying39 inf_5 rfl rfl rfl rfl rfl encN_len rfl rfl (fun v31 wk32 hxwk32 hown33 hnew34 => ?_)
  have hsep35 : Sep v31 _ := Sep.of_new (Own.ext hown13 hE21) hnew34
  have hsep36 : Sep v31 _ := Sep.of_new (Own.ext hown18 hE25) hnew34
  have hsep37 : Sep v31 _ := Sep.of_new (Own.ext hop22 hE30) hnew34
  have hsep38 : Sep v31 _ := Sep.of_new hor26 hnew34
  replace hE2 := Ex.tr hE2 hxwk32
  replace hE4 := Ex.tr hE4 hxwk32
  replace hE6 := Ex.tr hE6 hxwk32
  replace hE8 := Ex.tr hE8 hxwk32
  replace hE10 := Ex.tr hE10 hxwk32
  replace hE15 := Ex.tr hE15 hxwk32
  replace hE21 := Ex.tr hE21 hxwk32
  replace hE25 := Ex.tr hE25 hxwk32
  replace hE30 := Ex.tr hE30 hxwk32
  have hE39 := hxwk32
  refine RG.litO (os := [_, _]) (enc := encN) ([1, 1]) rfl rfl rfl rfl rfl rfl rfl Try.underlying39 inf_5 rfl rfl rfl rfl rfl encN_len rfl rfl (fun v40 wk41 hxwk41 hown42 hnew43 => ?_)
  have hsep44 : Sep v40 _ := Sep.of_new (Own.ext hown13 hE21) hnew43
  have hsep45 : Sep v40 _ := Sep.of_new (Own.ext hown18 hE25) hnew43
  have hsep46 : Sep v40 _ := Sep.of_new (Own.ext hop22 hE30) hnew43
  have hsep47 : Sep v40 _ := Sep.of_new (Own.ext hor26 hE39) hnew43
  have hsep48 : Sep v40 _ := Sep.of_new hown33 hnew43
  replace hE2 := Ex.tr hE2 hxwk41
  replace hE4 := Ex.tr hE4 hxwk41
  replace hE6 := Ex.tr hE6 hxwk41
  replace hE8 := Ex.tr hE8 hxwk41
  replace hE10 := Ex.tr hE10 hxwk41
  replace hE15 := Ex.tr hE15 hxwk41
  replace hE21 := Ex.tr hE21 hxwk41
  replace hE25 := Ex.tr hE25 hxwk41
  replace hE30 := Ex.tr hE30 hxwk41
  replace hE39 := Ex.tr hE39 hxwk41
  have hE49 := hxwk41
  refine RG.call rfl rfl rfl rfl rfl rfl rfl en_36 (divide_ret _ _ [0, 0, 1] [1, 1] _ (((Own.ext hown33 hE49).rdl encN_len)) ((hown42.rdl encN_len)) (by decide) (by decide)) ?_
  have hpre50 := (Ex.tr hB0 hE2)
  rintro _ w50 ⟨r150, r250, d50, e50, rfl, hod50, hoe50, hsp50, hdv50, hnd50, hx50⟩
  have hsep51 : Sep r150 _ := Sep.of_new (Own.ext hown13 hE21) (fun k h => Own.ge hod50 h)
  have hsep52 : Sep r150 _ := Sep.of_new (Own.ext hown18 hE25) (fun k h => Own.ge hod50 h)
  have hsep53 : Sep r150 _ := Sep.of_new (Own.ext hop22 hE30) (fun k h => Own.ge hod50 h)
  have hsep54 : Sep r150 _ := Sep.of_new (Own.ext hor26 hE39) (fun k h => Own.ge hod50 h)
  have hsep55 : Sep r150 _ := Sep.of_new (Own.ext hown33 hE49) (fun k h => Own.ge hod50 h)
  have hsep56 : Sep r150 _ := Sep.of_new hown42 (fun k h => Own.ge hod50 h)
  have hsep57 : Sep r250 _ := Sep.of_new (Own.ext hown13 hE21) (fun k h => Own.ge hoe50 h)
  have hsep58 : Sep r250 _ := Sep.of_new (Own.ext hown18 hE25) (fun k h => Own.ge hoe50 h)
  have hsep59 : Sep r250 _ := Sep.of_new (Own.ext hop22 hE30) (fun k h => Own.ge hoe50 h)
  have hsep60 : Sep r250 _ := Sep.of_new (Own.ext hor26 hE39) (fun k h => Own.ge hoe50 h)
  have hsep61 : Sep r250 _ := Sep.of_new (Own.ext hown33 hE49) (fun k h => Own.ge hoe50 h)
  have hsep62 : Sep r250 _ := Sep.of_new hown42 (fun k h => Own.ge hoe50 h)
  replace hE2 := Ex.tr hE2 hx50
  replace hE4 := Ex.tr hE4 hx50
  replace hE6 := Ex.tr hE6 hx50
  replace hE8 := Ex.tr hE8 hx50
  replace hE10 := Ex.tr hE10 hx50
  replace hE15 := Ex.tr hE15 hx50
  replace hE21 := Ex.tr hE21 hx50
  replace hE25 := Ex.tr hE25 hx50
  replace hE30 := Ex.tr hE30 hx50
  replace hE39 := Ex.tr hE39 hx50
  replace hE49 := Ex.tr hE49 hx50
  have hE63 := hx50
  refine RG.vl rfl rfl rfl (Ev.move rfl rfl) ?_
  refine RG.vl rfl rfl rfl (Ev.extract rfl rfl rfl) ?_
  refine RG.vl rfl rfl rfl (Ev.extract rfl rfl rfl) ?_
  refine RG.vl rfl rfl rfl (Ev.extract rfl rfl rfl) ?_
  refine RG.vl rfl rfl rfl (Ev.assign rfl rfl) ?_
  refine RG.vl rfl rfl rfl (Ev.assign rfl rfl) ?_
  refine RG.vl rfl rfl rfl (Ev.assign rfl rfl) ?_
  refine RG.done ?_
  refine QW.then_ ?_
  refine CW.seq ?_
  obtain ⟨rfl, rfl⟩ := aw6 (hdv50 aw5)
  refine CW.region ?_
  refine RG.litO (os := [_, _]) (enc := encN) ([0, 1]) rfl rfl rfl rfl rfl rfl rfl Try.underlying39 inf_5 rfl rfl rfl rfl rfl encN_len rfl rfl (fun v64 wk65 hxwk65 hown66 hnew67 => ?_)
  have hsep68 : Sep v64 _ := Sep.of_new (Own.ext hown13 hE21) hnew67
  have hsep69 : Sep v64 _ := Sep.of_new (Own.ext hown18 hE25) hnew67
  have hsep70 : Sep v64 _ := Sep.of_new (Own.ext hop22 hE30) hnew67
  have hsep71 : Sep v64 _ := Sep.of_new (Own.ext hor26 hE39) hnew67
  have hsep72 : Sep v64 _ := Sep.of_new (Own.ext hown33 hE49) hnew67
  have hsep73 : Sep v64 _ := Sep.of_new (Own.ext hown42 hE63) hnew67
  have hsep74 : Sep v64 _ := Sep.of_new hod50 hnew67
  have hsep75 : Sep v64 _ := Sep.of_new hoe50 hnew67
  replace hE2 := Ex.tr hE2 hxwk65
  replace hE4 := Ex.tr hE4 hxwk65
  replace hE6 := Ex.tr hE6 hxwk65
  replace hE8 := Ex.tr hE8 hxwk65
  replace hE10 := Ex.tr hE10 hxwk65
  replace hE15 := Ex.tr hE15 hxwk65
  replace hE21 := Ex.tr hE21 hxwk65
  replace hE25 := Ex.tr hE25 hxwk65
  replace hE30 := Ex.tr hE30 hxwk65
  replace hE39 := Ex.tr hE39 hxwk65
  replace hE49 := Ex.tr hE49 hxwk65
  replace hE63 := Ex.tr hE63 hxwk65
  have hE76 := hxwk65
  refine RG.litO (os := [_, _]) (enc := encN) ([5, 4]) rfl rfl rfl rfl rfl rfl rfl Try.underlying39 inf_5 rfl rfl rfl rfl rfl encN_len rfl rfl (fun v77 wk78 hxwk78 hown79 hnew80 => ?_)
  have hsep81 : Sep v77 _ := Sep.of_new (Own.ext hown13 hE21) hnew80
  have hsep82 : Sep v77 _ := Sep.of_new (Own.ext hown18 hE25) hnew80
  have hsep83 : Sep v77 _ := Sep.of_new (Own.ext hop22 hE30) hnew80
  have hsep84 : Sep v77 _ := Sep.of_new (Own.ext hor26 hE39) hnew80
  have hsep85 : Sep v77 _ := Sep.of_new (Own.ext hown33 hE49) hnew80
  have hsep86 : Sep v77 _ := Sep.of_new (Own.ext hown42 hE63) hnew80
  have hsep87 : Sep v77 _ := Sep.of_new (Own.ext hod50 hE76) hnew80
  have hsep88 : Sep v77 _ := Sep.of_new (Own.ext hoe50 hE76) hnew80
  have hsep89 : Sep v77 _ := Sep.of_new hown66 hnew80
  replace hE2 := Ex.tr hE2 hxwk78
  replace hE4 := Ex.tr hE4 hxwk78
  replace hE6 := Ex.tr hE6 hxwk78
  replace hE8 := Ex.tr hE8 hxwk78
  replace hE10 := Ex.tr hE10 hxwk78
  replace hE15 := Ex.tr hE15 hxwk78
  replace hE21 := Ex.tr hE21 hxwk78
  replace hE25 := Ex.tr hE25 hxwk78
  replace hE30 := Ex.tr hE30 hxwk78
  replace hE39 := Ex.tr hE39 hxwk78
  replace hE49 := Ex.tr hE49 hxwk78
  replace hE63 := Ex.tr hE63 hxwk78
  replace hE76 := Ex.tr hE76 hxwk78
  have hE90 := hxwk78
  refine RG.call rfl rfl rfl rfl rfl rfl rfl en_25 (through_ret _ _ [0, 1] [5, 4] _ (((Own.ext hown66 hE90).rdl encN_len)) ((hown79.rdl encN_len)) (by decide)) ?_
  have hpre91 := (Ex.tr hB0 hE2)
  rintro _ w91 ⟨r91, t91, rfl, hot91, hth91, hnt91, hx91⟩
  have hsep92 : Sep r91 _ := Sep.of_new (Own.ext hown13 hE21) (fun k h => Own.ge hot91 h)
  have hsep93 : Sep r91 _ := Sep.of_new (Own.ext hown18 hE25) (fun k h => Own.ge hot91 h)
  have hsep94 : Sep r91 _ := Sep.of_new (Own.ext hop22 hE30) (fun k h => Own.ge hot91 h)
  have hsep95 : Sep r91 _ := Sep.of_new (Own.ext hor26 hE39) (fun k h => Own.ge hot91 h)
  have hsep96 : Sep r91 _ := Sep.of_new (Own.ext hown33 hE49) (fun k h => Own.ge hot91 h)
  have hsep97 : Sep r91 _ := Sep.of_new (Own.ext hown42 hE63) (fun k h => Own.ge hot91 h)
  have hsep98 : Sep r91 _ := Sep.of_new (Own.ext hod50 hE76) (fun k h => Own.ge hot91 h)
  have hsep99 : Sep r91 _ := Sep.of_new (Own.ext hoe50 hE76) (fun k h => Own.ge hot91 h)
  have hsep100 : Sep r91 _ := Sep.of_new (Own.ext hown66 hE90) (fun k h => Own.ge hot91 h)
  have hsep101 : Sep r91 _ := Sep.of_new hown79 (fun k h => Own.ge hot91 h)
  replace hE2 := Ex.tr hE2 hx91
  replace hE4 := Ex.tr hE4 hx91
  replace hE6 := Ex.tr hE6 hx91
  replace hE8 := Ex.tr hE8 hx91
  replace hE10 := Ex.tr hE10 hx91
  replace hE15 := Ex.tr hE15 hx91
  replace hE21 := Ex.tr hE21 hx91
  replace hE25 := Ex.tr hE25 hx91
  replace hE30 := Ex.tr hE30 hx91
  replace hE39 := Ex.tr hE39 hx91
  replace hE49 := Ex.tr hE49 hx91
  replace hE63 := Ex.tr hE63 hx91
  replace hE76 := Ex.tr hE76 hx91
  replace hE90 := Ex.tr hE90 hx91
  have hE102 := hx91
  refine RG.vl rfl rfl rfl (Ev.move rfl rfl) ?_
  refine RG.vl rfl rfl rfl (Ev.extract rfl rfl rfl) ?_
  refine RG.vl rfl rfl rfl (Ev.extract rfl rfl rfl) ?_
  refine RG.vl rfl rfl rfl (Ev.assign rfl rfl) ?_
  refine RG.vl rfl rfl rfl (Ev.assign rfl rfl) ?_
  refine RG.done ?_
  refine QW.sub (S' := [(0, _), (2, _), (4, _), (6, _), (8, _), (11, _), (12, _), (13, _), (14, _), (15, _)]) ⟨rfl, rfl, rfl, rfl, rfl, rfl, rfl, rfl, rfl, rfl, trivial⟩ ?_
  refine QW.then_ ?_
  refine CW.seq ?_
  obtain rfl := aw8 (hth91 aw7)
  refine CW.region ?_
  refine RG.vl rfl rfl rfl (Ev.move rfl rfl) ?_
  refine RG.vl rfl rfl rfl (Ev.move rfl rfl) ?_
  refine RG.vl rfl rfl rfl (Ev.addI rfl rfl rfl (by decide)) ?_
  refine RG.vl rfl rfl rfl (Ev.move rfl rfl) ?_
  refine RG.vl rfl rfl rfl (Ev.addI rfl rfl rfl (by decide)) ?_
  refine RG.vl rfl rfl rfl (Ev.move rfl rfl) ?_
  refine RG.vl rfl rfl rfl (Ev.addI rfl rfl rfl (by decide)) ?_
  refine RG.vl rfl rfl rfl (Ev.isT (Ev.eqI rfl rfl rfl) (by decide)) ?_
  refine RG.vl rfl rfl rfl (Ev.move rfl rfl) ?_
  refine RG.vl rfl rfl rfl (Ev.move rfl rfl) ?_
  refine RG.litO (os := [_, _, _]) (enc := encN) ([2, 3, 1]) rfl rfl rfl rfl rfl rfl rfl Try.underlying39 inf_5 rfl rfl rfl rfl rfl encN_len rfl rfl (fun v103 wk104 hxwk104 hown105 hnew106 => ?_)
  have hsep107 : Sep v103 _ := Sep.of_new (Own.ext hown13 hE21) hnew106
  have hsep108 : Sep v103 _ := Sep.of_new (Own.ext hown18 hE25) hnew106
  have hsep109 : Sep v103 _ := Sep.of_new (Own.ext hop22 hE30) hnew106
  have hsep110 : Sep v103 _ := Sep.of_new (Own.ext hor26 hE39) hnew106
  have hsep111 : Sep v103 _ := Sep.of_new (Own.ext hown33 hE49) hnew106
  have hsep112 : Sep v103 _ := Sep.of_new (Own.ext hown42 hE63) hnew106
  have hsep113 : Sep v103 _ := Sep.of_new (Own.ext hod50 hE76) hnew106
  have hsep114 : Sep v103 _ := Sep.of_new (Own.ext hoe50 hE76) hnew106
  have hsep115 : Sep v103 _ := Sep.of_new (Own.ext hown66 hE90) hnew106
  have hsep116 : Sep v103 _ := Sep.of_new (Own.ext hown79 hE102) hnew106
  have hsep117 : Sep v103 _ := Sep.of_new hot91 hnew106
  replace hE2 := Ex.tr hE2 hxwk104
  replace hE4 := Ex.tr hE4 hxwk104
  replace hE6 := Ex.tr hE6 hxwk104
  replace hE8 := Ex.tr hE8 hxwk104
  replace hE10 := Ex.tr hE10 hxwk104
  replace hE15 := Ex.tr hE15 hxwk104
  replace hE21 := Ex.tr hE21 hxwk104
  replace hE25 := Ex.tr hE25 hxwk104
  replace hE30 := Ex.tr hE30 hxwk104
  replace hE39 := Ex.tr hE39 hxwk104
  replace hE49 := Ex.tr hE49 hxwk104
  replace hE63 := Ex.tr hE63 hxwk104
  replace hE76 := Ex.tr hE76 hxwk104
  replace hE90 := Ex.tr hE90 hxwk104
  replace hE102 := Ex.tr hE102 hxwk104
  have hE118 := hxwk104
  refine RG.call rfl rfl rfl rfl rfl rfl rfl en_31 (sameT _ _ _ _ _ (((Own.ext hop22 hE30).rdl encN_len)) ((hown105.rdl encN_len)) (by decide) rfl) ?_
  rintro _ w119 ⟨rfl, hx119⟩
  replace hE2 := Ex.tr hE2 hx119
  replace hE4 := Ex.tr hE4 hx119
  replace hE6 := Ex.tr hE6 hx119
  replace hE8 := Ex.tr hE8 hx119
  replace hE10 := Ex.tr hE10 hx119
  replace hE15 := Ex.tr hE15 hx119
  replace hE21 := Ex.tr hE21 hx119
  replace hE25 := Ex.tr hE25 hx119
  replace hE30 := Ex.tr hE30 hx119
  replace hE39 := Ex.tr hE39 hx119
  replace hE49 := Ex.tr hE49 hx119
  replace hE63 := Ex.tr hE63 hx119
  replace hE76 := Ex.tr hE76 hx119
  replace hE90 := Ex.tr hE90 hx119
  replace hE102 := Ex.tr hE102 hx119
  replace hE118 := Ex.tr hE118 hx119
  have hE120 := hx119
  refine RG.vl rfl rfl rfl (Ev.pickT rfl rfl rfl) ?_
  refine RG.vl rfl rfl rfl (Ev.move rfl rfl) ?_
  refine RG.vl rfl rfl rfl (Ev.move rfl rfl) ?_
  refine RG.litO (os := [_, _]) (enc := encN) ([1, 2]) rfl rfl rfl rfl rfl rfl rfl Try.underlying39 inf_5 rfl rfl rfl rfl rfl encN_len rfl rfl (fun v121 wk122 hxwk122 hown123 hnew124 => ?_)
  have hsep125 : Sep v121 _ := Sep.of_new (Own.ext hown13 hE21) hnew124
  have hsep126 : Sep v121 _ := Sep.of_new (Own.ext hown18 hE25) hnew124
  have hsep127 : Sep v121 _ := Sep.of_new (Own.ext hop22 hE30) hnew124
  have hsep128 : Sep v121 _ := Sep.of_new (Own.ext hor26 hE39) hnew124
  have hsep129 : Sep v121 _ := Sep.of_new (Own.ext hown33 hE49) hnew124
  have hsep130 : Sep v121 _ := Sep.of_new (Own.ext hown42 hE63) hnew124
  have hsep131 : Sep v121 _ := Sep.of_new (Own.ext hod50 hE76) hnew124
  have hsep132 : Sep v121 _ := Sep.of_new (Own.ext hoe50 hE76) hnew124
  have hsep133 : Sep v121 _ := Sep.of_new (Own.ext hown66 hE90) hnew124
  have hsep134 : Sep v121 _ := Sep.of_new (Own.ext hown79 hE102) hnew124
  have hsep135 : Sep v121 _ := Sep.of_new (Own.ext hot91 hE118) hnew124
  have hsep136 : Sep v121 _ := Sep.of_new (Own.ext hown105 hE120) hnew124
  replace hE2 := Ex.tr hE2 hxwk122
  replace hE4 := Ex.tr hE4 hxwk122
  replace hE6 := Ex.tr hE6 hxwk122
  replace hE8 := Ex.tr hE8 hxwk122
  replace hE10 := Ex.tr hE10 hxwk122
  replace hE15 := Ex.tr hE15 hxwk122
  replace hE21 := Ex.tr hE21 hxwk122
  replace hE25 := Ex.tr hE25 hxwk122
  replace hE30 := Ex.tr hE30 hxwk122
  replace hE39 := Ex.tr hE39 hxwk122
  replace hE49 := Ex.tr hE49 hxwk122
  replace hE63 := Ex.tr hE63 hxwk122
  replace hE76 := Ex.tr hE76 hxwk122
  replace hE90 := Ex.tr hE90 hxwk122
  replace hE102 := Ex.tr hE102 hxwk122
  replace hE118 := Ex.tr hE118 hxwk122
  replace hE120 := Ex.tr hE120 hxwk122
  have hE137 := hxwk122
  refine RG.call rfl rfl rfl rfl rfl rfl rfl en_31 (sameT _ _ _ _ _ (((Own.ext hor26 hE39).rdl encN_len)) ((hown123.rdl encN_len)) (by decide) rfl) ?_
  rintro _ w138 ⟨rfl, hx138⟩
  replace hE2 := Ex.tr hE2 hx138
  replace hE4 := Ex.tr hE4 hx138
  replace hE6 := Ex.tr hE6 hx138
  replace hE8 := Ex.tr hE8 hx138
  replace hE10 := Ex.tr hE10 hx138
  replace hE15 := Ex.tr hE15 hx138
  replace hE21 := Ex.tr hE21 hx138
  replace hE25 := Ex.tr hE25 hx138
  replace hE30 := Ex.tr hE30 hx138
  replace hE39 := Ex.tr hE39 hx138
  replace hE49 := Ex.tr hE49 hx138
  replace hE63 := Ex.tr hE63 hx138
  replace hE76 := Ex.tr hE76 hx138
  replace hE90 := Ex.tr hE90 hx138
  replace hE102 := Ex.tr hE102 hx138
  replace hE118 := Ex.tr hE118 hx138
  replace hE120 := Ex.tr hE120 hx138
  replace hE137 := Ex.tr hE137 hx138
  have hE139 := hx138
  refine RG.vl rfl rfl rfl (Ev.pickT rfl rfl rfl) ?_
  refine RG.vl rfl rfl rfl (Ev.move rfl rfl) ?_
  refine RG.vl rfl rfl rfl (Ev.move rfl rfl) ?_
  refine RG.litO (os := [_, _]) (enc := encN) ([1, 1]) rfl rfl rfl rfl rfl rfl rfl Try.underlying39 inf_5 rfl rfl rfl rfl rfl encN_len rfl rfl (fun v140 wk141 hxwk141 hown142 hnew143 => ?_)
  have hsep144 : Sep v140 _ := Sep.of_new (Own.ext hown13 hE21) hnew143
  have hsep145 : Sep v140 _ := Sep.of_new (Own.ext hown18 hE25) hnew143
  have hsep146 : Sep v140 _ := Sep.of_new (Own.ext hop22 hE30) hnew143
  have hsep147 : Sep v140 _ := Sep.of_new (Own.ext hor26 hE39) hnew143
  have hsep148 : Sep v140 _ := Sep.of_new (Own.ext hown33 hE49) hnew143
  have hsep149 : Sep v140 _ := Sep.of_new (Own.ext hown42 hE63) hnew143
  have hsep150 : Sep v140 _ := Sep.of_new (Own.ext hod50 hE76) hnew143
  have hsep151 : Sep v140 _ := Sep.of_new (Own.ext hoe50 hE76) hnew143
  have hsep152 : Sep v140 _ := Sep.of_new (Own.ext hown66 hE90) hnew143
  have hsep153 : Sep v140 _ := Sep.of_new (Own.ext hown79 hE102) hnew143
  have hsep154 : Sep v140 _ := Sep.of_new (Own.ext hot91 hE118) hnew143
  have hsep155 : Sep v140 _ := Sep.of_new (Own.ext hown105 hE120) hnew143
  have hsep156 : Sep v140 _ := Sep.of_new (Own.ext hown123 hE139) hnew143
  replace hE2 := Ex.tr hE2 hxwk141
  replace hE4 := Ex.tr hE4 hxwk141
  replace hE6 := Ex.tr hE6 hxwk141
  replace hE8 := Ex.tr hE8 hxwk141
  replace hE10 := Ex.tr hE10 hxwk141
  replace hE15 := Ex.tr hE15 hxwk141
  replace hE21 := Ex.tr hE21 hxwk141
  replace hE25 := Ex.tr hE25 hxwk141
  replace hE30 := Ex.tr hE30 hxwk141
  replace hE39 := Ex.tr hE39 hxwk141
  replace hE49 := Ex.tr hE49 hxwk141
  replace hE63 := Ex.tr hE63 hxwk141
  replace hE76 := Ex.tr hE76 hxwk141
  replace hE90 := Ex.tr hE90 hxwk141
  replace hE102 := Ex.tr hE102 hxwk141
  replace hE118 := Ex.tr hE118 hxwk141
  replace hE120 := Ex.tr hE120 hxwk141
  replace hE137 := Ex.tr hE137 hxwk141
  replace hE139 := Ex.tr hE139 hxwk141
  have hE157 := hxwk141
  refine RG.call rfl rfl rfl rfl rfl rfl rfl en_31 (sameT _ _ _ _ _ (((Own.ext hod50 hE76).rdl encN_len)) ((hown142.rdl encN_len)) (by decide) rfl) ?_
  rintro _ w158 ⟨rfl, hx158⟩
  replace hE2 := Ex.tr hE2 hx158
  replace hE4 := Ex.tr hE4 hx158
  replace hE6 := Ex.tr hE6 hx158
  replace hE8 := Ex.tr hE8 hx158
  replace hE10 := Ex.tr hE10 hx158
  replace hE15 := Ex.tr hE15 hx158
  replace hE21 := Ex.tr hE21 hx158
  replace hE25 := Ex.tr hE25 hx158
  replace hE30 := Ex.tr hE30 hx158
  replace hE39 := Ex.tr hE39 hx158
  replace hE49 := Ex.tr hE49 hx158
  replace hE63 := Ex.tr hE63 hx158
  replace hE76 := Ex.tr hE76 hx158
  replace hE90 := Ex.tr hE90 hx158
  replace hE102 := Ex.tr hE102 hx158
  replace hE118 := Ex.tr hE118 hx158
  replace hE120 := Ex.tr hE120 hx158
  replace hE137 := Ex.tr hE137 hx158
  replace hE139 := Ex.tr hE139 hx158
  replace hE157 := Ex.tr hE157 hx158
  have hE159 := hx158
  refine RG.vl rfl rfl rfl (Ev.pickT rfl rfl rfl) ?_
  refine RG.vl rfl rfl rfl (Ev.move rfl rfl) ?_
  refine RG.vl rfl rfl rfl (Ev.move rfl rfl) ?_
  refine RG.litO (os := [_]) (enc := encN) ([1]) rfl rfl rfl rfl rfl rfl rfl Try.underlying39 inf_5 rfl rfl rfl rfl rfl encN_len rfl rfl (fun v160 wk161 hxwk161 hown162 hnew163 => ?_)
  have hsep164 : Sep v160 _ := Sep.of_new (Own.ext hown13 hE21) hnew163
  have hsep165 : Sep v160 _ := Sep.of_new (Own.ext hown18 hE25) hnew163
  have hsep166 : Sep v160 _ := Sep.of_new (Own.ext hop22 hE30) hnew163
  have hsep167 : Sep v160 _ := Sep.of_new (Own.ext hor26 hE39) hnew163
  have hsep168 : Sep v160 _ := Sep.of_new (Own.ext hown33 hE49) hnew163
  have hsep169 : Sep v160 _ := Sep.of_new (Own.ext hown42 hE63) hnew163
  have hsep170 : Sep v160 _ := Sep.of_new (Own.ext hod50 hE76) hnew163
  have hsep171 : Sep v160 _ := Sep.of_new (Own.ext hoe50 hE76) hnew163
  have hsep172 : Sep v160 _ := Sep.of_new (Own.ext hown66 hE90) hnew163
  have hsep173 : Sep v160 _ := Sep.of_new (Own.ext hown79 hE102) hnew163
  have hsep174 : Sep v160 _ := Sep.of_new (Own.ext hot91 hE118) hnew163
  have hsep175 : Sep v160 _ := Sep.of_new (Own.ext hown105 hE120) hnew163
  have hsep176 : Sep v160 _ := Sep.of_new (Own.ext hown123 hE139) hnew163
  have hsep177 : Sep v160 _ := Sep.of_new (Own.ext hown142 hE159) hnew163
  replace hE2 := Ex.tr hE2 hxwk161
  replace hE4 := Ex.tr hE4 hxwk161
  replace hE6 := Ex.tr hE6 hxwk161
  replace hE8 := Ex.tr hE8 hxwk161
  replace hE10 := Ex.tr hE10 hxwk161
  replace hE15 := Ex.tr hE15 hxwk161
  replace hE21 := Ex.tr hE21 hxwk161
  replace hE25 := Ex.tr hE25 hxwk161
  replace hE30 := Ex.tr hE30 hxwk161
  replace hE39 := Ex.tr hE39 hxwk161
  replace hE49 := Ex.tr hE49 hxwk161
  replace hE63 := Ex.tr hE63 hxwk161
  replace hE76 := Ex.tr hE76 hxwk161
  replace hE90 := Ex.tr hE90 hxwk161
  replace hE102 := Ex.tr hE102 hxwk161
  replace hE118 := Ex.tr hE118 hxwk161
  replace hE120 := Ex.tr hE120 hxwk161
  replace hE137 := Ex.tr hE137 hxwk161
  replace hE139 := Ex.tr hE139 hxwk161
  replace hE157 := Ex.tr hE157 hxwk161
  replace hE159 := Ex.tr hE159 hxwk161
  have hE178 := hxwk161
  refine RG.call rfl rfl rfl rfl rfl rfl rfl en_31 (sameT _ _ _ _ _ (((Own.ext hoe50 hE76).rdl encN_len)) ((hown162.rdl encN_len)) (by decide) rfl) ?_
  rintro _ w179 ⟨rfl, hx179⟩
  replace hE2 := Ex.tr hE2 hx179
  replace hE4 := Ex.tr hE4 hx179
  replace hE6 := Ex.tr hE6 hx179
  replace hE8 := Ex.tr hE8 hx179
  replace hE10 := Ex.tr hE10 hx179
  replace hE15 := Ex.tr hE15 hx179
  replace hE21 := Ex.tr hE21 hx179
  replace hE25 := Ex.tr hE25 hx179
  replace hE30 := Ex.tr hE30 hx179
  replace hE39 := Ex.tr hE39 hx179
  replace hE49 := Ex.tr hE49 hx179
  replace hE63 := Ex.tr hE63 hx179
  replace hE76 := Ex.tr hE76 hx179
  replace hE90 := Ex.tr hE90 hx179
  replace hE102 := Ex.tr hE102 hx179
  replace hE118 := Ex.tr hE118 hx179
  replace hE120 := Ex.tr hE120 hx179
  replace hE137 := Ex.tr hE137 hx179
  replace hE139 := Ex.tr hE139 hx179
  replace hE157 := Ex.tr hE157 hx179
  replace hE159 := Ex.tr hE159 hx179
  replace hE178 := Ex.tr hE178 hx179
  have hE180 := hx179
  refine RG.vl rfl rfl rfl (Ev.pickT rfl rfl rfl) ?_
  refine RG.vl rfl rfl rfl (Ev.move rfl rfl) ?_
  refine RG.vl rfl rfl rfl (Ev.move rfl rfl) ?_
  refine RG.litO (os := [_, _]) (enc := encN) ([5, 1]) rfl rfl rfl rfl rfl rfl rfl Try.underlying39 inf_5 rfl rfl rfl rfl rfl encN_len rfl rfl (fun v181 wk182 hxwk182 hown183 hnew184 => ?_)
  have hsep185 : Sep v181 _ := Sep.of_new (Own.ext hown13 hE21) hnew184
  have hsep186 : Sep v181 _ := Sep.of_new (Own.ext hown18 hE25) hnew184
  have hsep187 : Sep v181 _ := Sep.of_new (Own.ext hop22 hE30) hnew184
  have hsep188 : Sep v181 _ := Sep.of_new (Own.ext hor26 hE39) hnew184
  have hsep189 : Sep v181 _ := Sep.of_new (Own.ext hown33 hE49) hnew184
  have hsep190 : Sep v181 _ := Sep.of_new (Own.ext hown42 hE63) hnew184
  have hsep191 : Sep v181 _ := Sep.of_new (Own.ext hod50 hE76) hnew184
  have hsep192 : Sep v181 _ := Sep.of_new (Own.ext hoe50 hE76) hnew184
  have hsep193 : Sep v181 _ := Sep.of_new (Own.ext hown66 hE90) hnew184
  have hsep194 : Sep v181 _ := Sep.of_new (Own.ext hown79 hE102) hnew184
  have hsep195 : Sep v181 _ := Sep.of_new (Own.ext hot91 hE118) hnew184
  have hsep196 : Sep v181 _ := Sep.of_new (Own.ext hown105 hE120) hnew184
  have hsep197 : Sep v181 _ := Sep.of_new (Own.ext hown123 hE139) hnew184
  have hsep198 : Sep v181 _ := Sep.of_new (Own.ext hown142 hE159) hnew184
  have hsep199 : Sep v181 _ := Sep.of_new (Own.ext hown162 hE180) hnew184
  replace hE2 := Ex.tr hE2 hxwk182
  replace hE4 := Ex.tr hE4 hxwk182
  replace hE6 := Ex.tr hE6 hxwk182
  replace hE8 := Ex.tr hE8 hxwk182
  replace hE10 := Ex.tr hE10 hxwk182
  replace hE15 := Ex.tr hE15 hxwk182
  replace hE21 := Ex.tr hE21 hxwk182
  replace hE25 := Ex.tr hE25 hxwk182
  replace hE30 := Ex.tr hE30 hxwk182
  replace hE39 := Ex.tr hE39 hxwk182
  replace hE49 := Ex.tr hE49 hxwk182
  replace hE63 := Ex.tr hE63 hxwk182
  replace hE76 := Ex.tr hE76 hxwk182
  replace hE90 := Ex.tr hE90 hxwk182
  replace hE102 := Ex.tr hE102 hxwk182
  replace hE118 := Ex.tr hE118 hxwk182
  replace hE120 := Ex.tr hE120 hxwk182
  replace hE137 := Ex.tr hE137 hxwk182
  replace hE139 := Ex.tr hE139 hxwk182
  replace hE157 := Ex.tr hE157 hxwk182
  replace hE159 := Ex.tr hE159 hxwk182
  replace hE178 := Ex.tr hE178 hxwk182
  replace hE180 := Ex.tr hE180 hxwk182
  have hE200 := hxwk182
  refine RG.call rfl rfl rfl rfl rfl rfl rfl en_31 (sameT _ _ _ _ _ (((Own.ext hot91 hE118).rdl encN_len)) ((hown183.rdl encN_len)) (by decide) rfl) ?_
  rintro _ w201 ⟨rfl, hx201⟩
  replace hE2 := Ex.tr hE2 hx201
  replace hE4 := Ex.tr hE4 hx201
  replace hE6 := Ex.tr hE6 hx201
  replace hE8 := Ex.tr hE8 hx201
  replace hE10 := Ex.tr hE10 hx201
  replace hE15 := Ex.tr hE15 hx201
  replace hE21 := Ex.tr hE21 hx201
  replace hE25 := Ex.tr hE25 hx201
  replace hE30 := Ex.tr hE30 hx201
  replace hE39 := Ex.tr hE39 hx201
  replace hE49 := Ex.tr hE49 hx201
  replace hE63 := Ex.tr hE63 hx201
  replace hE76 := Ex.tr hE76 hx201
  replace hE90 := Ex.tr hE90 hx201
  replace hE102 := Ex.tr hE102 hx201
  replace hE118 := Ex.tr hE118 hx201
  replace hE120 := Ex.tr hE120 hx201
  replace hE137 := Ex.tr hE137 hx201
  replace hE139 := Ex.tr hE139 hx201
  replace hE157 := Ex.tr hE157 hx201
  replace hE159 := Ex.tr hE159 hx201
  replace hE178 := Ex.tr hE178 hx201
  replace hE180 := Ex.tr hE180 hx201
  replace hE200 := Ex.tr hE200 hx201
  have hE202 := hx201
  refine RG.vl rfl rfl rfl (Ev.pickT rfl rfl rfl) ?_
  refine RG.vl rfl rfl rfl (Ev.assign rfl rfl) ?_
  refine RG.done ?_
  refine QW.sub (S' := [(0, _)]) ⟨rfl, trivial⟩ ?_
  refine QW.then_ ?_
  refine CW.ret ?_
  refine QW.ret1 rfl rfl ?_
  have hB := (Ex.tr hB0 hE2)
  exact ⟨rfl, hB⟩

set_option maxRecDepth 100000 in
set_option maxHeartbeats 1000000 in
theorem times_ret (a b gk : Nat) (w : World) (ha : a < 64) (hb : b < 64) (hk : Blk w gk 4 [.bool true]) :
    Ret Try.prog 12 [.int .u8 (a : Int), .int .u8 (b : Int), .pointer (some ⟨gk, 0, none⟩)] w (fun v w' => v = .int .u8 (gm a b : Int) ∧ ∃ w1, Ex w w1 ∧ Wr w1 w' gk ∧ Blk w' gk 4 [.bool true]) := by
  have hB0 : Ex w w := Ex.rfl_ _
  refine Ret.of Try.func12 rfl Try.ntmps12 rfl ?_
  refine CW.seq ?_
  refine CW.region ?_
  refine RG.vl rfl rfl rfl (Ev.assign rfl rfl) ?_
  refine RG.done ?_
  refine QW.then_ ?_
  refine CW.seq ?_
  refine CW.region ?_
  refine RG.vl rfl rfl rfl (Ev.move rfl rfl) ?_
  refine RG.vl rfl rfl rfl (Ev.move rfl rfl) ?_
  refine RG.call rfl rfl rfl rfl rfl rfl rfl en_15 (Mul_el a b _ ha hb) ?_
  rintro _ w1 ⟨rfl, hx1⟩
  have hE2 := hx1
  refine RG.vl rfl rfl rfl (Ev.move rfl rfl) ?_
  refine RG.vl rfl rfl rfl (Ev.extract rfl rfl rfl) ?_
  refine RG.vl rfl rfl rfl (Ev.extract rfl rfl rfl) ?_
  refine RG.vl rfl rfl rfl (Ev.assign rfl rfl) ?_
  refine RG.vl rfl rfl rfl (Ev.assign rfl rfl) ?_
  refine RG.done ?_
  refine QW.then_ ?_
  refine CW.seq ?_
  refine CW.region ?_
  refine RG.vl rfl rfl rfl (Ev.move rfl rfl) ?_
  refine RG.vl rfl rfl rfl (Ev.move rfl rfl) ?_
  refine RG.vl rfl rfl rfl (Ev.nilC rfl rfl) ?_
  refine RG.vl rfl rfl rfl (Ev.ld0 rfl rfl Try.underlying4 rfl ((hk.ext hE2).cells) (rfl)) ?_
  refine RG.vl rfl rfl rfl (Ev.move rfl rfl) ?_
  refine RG.vl rfl rfl rfl (Ev.move rfl rfl) ?_
  refine RG.vl rfl rfl rfl (Ev.isT (Ev.eqI rfl rfl rfl) (rfl)) ?_
  refine RG.vl rfl rfl rfl (Ev.pickT rfl rfl rfl) ?_
  refine RG.vl rfl rfl rfl (Ev.nilC rfl rfl) ?_
  refine RG.st (g := gk) (k := 0) rfl rfl rfl rfl rfl sz_4 rfl (hk.ext hE2) rfl (fun ws3 hwws3 hbws3 => ?_)
  have hpreW := (Ex.tr hB0 hE2)
  refine RG.done ?_
  refine QW.sub (S' := [(6, _), (7, _)]) ⟨rfl, rfl, trivial⟩ ?_
  refine QW.then_ ?_
  refine CW.seq ?_
  refine CW.region ?_
  refine RG.vl rfl rfl rfl (Ev.move rfl rfl) ?_
  refine RG.vl rfl rfl rfl (Ev.assign rfl rfl) ?_
  refine RG.done ?_
  refine QW.then_ ?_
  refine CW.ret ?_
  refine QW.ret1 rfl rfl ?_
  exact ⟨rfl, _, hpreW, hwws3, hbws3⟩

end Go.Proofs.Ytjaledljhiihmaa
