/- Walks (DJ). Written by program. -/
import Derived.Test.YtnhkhpnkhkagaaaDoorT
import Derived.Test.YtnhkhpnkhkagaaaDoorDK
namespace Go.Proofs.YtnhkhpnkhkagaaaDoor
open Go.RowKit
set_option maxRecDepth 100000 in
set_option maxHeartbeats 8000000 in
theorem awake_ret  (w : World)  :
    Ret Tryd.prog 12 [] w (fun v w' => v = .bool true ∧ Ex w w') := by
  have hB0 : Ex w w := Ex.rfl_ _
  refine Ret.of Tryd.func12 rfl Tryd.ntmps12 rfl ?_
  refine CW.seq ?_
  refine CW.region ?_
  refine RG.vl rfl rfl rfl (Ev.assign rfl rfl) ?_
  refine RG.done ?_
  refine QW.then_ ?_
  refine CW.seq ?_
  refine CW.region ?_
  refine RG.litO (os := [_, _]) (enc := encI) ([3, 1]) rfl rfl rfl rfl rfl rfl rfl Tryd.underlying22 inf_3 rfl rfl rfl rfl rfl encI_len rfl rfl (fun vE wk1 hxwk1 hown2 hnew3 => ?_)
  have hE4 := hxwk1
  obtain ⟨AvE, CvE, rfl⟩ := hown2.shape
  refine RG.vl rfl rfl rfl (Ev.build1 rfl rfl rfl inf_24 rfl rfl (by kernel_rfl) rfl) ?_
  refine RG.local_ rfl rfl rfl rfl (fun _ => rfl) rfl rfl (fun _ => rfl) inf_24 rfl rfl rfl (fun g5 w5 eg5 hx5 hb5 => ?_)
  have hsb6 := fun e => sep_new (g := g5) hown2 eg5 e
  have hle7 : w.heap.size ≤ g5 := by have := hE4.size; omega
  have hle8 : wk1.heap.size ≤ g5 := by have := (Ex.rfl_ wk1).size; omega
  replace hE4 := Ex.tr hE4 hx5
  have hE9 := hx5
  refine RG.done ?_
  refine QW.then_ ?_
  refine CW.seq ?_
  refine CW.region ?_
  refine RG.litO (os := [_, _, _, _, _, _, _, _, _]) (enc := encI) ([2, 3, 4, 5, 6, 7, 8, 9, 10]) rfl rfl rfl rfl rfl rfl rfl Tryd.underlying22 inf_3 rfl rfl rfl rfl rfl encI_len rfl rfl (fun vI wk10 hxwk10 hown11 hnew12 => ?_)
  have hsep13 : Sep vI _ := Sep.of_new (Own.ext hown2 hE9) hnew12
  replace hE4 := Ex.tr hE4 hxwk10
  replace hE9 := Ex.tr hE9 hxwk10
  have hE14 := hxwk10
  obtain ⟨AvI, CvI, rfl⟩ := hown11.shape
  refine RG.vl rfl rfl rfl (Ev.build1 rfl rfl rfl inf_24 rfl rfl (by kernel_rfl) rfl) ?_
  refine RG.local_ rfl rfl rfl rfl (fun _ => rfl) rfl rfl (fun _ => rfl) inf_24 rfl rfl rfl (fun g15 w15 eg15 hx15 hb15 => ?_)
  have hsb16 := fun e => sep_new (g := g15) (Own.ext hown2 hE9) eg15 e
  have hsb17 := fun e => sep_new (g := g15) hown11 eg15 e
  have hle18 : w.heap.size ≤ g15 := by have := hE4.size; omega
  have hle19 : wk1.heap.size ≤ g15 := by have := hE9.size; omega
  have hle20 : w5.heap.size ≤ g15 := by have := hE14.size; omega
  have hle21 : wk10.heap.size ≤ g15 := by have := (Ex.rfl_ wk10).size; omega
  have hlt22 : g5 < g15 := by have := Blk.lt (hb5.ext hE14); omega
  replace hE4 := Ex.tr hE4 hx15
  replace hE9 := Ex.tr hE9 hx15
  replace hE14 := Ex.tr hE14 hx15
  have hE23 := hx15
  refine RG.done ?_
  refine QW.then_ ?_
  refine CW.seq ?_
  refine CW.region ?_
  refine RG.litO (os := [_]) (enc := encI) ([5]) rfl rfl rfl rfl rfl rfl rfl Tryd.underlying22 inf_3 rfl rfl rfl rfl rfl encI_len rfl rfl (fun vF wk24 hxwk24 hown25 hnew26 => ?_)
  have hsep27 : Sep vF _ := Sep.of_new (Own.ext hown2 hE9) hnew26
  have hsep28 : Sep vF _ := Sep.of_new (Own.ext hown11 hE23) hnew26
  replace hE4 := Ex.tr hE4 hxwk24
  replace hE9 := Ex.tr hE9 hxwk24
  replace hE14 := Ex.tr hE14 hxwk24
  replace hE23 := Ex.tr hE23 hxwk24
  have hE29 := hxwk24
  obtain ⟨AvF, CvF, rfl⟩ := hown25.shape
  refine RG.vl rfl rfl rfl (Ev.build1 rfl rfl rfl inf_24 rfl rfl (by kernel_rfl) rfl) ?_
  refine RG.local_ rfl rfl rfl rfl (fun _ => rfl) rfl rfl (fun _ => rfl) inf_24 rfl rfl rfl (fun g30 w30 eg30 hx30 hb30 => ?_)
  have hsb31 := fun e => sep_new (g := g30) (Own.ext hown2 hE9) eg30 e
  have hsb32 := fun e => sep_new (g := g30) (Own.ext hown11 hE23) eg30 e
  have hsb33 := fun e => sep_new (g := g30) hown25 eg30 e
  have hle34 : w.heap.size ≤ g30 := by have := hE4.size; omega
  have hle35 : wk1.heap.size ≤ g30 := by have := hE9.size; omega
  have hle36 : w5.heap.size ≤ g30 := by have := hE14.size; omega
  have hle37 : wk10.heap.size ≤ g30 := by have := hE23.size; omega
  have hle38 : w15.heap.size ≤ g30 := by have := hE29.size; omega
  have hle39 : wk24.heap.size ≤ g30 := by have := (Ex.rfl_ wk24).size; omega
  have hlt40 : g5 < g30 := by have := Blk.lt (hb5.ext hE14); omega
  have hlt41 : g15 < g30 := by have := Blk.lt (hb15.ext hE29); omega
  replace hE4 := Ex.tr hE4 hx30
  replace hE9 := Ex.tr hE9 hx30
  replace hE14 := Ex.tr hE14 hx30
  replace hE23 := Ex.tr hE23 hx30
  replace hE29 := Ex.tr hE29 hx30
  have hE42 := hx30
  refine RG.done ?_
  refine QW.then_ ?_
  refine CW.seq ?_
  refine CW.region ?_
  refine RG.litO (os := [_]) (enc := encI) ([1]) rfl rfl rfl rfl rfl rfl rfl Tryd.underlying22 inf_3 rfl rfl rfl rfl rfl encI_len rfl rfl (fun vO wk43 hxwk43 hown44 hnew45 => ?_)
  have hsep46 : Sep vO _ := Sep.of_new (Own.ext hown2 hE9) hnew45
  have hsep47 : Sep vO _ := Sep.of_new (Own.ext hown11 hE23) hnew45
  have hsep48 : Sep vO _ := Sep.of_new (Own.ext hown25 hE42) hnew45
  replace hE4 := Ex.tr hE4 hxwk43
  replace hE9 := Ex.tr hE9 hxwk43
  replace hE14 := Ex.tr hE14 hxwk43
  replace hE23 := Ex.tr hE23 hxwk43
  replace hE29 := Ex.tr hE29 hxwk43
  replace hE42 := Ex.tr hE42 hxwk43
  have hE49 := hxwk43
  obtain ⟨AvO, CvO, rfl⟩ := hown44.shape
  refine RG.vl rfl rfl rfl (Ev.build1 rfl rfl rfl inf_24 rfl rfl (by kernel_rfl) rfl) ?_
  refine RG.local_ rfl rfl rfl rfl (fun _ => rfl) rfl rfl (fun _ => rfl) inf_24 rfl rfl rfl (fun g50 w50 eg50 hx50 hb50 => ?_)
  have hsb51 := fun e => sep_new (g := g50) (Own.ext hown2 hE9) eg50 e
  have hsb52 := fun e => sep_new (g := g50) (Own.ext hown11 hE23) eg50 e
  have hsb53 := fun e => sep_new (g := g50) (Own.ext hown25 hE42) eg50 e
  have hsb54 := fun e => sep_new (g := g50) hown44 eg50 e
  have hle55 : w.heap.size ≤ g50 := by have := hE4.size; omega
  have hle56 : wk1.heap.size ≤ g50 := by have := hE9.size; omega
  have hle57 : w5.heap.size ≤ g50 := by have := hE14.size; omega
  have hle58 : wk10.heap.size ≤ g50 := by have := hE23.size; omega
  have hle59 : w15.heap.size ≤ g50 := by have := hE29.size; omega
  have hle60 : wk24.heap.size ≤ g50 := by have := hE42.size; omega
  have hle61 : w30.heap.size ≤ g50 := by have := hE49.size; omega
  have hle62 : wk43.heap.size ≤ g50 := by have := (Ex.rfl_ wk43).size; omega
  have hlt63 : g5 < g50 := by have := Blk.lt (hb5.ext hE14); omega
  have hlt64 : g15 < g50 := by have := Blk.lt (hb15.ext hE29); omega
  have hlt65 : g30 < g50 := by have := Blk.lt (hb30.ext hE49); omega
  replace hE4 := Ex.tr hE4 hx50
  replace hE9 := Ex.tr hE9 hx50
  replace hE14 := Ex.tr hE14 hx50
  replace hE23 := Ex.tr hE23 hx50
  replace hE29 := Ex.tr hE29 hx50
  replace hE42 := Ex.tr hE42 hx50
  replace hE49 := Ex.tr hE49 hx50
  have hE66 := hx50
  refine RG.done ?_
  refine QW.then_ ?_
  refine CW.seq ?_
  refine CW.region ?_
  refine RG.vl rfl rfl rfl (Ev.build1 rfl rfl rfl inf_24 rfl rfl (by kernel_rfl) rfl) ?_
  refine RG.vl rfl rfl rfl (Ev.build1 rfl rfl rfl inf_24 rfl rfl (by kernel_rfl) rfl) ?_
  refine RG.alloc_ rfl rfl rfl rfl inf_24 (fun g67 w67 eg67 hx67 hb67 => ?_)
  have hsb68 := fun e => sep_new (g := g67) (Own.ext hown2 hE9) eg67 e
  have hsb69 := fun e => sep_new (g := g67) (Own.ext hown11 hE23) eg67 e
  have hsb70 := fun e => sep_new (g := g67) (Own.ext hown25 hE42) eg67 e
  have hsb71 := fun e => sep_new (g := g67) (Own.ext hown44 hE66) eg67 e
  have hle72 : w.heap.size ≤ g67 := by have := hE4.size; omega
  have hle73 : wk1.heap.size ≤ g67 := by have := hE9.size; omega
  have hle74 : w5.heap.size ≤ g67 := by have := hE14.size; omega
  have hle75 : wk10.heap.size ≤ g67 := by have := hE23.size; omega
  have hle76 : w15.heap.size ≤ g67 := by have := hE29.size; omega
  have hle77 : wk24.heap.size ≤ g67 := by have := hE42.size; omega
  have hle78 : w30.heap.size ≤ g67 := by have := hE49.size; omega
  have hle79 : wk43.heap.size ≤ g67 := by have := hE66.size; omega
  have hle80 : w50.heap.size ≤ g67 := by have := (Ex.rfl_ w50).size; omega
  have hlt81 : g5 < g67 := by have := Blk.lt (hb5.ext hE14); omega
  have hlt82 : g15 < g67 := by have := Blk.lt (hb15.ext hE29); omega
  have hlt83 : g30 < g67 := by have := Blk.lt (hb30.ext hE49); omega
  have hlt84 : g50 < g67 := by have := Blk.lt hb50; omega
  replace hE4 := Ex.tr hE4 hx67
  replace hE9 := Ex.tr hE9 hx67
  replace hE14 := Ex.tr hE14 hx67
  replace hE23 := Ex.tr hE23 hx67
  replace hE29 := Ex.tr hE29 hx67
  replace hE42 := Ex.tr hE42 hx67
  replace hE49 := Ex.tr hE49 hx67
  replace hE66 := Ex.tr hE66 hx67
  have hE85 := hx67
  refine RG.alloc_ rfl rfl rfl rfl inf_24 (fun g86 w86 eg86 hx86 hb86 => ?_)
  have hsb87 := fun e => sep_new (g := g86) (Own.ext hown2 hE9) eg86 e
  have hsb88 := fun e => sep_new (g := g86) (Own.ext hown11 hE23) eg86 e
  have hsb89 := fun e => sep_new (g := g86) (Own.ext hown25 hE42) eg86 e
  have hsb90 := fun e => sep_new (g := g86) (Own.ext hown44 hE66) eg86 e
  have hle91 : w.heap.size ≤ g86 := by have := hE4.size; omega
  have hle92 : wk1.heap.size ≤ g86 := by have := hE9.size; omega
  have hle93 : w5.heap.size ≤ g86 := by have := hE14.size; omega
  have hle94 : wk10.heap.size ≤ g86 := by have := hE23.size; omega
  have hle95 : w15.heap.size ≤ g86 := by have := hE29.size; omega
  have hle96 : wk24.heap.size ≤ g86 := by have := hE42.size; omega
  have hle97 : w30.heap.size ≤ g86 := by have := hE49.size; omega
  have hle98 : wk43.heap.size ≤ g86 := by have := hE66.size; omega
  have hle99 : w50.heap.size ≤ g86 := by have := hE85.size; omega
  have hle100 : w67.heap.size ≤ g86 := by have := (Ex.rfl_ w67).size; omega
  have hlt101 : g5 < g86 := by have := Blk.lt (hb5.ext hE14); omega
  have hlt102 : g15 < g86 := by have := Blk.lt (hb15.ext hE29); omega
  have hlt103 : g30 < g86 := by have := Blk.lt (hb30.ext hE49); omega
  have hlt104 : g50 < g86 := by have := Blk.lt (hb50.ext hE85); omega
  have hlt105 : g67 < g86 := by have := Blk.lt hb67; omega
  replace hE4 := Ex.tr hE4 hx86
  replace hE9 := Ex.tr hE9 hx86
  replace hE14 := Ex.tr hE14 hx86
  replace hE23 := Ex.tr hE23 hx86
  replace hE29 := Ex.tr hE29 hx86
  replace hE42 := Ex.tr hE42 hx86
  replace hE49 := Ex.tr hE49 hx86
  replace hE66 := Ex.tr hE66 hx86
  replace hE85 := Ex.tr hE85 hx86
  have hE106 := hx86
  refine RG.stAll (g := g67) rfl rfl rfl rfl rfl sz_24 rfl rfl rfl (hb67.ext hE106) (fun ws107 hwws107 hbws107 => ?_)
  replace hb86 := Blk.far hb86 hwws107 (by omega)
  replace hE4 := Wr.below hE4 hwws107 hle72
  replace hE9 := Wr.below hE9 hwws107 hle73
  replace hE14 := Wr.below hE14 hwws107 hle74
  replace hE23 := Wr.below hE23 hwws107 hle75
  replace hE29 := Wr.below hE29 hwws107 hle76
  replace hE42 := Wr.below hE42 hwws107 hle77
  replace hE49 := Wr.below hE49 hwws107 hle78
  replace hE66 := Wr.below hE66 hwws107 hle79
  replace hE85 := Wr.below hE85 hwws107 hle80
  refine RG.stAll (g := g86) rfl rfl rfl rfl rfl sz_24 rfl rfl rfl hb86 (fun ws108 hwws108 hbws108 => ?_)
  replace hbws107 := Blk.far hbws107 hwws108 (by omega)
  replace hE4 := Wr.below hE4 hwws108 hle91
  replace hE9 := Wr.below hE9 hwws108 hle92
  replace hE14 := Wr.below hE14 hwws108 hle93
  replace hE23 := Wr.below hE23 hwws108 hle94
  replace hE29 := Wr.below hE29 hwws108 hle95
  replace hE42 := Wr.below hE42 hwws108 hle96
  replace hE49 := Wr.below hE49 hwws108 hle97
  replace hE66 := Wr.below hE66 hwws108 hle98
  replace hE85 := Wr.below hE85 hwws108 hle99
  refine RG.done ?_
  refine QW.sub (S' := [(0, _), (1, _), (2, _), (3, _), (4, _), (5, _), (6, _)]) ⟨rfl, rfl, rfl, rfl, rfl, rfl, rfl, trivial⟩ ?_
  refine QW.then_ ?_
  refine CW.seq ?_
  refine CW.region ?_
  refine RG.vl rfl rfl rfl (Ev.ldAgg rfl rfl Tryd.underlying24 rfl sz_24 rfl ((hb5.ext hE14).cells)) ?_
  refine RG.call rfl rfl rfl rfl rfl rfl rfl en_20 (Check_is (k := 1) (ws := [3, 1]) (Own.rdl (Own.ext hown2 hE9) encI_len) (by decide) (by decide) (show checkR 1 [3, 1] [52, 48, 48, 54, 51, 56, 49, 51, 51, 51, 57, 51] = (49, 0) by kernel_rfl)) ?_
  rintro _ w109 ⟨rfl, hx109⟩
  replace hE4 := Ex.tr hE4 hx109
  replace hE9 := Ex.tr hE9 hx109
  replace hE14 := Ex.tr hE14 hx109
  replace hE23 := Ex.tr hE23 hx109
  replace hE29 := Ex.tr hE29 hx109
  replace hE42 := Ex.tr hE42 hx109
  replace hE49 := Ex.tr hE49 hx109
  replace hE66 := Ex.tr hE66 hx109
  replace hE85 := Ex.tr hE85 hx109
  have hE110 := hx109
  refine RG.vl rfl rfl rfl (Ev.move rfl rfl) ?_
  refine RG.vl rfl rfl rfl (Ev.extract rfl rfl rfl) ?_
  refine RG.vl rfl rfl rfl (Ev.extract rfl rfl rfl) ?_
  refine RG.vl rfl rfl rfl (Ev.assign rfl rfl) ?_
  refine RG.vl rfl rfl rfl (Ev.assign rfl rfl) ?_
  refine RG.done ?_
  refine QW.then_ ?_
  refine CW.seq ?_
  refine CW.region ?_
  refine RG.vl rfl rfl rfl (Ev.ldAgg rfl rfl Tryd.underlying24 rfl sz_24 rfl ((hb15.ext hE29).cells)) ?_
  refine RG.call rfl rfl rfl rfl rfl rfl rfl en_20 (Check_is (k := 2) (ws := [2, 3, 4, 5, 6, 7, 8, 9, 10]) (Own.rdl (Own.ext hown11 hE23) encI_len) (by decide) (by decide) (show checkR 2 [2, 3, 4, 5, 6, 7, 8, 9, 10] [48, 51, 48, 54, 52, 48, 54, 49, 53] = (50, 0) by kernel_rfl)) ?_
  rintro _ w111 ⟨rfl, hx111⟩
  replace hE4 := Ex.tr hE4 hx111
  replace hE9 := Ex.tr hE9 hx111
  replace hE14 := Ex.tr hE14 hx111
  replace hE23 := Ex.tr hE23 hx111
  replace hE29 := Ex.tr hE29 hx111
  replace hE42 := Ex.tr hE42 hx111
  replace hE49 := Ex.tr hE49 hx111
  replace hE66 := Ex.tr hE66 hx111
  replace hE85 := Ex.tr hE85 hx111
  replace hE110 := Ex.tr hE110 hx111
  have hE112 := hx111
  refine RG.vl rfl rfl rfl (Ev.move rfl rfl) ?_
  refine RG.vl rfl rfl rfl (Ev.extract rfl rfl rfl) ?_
  refine RG.vl rfl rfl rfl (Ev.extract rfl rfl rfl) ?_
  refine RG.vl rfl rfl rfl (Ev.assign rfl rfl) ?_
  refine RG.vl rfl rfl rfl (Ev.assign rfl rfl) ?_
  refine RG.done ?_
  refine QW.sub (S' := [(0, _), (2, _), (3, _), (4, _), (5, _), (6, _), (7, _), (8, _), (9, _), (10, _)]) ⟨rfl, rfl, rfl, rfl, rfl, rfl, rfl, rfl, rfl, rfl, trivial⟩ ?_
  refine QW.then_ ?_
  refine CW.seq ?_
  refine CW.region ?_
  refine RG.vl rfl rfl rfl (Ev.ldAgg rfl rfl Tryd.underlying24 rfl sz_24 rfl ((hb15.ext hE29).cells)) ?_
  refine RG.call rfl rfl rfl rfl rfl rfl rfl en_20 (Check_is (k := 2) (ws := [2, 3, 4, 5, 6, 7, 8, 9, 10]) (Own.rdl (Own.ext hown11 hE23) encI_len) (by decide) (by decide) (show checkR 2 [2, 3, 4, 5, 6, 7, 8, 9, 10] [48, 56, 48, 52, 52, 50, 57, 53, 55] = (88, 0) by kernel_rfl)) ?_
  rintro _ w113 ⟨rfl, hx113⟩
  replace hE4 := Ex.tr hE4 hx113
  replace hE9 := Ex.tr hE9 hx113
  replace hE14 := Ex.tr hE14 hx113
  replace hE23 := Ex.tr hE23 hx113
  replace hE29 := Ex.tr hE29 hx113
  replace hE42 := Ex.tr hE42 hx113
  replace hE49 := Ex.tr hE49 hx113
  replace hE66 := Ex.tr hE66 hx113
  replace hE85 := Ex.tr hE85 hx113
  replace hE110 := Ex.tr hE110 hx113
  replace hE112 := Ex.tr hE112 hx113
  have hE114 := hx113
  refine RG.vl rfl rfl rfl (Ev.move rfl rfl) ?_
  refine RG.vl rfl rfl rfl (Ev.extract rfl rfl rfl) ?_
  refine RG.vl rfl rfl rfl (Ev.extract rfl rfl rfl) ?_
  refine RG.vl rfl rfl rfl (Ev.assign rfl rfl) ?_
  refine RG.vl rfl rfl rfl (Ev.assign rfl rfl) ?_
  refine RG.done ?_
  refine QW.then_ ?_
  refine CW.seq ?_
  refine CW.region ?_
  refine RG.vl rfl rfl rfl (Ev.ldAgg rfl rfl Tryd.underlying24 rfl sz_24 rfl ((hbws107.ext hE110).cells)) ?_
  refine RG.call rfl rfl rfl rfl rfl rfl rfl en_20 (Check_is (k := 3) (ws := []) (RdL.nil_ _) (by decide) (by decide) (show checkR 3 [] [55, 57, 57, 50, 55, 51, 57, 56, 55, 49] = (51, 0) by kernel_rfl)) ?_
  rintro _ w115 ⟨rfl, hx115⟩
  replace hE4 := Ex.tr hE4 hx115
  replace hE9 := Ex.tr hE9 hx115
  replace hE14 := Ex.tr hE14 hx115
  replace hE23 := Ex.tr hE23 hx115
  replace hE29 := Ex.tr hE29 hx115
  replace hE42 := Ex.tr hE42 hx115
  replace hE49 := Ex.tr hE49 hx115
  replace hE66 := Ex.tr hE66 hx115
  replace hE85 := Ex.tr hE85 hx115
  replace hE110 := Ex.tr hE110 hx115
  replace hE112 := Ex.tr hE112 hx115
  replace hE114 := Ex.tr hE114 hx115
  have hE116 := hx115
  refine RG.vl rfl rfl rfl (Ev.move rfl rfl) ?_
  refine RG.vl rfl rfl rfl (Ev.extract rfl rfl rfl) ?_
  refine RG.vl rfl rfl rfl (Ev.extract rfl rfl rfl) ?_
  refine RG.vl rfl rfl rfl (Ev.assign rfl rfl) ?_
  refine RG.vl rfl rfl rfl (Ev.assign rfl rfl) ?_
  refine RG.done ?_
  refine QW.sub (S' := [(0, _), (2, _), (3, _), (4, _), (5, _), (6, _), (7, _), (8, _), (9, _), (10, _), (11, _), (12, _), (13, _), (14, _)]) ⟨rfl, rfl, rfl, rfl, rfl, rfl, rfl, rfl, rfl, rfl, rfl, rfl, rfl, rfl, trivial⟩ ?_
  refine QW.then_ ?_
  refine CW.seq ?_
  refine CW.region ?_
  refine RG.vl rfl rfl rfl (Ev.ldAgg rfl rfl Tryd.underlying24 rfl sz_24 rfl ((hbws108.ext hE110).cells)) ?_
  refine RG.call rfl rfl rfl rfl rfl rfl rfl en_20 (Check_is (k := 4) (ws := []) (RdL.nil_ _) (by decide) (by decide) (show checkR 4 [] [50, 51, 54] = (51, 0) by kernel_rfl)) ?_
  rintro _ w117 ⟨rfl, hx117⟩
  replace hE4 := Ex.tr hE4 hx117
  replace hE9 := Ex.tr hE9 hx117
  replace hE14 := Ex.tr hE14 hx117
  replace hE23 := Ex.tr hE23 hx117
  replace hE29 := Ex.tr hE29 hx117
  replace hE42 := Ex.tr hE42 hx117
  replace hE49 := Ex.tr hE49 hx117
  replace hE66 := Ex.tr hE66 hx117
  replace hE85 := Ex.tr hE85 hx117
  replace hE110 := Ex.tr hE110 hx117
  replace hE112 := Ex.tr hE112 hx117
  replace hE114 := Ex.tr hE114 hx117
  replace hE116 := Ex.tr hE116 hx117
  have hE118 := hx117
  refine RG.vl rfl rfl rfl (Ev.move rfl rfl) ?_
  refine RG.vl rfl rfl rfl (Ev.extract rfl rfl rfl) ?_
  refine RG.vl rfl rfl rfl (Ev.extract rfl rfl rfl) ?_
  refine RG.vl rfl rfl rfl (Ev.assign rfl rfl) ?_
  refine RG.vl rfl rfl rfl (Ev.assign rfl rfl) ?_
  refine RG.done ?_
  refine QW.then_ ?_
  refine CW.seq ?_
  refine CW.seq ?_
  refine CW.region ?_
  refine RG.vl rfl rfl rfl (Ev.move rfl rfl) ?_
  refine RG.vl rfl rfl rfl (Ev.isF (Ev.neI rfl rfl rfl) (fun h => h rfl)) ?_
  refine RG.vl rfl rfl rfl (Ev.move rfl rfl) ?_
  refine RG.vl rfl rfl rfl (Ev.move rfl rfl) ?_
  refine RG.vl rfl rfl rfl (Ev.isF (Ev.neI rfl rfl rfl) (fun h => h rfl)) ?_
  refine RG.vl rfl rfl rfl (Ev.pickF rfl rfl rfl) ?_
  refine RG.vl rfl rfl rfl (Ev.move rfl rfl) ?_
  refine RG.vl rfl rfl rfl (Ev.move rfl rfl) ?_
  refine RG.vl rfl rfl rfl (Ev.isF (Ev.neI rfl rfl rfl) (fun h => h rfl)) ?_
  refine RG.vl rfl rfl rfl (Ev.pickF rfl rfl rfl) ?_
  refine RG.vl rfl rfl rfl (Ev.move rfl rfl) ?_
  refine RG.vl rfl rfl rfl (Ev.move rfl rfl) ?_
  refine RG.vl rfl rfl rfl (Ev.isF (Ev.neI rfl rfl rfl) (fun h => h rfl)) ?_
  refine RG.vl rfl rfl rfl (Ev.pickF rfl rfl rfl) ?_
  refine RG.vl rfl rfl rfl (Ev.move rfl rfl) ?_
  refine RG.vl rfl rfl rfl (Ev.move rfl rfl) ?_
  refine RG.vl rfl rfl rfl (Ev.isF (Ev.neI rfl rfl rfl) (fun h => h rfl)) ?_
  refine RG.vl rfl rfl rfl (Ev.pickF rfl rfl rfl) ?_
  refine RG.vl rfl rfl rfl (Ev.move rfl rfl) ?_
  refine RG.vl rfl rfl rfl (Ev.move rfl rfl) ?_
  refine RG.vl rfl rfl rfl (Ev.move rfl rfl) ?_
  refine RG.vl rfl rfl rfl (Ev.addI rfl rfl rfl (by omega)) ?_
  refine RG.vl rfl rfl rfl (Ev.move rfl rfl) ?_
  refine RG.vl rfl rfl rfl (Ev.addI rfl rfl rfl (by omega)) ?_
  refine RG.vl rfl rfl rfl (Ev.move rfl rfl) ?_
  refine RG.vl rfl rfl rfl (Ev.addI rfl rfl rfl (by omega)) ?_
  refine RG.vl rfl rfl rfl (Ev.move rfl rfl) ?_
  refine RG.vl rfl rfl rfl (Ev.addI rfl rfl rfl (by omega)) ?_
  refine RG.vl rfl rfl rfl (Ev.isF (Ev.neI rfl rfl rfl) (fun h => h rfl)) ?_
  refine RG.vl rfl rfl rfl (Ev.pickF rfl rfl rfl) ?_
  refine RG.done ?_
  refine QW.sub (S' := [(0, _), (2, _), (3, _), (4, _), (5, _), (6, _), (8, _), (10, _), (12, _), (14, _), (92, _)]) ⟨rfl, rfl, rfl, rfl, rfl, rfl, rfl, rfl, rfl, rfl, rfl, trivial⟩ ?_
  refine QW.then_ ?_
  refine CW.condF rfl ?_
  refine CW.skip ?_
  refine QW.then_ ?_
  refine CW.seq ?_
  refine CW.region ?_
  refine RG.vl rfl rfl rfl (Ev.ldAgg rfl rfl Tryd.underlying24 rfl sz_24 rfl ((hbws108.ext hE110).cells)) ?_
  refine RG.call rfl rfl rfl rfl rfl rfl rfl en_21 (Test_is (k := 4) (ws := []) (RdL.nil_ _) (by decide) (by decide) (show testR 4 [] [50, 51, 54, 51] = (true, 0) by kernel_rfl)) ?_
  rintro _ w119 ⟨rfl, hx119⟩
  replace hE4 := Ex.tr hE4 hx119
  replace hE9 := Ex.tr hE9 hx119
  replace hE14 := Ex.tr hE14 hx119
  replace hE23 := Ex.tr hE23 hx119
  replace hE29 := Ex.tr hE29 hx119
  replace hE42 := Ex.tr hE42 hx119
  replace hE49 := Ex.tr hE49 hx119
  replace hE66 := Ex.tr hE66 hx119
  replace hE85 := Ex.tr hE85 hx119
  replace hE110 := Ex.tr hE110 hx119
  replace hE112 := Ex.tr hE112 hx119
  replace hE114 := Ex.tr hE114 hx119
  replace hE116 := Ex.tr hE116 hx119
  replace hE118 := Ex.tr hE118 hx119
  have hE120 := hx119
  refine RG.vl rfl rfl rfl (Ev.move rfl rfl) ?_
  refine RG.vl rfl rfl rfl (Ev.extract rfl rfl rfl) ?_
  refine RG.vl rfl rfl rfl (Ev.extract rfl rfl rfl) ?_
  refine RG.vl rfl rfl rfl (Ev.assign rfl rfl) ?_
  refine RG.vl rfl rfl rfl (Ev.assign rfl rfl) ?_
  refine RG.done ?_
  refine QW.then_ ?_
  refine CW.seq ?_
  refine CW.region ?_
  refine RG.vl rfl rfl rfl (Ev.ldAgg rfl rfl Tryd.underlying24 rfl sz_24 rfl ((hbws108.ext hE110).cells)) ?_
  refine RG.call rfl rfl rfl rfl rfl rfl rfl en_21 (Test_is (k := 4) (ws := []) (RdL.nil_ _) (by decide) (by decide) (show testR 4 [] [50, 54, 51, 51] = (false, 0) by kernel_rfl)) ?_
  rintro _ w121 ⟨rfl, hx121⟩
  replace hE4 := Ex.tr hE4 hx121
  replace hE9 := Ex.tr hE9 hx121
  replace hE14 := Ex.tr hE14 hx121
  replace hE23 := Ex.tr hE23 hx121
  replace hE29 := Ex.tr hE29 hx121
  replace hE42 := Ex.tr hE42 hx121
  replace hE49 := Ex.tr hE49 hx121
  replace hE66 := Ex.tr hE66 hx121
  replace hE85 := Ex.tr hE85 hx121
  replace hE110 := Ex.tr hE110 hx121
  replace hE112 := Ex.tr hE112 hx121
  replace hE114 := Ex.tr hE114 hx121
  replace hE116 := Ex.tr hE116 hx121
  replace hE118 := Ex.tr hE118 hx121
  replace hE120 := Ex.tr hE120 hx121
  have hE122 := hx121
  refine RG.vl rfl rfl rfl (Ev.move rfl rfl) ?_
  refine RG.vl rfl rfl rfl (Ev.extract rfl rfl rfl) ?_
  refine RG.vl rfl rfl rfl (Ev.extract rfl rfl rfl) ?_
  refine RG.vl rfl rfl rfl (Ev.assign rfl rfl) ?_
  refine RG.vl rfl rfl rfl (Ev.assign rfl rfl) ?_
  refine RG.done ?_
  refine QW.sub (S' := [(0, _), (2, _), (3, _), (4, _), (5, _), (6, _), (8, _), (10, _), (12, _), (14, _), (17, _), (18, _)]) ⟨rfl, rfl, rfl, rfl, rfl, rfl, rfl, rfl, rfl, rfl, rfl, rfl, trivial⟩ ?_
  refine QW.then_ ?_
  refine CW.seq ?_
  refine CW.region ?_
  refine RG.vl rfl rfl rfl (Ev.ldAgg rfl rfl Tryd.underlying24 rfl sz_24 rfl ((hbws107.ext hE110).cells)) ?_
  refine RG.call rfl rfl rfl rfl rfl rfl rfl en_15 (Misses_is (k := 3) (ws := []) (RdL.nil_ _) (by decide) (show missR 3 [] 2 = ([(true, 1, 0, 9)], 0) by kernel_rfl)) ?_
  have hpre123 := (Ex.tr hB0 hE4)
  rintro _ w123 ⟨r123, rfl, hm123, hx123⟩
  have hsep124 : Sep r123 _ := Sep.of_new (Own.ext hown2 hE9) (fun k h => Own.ge hm123 h)
  have hsep125 : Sep r123 _ := Sep.of_new (Own.ext hown11 hE23) (fun k h => Own.ge hm123 h)
  have hsep126 : Sep r123 _ := Sep.of_new (Own.ext hown25 hE42) (fun k h => Own.ge hm123 h)
  have hsep127 : Sep r123 _ := Sep.of_new (Own.ext hown44 hE66) (fun k h => Own.ge hm123 h)
  replace hE4 := Ex.tr hE4 hx123
  replace hE9 := Ex.tr hE9 hx123
  replace hE14 := Ex.tr hE14 hx123
  replace hE23 := Ex.tr hE23 hx123
  replace hE29 := Ex.tr hE29 hx123
  replace hE42 := Ex.tr hE42 hx123
  replace hE49 := Ex.tr hE49 hx123
  replace hE66 := Ex.tr hE66 hx123
  replace hE85 := Ex.tr hE85 hx123
  replace hE110 := Ex.tr hE110 hx123
  replace hE112 := Ex.tr hE112 hx123
  replace hE114 := Ex.tr hE114 hx123
  replace hE116 := Ex.tr hE116 hx123
  replace hE118 := Ex.tr hE118 hx123
  replace hE120 := Ex.tr hE120 hx123
  replace hE122 := Ex.tr hE122 hx123
  have hE128 := hx123
  refine RG.vl rfl rfl rfl (Ev.move rfl rfl) ?_
  refine RG.vl rfl rfl rfl (Ev.extract rfl rfl rfl) ?_
  refine RG.vl rfl rfl rfl (Ev.extract rfl rfl rfl) ?_
  refine RG.vl rfl rfl rfl (Ev.assign rfl rfl) ?_
  refine RG.vl rfl rfl rfl (Ev.assign rfl rfl) ?_
  refine RG.done ?_
  refine QW.then_ ?_
  refine CW.seq ?_
  refine CW.region ?_
  refine RG.vl rfl rfl rfl (Ev.ldAgg rfl rfl Tryd.underlying24 rfl sz_24 rfl ((hb30.ext hE49).cells)) ?_
  refine RG.call rfl rfl rfl rfl rfl rfl rfl en_15 (Misses_is (k := 1) (ws := [5]) (Own.rdl (Own.ext hown25 hE42) encI_len) (by decide) (show missR 1 [5] 1 = ([(false, 1, 0, 2), (false, 1, 0, 4), (false, 1, 0, 6), (false, 1, 0, 8), (false, 1, 1, 3), (false, 1, 1, 5), (false, 1, 1, 7), (false, 1, 1, 9), (false, 1, 2, 4), (false, 1, 2, 6), (false, 1, 2, 8), (false, 1, 3, 5), (false, 1, 3, 7), (false, 1, 3, 9), (false, 1, 4, 6), (false, 1, 4, 8), (false, 1, 5, 7), (false, 1, 5, 9), (false, 1, 6, 8), (false, 1, 7, 9)], 0) by kernel_rfl)) ?_
  have hpre129 := (Ex.tr hB0 hE4)
  rintro _ w129 ⟨r129, rfl, hm129, hx129⟩
  have hsep130 : Sep r129 _ := Sep.of_new (Own.ext hown2 hE9) (fun k h => Own.ge hm129 h)
  have hsep131 : Sep r129 _ := Sep.of_new (Own.ext hown11 hE23) (fun k h => Own.ge hm129 h)
  have hsep132 : Sep r129 _ := Sep.of_new (Own.ext hown25 hE42) (fun k h => Own.ge hm129 h)
  have hsep133 : Sep r129 _ := Sep.of_new (Own.ext hown44 hE66) (fun k h => Own.ge hm129 h)
  have hsep134 : Sep r129 _ := Sep.of_new hm123 (fun k h => Own.ge hm129 h)
  replace hE4 := Ex.tr hE4 hx129
  replace hE9 := Ex.tr hE9 hx129
  replace hE14 := Ex.tr hE14 hx129
  replace hE23 := Ex.tr hE23 hx129
  replace hE29 := Ex.tr hE29 hx129
  replace hE42 := Ex.tr hE42 hx129
  replace hE49 := Ex.tr hE49 hx129
  replace hE66 := Ex.tr hE66 hx129
  replace hE85 := Ex.tr hE85 hx129
  replace hE110 := Ex.tr hE110 hx129
  replace hE112 := Ex.tr hE112 hx129
  replace hE114 := Ex.tr hE114 hx129
  replace hE116 := Ex.tr hE116 hx129
  replace hE118 := Ex.tr hE118 hx129
  replace hE120 := Ex.tr hE120 hx129
  replace hE122 := Ex.tr hE122 hx129
  replace hE128 := Ex.tr hE128 hx129
  have hE135 := hx129
  refine RG.vl rfl rfl rfl (Ev.move rfl rfl) ?_
  refine RG.vl rfl rfl rfl (Ev.extract rfl rfl rfl) ?_
  refine RG.vl rfl rfl rfl (Ev.extract rfl rfl rfl) ?_
  refine RG.vl rfl rfl rfl (Ev.assign rfl rfl) ?_
  refine RG.vl rfl rfl rfl (Ev.assign rfl rfl) ?_
  refine RG.done ?_
  refine QW.sub (S' := [(0, _), (2, _), (3, _), (4, _), (6, _), (8, _), (10, _), (12, _), (14, _), (17, _), (18, _), (19, _), (20, _)]) ⟨rfl, rfl, rfl, rfl, rfl, rfl, rfl, rfl, rfl, rfl, rfl, rfl, rfl, trivial⟩ ?_
  refine QW.then_ ?_
  refine CW.seq ?_
  refine CW.seq ?_
  refine CW.region ?_
  refine RG.vl rfl rfl rfl (Ev.move rfl rfl) ?_
  refine RG.vl rfl rfl rfl (Ev.notF rfl rfl) ?_
  refine RG.vl rfl rfl rfl (Ev.move rfl rfl) ?_
  refine RG.vl rfl rfl rfl (Ev.move rfl rfl) ?_
  refine RG.vl rfl rfl rfl (Ev.pickF rfl rfl rfl) ?_
  refine RG.vl rfl rfl rfl (Ev.move rfl rfl) ?_
  refine RG.vl rfl rfl rfl (Ev.move rfl rfl) ?_
  refine RG.vl rfl rfl rfl (Ev.move rfl rfl) ?_
  refine RG.vl rfl rfl rfl (Ev.addI rfl rfl rfl (by omega)) ?_
  refine RG.vl rfl rfl rfl (Ev.move rfl rfl) ?_
  refine RG.vl rfl rfl rfl (Ev.addI rfl rfl rfl (by omega)) ?_
  refine RG.vl rfl rfl rfl (Ev.move rfl rfl) ?_
  refine RG.vl rfl rfl rfl (Ev.addI rfl rfl rfl (by omega)) ?_
  refine RG.vl rfl rfl rfl (Ev.isF (Ev.neI rfl rfl rfl) (fun h => h rfl)) ?_
  refine RG.vl rfl rfl rfl (Ev.pickF rfl rfl rfl) ?_
  refine RG.vl rfl rfl rfl (Ev.move rfl rfl) ?_
  refine RG.vl rfl rfl rfl (Ev.move rfl rfl) ?_
  refine RG.vl rfl rfl rfl (Ev.lenL rfl rfl rfl Tryd.underlying30 (((Own.ext hm123 hE135).rdl encM_len))) ?_
  refine RG.vl rfl rfl rfl (Ev.isF (Ev.neI rfl rfl rfl) (fun h => h rfl)) ?_
  refine RG.vl rfl rfl rfl (Ev.pickF rfl rfl rfl) ?_
  refine RG.vl rfl rfl rfl (Ev.move rfl rfl) ?_
  refine RG.vl rfl rfl rfl (Ev.move rfl rfl) ?_
  refine RG.idxO (i := 0) rfl rfl rfl rfl rfl rfl Tryd.underlying30 sz_36 encM_len ((Own.ext hm123 hE135)) (rfl) (fun g137 hg137 hBg137 hp136b hp136 => ?_)
  refine RG.vl rfl rfl rfl (Ev.ldAgg rfl rfl Tryd.underlying36 rfl sz_36 rfl (hp136)) ?_
  refine RG.vl rfl rfl rfl (Ev.build1 rfl rfl rfl inf_36 rfl rfl (by kernel_rfl) rfl) ?_
  refine RG.vl rfl rfl rfl ((Ev.neA rfl rfl rfl (by kernel_rfl)).conv ((show _ = Value.bool false from rfl))) ?_
  refine RG.vl rfl rfl rfl (Ev.pickF rfl rfl rfl) ?_
  refine RG.vl rfl rfl rfl (Ev.move rfl rfl) ?_
  refine RG.vl rfl rfl rfl (Ev.move rfl rfl) ?_
  refine RG.vl rfl rfl rfl (Ev.lenL rfl rfl rfl Tryd.underlying30 ((hm129.rdl encM_len))) ?_
  refine RG.vl rfl rfl rfl (Ev.isF (Ev.neI rfl rfl rfl) (fun h => h rfl)) ?_
  refine RG.vl rfl rfl rfl (Ev.pickF rfl rfl rfl) ?_
  refine RG.vl rfl rfl rfl (Ev.move rfl rfl) ?_
  refine RG.vl rfl rfl rfl (Ev.move rfl rfl) ?_
  refine RG.idxO (i := 0) rfl rfl rfl rfl rfl rfl Tryd.underlying30 sz_36 encM_len (hm129) (rfl) (fun g139 hg139 hBg139 hp138b hp138 => ?_)
  refine RG.vl rfl rfl rfl (Ev.ldAgg rfl rfl Tryd.underlying36 rfl sz_36 rfl (hp138)) ?_
  refine RG.vl rfl rfl rfl (Ev.build1 rfl rfl rfl inf_36 rfl rfl (by kernel_rfl) rfl) ?_
  refine RG.vl rfl rfl rfl ((Ev.neA rfl rfl rfl (by kernel_rfl)).conv ((show _ = Value.bool false from rfl))) ?_
  refine RG.vl rfl rfl rfl (Ev.pickF rfl rfl rfl) ?_
  refine RG.done ?_
  refine QW.sub (S' := [(0, _), (2, _), (3, _), (4, _), (6, _), (8, _), (10, _), (12, _), (151, _)]) ⟨rfl, rfl, rfl, rfl, rfl, rfl, rfl, rfl, rfl, trivial⟩ ?_
  refine QW.then_ ?_
  refine CW.condF rfl ?_
  refine CW.skip ?_
  refine QW.then_ ?_
  refine CW.seq ?_
  refine CW.region ?_
  refine RG.vl rfl rfl rfl (Ev.ldAgg rfl rfl Tryd.underlying24 rfl sz_24 rfl ((hbws108.ext hE110).cells)) ?_
  refine RG.call rfl rfl rfl rfl rfl rfl rfl en_31 (Fill_is (k := 4) (ws := []) (RdL.nil_ _) (by decide) (by decide) (show fillR 4 [] [50, 51, 63, 51] = ([54], 0) by kernel_rfl)) ?_
  rintro _ w140 ⟨rfl, hx140⟩
  replace hE4 := Ex.tr hE4 hx140
  replace hE9 := Ex.tr hE9 hx140
  replace hE14 := Ex.tr hE14 hx140
  replace hE23 := Ex.tr hE23 hx140
  replace hE29 := Ex.tr hE29 hx140
  replace hE42 := Ex.tr hE42 hx140
  replace hE49 := Ex.tr hE49 hx140
  replace hE66 := Ex.tr hE66 hx140
  replace hE85 := Ex.tr hE85 hx140
  replace hE110 := Ex.tr hE110 hx140
  replace hE112 := Ex.tr hE112 hx140
  replace hE114 := Ex.tr hE114 hx140
  replace hE116 := Ex.tr hE116 hx140
  replace hE118 := Ex.tr hE118 hx140
  replace hE120 := Ex.tr hE120 hx140
  replace hE122 := Ex.tr hE122 hx140
  replace hE128 := Ex.tr hE128 hx140
  replace hE135 := Ex.tr hE135 hx140
  have hE141 := hx140
  refine RG.vl rfl rfl rfl (Ev.move rfl rfl) ?_
  refine RG.vl rfl rfl rfl (Ev.extract rfl rfl rfl) ?_
  refine RG.vl rfl rfl rfl (Ev.extract rfl rfl rfl) ?_
  refine RG.vl rfl rfl rfl (Ev.assign rfl rfl) ?_
  refine RG.vl rfl rfl rfl (Ev.assign rfl rfl) ?_
  refine RG.done ?_
  refine QW.then_ ?_
  refine CW.seq ?_
  refine CW.region ?_
  refine RG.vl rfl rfl rfl (Ev.ldAgg rfl rfl Tryd.underlying24 rfl sz_24 rfl ((hb50.ext hE85).cells)) ?_
  refine RG.call rfl rfl rfl rfl rfl rfl rfl en_31 (Fill_is (k := 2) (ws := [1]) (Own.rdl (Own.ext hown44 hE66) encI_len) (by decide) (by decide) (show fillR 2 [1] [49, 63] = ([88], 0) by kernel_rfl)) ?_
  rintro _ w142 ⟨rfl, hx142⟩
  replace hE4 := Ex.tr hE4 hx142
  replace hE9 := Ex.tr hE9 hx142
  replace hE14 := Ex.tr hE14 hx142
  replace hE23 := Ex.tr hE23 hx142
  replace hE29 := Ex.tr hE29 hx142
  replace hE42 := Ex.tr hE42 hx142
  replace hE49 := Ex.tr hE49 hx142
  replace hE66 := Ex.tr hE66 hx142
  replace hE85 := Ex.tr hE85 hx142
  replace hE110 := Ex.tr hE110 hx142
  replace hE112 := Ex.tr hE112 hx142
  replace hE114 := Ex.tr hE114 hx142
  replace hE116 := Ex.tr hE116 hx142
  replace hE118 := Ex.tr hE118 hx142
  replace hE120 := Ex.tr hE120 hx142
  replace hE122 := Ex.tr hE122 hx142
  replace hE128 := Ex.tr hE128 hx142
  replace hE135 := Ex.tr hE135 hx142
  replace hE141 := Ex.tr hE141 hx142
  have hE143 := hx142
  refine RG.vl rfl rfl rfl (Ev.move rfl rfl) ?_
  refine RG.vl rfl rfl rfl (Ev.extract rfl rfl rfl) ?_
  refine RG.vl rfl rfl rfl (Ev.extract rfl rfl rfl) ?_
  refine RG.vl rfl rfl rfl (Ev.assign rfl rfl) ?_
  refine RG.vl rfl rfl rfl (Ev.assign rfl rfl) ?_
  refine RG.done ?_
  refine QW.sub (S' := [(0, _), (2, _), (3, _), (6, _), (8, _), (10, _), (12, _), (21, _), (22, _)]) ⟨rfl, rfl, rfl, rfl, rfl, rfl, rfl, rfl, rfl, trivial⟩ ?_
  refine QW.then_ ?_
  refine CW.seq ?_
  refine CW.region ?_
  refine RG.vl rfl rfl rfl (Ev.ldAgg rfl rfl Tryd.underlying24 rfl sz_24 rfl ((hb30.ext hE49).cells)) ?_
  refine RG.call rfl rfl rfl rfl rfl rfl rfl en_31 (Fill_is (k := 1) (ws := [5]) (Own.rdl (Own.ext hown25 hE42) encI_len) (by decide) (by decide) (show fillR 1 [5] [63, 48] = ([48, 50, 52, 54, 56], 0) by kernel_rfl)) ?_
  rintro _ w144 ⟨rfl, hx144⟩
  replace hE4 := Ex.tr hE4 hx144
  replace hE9 := Ex.tr hE9 hx144
  replace hE14 := Ex.tr hE14 hx144
  replace hE23 := Ex.tr hE23 hx144
  replace hE29 := Ex.tr hE29 hx144
  replace hE42 := Ex.tr hE42 hx144
  replace hE49 := Ex.tr hE49 hx144
  replace hE66 := Ex.tr hE66 hx144
  replace hE85 := Ex.tr hE85 hx144
  replace hE110 := Ex.tr hE110 hx144
  replace hE112 := Ex.tr hE112 hx144
  replace hE114 := Ex.tr hE114 hx144
  replace hE116 := Ex.tr hE116 hx144
  replace hE118 := Ex.tr hE118 hx144
  replace hE120 := Ex.tr hE120 hx144
  replace hE122 := Ex.tr hE122 hx144
  replace hE128 := Ex.tr hE128 hx144
  replace hE135 := Ex.tr hE135 hx144
  replace hE141 := Ex.tr hE141 hx144
  replace hE143 := Ex.tr hE143 hx144
  have hE145 := hx144
  refine RG.vl rfl rfl rfl (Ev.move rfl rfl) ?_
  refine RG.vl rfl rfl rfl (Ev.extract rfl rfl rfl) ?_
  refine RG.vl rfl rfl rfl (Ev.extract rfl rfl rfl) ?_
  refine RG.vl rfl rfl rfl (Ev.assign rfl rfl) ?_
  refine RG.vl rfl rfl rfl (Ev.assign rfl rfl) ?_
  refine RG.done ?_
  refine QW.then_ ?_
  refine CW.seq ?_
  refine CW.region ?_
  refine RG.vl rfl rfl rfl (Ev.ldAgg rfl rfl Tryd.underlying24 rfl sz_24 rfl ((hbws108.ext hE110).cells)) ?_
  refine RG.call rfl rfl rfl rfl rfl rfl rfl en_21 (Test_is (k := 4) (ws := []) (RdL.nil_ _) (by decide) (by decide) (show testR 4 [] [49] = (false, 161) by kernel_rfl)) ?_
  rintro _ w146 ⟨rfl, hx146⟩
  replace hE4 := Ex.tr hE4 hx146
  replace hE9 := Ex.tr hE9 hx146
  replace hE14 := Ex.tr hE14 hx146
  replace hE23 := Ex.tr hE23 hx146
  replace hE29 := Ex.tr hE29 hx146
  replace hE42 := Ex.tr hE42 hx146
  replace hE49 := Ex.tr hE49 hx146
  replace hE66 := Ex.tr hE66 hx146
  replace hE85 := Ex.tr hE85 hx146
  replace hE110 := Ex.tr hE110 hx146
  replace hE112 := Ex.tr hE112 hx146
  replace hE114 := Ex.tr hE114 hx146
  replace hE116 := Ex.tr hE116 hx146
  replace hE118 := Ex.tr hE118 hx146
  replace hE120 := Ex.tr hE120 hx146
  replace hE122 := Ex.tr hE122 hx146
  replace hE128 := Ex.tr hE128 hx146
  replace hE135 := Ex.tr hE135 hx146
  replace hE141 := Ex.tr hE141 hx146
  replace hE143 := Ex.tr hE143 hx146
  replace hE145 := Ex.tr hE145 hx146
  have hE147 := hx146
  refine RG.vl rfl rfl rfl (Ev.move rfl rfl) ?_
  refine RG.vl rfl rfl rfl (Ev.extract rfl rfl rfl) ?_
  refine RG.vl rfl rfl rfl (Ev.extract rfl rfl rfl) ?_
  refine RG.vl rfl rfl rfl (Ev.assign rfl rfl) ?_
  refine RG.vl rfl rfl rfl (Ev.assign rfl rfl) ?_
  refine RG.done ?_
  refine QW.sub (S' := [(0, _), (2, _), (8, _), (10, _), (12, _), (21, _), (22, _), (23, _), (25, _)]) ⟨rfl, rfl, rfl, rfl, rfl, rfl, rfl, rfl, rfl, trivial⟩ ?_
  refine QW.then_ ?_
  refine CW.seq ?_
  refine CW.region ?_
  refine RG.vl rfl rfl rfl (Ev.ldAgg rfl rfl Tryd.underlying24 rfl sz_24 rfl ((hb15.ext hE29).cells)) ?_
  refine RG.call rfl rfl rfl rfl rfl rfl rfl en_21 (Test_is (k := 2) (ws := [2, 3, 4, 5, 6, 7, 8, 9, 10]) (Own.rdl (Own.ext hown11 hE23) encI_len) (by decide) (by decide) (show testR 2 [2, 3, 4, 5, 6, 7, 8, 9, 10] [88, 49] = (false, 161) by kernel_rfl)) ?_
  rintro _ w148 ⟨rfl, hx148⟩
  replace hE4 := Ex.tr hE4 hx148
  replace hE9 := Ex.tr hE9 hx148
  replace hE14 := Ex.tr hE14 hx148
  replace hE23 := Ex.tr hE23 hx148
  replace hE29 := Ex.tr hE29 hx148
  replace hE42 := Ex.tr hE42 hx148
  replace hE49 := Ex.tr hE49 hx148
  replace hE66 := Ex.tr hE66 hx148
  replace hE85 := Ex.tr hE85 hx148
  replace hE110 := Ex.tr hE110 hx148
  replace hE112 := Ex.tr hE112 hx148
  replace hE114 := Ex.tr hE114 hx148
  replace hE116 := Ex.tr hE116 hx148
  replace hE118 := Ex.tr hE118 hx148
  replace hE120 := Ex.tr hE120 hx148
  replace hE122 := Ex.tr hE122 hx148
  replace hE128 := Ex.tr hE128 hx148
  replace hE135 := Ex.tr hE135 hx148
  replace hE141 := Ex.tr hE141 hx148
  replace hE143 := Ex.tr hE143 hx148
  replace hE145 := Ex.tr hE145 hx148
  replace hE147 := Ex.tr hE147 hx148
  have hE149 := hx148
  refine RG.vl rfl rfl rfl (Ev.move rfl rfl) ?_
  refine RG.vl rfl rfl rfl (Ev.extract rfl rfl rfl) ?_
  refine RG.vl rfl rfl rfl (Ev.extract rfl rfl rfl) ?_
  refine RG.vl rfl rfl rfl (Ev.assign rfl rfl) ?_
  refine RG.vl rfl rfl rfl (Ev.assign rfl rfl) ?_
  refine RG.done ?_
  refine QW.then_ ?_
  refine CW.seq ?_
  refine CW.region ?_
  refine RG.vl rfl rfl rfl (Ev.move rfl rfl) ?_
  refine RG.vl rfl rfl rfl (Ev.isT (Ev.eqS rfl rfl rfl) (rfl)) ?_
  refine RG.vl rfl rfl rfl (Ev.move rfl rfl) ?_
  refine RG.vl rfl rfl rfl (Ev.move rfl rfl) ?_
  refine RG.vl rfl rfl rfl (Ev.isT (Ev.eqS rfl rfl rfl) (rfl)) ?_
  refine RG.vl rfl rfl rfl (Ev.pickT rfl rfl rfl) ?_
  refine RG.vl rfl rfl rfl (Ev.move rfl rfl) ?_
  refine RG.vl rfl rfl rfl (Ev.move rfl rfl) ?_
  refine RG.vl rfl rfl rfl (Ev.isT (Ev.eqS rfl rfl rfl) (rfl)) ?_
  refine RG.vl rfl rfl rfl (Ev.pickT rfl rfl rfl) ?_
  refine RG.vl rfl rfl rfl (Ev.move rfl rfl) ?_
  refine RG.vl rfl rfl rfl (Ev.move rfl rfl) ?_
  refine RG.vl rfl rfl rfl (Ev.move rfl rfl) ?_
  refine RG.vl rfl rfl rfl (Ev.addI rfl rfl rfl (by omega)) ?_
  refine RG.vl rfl rfl rfl (Ev.move rfl rfl) ?_
  refine RG.vl rfl rfl rfl (Ev.addI rfl rfl rfl (by omega)) ?_
  refine RG.vl rfl rfl rfl (Ev.isT (Ev.eqI rfl rfl rfl) (rfl)) ?_
  refine RG.vl rfl rfl rfl (Ev.pickT rfl rfl rfl) ?_
  refine RG.vl rfl rfl rfl (Ev.move rfl rfl) ?_
  refine RG.vl rfl rfl rfl (Ev.move rfl rfl) ?_
  refine RG.vl rfl rfl rfl (Ev.isT (Ev.eqI rfl rfl rfl) (rfl)) ?_
  refine RG.vl rfl rfl rfl (Ev.pickT rfl rfl rfl) ?_
  refine RG.vl rfl rfl rfl (Ev.move rfl rfl) ?_
  refine RG.vl rfl rfl rfl (Ev.move rfl rfl) ?_
  refine RG.vl rfl rfl rfl (Ev.isT (Ev.eqI rfl rfl rfl) (rfl)) ?_
  refine RG.vl rfl rfl rfl (Ev.pickT rfl rfl rfl) ?_
  refine RG.vl rfl rfl rfl (Ev.assign rfl rfl) ?_
  refine RG.done ?_
  refine QW.sub (S' := [(0, _)]) ⟨rfl, trivial⟩ ?_
  refine QW.then_ ?_
  refine CW.ret ?_
  refine QW.ret1 rfl rfl ?_
  have hB := (Ex.tr hB0 hE4)
  exact ⟨rfl, hB⟩

end Go.Proofs.YtnhkhpnkhkagaaaDoor
