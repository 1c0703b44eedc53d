/- Walks (HK). Written by program. -/
import Derived.Test.YtnecppiamecemaaT
import Derived.Test.YtnecppiamecemaaHJ
namespace Go.Proofs.Ytnecppiamecemaa
open Go.RowKit
set_option maxRecDepth 100000 in
set_option maxHeartbeats 1000000 in
theorem heightWrong_ret (f : Fm) (y n : Int) (w : World) (hf : f.Ok) (hy : 0 ≤ y ∧ y ≤ 255) :
    Ret Try.prog 7 [f.v, .int .u8 y, .int .i64 n] w (fun v w' => v = .bool true ∧ Ex w w') := by
  have hB0 : Ex w w := Ex.rfl_ _
  refine Ret.of Try.func7 rfl Try.ntmps7 rfl ?_
  refine CW.seq ?_
  refine CW.region ?_
  refine RG.box rfl rfl rfl rfl rfl (fun g1 w1 eg1 hx1 hb1 => ?_)
  have hle2 : w.heap.size ≤ g1 := by have := (Ex.rfl_ w).size; omega
  have hE3 := hx1
  refine RG.vl rfl rfl rfl (Ev.assign rfl rfl) ?_
  refine RG.done ?_
  refine QW.then_ ?_
  refine CW.seq ?_
  refine CW.region ?_
  refine RG.vl rfl rfl rfl (Ev.ldAgg rfl rfl Try.underlying51 rfl sz_51 rfl (hb1.cells)) ?_
  refine RG.call rfl rfl rfl rfl rfl rfl rfl en_20 (setup_ret f _ hf) ?_
  rintro _ w4 ⟨rfl, hx4⟩
  replace hE3 := Ex.tr hE3 hx4
  have hE5 := hx4
  refine RG.local_ rfl rfl rfl rfl (fun _ => rfl) rfl rfl (fun _ => rfl) inf_23 rfl rfl rfl (fun gS w6 egS hx6 hb6 => ?_)
  have hle7 : w.heap.size ≤ gS := by have := hE3.size; omega
  have hle8 : w1.heap.size ≤ gS := by have := hE5.size; omega
  have hle9 : w4.heap.size ≤ gS := by have := (Ex.rfl_ w4).size; omega
  have hlt10 : g1 < gS := by have := Blk.lt (hb1.ext hE5); omega
  replace hE3 := Ex.tr hE3 hx6
  replace hE5 := Ex.tr hE5 hx6
  refine RG.done ?_
  refine QW.then_ ?_
  refine CW.seq ?_
  refine CW.region ?_
  refine RG.vl rfl rfl rfl (Ev.ldAgg rfl rfl Try.underlying23 rfl sz_23 rfl (hb6.cells)) ?_
  refine RG.local_ rfl rfl rfl rfl (fun _ => rfl) rfl rfl (fun _ => rfl) inf_23 rfl rfl rfl (fun gB w11 egB hx11 hb11 => ?_)
  have hle12 : w.heap.size ≤ gB := by have := hE3.size; omega
  have hle13 : w1.heap.size ≤ gB := by have := hE5.size; omega
  have hle14 : w6.heap.size ≤ gB := by have := (Ex.rfl_ w6).size; omega
  have hlt15 : g1 < gB := by have := Blk.lt (hb1.ext hE5); omega
  have hlt16 : gS < gB := by have := Blk.lt hb6; omega
  replace hE3 := Ex.tr hE3 hx11
  replace hE5 := Ex.tr hE5 hx11
  have hE17 := hx11
  refine RG.done ?_
  refine QW.then_ ?_
  refine CW.seq ?_
  refine CW.region ?_
  refine RG.vl rfl rfl rfl (Ev.fld rfl rfl fld_23_1) ?_
  refine RG.vl rfl rfl rfl (Ev.ldAt rfl rfl Try.underlying3 rfl ((hb6.ext hE17).cells) (rfl)) ?_
  refine RG.vl rfl rfl rfl (Ev.fld rfl rfl fld_23_4) ?_
  refine RG.vl rfl rfl rfl (Ev.ldAt rfl rfl Try.underlying3 rfl ((hb6.ext hE17).cells) (rfl)) ?_
  refine RG.vl rfl rfl rfl (Ev.fld rfl rfl fld_23_5) ?_
  refine RG.vl rfl rfl rfl (Ev.ldAt rfl rfl Try.underlying3 rfl ((hb6.ext hE17).cells) (rfl)) ?_
  refine RG.vl rfl rfl rfl (Ev.build1 rfl rfl rfl inf_48 rfl rfl (by kernel_rfl) rfl) ?_
  refine RG.local_ rfl rfl rfl rfl (fun _ => rfl) rfl rfl (fun _ => rfl) inf_48 rfl rfl rfl (fun gR w18 egR hx18 hb18 => ?_)
  have hle19 : w.heap.size ≤ gR := by have := hE3.size; omega
  have hle20 : w1.heap.size ≤ gR := by have := hE5.size; omega
  have hle21 : w6.heap.size ≤ gR := by have := hE17.size; omega
  have hle22 : w11.heap.size ≤ gR := by have := (Ex.rfl_ w11).size; omega
  have hlt23 : g1 < gR := by have := Blk.lt (hb1.ext hE5); omega
  have hlt24 : gS < gR := by have := Blk.lt (hb6.ext hE17); omega
  have hlt25 : gB < gR := by have := Blk.lt hb11; omega
  replace hE3 := Ex.tr hE3 hx18
  replace hE5 := Ex.tr hE5 hx18
  replace hE17 := Ex.tr hE17 hx18
  have hE26 := hx18
  refine RG.done ?_
  refine QW.sub (S' := [(1, _), (2, _), (6, _), (7, _), (8, _), (9, _)]) ⟨rfl, rfl, rfl, rfl, rfl, rfl, trivial⟩ ?_
  refine QW.then_ ?_
  refine CW.seq ?_
  refine CW.seq ?_
  have hok := setup_okay f hf
  obtain ⟨a1, a2, a3, a4, a5, a6, a7, a8, a9, a10, a11⟩ := id hok
  refine CW.region ?_
  refine RG.vl rfl rfl rfl (Ev.move rfl rfl) ?_
  refine RG.vl rfl rfl rfl (Ev.rem8 rfl rfl rfl (by omega)) ?_
  refine RG.done ?_
  refine QW.then_ ?_
  refine CW.block ?_
  refine CW.seq ?_
  refine CW.region ?_
  refine RG.vl rfl rfl rfl (Ev.eqI rfl rfl rfl) ?_
  refine RG.vl rfl rfl rfl (Ev.assign rfl rfl) ?_
  refine RG.done ?_
  refine QW.then_ ?_
  refine CW.condP rfl (fun hc27 => ?_) (fun hc27 => ?_)
  · refine CW.region ?_
    refine RG.vl rfl rfl rfl (Ev.move rfl rfl) ?_
    refine RG.vl rfl rfl rfl (Ev.min2 rfl rfl rfl rfl) ?_
    refine RG.vl rfl rfl rfl (Ev.fld rfl rfl fld_23_0) ?_
    refine RG.st (g := gB) (k := 0) rfl rfl rfl rfl rfl sz_3 rfl (hb11.ext hE26) rfl (fun ws28 hwws28 hbws28 => ?_)
    replace hb18 := Blk.far hb18 hwws28 (by omega)
    replace hE3 := Wr.below hE3 hwws28 hle12
    replace hE5 := Wr.below hE5 hwws28 hle13
    replace hE17 := Wr.below hE17 hwws28 hle14
    refine RG.done ?_
    refine QW.blockN ?_
    refine QW.then_ ?_
    refine CW.seq ?_
    have hno : ¬ Okay (⟨min n 0, (setupOf f).og, (setupOf f).pi, (setupOf f).sl, (setupOf f).lo, (setupOf f).hi⟩ : Su) := by intro h; unfold Okay at h; simp only at h; omega
    have he : errOf (⟨min n 0, (setupOf f).og, (setupOf f).pi, (setupOf f).sl, (setupOf f).lo, (setupOf f).hi⟩ : Su) [(⟨(setupOf f).og, (setupOf f).lo, (setupOf f).hi⟩ : Br)] = 2 := err_setup _ _ hno
    refine CW.region ?_
    refine RG.vl rfl rfl rfl (Ev.ldAgg rfl rfl Try.underlying23 rfl sz_23 rfl (hbws28.cells)) ?_
    refine RG.vl rfl rfl rfl (Ev.ldAgg rfl rfl Try.underlying48 rfl sz_48 rfl (hb18.cells)) ?_
    refine RG.buildD (xs := [.tmp 98]) rfl rfl rfl rfl rfl rfl rfl Try.underlying24 inf_48 rfl rfl rfl rfl (fun g29 w29 eg29 hx29 hb29 => ?_)
    replace hE3 := Ex.tr hE3 hx29
    replace hE5 := Ex.tr hE5 hx29
    replace hE17 := Ex.tr hE17 hx29
    have hE30 := hx29
    have hlit31 : RdL w29 3 Br.c (.slice (some ⟨g29, 0, none⟩) 1 1) ([(⟨(setupOf f).og, (setupOf f).lo, (setupOf f).hi⟩ : Br)]) := RdL.of_blk Br.c_len (l := [(⟨(setupOf f).og, (setupOf f).lo, (setupOf f).hi⟩ : Br)]) hb29 (Nat.le_refl _) (by decide)
    refine RG.call rfl rfl rfl rfl rfl rfl rfl en_10 (read_ret (⟨min n 0, (setupOf f).og, (setupOf f).pi, (setupOf f).sl, (setupOf f).lo, (setupOf f).hi⟩ : Su) _ [(⟨(setupOf f).og, (setupOf f).lo, (setupOf f).hi⟩ : Br)] _ (hlit31) (by simp)) ?_
    rintro _ w32 ⟨rfl, hx32⟩
    replace hE3 := Ex.tr hE3 hx32
    replace hE5 := Ex.tr hE5 hx32
    replace hE17 := Ex.tr hE17 hx32
    replace hE30 := Ex.tr hE30 hx32
    have hE33 := hx32
    refine RG.vl rfl rfl rfl (Ev.move rfl rfl) ?_
    refine RG.vl rfl rfl rfl (Ev.extract rfl rfl rfl) ?_
    refine RG.vl rfl rfl rfl (Ev.extract rfl rfl rfl) ?_
    refine RG.vl rfl rfl rfl (Ev.assign rfl rfl) ?_
    refine RG.vl rfl rfl rfl (Ev.assign rfl rfl) ?_
    refine RG.done ?_
    refine QW.sub (S' := [(1, _), (6, _), (7, _), (8, _), (9, _), (10, _), (11, _)]) ⟨rfl, rfl, rfl, rfl, rfl, rfl, rfl, trivial⟩ ?_
    refine QW.then_ ?_
    refine CW.seq ?_
    refine CW.region ?_
    refine RG.vl rfl rfl rfl (Ev.ldAgg rfl rfl Try.underlying23 rfl sz_23 rfl ((hbws28.ext hE30).cells)) ?_
    refine RG.vl rfl rfl rfl (Ev.ldAgg rfl rfl Try.underlying48 rfl sz_48 rfl ((hb18.ext hE30).cells)) ?_
    refine RG.buildD (xs := [.tmp 105]) rfl rfl rfl rfl rfl rfl rfl Try.underlying24 inf_48 rfl rfl rfl rfl (fun g34 w34 eg34 hx34 hb34 => ?_)
    replace hE3 := Ex.tr hE3 hx34
    replace hE5 := Ex.tr hE5 hx34
    replace hE17 := Ex.tr hE17 hx34
    replace hE30 := Ex.tr hE30 hx34
    replace hE33 := Ex.tr hE33 hx34
    have hlit35 : RdL w34 3 Br.c (.slice (some ⟨g34, 0, none⟩) 1 1) ([(⟨(setupOf f).og, (setupOf f).lo, (setupOf f).hi⟩ : Br)]) := RdL.of_blk Br.c_len (l := [(⟨(setupOf f).og, (setupOf f).lo, (setupOf f).hi⟩ : Br)]) hb34 (Nat.le_refl _) (by decide)
    refine RG.call rfl rfl rfl rfl rfl rfl rfl en_11 (margin_ret (⟨min n 0, (setupOf f).og, (setupOf f).pi, (setupOf f).sl, (setupOf f).lo, (setupOf f).hi⟩ : Su) _ [(⟨(setupOf f).og, (setupOf f).lo, (setupOf f).hi⟩ : Br)] _ (hlit35) (by simp)) ?_
    rintro _ w36 ⟨rfl, hx36⟩
    replace hE3 := Ex.tr hE3 hx36
    replace hE5 := Ex.tr hE5 hx36
    replace hE17 := Ex.tr hE17 hx36
    replace hE30 := Ex.tr hE30 hx36
    replace hE33 := Ex.tr hE33 hx36
    have hE37 := hx36
    refine RG.vl rfl rfl rfl (Ev.move rfl rfl) ?_
    refine RG.vl rfl rfl rfl (Ev.extract rfl rfl rfl) ?_
    refine RG.vl rfl rfl rfl (Ev.extract rfl rfl rfl) ?_
    refine RG.vl rfl rfl rfl (Ev.assign rfl rfl) ?_
    refine RG.vl rfl rfl rfl (Ev.assign rfl rfl) ?_
    refine RG.done ?_
    refine QW.then_ ?_
    refine CW.seq ?_
    refine CW.region ?_
    refine RG.vl rfl rfl rfl (Ev.ldAgg rfl rfl Try.underlying23 rfl sz_23 rfl ((hbws28.ext hE30).cells)) ?_
    refine RG.vl rfl rfl rfl (Ev.move rfl rfl) ?_
    refine RG.call rfl rfl rfl rfl rfl rfl rfl en_18 (draw_ret (⟨min n 0, (setupOf f).og, (setupOf f).pi, (setupOf f).sl, (setupOf f).lo, (setupOf f).hi⟩ : Su) _ _ (by rw [read_bad _ _ he]; decide)) ?_
    rintro _ w38 ⟨dr38, rfl, hdr38, hx38⟩
    replace hE3 := Ex.tr hE3 hx38
    replace hE5 := Ex.tr hE5 hx38
    replace hE17 := Ex.tr hE17 hx38
    replace hE30 := Ex.tr hE30 hx38
    replace hE33 := Ex.tr hE33 hx38
    replace hE37 := Ex.tr hE37 hx38
    have hE39 := hx38
    refine RG.vl rfl rfl rfl (Ev.move rfl rfl) ?_
    refine RG.vl rfl rfl rfl (Ev.extract rfl rfl rfl) ?_
    refine RG.vl rfl rfl rfl (Ev.extract rfl rfl rfl) ?_
    refine RG.vl rfl rfl rfl (Ev.assign rfl rfl) ?_
    refine RG.vl rfl rfl rfl (Ev.assign rfl rfl) ?_
    refine RG.done ?_
    refine QW.sub (S' := [(1, _), (6, _), (7, _), (8, _), (10, _), (11, _), (13, _), (15, _)]) ⟨rfl, rfl, rfl, rfl, rfl, rfl, rfl, rfl, trivial⟩ ?_
    refine QW.then_ ?_
    refine CW.seq ?_
    refine CW.draw [] (.ex) 8 rfl mixed (fun wd40 hxwd40 => ?_)
    replace hE3 := Ex.tr hE3 hxwd40
    replace hE5 := Ex.tr hE5 hxwd40
    replace hE17 := Ex.tr hE17 hxwd40
    replace hE30 := Ex.tr hE30 hxwd40
    replace hE33 := Ex.tr hE33 hxwd40
    replace hE37 := Ex.tr hE37 hxwd40
    replace hE39 := Ex.tr hE39 hxwd40
    have hE41 := hxwd40
    refine AG.take 0 rfl (by kernel_rfl) (by kernel_rfl) rfl rfl rfl (fun wq hq => Ev.ldAgg rfl rfl Try.underlying23 rfl sz_23 rfl (((hbws28.ext hE30).ext hq).cells)) ?_
    refine AG.only 1 rfl (by kernel_rfl) ?_
    refine RG.makeL (m := 401) (enc := Br.c) (⟨0, 0, 0⟩ : Br) rfl rfl rfl rfl rfl rfl (rfl) Try.underlying24 inf_48 Br.c_len rfl rfl (by omega) (by simp only [maxLen]; omega) (fun g43 w43 eg43 hx43 hb43 hmk44 => ?_)
    have hle45 : w.heap.size ≤ g43 := by have := hE3.size; omega
    have hle46 : w1.heap.size ≤ g43 := by have := hE5.size; omega
    have hle47 : w6.heap.size ≤ g43 := by have := hE17.size; omega
    have hle48 : ws28.heap.size ≤ g43 := by have := hE30.size; omega
    have hle49 : w29.heap.size ≤ g43 := by have := hE33.size; omega
    have hle50 : w34.heap.size ≤ g43 := by have := hE37.size; omega
    have hle51 : w36.heap.size ≤ g43 := by have := hE39.size; omega
    have hle52 : w38.heap.size ≤ g43 := by have := hE41.size; omega
    have hle53 : wd40.heap.size ≤ g43 := by have := (Ex.rfl_ wd40).size; omega
    have hlt54 : g1 < g43 := by have := Blk.lt (hb1.ext hE5); omega
    have hlt55 : gS < g43 := by have := Blk.lt (hb6.ext hE17); omega
    have hlt56 : gR < g43 := by have := Blk.lt (hb18.ext hE30); omega
    have hlt57 : gB < g43 := by have := Blk.lt (hbws28.ext hE30); omega
    have hlt58 : g29 < g43 := by have := Blk.lt (hb29.ext hE33); omega
    have hlt59 : g34 < g43 := by have := Blk.lt (hb34.ext hE37); omega
    replace hE3 := Ex.tr hE3 hx43
    replace hE5 := Ex.tr hE5 hx43
    replace hE17 := Ex.tr hE17 hx43
    replace hE30 := Ex.tr hE30 hx43
    replace hE33 := Ex.tr hE33 hx43
    replace hE37 := Ex.tr hE37 hx43
    replace hE39 := Ex.tr hE39 hx43
    replace hE41 := Ex.tr hE41 hx43
    have hE60 := hx43
    refine RG.done ?_
    refine QW.an (fun _ => hE60) ?_
    refine AG.only 2 rfl (by kernel_rfl) ?_
    refine RG.call rfl rfl rfl rfl rfl rfl rfl en_10 (read_ret (⟨min n 0, (setupOf f).og, (setupOf f).pi, (setupOf f).sl, (setupOf f).lo, (setupOf f).hi⟩ : Su) _ (List.replicate 401 ⟨0, 0, 0⟩) _ (hmk44) (by rw [List.length_replicate]; decide)) ?_
    rintro _ w62 ⟨rfl, hx62⟩
    replace hE3 := Ex.tr hE3 hx62
    replace hE5 := Ex.tr hE5 hx62
    replace hE17 := Ex.tr hE17 hx62
    replace hE30 := Ex.tr hE30 hx62
    replace hE33 := Ex.tr hE33 hx62
    replace hE37 := Ex.tr hE37 hx62
    replace hE39 := Ex.tr hE39 hx62
    replace hE41 := Ex.tr hE41 hx62
    have hE63 := hx62
    refine RG.done ?_
    refine QW.an (fun _ => hE63) ?_
    refine AG.takeW 3 rfl (by kernel_rfl) (by kernel_rfl) rfl rfl rfl (fun _ => Ev.move rfl rfl) ?_
    refine AG.takeW 4 rfl (by kernel_rfl) (by kernel_rfl) rfl rfl rfl (fun _ => Ev.extract rfl rfl rfl) ?_
    refine AG.takeW 5 rfl (by kernel_rfl) (by kernel_rfl) rfl rfl rfl (fun _ => Ev.extract rfl rfl rfl) ?_
    refine AG.takeW 6 rfl (by kernel_rfl) (by kernel_rfl) rfl rfl rfl (fun _ => Ev.assign rfl rfl) ?_
    refine AG.takeW 7 rfl (by kernel_rfl) (by kernel_rfl) rfl rfl rfl (fun _ => Ev.assign rfl rfl) ?_
    refine AG.done (by kernel_rfl) ?_
    refine QW.then_ ?_
    refine CW.seq ?_
    have hdr : drawErr (⟨min n 0, (setupOf f).og, (setupOf f).pi, (setupOf f).sl, (setupOf f).lo, (setupOf f).hi⟩ : Su) (⟨(readOf (⟨min n 0, (setupOf f).og, (setupOf f).pi, (setupOf f).sl, (setupOf f).lo, (setupOf f).hi⟩ : Su) [(⟨(setupOf f).og, (setupOf f).lo, (setupOf f).hi⟩ : Br)]).toArray⟩ : ByteArray).data.toList = 2 := by rw [read_bad _ _ he]; exact draw_empty _
    refine CW.region ?_
    refine RG.vl rfl rfl rfl (Ev.move rfl rfl) ?_
    refine RG.vl rfl rfl rfl (Ev.isT (Ev.eqI rfl rfl rfl) (by omega)) ?_
    refine RG.vl rfl rfl rfl (Ev.move rfl rfl) ?_
    refine RG.vl rfl rfl rfl (Ev.move rfl rfl) ?_
    refine RG.vl rfl rfl rfl (Ev.move rfl rfl) ?_
    refine RG.vl rfl rfl rfl (Ev.isT (Ev.eqI rfl rfl rfl) (rfl)) ?_
    refine RG.vl rfl rfl rfl (Ev.pickT rfl rfl rfl) ?_
    refine RG.vl rfl rfl rfl (Ev.move rfl rfl) ?_
    refine RG.vl rfl rfl rfl (Ev.move rfl rfl) ?_
    refine RG.vl rfl rfl rfl (Ev.isT (Ev.eqS rfl rfl rfl) (by rw [read_bad _ _ he])) ?_
    refine RG.vl rfl rfl rfl (Ev.pickT rfl rfl rfl) ?_
    refine RG.vl rfl rfl rfl (Ev.move rfl rfl) ?_
    refine RG.vl rfl rfl rfl (Ev.move rfl rfl) ?_
    refine RG.vl rfl rfl rfl (Ev.rem8 rfl rfl rfl (by omega)) ?_
    refine RG.vl rfl rfl rfl (Ev.isF (Ev.geq rfl rfl rfl) (by omega)) ?_
    refine RG.vl rfl rfl rfl (Ev.move rfl rfl) ?_
    refine RG.vl rfl rfl rfl (Ev.move rfl rfl) ?_
    refine RG.vl rfl rfl rfl (Ev.isT (Ev.eqI rfl rfl rfl) (hdr)) ?_
    refine RG.vl rfl rfl rfl (Ev.move rfl rfl) ?_
    refine RG.vl rfl rfl rfl (Ev.ldAgg rfl rfl Try.underlying23 rfl sz_23 rfl ((hbws28.ext hE30).cells)) ?_
    refine RG.call rfl rfl rfl rfl rfl rfl rfl en_15 (right_no (⟨min n 0, (setupOf f).og, (setupOf f).pi, (setupOf f).sl, (setupOf f).lo, (setupOf f).hi⟩ : Su) _ hno) ?_
    rintro _ w64 ⟨rfl, hx64⟩
    replace hE3 := Ex.tr hE3 hx64
    replace hE5 := Ex.tr hE5 hx64
    replace hE17 := Ex.tr hE17 hx64
    replace hE30 := Ex.tr hE30 hx64
    replace hE33 := Ex.tr hE33 hx64
    replace hE37 := Ex.tr hE37 hx64
    replace hE39 := Ex.tr hE39 hx64
    replace hE41 := Ex.tr hE41 hx64
    replace hE63 := Ex.tr hE63 hx64
    have hE65 := hx64
    refine RG.vl rfl rfl rfl (Ev.notT rfl rfl) ?_
    refine RG.vl rfl rfl rfl (Ev.pickT rfl rfl rfl) ?_
    refine RG.vl rfl rfl rfl (Ev.pickF rfl rfl rfl) ?_
    refine RG.vl rfl rfl rfl (Ev.pickT rfl rfl rfl) ?_
    refine RG.vl rfl rfl rfl (Ev.move rfl rfl) ?_
    refine RG.vl rfl rfl rfl (Ev.ldAgg rfl rfl Try.underlying23 rfl sz_23 rfl ((hb6.ext hE17).cells)) ?_
    refine RG.call rfl rfl rfl rfl rfl rfl rfl en_15 (right_yes (setupOf f) _ hok) ?_
    rintro _ w66 ⟨rfl, hx66⟩
    replace hE3 := Ex.tr hE3 hx66
    replace hE5 := Ex.tr hE5 hx66
    replace hE17 := Ex.tr hE17 hx66
    replace hE30 := Ex.tr hE30 hx66
    replace hE33 := Ex.tr hE33 hx66
    replace hE37 := Ex.tr hE37 hx66
    replace hE39 := Ex.tr hE39 hx66
    replace hE41 := Ex.tr hE41 hx66
    replace hE63 := Ex.tr hE63 hx66
    replace hE65 := Ex.tr hE65 hx66
    have hE67 := hx66
    refine RG.vl rfl rfl rfl (Ev.pickT rfl rfl rfl) ?_
    refine RG.vl rfl rfl rfl (Ev.move rfl rfl) ?_
    refine RG.vl rfl rfl rfl (Ev.move rfl rfl) ?_
    refine RG.vl rfl rfl rfl (Ev.isT (Ev.eqI rfl rfl rfl) (by rw [err_many])) ?_
    refine RG.vl rfl rfl rfl (Ev.pickT rfl rfl rfl) ?_
    refine RG.vl rfl rfl rfl (Ev.move rfl rfl) ?_
    refine RG.call rfl rfl rfl rfl rfl rfl rfl en_9 (awake_ret _) ?_
    rintro _ w68 ⟨rfl, hx68⟩
    replace hE3 := Ex.tr hE3 hx68
    replace hE5 := Ex.tr hE5 hx68
    replace hE17 := Ex.tr hE17 hx68
    replace hE30 := Ex.tr hE30 hx68
    replace hE33 := Ex.tr hE33 hx68
    replace hE37 := Ex.tr hE37 hx68
    replace hE39 := Ex.tr hE39 hx68
    replace hE41 := Ex.tr hE41 hx68
    replace hE63 := Ex.tr hE63 hx68
    replace hE65 := Ex.tr hE65 hx68
    replace hE67 := Ex.tr hE67 hx68
    have hE69 := hx68
    refine RG.vl rfl rfl rfl (Ev.pickT rfl rfl rfl) ?_
    refine RG.vl rfl rfl rfl (Ev.assign rfl rfl) ?_
    refine RG.done ?_
    refine QW.sub (S' := [(6, _)]) ⟨rfl, trivial⟩ ?_
    refine QW.then_ ?_
    refine CW.ret ?_
    refine QW.ret1 rfl rfl ?_
    have hB := (Ex.tr hB0 hE3)
    exact ⟨rfl, hB⟩
  · refine CW.seq ?_
    refine CW.region ?_
    refine RG.vl rfl rfl rfl (Ev.eqI rfl rfl rfl) ?_
    refine RG.vl rfl rfl rfl (Ev.assign rfl rfl) ?_
    refine RG.done ?_
    refine QW.then_ ?_
    refine CW.condP rfl (fun hc70 => ?_) (fun hc70 => ?_)
    · refine CW.region ?_
      refine RG.vl rfl rfl rfl (Ev.move rfl rfl) ?_
      refine RG.vl rfl rfl rfl (Ev.max2 rfl rfl rfl rfl) ?_
      refine RG.vl rfl rfl rfl (Ev.fld rfl rfl fld_23_0) ?_
      refine RG.st (g := gB) (k := 0) rfl rfl rfl rfl rfl sz_3 rfl (hb11.ext hE26) rfl (fun ws71 hwws71 hbws71 => ?_)
      replace hb18 := Blk.far hb18 hwws71 (by omega)
      replace hE3 := Wr.below hE3 hwws71 hle12
      replace hE5 := Wr.below hE5 hwws71 hle13
      replace hE17 := Wr.below hE17 hwws71 hle14
      refine RG.done ?_
      refine QW.blockN ?_
      refine QW.then_ ?_
      refine CW.seq ?_
      have hno : ¬ Okay (⟨max n 201, (setupOf f).og, (setupOf f).pi, (setupOf f).sl, (setupOf f).lo, (setupOf f).hi⟩ : Su) := by intro h; unfold Okay at h; simp only at h; omega
      have he : errOf (⟨max n 201, (setupOf f).og, (setupOf f).pi, (setupOf f).sl, (setupOf f).lo, (setupOf f).hi⟩ : Su) [(⟨(setupOf f).og, (setupOf f).lo, (setupOf f).hi⟩ : Br)] = 2 := err_setup _ _ hno
      refine CW.region ?_
      refine RG.vl rfl rfl rfl (Ev.ldAgg rfl rfl Try.underlying23 rfl sz_23 rfl (hbws71.cells)) ?_
      refine RG.vl rfl rfl rfl (Ev.ldAgg rfl rfl Try.underlying48 rfl sz_48 rfl (hb18.cells)) ?_
      refine RG.buildD (xs := [.tmp 98]) rfl rfl rfl rfl rfl rfl rfl Try.underlying24 inf_48 rfl rfl rfl rfl (fun g72 w72 eg72 hx72 hb72 => ?_)
      replace hE3 := Ex.tr hE3 hx72
      replace hE5 := Ex.tr hE5 hx72
      replace hE17 := Ex.tr hE17 hx72
      have hE73 := hx72
      have hlit74 : RdL w72 3 Br.c (.slice (some ⟨g72, 0, none⟩) 1 1) ([(⟨(setupOf f).og, (setupOf f).lo, (setupOf f).hi⟩ : Br)]) := RdL.of_blk Br.c_len (l := [(⟨(setupOf f).og, (setupOf f).lo, (setupOf f).hi⟩ : Br)]) hb72 (Nat.le_refl _) (by decide)
      refine RG.call rfl rfl rfl rfl rfl rfl rfl en_10 (read_ret (⟨max n 201, (setupOf f).og, (setupOf f).pi, (setupOf f).sl, (setupOf f).lo, (setupOf f).hi⟩ : Su) _ [(⟨(setupOf f).og, (setupOf f).lo, (setupOf f).hi⟩ : Br)] _ (hlit74) (by simp)) ?_
      rintro _ w75 ⟨rfl, hx75⟩
      replace hE3 := Ex.tr hE3 hx75
      replace hE5 := Ex.tr hE5 hx75
      replace hE17 := Ex.tr hE17 hx75
      replace hE73 := Ex.tr hE73 hx75
      have hE76 := hx75
      refine RG.vl rfl rfl rfl (Ev.move rfl rfl) ?_
      refine RG.vl rfl rfl rfl (Ev.extract rfl rfl rfl) ?_
      refine RG.vl rfl rfl rfl (Ev.extract rfl rfl rfl) ?_
      refine RG.vl rfl rfl rfl (Ev.assign rfl rfl) ?_
      refine RG.vl rfl rfl rfl (Ev.assign rfl rfl) ?_
      refine RG.done ?_
      refine QW.sub (S' := [(1, _), (6, _), (7, _), (8, _), (9, _), (10, _), (11, _)]) ⟨rfl, rfl, rfl, rfl, rfl, rfl, rfl, trivial⟩ ?_
      refine QW.then_ ?_
      refine CW.seq ?_
      refine CW.region ?_
      refine RG.vl rfl rfl rfl (Ev.ldAgg rfl rfl Try.underlying23 rfl sz_23 rfl ((hbws71.ext hE73).cells)) ?_
      refine RG.vl rfl rfl rfl (Ev.ldAgg rfl rfl Try.underlying48 rfl sz_48 rfl ((hb18.ext hE73).cells)) ?_
      refine RG.buildD (xs := [.tmp 105]) rfl rfl rfl rfl rfl rfl rfl Try.underlying24 inf_48 rfl rfl rfl rfl (fun g77 w77 eg77 hx77 hb77 => ?_)
      replace hE3 := Ex.tr hE3 hx77
      replace hE5 := Ex.tr hE5 hx77
      replace hE17 := Ex.tr hE17 hx77
      replace hE73 := Ex.tr hE73 hx77
      replace hE76 := Ex.tr hE76 hx77
      have hlit78 : RdL w77 3 Br.c (.slice (some ⟨g77, 0, none⟩) 1 1) ([(⟨(setupOf f).og, (setupOf f).lo, (setupOf f).hi⟩ : Br)]) := RdL.of_blk Br.c_len (l := [(⟨(setupOf f).og, (setupOf f).lo, (setupOf f).hi⟩ : Br)]) hb77 (Nat.le_refl _) (by decide)
      refine RG.call rfl rfl rfl rfl rfl rfl rfl en_11 (margin_ret (⟨max n 201, (setupOf f).og, (setupOf f).pi, (setupOf f).sl, (setupOf f).lo, (setupOf f).hi⟩ : Su) _ [(⟨(setupOf f).og, (setupOf f).lo, (setupOf f).hi⟩ : Br)] _ (hlit78) (by simp)) ?_
      rintro _ w79 ⟨rfl, hx79⟩
      replace hE3 := Ex.tr hE3 hx79
      replace hE5 := Ex.tr hE5 hx79
      replace hE17 := Ex.tr hE17 hx79
      replace hE73 := Ex.tr hE73 hx79
      replace hE76 := Ex.tr hE76 hx79
      have hE80 := hx79
      refine RG.vl rfl rfl rfl (Ev.move rfl rfl) ?_
      refine RG.vl rfl rfl rfl (Ev.extract rfl rfl rfl) ?_
      refine RG.vl rfl rfl rfl (Ev.extract rfl rfl rfl) ?_
      refine RG.vl rfl rfl rfl (Ev.assign rfl rfl) ?_
      refine RG.vl rfl rfl rfl (Ev.assign rfl rfl) ?_
      refine RG.done ?_
      refine QW.then_ ?_
      refine CW.seq ?_
      refine CW.region ?_
      refine RG.vl rfl rfl rfl (Ev.ldAgg rfl rfl Try.underlying23 rfl sz_23 rfl ((hbws71.ext hE73).cells)) ?_
      refine RG.vl rfl rfl rfl (Ev.move rfl rfl) ?_
      refine RG.call rfl rfl rfl rfl rfl rfl rfl en_18 (draw_ret (⟨max n 201, (setupOf f).og, (setupOf f).pi, (setupOf f).sl, (setupOf f).lo, (setupOf f).hi⟩ : Su) _ _ (by rw [read_bad _ _ he]; decide)) ?_
      rintro _ w81 ⟨dr81, rfl, hdr81, hx81⟩
      replace hE3 := Ex.tr hE3 hx81
      replace hE5 := Ex.tr hE5 hx81
      replace hE17 := Ex.tr hE17 hx81
      replace hE73 := Ex.tr hE73 hx81
      replace hE76 := Ex.tr hE76 hx81
      replace hE80 := Ex.tr hE80 hx81
      have hE82 := hx81
      refine RG.vl rfl rfl rfl (Ev.move rfl rfl) ?_
      refine RG.vl rfl rfl rfl (Ev.extract rfl rfl rfl) ?_
      refine RG.vl rfl rfl rfl (Ev.extract rfl rfl rfl) ?_
      refine RG.vl rfl rfl rfl (Ev.assign rfl rfl) ?_
      refine RG.vl rfl rfl rfl (Ev.assign rfl rfl) ?_
      refine RG.done ?_
      refine QW.sub (S' := [(1, _), (6, _), (7, _), (8, _), (10, _), (11, _), (13, _), (15, _)]) ⟨rfl, rfl, rfl, rfl, rfl, rfl, rfl, rfl, trivial⟩ ?_
      refine QW.then_ ?_
      refine CW.seq ?_
      refine CW.draw [] (.ex) 8 rfl mixed (fun wd83 hxwd83 => ?_)
      replace hE3 := Ex.tr hE3 hxwd83
      replace hE5 := Ex.tr hE5 hxwd83
      replace hE17 := Ex.tr hE17 hxwd83
      replace hE73 := Ex.tr hE73 hxwd83
      replace hE76 := Ex.tr hE76 hxwd83
      replace hE80 := Ex.tr hE80 hxwd83
      replace hE82 := Ex.tr hE82 hxwd83
      have hE84 := hxwd83
      refine AG.take 0 rfl (by kernel_rfl) (by kernel_rfl) rfl rfl rfl (fun wq hq => Ev.ldAgg rfl rfl Try.underlying23 rfl sz_23 rfl (((hbws71.ext hE73).ext hq).cells)) ?_
      refine AG.only 1 rfl (by kernel_rfl) ?_
      refine RG.makeL (m := 401) (enc := Br.c) (⟨0, 0, 0⟩ : Br) rfl rfl rfl rfl rfl rfl (rfl) Try.underlying24 inf_48 Br.c_len rfl rfl (by omega) (by simp only [maxLen]; omega) (fun g86 w86 eg86 hx86 hb86 hmk87 => ?_)
      have hle88 : w.heap.size ≤ g86 := by have := hE3.size; omega
      have hle89 : w1.heap.size ≤ g86 := by have := hE5.size; omega
      have hle90 : w6.heap.size ≤ g86 := by have := hE17.size; omega
      have hle91 : ws71.heap.size ≤ g86 := by have := hE73.size; omega
      have hle92 : w72.heap.size ≤ g86 := by have := hE76.size; omega
      have hle93 : w77.heap.size ≤ g86 := by have := hE80.size; omega
      have hle94 : w79.heap.size ≤ g86 := by have := hE82.size; omega
      have hle95 : w81.heap.size ≤ g86 := by have := hE84.size; omega
      have hle96 : wd83.heap.size ≤ g86 := by have := (Ex.rfl_ wd83).size; omega
      have hlt97 : g1 < g86 := by have := Blk.lt (hb1.ext hE5); omega
      have hlt98 : gS < g86 := by have := Blk.lt (hb6.ext hE17); omega
      have hlt99 : gR < g86 := by have := Blk.lt (hb18.ext hE73); omega
      have hlt100 : gB < g86 := by have := Blk.lt (hbws71.ext hE73); omega
      have hlt101 : g72 < g86 := by have := Blk.lt (hb72.ext hE76); omega
      have hlt102 : g77 < g86 := by have := Blk.lt (hb77.ext hE80); omega
      replace hE3 := Ex.tr hE3 hx86
      replace hE5 := Ex.tr hE5 hx86
      replace hE17 := Ex.tr hE17 hx86
      replace hE73 := Ex.tr hE73 hx86
      replace hE76 := Ex.tr hE76 hx86
      replace hE80 := Ex.tr hE80 hx86
      replace hE82 := Ex.tr hE82 hx86
      replace hE84 := Ex.tr hE84 hx86
      have hE103 := hx86
      refine RG.done ?_
      refine QW.an (fun _ => hE103) ?_
      refine AG.only 2 rfl (by kernel_rfl) ?_
      refine RG.call rfl rfl rfl rfl rfl rfl rfl en_10 (read_ret (⟨max n 201, (setupOf f).og, (setupOf f).pi, (setupOf f).sl, (setupOf f).lo, (setupOf f).hi⟩ : Su) _ (List.replicate 401 ⟨0, 0, 0⟩) _ (hmk87) (by rw [List.length_replicate]; decide)) ?_
      rintro _ w105 ⟨rfl, hx105⟩
      replace hE3 := Ex.tr hE3 hx105
      replace hE5 := Ex.tr hE5 hx105
      replace hE17 := Ex.tr hE17 hx105
      replace hE73 := Ex.tr hE73 hx105
      replace hE76 := Ex.tr hE76 hx105
      replace hE80 := Ex.tr hE80 hx105
      replace hE82 := Ex.tr hE82 hx105
      replace hE84 := Ex.tr hE84 hx105
      have hE106 := hx105
      refine RG.done ?_
      refine QW.an (fun _ => hE106) ?_
      refine AG.takeW 3 rfl (by kernel_rfl) (by kernel_rfl) rfl rfl rfl (fun _ => Ev.move rfl rfl) ?_
      refine AG.takeW 4 rfl (by kernel_rfl) (by kernel_rfl) rfl rfl rfl (fun _ => Ev.extract rfl rfl rfl) ?_
      refine AG.takeW 5 rfl (by kernel_rfl) (by kernel_rfl) rfl rfl rfl (fun _ => Ev.extract rfl rfl rfl) ?_
      refine AG.takeW 6 rfl (by kernel_rfl) (by kernel_rfl) rfl rfl rfl (fun _ => Ev.assign rfl rfl) ?_
      refine AG.takeW 7 rfl (by kernel_rfl) (by kernel_rfl) rfl rfl rfl (fun _ => Ev.assign rfl rfl) ?_
      refine AG.done (by kernel_rfl) ?_
      refine QW.then_ ?_
      refine CW.seq ?_
      have hdr : drawErr (⟨max n 201, (setupOf f).og, (setupOf f).pi, (setupOf f).sl, (setupOf f).lo, (setupOf f).hi⟩ : Su) (⟨(readOf (⟨max n 201, (setupOf f).og, (setupOf f).pi, (setupOf f).sl, (setupOf f).lo, (setupOf f).hi⟩ : Su) [(⟨(setupOf f).og, (setupOf f).lo, (setupOf f).hi⟩ : Br)]).toArray⟩ : ByteArray).data.toList = 2 := by rw [read_bad _ _ he]; exact draw_empty _
      refine CW.region ?_
      refine RG.vl rfl rfl rfl (Ev.move rfl rfl) ?_
      refine RG.vl rfl rfl rfl (Ev.isT (Ev.eqI rfl rfl rfl) (by omega)) ?_
      refine RG.vl rfl rfl rfl (Ev.move rfl rfl) ?_
      refine RG.vl rfl rfl rfl (Ev.move rfl rfl) ?_
      refine RG.vl rfl rfl rfl (Ev.move rfl rfl) ?_
      refine RG.vl rfl rfl rfl (Ev.isT (Ev.eqI rfl rfl rfl) (rfl)) ?_
      refine RG.vl rfl rfl rfl (Ev.pickT rfl rfl rfl) ?_
      refine RG.vl rfl rfl rfl (Ev.move rfl rfl) ?_
      refine RG.vl rfl rfl rfl (Ev.move rfl rfl) ?_
      refine RG.vl rfl rfl rfl (Ev.isT (Ev.eqS rfl rfl rfl) (by rw [read_bad _ _ he])) ?_
      refine RG.vl rfl rfl rfl (Ev.pickT rfl rfl rfl) ?_
      refine RG.vl rfl rfl rfl (Ev.move rfl rfl) ?_
      refine RG.vl rfl rfl rfl (Ev.move rfl rfl) ?_
      refine RG.vl rfl rfl rfl (Ev.rem8 rfl rfl rfl (by omega)) ?_
      refine RG.vl rfl rfl rfl (Ev.isF (Ev.geq rfl rfl rfl) (by omega)) ?_
      refine RG.vl rfl rfl rfl (Ev.move rfl rfl) ?_
      refine RG.vl rfl rfl rfl (Ev.move rfl rfl) ?_
      refine RG.vl rfl rfl rfl (Ev.isT (Ev.eqI rfl rfl rfl) (hdr)) ?_
      refine RG.vl rfl rfl rfl (Ev.move rfl rfl) ?_
      refine RG.vl rfl rfl rfl (Ev.ldAgg rfl rfl Try.underlying23 rfl sz_23 rfl ((hbws71.ext hE73).cells)) ?_
      refine RG.call rfl rfl rfl rfl rfl rfl rfl en_15 (right_no (⟨max n 201, (setupOf f).og, (setupOf f).pi, (setupOf f).sl, (setupOf f).lo, (setupOf f).hi⟩ : Su) _ hno) ?_
      rintro _ w107 ⟨rfl, hx107⟩
      replace hE3 := Ex.tr hE3 hx107
      replace hE5 := Ex.tr hE5 hx107
      replace hE17 := Ex.tr hE17 hx107
      replace hE73 := Ex.tr hE73 hx107
      replace hE76 := Ex.tr hE76 hx107
      replace hE80 := Ex.tr hE80 hx107
      replace hE82 := Ex.tr hE82 hx107
      replace hE84 := Ex.tr hE84 hx107
      replace hE106 := Ex.tr hE106 hx107
      have hE108 := hx107
      refine RG.vl rfl rfl rfl (Ev.notT rfl rfl) ?_
      refine RG.vl rfl rfl rfl (Ev.pickT rfl rfl rfl) ?_
      refine RG.vl rfl rfl rfl (Ev.pickF rfl rfl rfl) ?_
      refine RG.vl rfl rfl rfl (Ev.pickT rfl rfl rfl) ?_
      refine RG.vl rfl rfl rfl (Ev.move rfl rfl) ?_
      refine RG.vl rfl rfl rfl (Ev.ldAgg rfl rfl Try.underlying23 rfl sz_23 rfl ((hb6.ext hE17).cells)) ?_
      refine RG.call rfl rfl rfl rfl rfl rfl rfl en_15 (right_yes (setupOf f) _ hok) ?_
      rintro _ w109 ⟨rfl, hx109⟩
      replace hE3 := Ex.tr hE3 hx109
      replace hE5 := Ex.tr hE5 hx109
      replace hE17 := Ex.tr hE17 hx109
      replace hE73 := Ex.tr hE73 hx109
      replace hE76 := Ex.tr hE76 hx109
      replace hE80 := Ex.tr hE80 hx109
      replace hE82 := Ex.tr hE82 hx109
      replace hE84 := Ex.tr hE84 hx109
      replace hE106 := Ex.tr hE106 hx109
      replace hE108 := Ex.tr hE108 hx109
      have hE110 := hx109
      refine RG.vl rfl rfl rfl (Ev.pickT rfl rfl rfl) ?_
      refine RG.vl rfl rfl rfl (Ev.move rfl rfl) ?_
      refine RG.vl rfl rfl rfl (Ev.move rfl rfl) ?_
      refine RG.vl rfl rfl rfl (Ev.isT (Ev.eqI rfl rfl rfl) (by rw [err_many])) ?_
      refine RG.vl rfl rfl rfl (Ev.pickT rfl rfl rfl) ?_
      refine RG.vl rfl rfl rfl (Ev.move rfl rfl) ?_
      refine RG.call rfl rfl rfl rfl rfl rfl rfl en_9 (awake_ret _) ?_
      rintro _ w111 ⟨rfl, hx111⟩
      replace hE3 := Ex.tr hE3 hx111
      replace hE5 := Ex.tr hE5 hx111
      replace hE17 := Ex.tr hE17 hx111
      replace hE73 := Ex.tr hE73 hx111
      replace hE76 := Ex.tr hE76 hx111
      replace hE80 := Ex.tr hE80 hx111
      replace hE82 := Ex.tr hE82 hx111
      replace hE84 := Ex.tr hE84 hx111
      replace hE106 := Ex.tr hE106 hx111
      replace hE108 := Ex.tr hE108 hx111
      replace hE110 := Ex.tr hE110 hx111
      have hE112 := hx111
      refine RG.vl rfl rfl rfl (Ev.pickT rfl rfl rfl) ?_
      refine RG.vl rfl rfl rfl (Ev.assign rfl rfl) ?_
      refine RG.done ?_
      refine QW.sub (S' := [(6, _)]) ⟨rfl, trivial⟩ ?_
      refine QW.then_ ?_
      refine CW.ret ?_
      refine QW.ret1 rfl rfl ?_
      have hB := (Ex.tr hB0 hE3)
      exact ⟨rfl, hB⟩
    · refine CW.seq ?_
      refine CW.region ?_
      refine RG.vl rfl rfl rfl (Ev.eqI rfl rfl rfl) ?_
      refine RG.vl rfl rfl rfl (Ev.assign rfl rfl) ?_
      refine RG.done ?_
      refine QW.then_ ?_
      refine CW.condP rfl (fun hc113 => ?_) (fun hc113 => ?_)
      · refine CW.region ?_
        refine RG.vl rfl rfl rfl (Ev.move rfl rfl) ?_
        refine RG.vl rfl rfl rfl (Ev.min2 rfl rfl rfl rfl) ?_
        refine RG.vl rfl rfl rfl (Ev.fld rfl rfl fld_23_2) ?_
        refine RG.st (g := gB) (k := 2) rfl rfl rfl rfl rfl sz_3 rfl (hb11.ext hE26) rfl (fun ws114 hwws114 hbws114 => ?_)
        replace hb18 := Blk.far hb18 hwws114 (by omega)
        replace hE3 := Wr.below hE3 hwws114 hle12
        replace hE5 := Wr.below hE5 hwws114 hle13
        replace hE17 := Wr.below hE17 hwws114 hle14
        refine RG.done ?_
        refine QW.blockN ?_
        refine QW.then_ ?_
        refine CW.seq ?_
        have hno : ¬ Okay (⟨(setupOf f).pl, (setupOf f).og, min n 0, (setupOf f).sl, (setupOf f).lo, (setupOf f).hi⟩ : Su) := by intro h; unfold Okay at h; simp only at h; omega
        have he : errOf (⟨(setupOf f).pl, (setupOf f).og, min n 0, (setupOf f).sl, (setupOf f).lo, (setupOf f).hi⟩ : Su) [(⟨(setupOf f).og, (setupOf f).lo, (setupOf f).hi⟩ : Br)] = 2 := err_setup _ _ hno
        refine CW.region ?_
        refine RG.vl rfl rfl rfl (Ev.ldAgg rfl rfl Try.underlying23 rfl sz_23 rfl (hbws114.cells)) ?_
        refine RG.vl rfl rfl rfl (Ev.ldAgg rfl rfl Try.underlying48 rfl sz_48 rfl (hb18.cells)) ?_
        refine RG.buildD (xs := [.tmp 98]) rfl rfl rfl rfl rfl rfl rfl Try.underlying24 inf_48 rfl rfl rfl rfl (fun g115 w115 eg115 hx115 hb115 => ?_)
        replace hE3 := Ex.tr hE3 hx115
        replace hE5 := Ex.tr hE5 hx115
        replace hE17 := Ex.tr hE17 hx115
        have hE116 := hx115
        have hlit117 : RdL w115 3 Br.c (.slice (some ⟨g115, 0, none⟩) 1 1) ([(⟨(setupOf f).og, (setupOf f).lo, (setupOf f).hi⟩ : Br)]) := RdL.of_blk Br.c_len (l := [(⟨(setupOf f).og, (setupOf f).lo, (setupOf f).hi⟩ : Br)]) hb115 (Nat.le_refl _) (by decide)
        refine RG.call rfl rfl rfl rfl rfl rfl rfl en_10 (read_ret (⟨(setupOf f).pl, (setupOf f).og, min n 0, (setupOf f).sl, (setupOf f).lo, (setupOf f).hi⟩ : Su) _ [(⟨(setupOf f).og, (setupOf f).lo, (setupOf f).hi⟩ : Br)] _ (hlit117) (by simp)) ?_
        rintro _ w118 ⟨rfl, hx118⟩
        replace hE3 := Ex.tr hE3 hx118
        replace hE5 := Ex.tr hE5 hx118
        replace hE17 := Ex.tr hE17 hx118
        replace hE116 := Ex.tr hE116 hx118
        have hE119 := hx118
        refine RG.vl rfl rfl rfl (Ev.move rfl rfl) ?_
        refine RG.vl rfl rfl rfl (Ev.extract rfl rfl rfl) ?_
        refine RG.vl rfl rfl rfl (Ev.extract rfl rfl rfl) ?_
        refine RG.vl rfl rfl rfl (Ev.assign rfl rfl) ?_
        refine RG.vl rfl rfl rfl (Ev.assign rfl rfl) ?_
        refine RG.done ?_
        refine QW.sub (S' := [(1, _), (6, _), (7, _), (8, _), (9, _), (10, _), (11, _)]) ⟨rfl, rfl, rfl, rfl, rfl, rfl, rfl, trivial⟩ ?_
        refine QW.then_ ?_
        refine CW.seq ?_
        refine CW.region ?_
        refine RG.vl rfl rfl rfl (Ev.ldAgg rfl rfl Try.underlying23 rfl sz_23 rfl ((hbws114.ext hE116).cells)) ?_
        refine RG.vl rfl rfl rfl (Ev.ldAgg rfl rfl Try.underlying48 rfl sz_48 rfl ((hb18.ext hE116).cells)) ?_
        refine RG.buildD (xs := [.tmp 105]) rfl rfl rfl rfl rfl rfl rfl Try.underlying24 inf_48 rfl rfl rfl rfl (fun g120 w120 eg120 hx120 hb120 => ?_)
        replace hE3 := Ex.tr hE3 hx120
        replace hE5 := Ex.tr hE5 hx120
        replace hE17 := Ex.tr hE17 hx120
        replace hE116 := Ex.tr hE116 hx120
        replace hE119 := Ex.tr hE119 hx120
        have hlit121 : RdL w120 3 Br.c (.slice (some ⟨g120, 0, none⟩) 1 1) ([(⟨(setupOf f).og, (setupOf f).lo, (setupOf f).hi⟩ : Br)]) := RdL.of_blk Br.c_len (l := [(⟨(setupOf f).og, (setupOf f).lo, (setupOf f).hi⟩ : Br)]) hb120 (Nat.le_refl _) (by decide)
        refine RG.call rfl rfl rfl rfl rfl rfl rfl en_11 (margin_ret (⟨(setupOf f).pl, (setupOf f).og, min n 0, (setupOf f).sl, (setupOf f).lo, (setupOf f).hi⟩ : Su) _ [(⟨(setupOf f).og, (setupOf f).lo, (setupOf f).hi⟩ : Br)] _ (hlit121) (by simp)) ?_
        rintro _ w122 ⟨rfl, hx122⟩
        replace hE3 := Ex.tr hE3 hx122
        replace hE5 := Ex.tr hE5 hx122
        replace hE17 := Ex.tr hE17 hx122
        replace hE116 := Ex.tr hE116 hx122
        replace hE119 := Ex.tr hE119 hx122
        have hE123 := hx122
        refine RG.vl rfl rfl rfl (Ev.move rfl rfl) ?_
        refine RG.vl rfl rfl rfl (Ev.extract rfl rfl rfl) ?_
        refine RG.vl rfl rfl rfl (Ev.extract rfl rfl rfl) ?_
        refine RG.vl rfl rfl rfl (Ev.assign rfl rfl) ?_
        refine RG.vl rfl rfl rfl (Ev.assign rfl rfl) ?_
        refine RG.done ?_
        refine QW.then_ ?_
        refine CW.seq ?_
        refine CW.region ?_
        refine RG.vl rfl rfl rfl (Ev.ldAgg rfl rfl Try.underlying23 rfl sz_23 rfl ((hbws114.ext hE116).cells)) ?_
        refine RG.vl rfl rfl rfl (Ev.move rfl rfl) ?_
        refine RG.call rfl rfl rfl rfl rfl rfl rfl en_18 (draw_ret (⟨(setupOf f).pl, (setupOf f).og, min n 0, (setupOf f).sl, (setupOf f).lo, (setupOf f).hi⟩ : Su) _ _ (by rw [read_bad _ _ he]; decide)) ?_
        rintro _ w124 ⟨dr124, rfl, hdr124, hx124⟩
        replace hE3 := Ex.tr hE3 hx124
        replace hE5 := Ex.tr hE5 hx124
        replace hE17 := Ex.tr hE17 hx124
        replace hE116 := Ex.tr hE116 hx124
        replace hE119 := Ex.tr hE119 hx124
        replace hE123 := Ex.tr hE123 hx124
        have hE125 := hx124
        refine RG.vl rfl rfl rfl (Ev.move rfl rfl) ?_
        refine RG.vl rfl rfl rfl (Ev.extract rfl rfl rfl) ?_
        refine RG.vl rfl rfl rfl (Ev.extract rfl rfl rfl) ?_
        refine RG.vl rfl rfl rfl (Ev.assign rfl rfl) ?_
        refine RG.vl rfl rfl rfl (Ev.assign rfl rfl) ?_
        refine RG.done ?_
        refine QW.sub (S' := [(1, _), (6, _), (7, _), (8, _), (10, _), (11, _), (13, _), (15, _)]) ⟨rfl, rfl, rfl, rfl, rfl, rfl, rfl, rfl, trivial⟩ ?_
        refine QW.then_ ?_
        refine CW.seq ?_
        refine CW.draw [] (.ex) 8 rfl mixed (fun wd126 hxwd126 => ?_)
        replace hE3 := Ex.tr hE3 hxwd126
        replace hE5 := Ex.tr hE5 hxwd126
        replace hE17 := Ex.tr hE17 hxwd126
        replace hE116 := Ex.tr hE116 hxwd126
        replace hE119 := Ex.tr hE119 hxwd126
        replace hE123 := Ex.tr hE123 hxwd126
        replace hE125 := Ex.tr hE125 hxwd126
        have hE127 := hxwd126
        refine AG.take 0 rfl (by kernel_rfl) (by kernel_rfl) rfl rfl rfl (fun wq hq => Ev.ldAgg rfl rfl Try.underlying23 rfl sz_23 rfl (((hbws114.ext hE116).ext hq).cells)) ?_
        refine AG.only 1 rfl (by kernel_rfl) ?_
        refine RG.makeL (m := 401) (enc := Br.c) (⟨0, 0, 0⟩ : Br) rfl rfl rfl rfl rfl rfl (rfl) Try.underlying24 inf_48 Br.c_len rfl rfl (by omega) (by simp only [maxLen]; omega) (fun g129 w129 eg129 hx129 hb129 hmk130 => ?_)
        have hle131 : w.heap.size ≤ g129 := by have := hE3.size; omega
        have hle132 : w1.heap.size ≤ g129 := by have := hE5.size; omega
        have hle133 : w6.heap.size ≤ g129 := by have := hE17.size; omega
        have hle134 : ws114.heap.size ≤ g129 := by have := hE116.size; omega
        have hle135 : w115.heap.size ≤ g129 := by have := hE119.size; omega
        have hle136 : w120.heap.size ≤ g129 := by have := hE123.size; omega
        have hle137 : w122.heap.size ≤ g129 := by have := hE125.size; omega
        have hle138 : w124.heap.size ≤ g129 := by have := hE127.size; omega
        have hle139 : wd126.heap.size ≤ g129 := by have := (Ex.rfl_ wd126).size; omega
        have hlt140 : g1 < g129 := by have := Blk.lt (hb1.ext hE5); omega
        have hlt141 : gS < g129 := by have := Blk.lt (hb6.ext hE17); omega
        have hlt142 : gR < g129 := by have := Blk.lt (hb18.ext hE116); omega
        have hlt143 : gB < g129 := by have := Blk.lt (hbws114.ext hE116); omega
        have hlt144 : g115 < g129 := by have := Blk.lt (hb115.ext hE119); omega
        have hlt145 : g120 < g129 := by have := Blk.lt (hb120.ext hE123); omega
        replace hE3 := Ex.tr hE3 hx129
        replace hE5 := Ex.tr hE5 hx129
        replace hE17 := Ex.tr hE17 hx129
        replace hE116 := Ex.tr hE116 hx129
        replace hE119 := Ex.tr hE119 hx129
        replace hE123 := Ex.tr hE123 hx129
        replace hE125 := Ex.tr hE125 hx129
        replace hE127 := Ex.tr hE127 hx129
        have hE146 := hx129
        refine RG.done ?_
        refine QW.an (fun _ => hE146) ?_
        refine AG.only 2 rfl (by kernel_rfl) ?_
        refine RG.call rfl rfl rfl rfl rfl rfl rfl en_10 (read_ret (⟨(setupOf f).pl, (setupOf f).og, min n 0, (setupOf f).sl, (setupOf f).lo, (setupOf f).hi⟩ : Su) _ (List.replicate 401 ⟨0, 0, 0⟩) _ (hmk130) (by rw [List.length_replicate]; decide)) ?_
        rintro _ w148 ⟨rfl, hx148⟩
        replace hE3 := Ex.tr hE3 hx148
        replace hE5 := Ex.tr hE5 hx148
        replace hE17 := Ex.tr hE17 hx148
        replace hE116 := Ex.tr hE116 hx148
        replace hE119 := Ex.tr hE119 hx148
        replace hE123 := Ex.tr hE123 hx148
        replace hE125 := Ex.tr hE125 hx148
        replace hE127 := Ex.tr hE127 hx148
        have hE149 := hx148
        refine RG.done ?_
        refine QW.an (fun _ => hE149) ?_
        refine AG.takeW 3 rfl (by kernel_rfl) (by kernel_rfl) rfl rfl rfl (fun _ => Ev.move rfl rfl) ?_
        refine AG.takeW 4 rfl (by kernel_rfl) (by kernel_rfl) rfl rfl rfl (fun _ => Ev.extract rfl rfl rfl) ?_
        refine AG.takeW 5 rfl (by kernel_rfl) (by kernel_rfl) rfl rfl rfl (fun _ => Ev.extract rfl rfl rfl) ?_
        refine AG.takeW 6 rfl (by kernel_rfl) (by kernel_rfl) rfl rfl rfl (fun _ => Ev.assign rfl rfl) ?_
        refine AG.takeW 7 rfl (by kernel_rfl) (by kernel_rfl) rfl rfl rfl (fun _ => Ev.assign rfl rfl) ?_
        refine AG.done (by kernel_rfl) ?_
        refine QW.then_ ?_
        refine CW.seq ?_
        have hdr : drawErr (⟨(setupOf f).pl, (setupOf f).og, min n 0, (setupOf f).sl, (setupOf f).lo, (setupOf f).hi⟩ : Su) (⟨(readOf (⟨(setupOf f).pl, (setupOf f).og, min n 0, (setupOf f).sl, (setupOf f).lo, (setupOf f).hi⟩ : Su) [(⟨(setupOf f).og, (setupOf f).lo, (setupOf f).hi⟩ : Br)]).toArray⟩ : ByteArray).data.toList = 2 := by rw [read_bad _ _ he]; exact draw_empty _
        refine CW.region ?_
        refine RG.vl rfl rfl rfl (Ev.move rfl rfl) ?_
        refine RG.vl rfl rfl rfl (Ev.isT (Ev.eqI rfl rfl rfl) (by omega)) ?_
        refine RG.vl rfl rfl rfl (Ev.move rfl rfl) ?_
        refine RG.vl rfl rfl rfl (Ev.move rfl rfl) ?_
        refine RG.vl rfl rfl rfl (Ev.move rfl rfl) ?_
        refine RG.vl rfl rfl rfl (Ev.isT (Ev.eqI rfl rfl rfl) (rfl)) ?_
        refine RG.vl rfl rfl rfl (Ev.pickT rfl rfl rfl) ?_
        refine RG.vl rfl rfl rfl (Ev.move rfl rfl) ?_
        refine RG.vl rfl rfl rfl (Ev.move rfl rfl) ?_
        refine RG.vl rfl rfl rfl (Ev.isT (Ev.eqS rfl rfl rfl) (by rw [read_bad _ _ he])) ?_
        refine RG.vl rfl rfl rfl (Ev.pickT rfl rfl rfl) ?_
        refine RG.vl rfl rfl rfl (Ev.move rfl rfl) ?_
        refine RG.vl rfl rfl rfl (Ev.move rfl rfl) ?_
        refine RG.vl rfl rfl rfl (Ev.rem8 rfl rfl rfl (by omega)) ?_
        refine RG.vl rfl rfl rfl (Ev.isF (Ev.geq rfl rfl rfl) (by omega)) ?_
        refine RG.vl rfl rfl rfl (Ev.move rfl rfl) ?_
        refine RG.vl rfl rfl rfl (Ev.move rfl rfl) ?_
        refine RG.vl rfl rfl rfl (Ev.isT (Ev.eqI rfl rfl rfl) (hdr)) ?_
        refine RG.vl rfl rfl rfl (Ev.move rfl rfl) ?_
        refine RG.vl rfl rfl rfl (Ev.ldAgg rfl rfl Try.underlying23 rfl sz_23 rfl ((hbws114.ext hE116).cells)) ?_
        refine RG.call rfl rfl rfl rfl rfl rfl rfl en_15 (right_no (⟨(setupOf f).pl, (setupOf f).og, min n 0, (setupOf f).sl, (setupOf f).lo, (setupOf f).hi⟩ : Su) _ hno) ?_
        rintro _ w150 ⟨rfl, hx150⟩
        replace hE3 := Ex.tr hE3 hx150
        replace hE5 := Ex.tr hE5 hx150
        replace hE17 := Ex.tr hE17 hx150
        replace hE116 := Ex.tr hE116 hx150
        replace hE119 := Ex.tr hE119 hx150
        replace hE123 := Ex.tr hE123 hx150
        replace hE125 := Ex.tr hE125 hx150
        replace hE127 := Ex.tr hE127 hx150
        replace hE149 := Ex.tr hE149 hx150
        have hE151 := hx150
        refine RG.vl rfl rfl rfl (Ev.notT rfl rfl) ?_
        refine RG.vl rfl rfl rfl (Ev.pickT rfl rfl rfl) ?_
        refine RG.vl rfl rfl rfl (Ev.pickF rfl rfl rfl) ?_
        refine RG.vl rfl rfl rfl (Ev.pickT rfl rfl rfl) ?_
        refine RG.vl rfl rfl rfl (Ev.move rfl rfl) ?_
        refine RG.vl rfl rfl rfl (Ev.ldAgg rfl rfl Try.underlying23 rfl sz_23 rfl ((hb6.ext hE17).cells)) ?_
        refine RG.call rfl rfl rfl rfl rfl rfl rfl en_15 (right_yes (setupOf f) _ hok) ?_
        rintro _ w152 ⟨rfl, hx152⟩
        replace hE3 := Ex.tr hE3 hx152
        replace hE5 := Ex.tr hE5 hx152
        replace hE17 := Ex.tr hE17 hx152
        replace hE116 := Ex.tr hE116 hx152
        replace hE119 := Ex.tr hE119 hx152
        replace hE123 := Ex.tr hE123 hx152
        replace hE125 := Ex.tr hE125 hx152
        replace hE127 := Ex.tr hE127 hx152
        replace hE149 := Ex.tr hE149 hx152
        replace hE151 := Ex.tr hE151 hx152
        have hE153 := hx152
        refine RG.vl rfl rfl rfl (Ev.pickT rfl rfl rfl) ?_
        refine RG.vl rfl rfl rfl (Ev.move rfl rfl) ?_
        refine RG.vl rfl rfl rfl (Ev.move rfl rfl) ?_
        refine RG.vl rfl rfl rfl (Ev.isT (Ev.eqI rfl rfl rfl) (by rw [err_many])) ?_
        refine RG.vl rfl rfl rfl (Ev.pickT rfl rfl rfl) ?_
        refine RG.vl rfl rfl rfl (Ev.move rfl rfl) ?_
        refine RG.call rfl rfl rfl rfl rfl rfl rfl en_9 (awake_ret _) ?_
        rintro _ w154 ⟨rfl, hx154⟩
        replace hE3 := Ex.tr hE3 hx154
        replace hE5 := Ex.tr hE5 hx154
        replace hE17 := Ex.tr hE17 hx154
        replace hE116 := Ex.tr hE116 hx154
        replace hE119 := Ex.tr hE119 hx154
        replace hE123 := Ex.tr hE123 hx154
        replace hE125 := Ex.tr hE125 hx154
        replace hE127 := Ex.tr hE127 hx154
        replace hE149 := Ex.tr hE149 hx154
        replace hE151 := Ex.tr hE151 hx154
        replace hE153 := Ex.tr hE153 hx154
        have hE155 := hx154
        refine RG.vl rfl rfl rfl (Ev.pickT rfl rfl rfl) ?_
        refine RG.vl rfl rfl rfl (Ev.assign rfl rfl) ?_
        refine RG.done ?_
        refine QW.sub (S' := [(6, _)]) ⟨rfl, trivial⟩ ?_
        refine QW.then_ ?_
        refine CW.ret ?_
        refine QW.ret1 rfl rfl ?_
        have hB := (Ex.tr hB0 hE3)
        exact ⟨rfl, hB⟩
      · refine CW.seq ?_
        refine CW.region ?_
        refine RG.vl rfl rfl rfl (Ev.eqI rfl rfl rfl) ?_
        refine RG.vl rfl rfl rfl (Ev.assign rfl rfl) ?_
        refine RG.done ?_
        refine QW.then_ ?_
        refine CW.condP rfl (fun hc156 => ?_) (fun hc156 => ?_)
        · refine CW.region ?_
          refine RG.vl rfl rfl rfl (Ev.move rfl rfl) ?_
          refine RG.vl rfl rfl rfl (Ev.max2 rfl rfl rfl rfl) ?_
          refine RG.vl rfl rfl rfl (Ev.fld rfl rfl fld_23_2) ?_
          refine RG.st (g := gB) (k := 2) rfl rfl rfl rfl rfl sz_3 rfl (hb11.ext hE26) rfl (fun ws157 hwws157 hbws157 => ?_)
          replace hb18 := Blk.far hb18 hwws157 (by omega)
          replace hE3 := Wr.below hE3 hwws157 hle12
          replace hE5 := Wr.below hE5 hwws157 hle13
          replace hE17 := Wr.below hE17 hwws157 hle14
          refine RG.done ?_
          refine QW.blockN ?_
          refine QW.then_ ?_
          refine CW.seq ?_
          have hno : ¬ Okay (⟨(setupOf f).pl, (setupOf f).og, max n 1048577, (setupOf f).sl, (setupOf f).lo, (setupOf f).hi⟩ : Su) := by intro h; unfold Okay at h; simp only at h; omega
          have he : errOf (⟨(setupOf f).pl, (setupOf f).og, max n 1048577, (setupOf f).sl, (setupOf f).lo, (setupOf f).hi⟩ : Su) [(⟨(setupOf f).og, (setupOf f).lo, (setupOf f).hi⟩ : Br)] = 2 := err_setup _ _ hno
          refine CW.region ?_
          refine RG.vl rfl rfl rfl (Ev.ldAgg rfl rfl Try.underlying23 rfl sz_23 rfl (hbws157.cells)) ?_
          refine RG.vl rfl rfl rfl (Ev.ldAgg rfl rfl Try.underlying48 rfl sz_48 rfl (hb18.cells)) ?_
          refine RG.buildD (xs := [.tmp 98]) rfl rfl rfl rfl rfl rfl rfl Try.underlying24 inf_48 rfl rfl rfl rfl (fun g158 w158 eg158 hx158 hb158 => ?_)
          replace hE3 := Ex.tr hE3 hx158
          replace hE5 := Ex.tr hE5 hx158
          replace hE17 := Ex.tr hE17 hx158
          have hE159 := hx158
          have hlit160 : RdL w158 3 Br.c (.slice (some ⟨g158, 0, none⟩) 1 1) ([(⟨(setupOf f).og, (setupOf f).lo, (setupOf f).hi⟩ : Br)]) := RdL.of_blk Br.c_len (l := [(⟨(setupOf f).og, (setupOf f).lo, (setupOf f).hi⟩ : Br)]) hb158 (Nat.le_refl _) (by decide)
          refine RG.call rfl rfl rfl rfl rfl rfl rfl en_10 (read_ret (⟨(setupOf f).pl, (setupOf f).og, max n 1048577, (setupOf f).sl, (setupOf f).lo, (setupOf f).hi⟩ : Su) _ [(⟨(setupOf f).og, (setupOf f).lo, (setupOf f).hi⟩ : Br)] _ (hlit160) (by simp)) ?_
          rintro _ w161 ⟨rfl, hx161⟩
          replace hE3 := Ex.tr hE3 hx161
          replace hE5 := Ex.tr hE5 hx161
          replace hE17 := Ex.tr hE17 hx161
          replace hE159 := Ex.tr hE159 hx161
          have hE162 := hx161
          refine RG.vl rfl rfl rfl (Ev.move rfl rfl) ?_
          refine RG.vl rfl rfl rfl (Ev.extract rfl rfl rfl) ?_
          refine RG.vl rfl rfl rfl (Ev.extract rfl rfl rfl) ?_
          refine RG.vl rfl rfl rfl (Ev.assign rfl rfl) ?_
          refine RG.vl rfl rfl rfl (Ev.assign rfl rfl) ?_
          refine RG.done ?_
          refine QW.sub (S' := [(1, _), (6, _), (7, _), (8, _), (9, _), (10, _), (11, _)]) ⟨rfl, rfl, rfl, rfl, rfl, rfl, rfl, trivial⟩ ?_
          refine QW.then_ ?_
          refine CW.seq ?_
          refine CW.region ?_
          refine RG.vl rfl rfl rfl (Ev.ldAgg rfl rfl Try.underlying23 rfl sz_23 rfl ((hbws157.ext hE159).cells)) ?_
          refine RG.vl rfl rfl rfl (Ev.ldAgg rfl rfl Try.underlying48 rfl sz_48 rfl ((hb18.ext hE159).cells)) ?_
          refine RG.buildD (xs := [.tmp 105]) rfl rfl rfl rfl rfl rfl rfl Try.underlying24 inf_48 rfl rfl rfl rfl (fun g163 w163 eg163 hx163 hb163 => ?_)
          replace hE3 := Ex.tr hE3 hx163
          replace hE5 := Ex.tr hE5 hx163
          replace hE17 := Ex.tr hE17 hx163
          replace hE159 := Ex.tr hE159 hx163
          replace hE162 := Ex.tr hE162 hx163
          have hlit164 : RdL w163 3 Br.c (.slice (some ⟨g163, 0, none⟩) 1 1) ([(⟨(setupOf f).og, (setupOf f).lo, (setupOf f).hi⟩ : Br)]) := RdL.of_blk Br.c_len (l := [(⟨(setupOf f).og, (setupOf f).lo, (setupOf f).hi⟩ : Br)]) hb163 (Nat.le_refl _) (by decide)
          refine RG.call rfl rfl rfl rfl rfl rfl rfl en_11 (margin_ret (⟨(setupOf f).pl, (setupOf f).og, max n 1048577, (setupOf f).sl, (setupOf f).lo, (setupOf f).hi⟩ : Su) _ [(⟨(setupOf f).og, (setupOf f).lo, (setupOf f).hi⟩ : Br)] _ (hlit164) (by simp)) ?_
          rintro _ w165 ⟨rfl, hx165⟩
          replace hE3 := Ex.tr hE3 hx165
          replace hE5 := Ex.tr hE5 hx165
          replace hE17 := Ex.tr hE17 hx165
          replace hE159 := Ex.tr hE159 hx165
          replace hE162 := Ex.tr hE162 hx165
          have hE166 := hx165
          refine RG.vl rfl rfl rfl (Ev.move rfl rfl) ?_
          refine RG.vl rfl rfl rfl (Ev.extract rfl rfl rfl) ?_
          refine RG.vl rfl rfl rfl (Ev.extract rfl rfl rfl) ?_
          refine RG.vl rfl rfl rfl (Ev.assign rfl rfl) ?_
          refine RG.vl rfl rfl rfl (Ev.assign rfl rfl) ?_
          refine RG.done ?_
          refine QW.then_ ?_
          refine CW.seq ?_
          refine CW.region ?_
          refine RG.vl rfl rfl rfl (Ev.ldAgg rfl rfl Try.underlying23 rfl sz_23 rfl ((hbws157.ext hE159).cells)) ?_
          refine RG.vl rfl rfl rfl (Ev.move rfl rfl) ?_
          refine RG.call rfl rfl rfl rfl rfl rfl rfl en_18 (draw_ret (⟨(setupOf f).pl, (setupOf f).og, max n 1048577, (setupOf f).sl, (setupOf f).lo, (setupOf f).hi⟩ : Su) _ _ (by rw [read_bad _ _ he]; decide)) ?_
          rintro _ w167 ⟨dr167, rfl, hdr167, hx167⟩
          replace hE3 := Ex.tr hE3 hx167
          replace hE5 := Ex.tr hE5 hx167
          replace hE17 := Ex.tr hE17 hx167
          replace hE159 := Ex.tr hE159 hx167
          replace hE162 := Ex.tr hE162 hx167
          replace hE166 := Ex.tr hE166 hx167
          have hE168 := hx167
          refine RG.vl rfl rfl rfl (Ev.move rfl rfl) ?_
          refine RG.vl rfl rfl rfl (Ev.extract rfl rfl rfl) ?_
          refine RG.vl rfl rfl rfl (Ev.extract rfl rfl rfl) ?_
          refine RG.vl rfl rfl rfl (Ev.assign rfl rfl) ?_
          refine RG.vl rfl rfl rfl (Ev.assign rfl rfl) ?_
          refine RG.done ?_
          refine QW.sub (S' := [(1, _), (6, _), (7, _), (8, _), (10, _), (11, _), (13, _), (15, _)]) ⟨rfl, rfl, rfl, rfl, rfl, rfl, rfl, rfl, trivial⟩ ?_
          refine QW.then_ ?_
          refine CW.seq ?_
          refine CW.draw [] (.ex) 8 rfl mixed (fun wd169 hxwd169 => ?_)
          replace hE3 := Ex.tr hE3 hxwd169
          replace hE5 := Ex.tr hE5 hxwd169
          replace hE17 := Ex.tr hE17 hxwd169
          replace hE159 := Ex.tr hE159 hxwd169
          replace hE162 := Ex.tr hE162 hxwd169
          replace hE166 := Ex.tr hE166 hxwd169
          replace hE168 := Ex.tr hE168 hxwd169
          have hE170 := hxwd169
          refine AG.take 0 rfl (by kernel_rfl) (by kernel_rfl) rfl rfl rfl (fun wq hq => Ev.ldAgg rfl rfl Try.underlying23 rfl sz_23 rfl (((hbws157.ext hE159).ext hq).cells)) ?_
          refine AG.only 1 rfl (by kernel_rfl) ?_
          refine RG.makeL (m := 401) (enc := Br.c) (⟨0, 0, 0⟩ : Br) rfl rfl rfl rfl rfl rfl (rfl) Try.underlying24 inf_48 Br.c_len rfl rfl (by omega) (by simp only [maxLen]; omega) (fun g172 w172 eg172 hx172 hb172 hmk173 => ?_)
          have hle174 : w.heap.size ≤ g172 := by have := hE3.size; omega
          have hle175 : w1.heap.size ≤ g172 := by have := hE5.size; omega
          have hle176 : w6.heap.size ≤ g172 := by have := hE17.size; omega
          have hle177 : ws157.heap.size ≤ g172 := by have := hE159.size; omega
          have hle178 : w158.heap.size ≤ g172 := by have := hE162.size; omega
          have hle179 : w163.heap.size ≤ g172 := by have := hE166.size; omega
          have hle180 : w165.heap.size ≤ g172 := by have := hE168.size; omega
          have hle181 : w167.heap.size ≤ g172 := by have := hE170.size; omega
          have hle182 : wd169.heap.size ≤ g172 := by have := (Ex.rfl_ wd169).size; omega
          have hlt183 : g1 < g172 := by have := Blk.lt (hb1.ext hE5); omega
          have hlt184 : gS < g172 := by have := Blk.lt (hb6.ext hE17); omega
          have hlt185 : gR < g172 := by have := Blk.lt (hb18.ext hE159); omega
          have hlt186 : gB < g172 := by have := Blk.lt (hbws157.ext hE159); omega
          have hlt187 : g158 < g172 := by have := Blk.lt (hb158.ext hE162); omega
          have hlt188 : g163 < g172 := by have := Blk.lt (hb163.ext hE166); omega
          replace hE3 := Ex.tr hE3 hx172
          replace hE5 := Ex.tr hE5 hx172
          replace hE17 := Ex.tr hE17 hx172
          replace hE159 := Ex.tr hE159 hx172
          replace hE162 := Ex.tr hE162 hx172
          replace hE166 := Ex.tr hE166 hx172
          replace hE168 := Ex.tr hE168 hx172
          replace hE170 := Ex.tr hE170 hx172
          have hE189 := hx172
          refine RG.done ?_
          refine QW.an (fun _ => hE189) ?_
          refine AG.only 2 rfl (by kernel_rfl) ?_
          refine RG.call rfl rfl rfl rfl rfl rfl rfl en_10 (read_ret (⟨(setupOf f).pl, (setupOf f).og, max n 1048577, (setupOf f).sl, (setupOf f).lo, (setupOf f).hi⟩ : Su) _ (List.replicate 401 ⟨0, 0, 0⟩) _ (hmk173) (by rw [List.length_replicate]; decide)) ?_
          rintro _ w191 ⟨rfl, hx191⟩
          replace hE3 := Ex.tr hE3 hx191
          replace hE5 := Ex.tr hE5 hx191
          replace hE17 := Ex.tr hE17 hx191
          replace hE159 := Ex.tr hE159 hx191
          replace hE162 := Ex.tr hE162 hx191
          replace hE166 := Ex.tr hE166 hx191
          replace hE168 := Ex.tr hE168 hx191
          replace hE170 := Ex.tr hE170 hx191
          have hE192 := hx191
          refine RG.done ?_
          refine QW.an (fun _ => hE192) ?_
          refine AG.takeW 3 rfl (by kernel_rfl) (by kernel_rfl) rfl rfl rfl (fun _ => Ev.move rfl rfl) ?_
          refine AG.takeW 4 rfl (by kernel_rfl) (by kernel_rfl) rfl rfl rfl (fun _ => Ev.extract rfl rfl rfl) ?_
          refine AG.takeW 5 rfl (by kernel_rfl) (by kernel_rfl) rfl rfl rfl (fun _ => Ev.extract rfl rfl rfl) ?_
          refine AG.takeW 6 rfl (by kernel_rfl) (by kernel_rfl) rfl rfl rfl (fun _ => Ev.assign rfl rfl) ?_
          refine AG.takeW 7 rfl (by kernel_rfl) (by kernel_rfl) rfl rfl rfl (fun _ => Ev.assign rfl rfl) ?_
          refine AG.done (by kernel_rfl) ?_
          refine QW.then_ ?_
          refine CW.seq ?_
          have hdr : drawErr (⟨(setupOf f).pl, (setupOf f).og, max n 1048577, (setupOf f).sl, (setupOf f).lo, (setupOf f).hi⟩ : Su) (⟨(readOf (⟨(setupOf f).pl, (setupOf f).og, max n 1048577, (setupOf f).sl, (setupOf f).lo, (setupOf f).hi⟩ : Su) [(⟨(setupOf f).og, (setupOf f).lo, (setupOf f).hi⟩ : Br)]).toArray⟩ : ByteArray).data.toList = 2 := by rw [read_bad _ _ he]; exact draw_empty _
          refine CW.region ?_
          refine RG.vl rfl rfl rfl (Ev.move rfl rfl) ?_
          refine RG.vl rfl rfl rfl (Ev.isT (Ev.eqI rfl rfl rfl) (by omega)) ?_
          refine RG.vl rfl rfl rfl (Ev.move rfl rfl) ?_
          refine RG.vl rfl rfl rfl (Ev.move rfl rfl) ?_
          refine RG.vl rfl rfl rfl (Ev.move rfl rfl) ?_
          refine RG.vl rfl rfl rfl (Ev.isT (Ev.eqI rfl rfl rfl) (rfl)) ?_
          refine RG.vl rfl rfl rfl (Ev.pickT rfl rfl rfl) ?_
          refine RG.vl rfl rfl rfl (Ev.move rfl rfl) ?_
          refine RG.vl rfl rfl rfl (Ev.move rfl rfl) ?_
          refine RG.vl rfl rfl rfl (Ev.isT (Ev.eqS rfl rfl rfl) (by rw [read_bad _ _ he])) ?_
          refine RG.vl rfl rfl rfl (Ev.pickT rfl rfl rfl) ?_
          refine RG.vl rfl rfl rfl (Ev.move rfl rfl) ?_
          refine RG.vl rfl rfl rfl (Ev.move rfl rfl) ?_
          refine RG.vl rfl rfl rfl (Ev.rem8 rfl rfl rfl (by omega)) ?_
          refine RG.vl rfl rfl rfl (Ev.isF (Ev.geq rfl rfl rfl) (by omega)) ?_
          refine RG.vl rfl rfl rfl (Ev.move rfl rfl) ?_
          refine RG.vl rfl rfl rfl (Ev.move rfl rfl) ?_
          refine RG.vl rfl rfl rfl (Ev.isT (Ev.eqI rfl rfl rfl) (hdr)) ?_
          refine RG.vl rfl rfl rfl (Ev.move rfl rfl) ?_
          refine RG.vl rfl rfl rfl (Ev.ldAgg rfl rfl Try.underlying23 rfl sz_23 rfl ((hbws157.ext hE159).cells)) ?_
          refine RG.call rfl rfl rfl rfl rfl rfl rfl en_15 (right_no (⟨(setupOf f).pl, (setupOf f).og, max n 1048577, (setupOf f).sl, (setupOf f).lo, (setupOf f).hi⟩ : Su) _ hno) ?_
          rintro _ w193 ⟨rfl, hx193⟩
          replace hE3 := Ex.tr hE3 hx193
          replace hE5 := Ex.tr hE5 hx193
          replace hE17 := Ex.tr hE17 hx193
          replace hE159 := Ex.tr hE159 hx193
          replace hE162 := Ex.tr hE162 hx193
          replace hE166 := Ex.tr hE166 hx193
          replace hE168 := Ex.tr hE168 hx193
          replace hE170 := Ex.tr hE170 hx193
          replace hE192 := Ex.tr hE192 hx193
          have hE194 := hx193
          refine RG.vl rfl rfl rfl (Ev.notT rfl rfl) ?_
          refine RG.vl rfl rfl rfl (Ev.pickT rfl rfl rfl) ?_
          refine RG.vl rfl rfl rfl (Ev.pickF rfl rfl rfl) ?_
          refine RG.vl rfl rfl rfl (Ev.pickT rfl rfl rfl) ?_
          refine RG.vl rfl rfl rfl (Ev.move rfl rfl) ?_
          refine RG.vl rfl rfl rfl (Ev.ldAgg rfl rfl Try.underlying23 rfl sz_23 rfl ((hb6.ext hE17).cells)) ?_
          refine RG.call rfl rfl rfl rfl rfl rfl rfl en_15 (right_yes (setupOf f) _ hok) ?_
          rintro _ w195 ⟨rfl, hx195⟩
          replace hE3 := Ex.tr hE3 hx195
          replace hE5 := Ex.tr hE5 hx195
          replace hE17 := Ex.tr hE17 hx195
          replace hE159 := Ex.tr hE159 hx195
          replace hE162 := Ex.tr hE162 hx195
          replace hE166 := Ex.tr hE166 hx195
          replace hE168 := Ex.tr hE168 hx195
          replace hE170 := Ex.tr hE170 hx195
          replace hE192 := Ex.tr hE192 hx195
          replace hE194 := Ex.tr hE194 hx195
          have hE196 := hx195
          refine RG.vl rfl rfl rfl (Ev.pickT rfl rfl rfl) ?_
          refine RG.vl rfl rfl rfl (Ev.move rfl rfl) ?_
          refine RG.vl rfl rfl rfl (Ev.move rfl rfl) ?_
          refine RG.vl rfl rfl rfl (Ev.isT (Ev.eqI rfl rfl rfl) (by rw [err_many])) ?_
          refine RG.vl rfl rfl rfl (Ev.pickT rfl rfl rfl) ?_
          refine RG.vl rfl rfl rfl (Ev.move rfl rfl) ?_
          refine RG.call rfl rfl rfl rfl rfl rfl rfl en_9 (awake_ret _) ?_
          rintro _ w197 ⟨rfl, hx197⟩
          replace hE3 := Ex.tr hE3 hx197
          replace hE5 := Ex.tr hE5 hx197
          replace hE17 := Ex.tr hE17 hx197
          replace hE159 := Ex.tr hE159 hx197
          replace hE162 := Ex.tr hE162 hx197
          replace hE166 := Ex.tr hE166 hx197
          replace hE168 := Ex.tr hE168 hx197
          replace hE170 := Ex.tr hE170 hx197
          replace hE192 := Ex.tr hE192 hx197
          replace hE194 := Ex.tr hE194 hx197
          replace hE196 := Ex.tr hE196 hx197
          have hE198 := hx197
          refine RG.vl rfl rfl rfl (Ev.pickT rfl rfl rfl) ?_
          refine RG.vl rfl rfl rfl (Ev.assign rfl rfl) ?_
          refine RG.done ?_
          refine QW.sub (S' := [(6, _)]) ⟨rfl, trivial⟩ ?_
          refine QW.then_ ?_
          refine CW.ret ?_
          refine QW.ret1 rfl rfl ?_
          have hB := (Ex.tr hB0 hE3)
          exact ⟨rfl, hB⟩
        · refine CW.seq ?_
          refine CW.region ?_
          refine RG.vl rfl rfl rfl (Ev.eqI rfl rfl rfl) ?_
          refine RG.vl rfl rfl rfl (Ev.assign rfl rfl) ?_
          refine RG.done ?_
          refine QW.then_ ?_
          refine CW.condP rfl (fun hc199 => ?_) (fun hc199 => ?_)
          · refine CW.region ?_
            refine RG.vl rfl rfl rfl (Ev.move rfl rfl) ?_
            refine RG.vl rfl rfl rfl (Ev.fld rfl rfl fld_23_2) ?_
            refine RG.vl rfl rfl rfl (Ev.ldAt rfl rfl Try.underlying3 rfl ((hb6.ext hE17).cells) (rfl)) ?_
            refine RG.vl rfl rfl rfl (Ev.addI rfl rfl rfl (by omega)) ?_
            refine RG.vl rfl rfl rfl (Ev.quoI rfl rfl rfl (by omega)) ?_
            refine RG.vl rfl rfl rfl (Ev.max2 rfl rfl rfl rfl) ?_
            refine RG.vl rfl rfl rfl (Ev.fld rfl rfl fld_23_3) ?_
            refine RG.st (g := gB) (k := 3) rfl rfl rfl rfl rfl sz_3 rfl (hb11.ext hE26) rfl (fun ws200 hwws200 hbws200 => ?_)
            replace hb18 := Blk.far hb18 hwws200 (by omega)
            replace hE3 := Wr.below hE3 hwws200 hle12
            replace hE5 := Wr.below hE5 hwws200 hle13
            replace hE17 := Wr.below hE17 hwws200 hle14
            refine RG.done ?_
            refine QW.sub (S' := [(1, _), (6, _), (7, _), (8, _), (9, _)]) ⟨rfl, rfl, rfl, rfl, rfl, trivial⟩ ?_
            refine QW.blockN ?_
            refine QW.then_ ?_
            refine CW.seq ?_
            have hno : ¬ Okay (⟨(setupOf f).pl, (setupOf f).og, (setupOf f).pi, max n (((setupOf f).pi + 1) / 2), (setupOf f).lo, (setupOf f).hi⟩ : Su) := by intro h; unfold Okay at h; simp only at h; omega
            have he : errOf (⟨(setupOf f).pl, (setupOf f).og, (setupOf f).pi, max n (((setupOf f).pi + 1) / 2), (setupOf f).lo, (setupOf f).hi⟩ : Su) [(⟨(setupOf f).og, (setupOf f).lo, (setupOf f).hi⟩ : Br)] = 2 := err_setup _ _ hno
            refine CW.region ?_
            refine RG.vl rfl rfl rfl (Ev.ldAgg rfl rfl Try.underlying23 rfl sz_23 rfl (hbws200.cells)) ?_
            refine RG.vl rfl rfl rfl (Ev.ldAgg rfl rfl Try.underlying48 rfl sz_48 rfl (hb18.cells)) ?_
            refine RG.buildD (xs := [.tmp 98]) rfl rfl rfl rfl rfl rfl rfl Try.underlying24 inf_48 rfl rfl rfl rfl (fun g201 w201 eg201 hx201 hb201 => ?_)
            replace hE3 := Ex.tr hE3 hx201
            replace hE5 := Ex.tr hE5 hx201
            replace hE17 := Ex.tr hE17 hx201
            have hE202 := hx201
            have hlit203 : RdL w201 3 Br.c (.slice (some ⟨g201, 0, none⟩) 1 1) ([(⟨(setupOf f).og, (setupOf f).lo, (setupOf f).hi⟩ : Br)]) := RdL.of_blk Br.c_len (l := [(⟨(setupOf f).og, (setupOf f).lo, (setupOf f).hi⟩ : Br)]) hb201 (Nat.le_refl _) (by decide)
            refine RG.call rfl rfl rfl rfl rfl rfl rfl en_10 (read_ret (⟨(setupOf f).pl, (setupOf f).og, (setupOf f).pi, max n (((setupOf f).pi + 1) / 2), (setupOf f).lo, (setupOf f).hi⟩ : Su) _ [(⟨(setupOf f).og, (setupOf f).lo, (setupOf f).hi⟩ : Br)] _ (hlit203) (by simp)) ?_
            rintro _ w204 ⟨rfl, hx204⟩
            replace hE3 := Ex.tr hE3 hx204
            replace hE5 := Ex.tr hE5 hx204
            replace hE17 := Ex.tr hE17 hx204
            replace hE202 := Ex.tr hE202 hx204
            have hE205 := hx204
            refine RG.vl rfl rfl rfl (Ev.move rfl rfl) ?_
            refine RG.vl rfl rfl rfl (Ev.extract rfl rfl rfl) ?_
            refine RG.vl rfl rfl rfl (Ev.extract rfl rfl rfl) ?_
            refine RG.vl rfl rfl rfl (Ev.assign rfl rfl) ?_
            refine RG.vl rfl rfl rfl (Ev.assign rfl rfl) ?_
            refine RG.done ?_
            refine QW.then_ ?_
            refine CW.seq ?_
            refine CW.region ?_
            refine RG.vl rfl rfl rfl (Ev.ldAgg rfl rfl Try.underlying23 rfl sz_23 rfl ((hbws200.ext hE202).cells)) ?_
            refine RG.vl rfl rfl rfl (Ev.ldAgg rfl rfl Try.underlying48 rfl sz_48 rfl ((hb18.ext hE202).cells)) ?_
            refine RG.buildD (xs := [.tmp 105]) rfl rfl rfl rfl rfl rfl rfl Try.underlying24 inf_48 rfl rfl rfl rfl (fun g206 w206 eg206 hx206 hb206 => ?_)
            replace hE3 := Ex.tr hE3 hx206
            replace hE5 := Ex.tr hE5 hx206
            replace hE17 := Ex.tr hE17 hx206
            replace hE202 := Ex.tr hE202 hx206
            replace hE205 := Ex.tr hE205 hx206
            have hlit207 : RdL w206 3 Br.c (.slice (some ⟨g206, 0, none⟩) 1 1) ([(⟨(setupOf f).og, (setupOf f).lo, (setupOf f).hi⟩ : Br)]) := RdL.of_blk Br.c_len (l := [(⟨(setupOf f).og, (setupOf f).lo, (setupOf f).hi⟩ : Br)]) hb206 (Nat.le_refl _) (by decide)
            refine RG.call rfl rfl rfl rfl rfl rfl rfl en_11 (margin_ret (⟨(setupOf f).pl, (setupOf f).og, (setupOf f).pi, max n (((setupOf f).pi + 1) / 2), (setupOf f).lo, (setupOf f).hi⟩ : Su) _ [(⟨(setupOf f).og, (setupOf f).lo, (setupOf f).hi⟩ : Br)] _ (hlit207) (by simp)) ?_
            rintro _ w208 ⟨rfl, hx208⟩
            replace hE3 := Ex.tr hE3 hx208
            replace hE5 := Ex.tr hE5 hx208
            replace hE17 := Ex.tr hE17 hx208
            replace hE202 := Ex.tr hE202 hx208
            replace hE205 := Ex.tr hE205 hx208
            have hE209 := hx208
            refine RG.vl rfl rfl rfl (Ev.move rfl rfl) ?_
            refine RG.vl rfl rfl rfl (Ev.extract rfl rfl rfl) ?_
            refine RG.vl rfl rfl rfl (Ev.extract rfl rfl rfl) ?_
            refine RG.vl rfl rfl rfl (Ev.assign rfl rfl) ?_
            refine RG.vl rfl rfl rfl (Ev.assign rfl rfl) ?_
            refine RG.done ?_
            refine QW.sub (S' := [(1, _), (6, _), (7, _), (8, _), (10, _), (11, _), (13, _)]) ⟨rfl, rfl, rfl, rfl, rfl, rfl, rfl, trivial⟩ ?_
            refine QW.then_ ?_
            refine CW.seq ?_
            refine CW.region ?_
            refine RG.vl rfl rfl rfl (Ev.ldAgg rfl rfl Try.underlying23 rfl sz_23 rfl ((hbws200.ext hE202).cells)) ?_
            refine RG.vl rfl rfl rfl (Ev.move rfl rfl) ?_
            refine RG.call rfl rfl rfl rfl rfl rfl rfl en_18 (draw_ret (⟨(setupOf f).pl, (setupOf f).og, (setupOf f).pi, max n (((setupOf f).pi + 1) / 2), (setupOf f).lo, (setupOf f).hi⟩ : Su) _ _ (by rw [read_bad _ _ he]; decide)) ?_
            rintro _ w210 ⟨dr210, rfl, hdr210, hx210⟩
            replace hE3 := Ex.tr hE3 hx210
            replace hE5 := Ex.tr hE5 hx210
            replace hE17 := Ex.tr hE17 hx210
            replace hE202 := Ex.tr hE202 hx210
            replace hE205 := Ex.tr hE205 hx210
            replace hE209 := Ex.tr hE209 hx210
            have hE211 := hx210
            refine RG.vl rfl rfl rfl (Ev.move rfl rfl) ?_
            refine RG.vl rfl rfl rfl (Ev.extract rfl rfl rfl) ?_
            refine RG.vl rfl rfl rfl (Ev.extract rfl rfl rfl) ?_
            refine RG.vl rfl rfl rfl (Ev.assign rfl rfl) ?_
            refine RG.vl rfl rfl rfl (Ev.assign rfl rfl) ?_
            refine RG.done ?_
            refine QW.then_ ?_
            refine CW.seq ?_
            refine CW.draw [] (.ex) 8 rfl mixed (fun wd212 hxwd212 => ?_)
            replace hE3 := Ex.tr hE3 hxwd212
            replace hE5 := Ex.tr hE5 hxwd212
            replace hE17 := Ex.tr hE17 hxwd212
            replace hE202 := Ex.tr hE202 hxwd212
            replace hE205 := Ex.tr hE205 hxwd212
            replace hE209 := Ex.tr hE209 hxwd212
            replace hE211 := Ex.tr hE211 hxwd212
            have hE213 := hxwd212
            refine AG.take 0 rfl (by kernel_rfl) (by kernel_rfl) rfl rfl rfl (fun wq hq => Ev.ldAgg rfl rfl Try.underlying23 rfl sz_23 rfl (((hbws200.ext hE202).ext hq).cells)) ?_
            refine AG.only 1 rfl (by kernel_rfl) ?_
            refine RG.makeL (m := 401) (enc := Br.c) (⟨0, 0, 0⟩ : Br) rfl rfl rfl rfl rfl rfl (rfl) Try.underlying24 inf_48 Br.c_len rfl rfl (by omega) (by simp only [maxLen]; omega) (fun g215 w215 eg215 hx215 hb215 hmk216 => ?_)
            have hle217 : w.heap.size ≤ g215 := by have := hE3.size; omega
            have hle218 : w1.heap.size ≤ g215 := by have := hE5.size; omega
            have hle219 : w6.heap.size ≤ g215 := by have := hE17.size; omega
            have hle220 : ws200.heap.size ≤ g215 := by have := hE202.size; omega
            have hle221 : w201.heap.size ≤ g215 := by have := hE205.size; omega
            have hle222 : w206.heap.size ≤ g215 := by have := hE209.size; omega
            have hle223 : w208.heap.size ≤ g215 := by have := hE211.size; omega
            have hle224 : w210.heap.size ≤ g215 := by have := hE213.size; omega
            have hle225 : wd212.heap.size ≤ g215 := by have := (Ex.rfl_ wd212).size; omega
            have hlt226 : g1 < g215 := by have := Blk.lt (hb1.ext hE5); omega
            have hlt227 : gS < g215 := by have := Blk.lt (hb6.ext hE17); omega
            have hlt228 : gR < g215 := by have := Blk.lt (hb18.ext hE202); omega
            have hlt229 : gB < g215 := by have := Blk.lt (hbws200.ext hE202); omega
            have hlt230 : g201 < g215 := by have := Blk.lt (hb201.ext hE205); omega
            have hlt231 : g206 < g215 := by have := Blk.lt (hb206.ext hE209); omega
            replace hE3 := Ex.tr hE3 hx215
            replace hE5 := Ex.tr hE5 hx215
            replace hE17 := Ex.tr hE17 hx215
            replace hE202 := Ex.tr hE202 hx215
            replace hE205 := Ex.tr hE205 hx215
            replace hE209 := Ex.tr hE209 hx215
            replace hE211 := Ex.tr hE211 hx215
            replace hE213 := Ex.tr hE213 hx215
            have hE232 := hx215
            refine RG.done ?_
            refine QW.an (fun _ => hE232) ?_
            refine AG.only 2 rfl (by kernel_rfl) ?_
            refine RG.call rfl rfl rfl rfl rfl rfl rfl en_10 (read_ret (⟨(setupOf f).pl, (setupOf f).og, (setupOf f).pi, max n (((setupOf f).pi + 1) / 2), (setupOf f).lo, (setupOf f).hi⟩ : Su) _ (List.replicate 401 ⟨0, 0, 0⟩) _ (hmk216) (by rw [List.length_replicate]; decide)) ?_
            rintro _ w234 ⟨rfl, hx234⟩
            replace hE3 := Ex.tr hE3 hx234
            replace hE5 := Ex.tr hE5 hx234
            replace hE17 := Ex.tr hE17 hx234
            replace hE202 := Ex.tr hE202 hx234
            replace hE205 := Ex.tr hE205 hx234
            replace hE209 := Ex.tr hE209 hx234
            replace hE211 := Ex.tr hE211 hx234
            replace hE213 := Ex.tr hE213 hx234
            have hE235 := hx234
            refine RG.done ?_
            refine QW.an (fun _ => hE235) ?_
            refine AG.takeW 3 rfl (by kernel_rfl) (by kernel_rfl) rfl rfl rfl (fun _ => Ev.move rfl rfl) ?_
            refine AG.takeW 4 rfl (by kernel_rfl) (by kernel_rfl) rfl rfl rfl (fun _ => Ev.extract rfl rfl rfl) ?_
            refine AG.takeW 5 rfl (by kernel_rfl) (by kernel_rfl) rfl rfl rfl (fun _ => Ev.extract rfl rfl rfl) ?_
            refine AG.takeW 6 rfl (by kernel_rfl) (by kernel_rfl) rfl rfl rfl (fun _ => Ev.assign rfl rfl) ?_
            refine AG.takeW 7 rfl (by kernel_rfl) (by kernel_rfl) rfl rfl rfl (fun _ => Ev.assign rfl rfl) ?_
            refine AG.done (by kernel_rfl) ?_
            refine QW.sub (S' := [(1, _), (6, _), (7, _), (8, _), (10, _), (11, _), (13, _), (15, _), (17, _)]) ⟨rfl, rfl, rfl, rfl, rfl, rfl, rfl, rfl, rfl, trivial⟩ ?_
            refine QW.then_ ?_
            refine CW.seq ?_
            have hdr : drawErr (⟨(setupOf f).pl, (setupOf f).og, (setupOf f).pi, max n (((setupOf f).pi + 1) / 2), (setupOf f).lo, (setupOf f).hi⟩ : Su) (⟨(readOf (⟨(setupOf f).pl, (setupOf f).og, (setupOf f).pi, max n (((setupOf f).pi + 1) / 2), (setupOf f).lo, (setupOf f).hi⟩ : Su) [(⟨(setupOf f).og, (setupOf f).lo, (setupOf f).hi⟩ : Br)]).toArray⟩ : ByteArray).data.toList = 2 := by rw [read_bad _ _ he]; exact draw_empty _
            refine CW.region ?_
            refine RG.vl rfl rfl rfl (Ev.move rfl rfl) ?_
            refine RG.vl rfl rfl rfl (Ev.isT (Ev.eqI rfl rfl rfl) (by omega)) ?_
            refine RG.vl rfl rfl rfl (Ev.move rfl rfl) ?_
            refine RG.vl rfl rfl rfl (Ev.move rfl rfl) ?_
            refine RG.vl rfl rfl rfl (Ev.move rfl rfl) ?_
            refine RG.vl rfl rfl rfl (Ev.isT (Ev.eqI rfl rfl rfl) (rfl)) ?_
            refine RG.vl rfl rfl rfl (Ev.pickT rfl rfl rfl) ?_
            refine RG.vl rfl rfl rfl (Ev.move rfl rfl) ?_
            refine RG.vl rfl rfl rfl (Ev.move rfl rfl) ?_
            refine RG.vl rfl rfl rfl (Ev.isT (Ev.eqS rfl rfl rfl) (by rw [read_bad _ _ he])) ?_
            refine RG.vl rfl rfl rfl (Ev.pickT rfl rfl rfl) ?_
            refine RG.vl rfl rfl rfl (Ev.move rfl rfl) ?_
            refine RG.vl rfl rfl rfl (Ev.move rfl rfl) ?_
            refine RG.vl rfl rfl rfl (Ev.rem8 rfl rfl rfl (by omega)) ?_
            refine RG.vl rfl rfl rfl (Ev.isF (Ev.geq rfl rfl rfl) (by omega)) ?_
            refine RG.vl rfl rfl rfl (Ev.move rfl rfl) ?_
            refine RG.vl rfl rfl rfl (Ev.move rfl rfl) ?_
            refine RG.vl rfl rfl rfl (Ev.isT (Ev.eqI rfl rfl rfl) (hdr)) ?_
            refine RG.vl rfl rfl rfl (Ev.move rfl rfl) ?_
            refine RG.vl rfl rfl rfl (Ev.ldAgg rfl rfl Try.underlying23 rfl sz_23 rfl ((hbws200.ext hE202).cells)) ?_
            refine RG.call rfl rfl rfl rfl rfl rfl rfl en_15 (right_no (⟨(setupOf f).pl, (setupOf f).og, (setupOf f).pi, max n (((setupOf f).pi + 1) / 2), (setupOf f).lo, (setupOf f).hi⟩ : Su) _ hno) ?_
            rintro _ w236 ⟨rfl, hx236⟩
            replace hE3 := Ex.tr hE3 hx236
            replace hE5 := Ex.tr hE5 hx236
            replace hE17 := Ex.tr hE17 hx236
            replace hE202 := Ex.tr hE202 hx236
            replace hE205 := Ex.tr hE205 hx236
            replace hE209 := Ex.tr hE209 hx236
            replace hE211 := Ex.tr hE211 hx236
            replace hE213 := Ex.tr hE213 hx236
            replace hE235 := Ex.tr hE235 hx236
            have hE237 := hx236
            refine RG.vl rfl rfl rfl (Ev.notT rfl rfl) ?_
            refine RG.vl rfl rfl rfl (Ev.pickT rfl rfl rfl) ?_
            refine RG.vl rfl rfl rfl (Ev.pickF rfl rfl rfl) ?_
            refine RG.vl rfl rfl rfl (Ev.pickT rfl rfl rfl) ?_
            refine RG.vl rfl rfl rfl (Ev.move rfl rfl) ?_
            refine RG.vl rfl rfl rfl (Ev.ldAgg rfl rfl Try.underlying23 rfl sz_23 rfl ((hb6.ext hE17).cells)) ?_
            refine RG.call rfl rfl rfl rfl rfl rfl rfl en_15 (right_yes (setupOf f) _ hok) ?_
            rintro _ w238 ⟨rfl, hx238⟩
            replace hE3 := Ex.tr hE3 hx238
            replace hE5 := Ex.tr hE5 hx238
            replace hE17 := Ex.tr hE17 hx238
            replace hE202 := Ex.tr hE202 hx238
            replace hE205 := Ex.tr hE205 hx238
            replace hE209 := Ex.tr hE209 hx238
            replace hE211 := Ex.tr hE211 hx238
            replace hE213 := Ex.tr hE213 hx238
            replace hE235 := Ex.tr hE235 hx238
            replace hE237 := Ex.tr hE237 hx238
            have hE239 := hx238
            refine RG.vl rfl rfl rfl (Ev.pickT rfl rfl rfl) ?_
            refine RG.vl rfl rfl rfl (Ev.move rfl rfl) ?_
            refine RG.vl rfl rfl rfl (Ev.move rfl rfl) ?_
            refine RG.vl rfl rfl rfl (Ev.isT (Ev.eqI rfl rfl rfl) (by rw [err_many])) ?_
            refine RG.vl rfl rfl rfl (Ev.pickT rfl rfl rfl) ?_
            refine RG.vl rfl rfl rfl (Ev.move rfl rfl) ?_
            refine RG.call rfl rfl rfl rfl rfl rfl rfl en_9 (awake_ret _) ?_
            rintro _ w240 ⟨rfl, hx240⟩
            replace hE3 := Ex.tr hE3 hx240
            replace hE5 := Ex.tr hE5 hx240
            replace hE17 := Ex.tr hE17 hx240
            replace hE202 := Ex.tr hE202 hx240
            replace hE205 := Ex.tr hE205 hx240
            replace hE209 := Ex.tr hE209 hx240
            replace hE211 := Ex.tr hE211 hx240
            replace hE213 := Ex.tr hE213 hx240
            replace hE235 := Ex.tr hE235 hx240
            replace hE237 := Ex.tr hE237 hx240
            replace hE239 := Ex.tr hE239 hx240
            have hE241 := hx240
            refine RG.vl rfl rfl rfl (Ev.pickT rfl rfl rfl) ?_
            refine RG.vl rfl rfl rfl (Ev.assign rfl rfl) ?_
            refine RG.done ?_
            refine QW.sub (S' := [(6, _)]) ⟨rfl, trivial⟩ ?_
            refine QW.then_ ?_
            refine CW.ret ?_
            refine QW.ret1 rfl rfl ?_
            have hB := (Ex.tr hB0 hE3)
            exact ⟨rfl, hB⟩
          · refine CW.seq ?_
            refine CW.region ?_
            refine RG.vl rfl rfl rfl (Ev.eqI rfl rfl rfl) ?_
            refine RG.vl rfl rfl rfl (Ev.assign rfl rfl) ?_
            refine RG.done ?_
            refine QW.sub (S' := [(1, _), (2, _), (6, _), (7, _), (8, _), (9, _), (29, _), (59, _)]) ⟨rfl, rfl, rfl, rfl, rfl, rfl, rfl, rfl, trivial⟩ ?_
            refine QW.then_ ?_
            refine CW.condP rfl (fun hc242 => ?_) (fun hc242 => ?_)
            · refine CW.region ?_
              refine RG.vl rfl rfl rfl (Ev.move rfl rfl) ?_
              refine RG.vl rfl rfl rfl (Ev.min2 rfl rfl rfl rfl) ?_
              refine RG.vl rfl rfl rfl (Ev.fld rfl rfl fld_23_3) ?_
              refine RG.st (g := gB) (k := 3) rfl rfl rfl rfl rfl sz_3 rfl (hb11.ext hE26) rfl (fun ws243 hwws243 hbws243 => ?_)
              replace hb18 := Blk.far hb18 hwws243 (by omega)
              replace hE3 := Wr.below hE3 hwws243 hle12
              replace hE5 := Wr.below hE5 hwws243 hle13
              replace hE17 := Wr.below hE17 hwws243 hle14
              refine RG.done ?_
              refine QW.blockN ?_
              refine QW.then_ ?_
              refine CW.seq ?_
              have hno : ¬ Okay (⟨(setupOf f).pl, (setupOf f).og, (setupOf f).pi, min n (-1), (setupOf f).lo, (setupOf f).hi⟩ : Su) := by intro h; unfold Okay at h; simp only at h; omega
              have he : errOf (⟨(setupOf f).pl, (setupOf f).og, (setupOf f).pi, min n (-1), (setupOf f).lo, (setupOf f).hi⟩ : Su) [(⟨(setupOf f).og, (setupOf f).lo, (setupOf f).hi⟩ : Br)] = 2 := err_setup _ _ hno
              refine CW.region ?_
              refine RG.vl rfl rfl rfl (Ev.ldAgg rfl rfl Try.underlying23 rfl sz_23 rfl (hbws243.cells)) ?_
              refine RG.vl rfl rfl rfl (Ev.ldAgg rfl rfl Try.underlying48 rfl sz_48 rfl (hb18.cells)) ?_
              refine RG.buildD (xs := [.tmp 98]) rfl rfl rfl rfl rfl rfl rfl Try.underlying24 inf_48 rfl rfl rfl rfl (fun g244 w244 eg244 hx244 hb244 => ?_)
              replace hE3 := Ex.tr hE3 hx244
              replace hE5 := Ex.tr hE5 hx244
              replace hE17 := Ex.tr hE17 hx244
              have hE245 := hx244
              have hlit246 : RdL w244 3 Br.c (.slice (some ⟨g244, 0, none⟩) 1 1) ([(⟨(setupOf f).og, (setupOf f).lo, (setupOf f).hi⟩ : Br)]) := RdL.of_blk Br.c_len (l := [(⟨(setupOf f).og, (setupOf f).lo, (setupOf f).hi⟩ : Br)]) hb244 (Nat.le_refl _) (by decide)
              refine RG.call rfl rfl rfl rfl rfl rfl rfl en_10 (read_ret (⟨(setupOf f).pl, (setupOf f).og, (setupOf f).pi, min n (-1), (setupOf f).lo, (setupOf f).hi⟩ : Su) _ [(⟨(setupOf f).og, (setupOf f).lo, (setupOf f).hi⟩ : Br)] _ (hlit246) (by simp)) ?_
              rintro _ w247 ⟨rfl, hx247⟩
              replace hE3 := Ex.tr hE3 hx247
              replace hE5 := Ex.tr hE5 hx247
              replace hE17 := Ex.tr hE17 hx247
              replace hE245 := Ex.tr hE245 hx247
              have hE248 := hx247
              refine RG.vl rfl rfl rfl (Ev.move rfl rfl) ?_
              refine RG.vl rfl rfl rfl (Ev.extract rfl rfl rfl) ?_
              refine RG.vl rfl rfl rfl (Ev.extract rfl rfl rfl) ?_
              refine RG.vl rfl rfl rfl (Ev.assign rfl rfl) ?_
              refine RG.vl rfl rfl rfl (Ev.assign rfl rfl) ?_
              refine RG.done ?_
              refine QW.then_ ?_
              refine CW.seq ?_
              refine CW.region ?_
              refine RG.vl rfl rfl rfl (Ev.ldAgg rfl rfl Try.underlying23 rfl sz_23 rfl ((hbws243.ext hE245).cells)) ?_
              refine RG.vl rfl rfl rfl (Ev.ldAgg rfl rfl Try.underlying48 rfl sz_48 rfl ((hb18.ext hE245).cells)) ?_
              refine RG.buildD (xs := [.tmp 105]) rfl rfl rfl rfl rfl rfl rfl Try.underlying24 inf_48 rfl rfl rfl rfl (fun g249 w249 eg249 hx249 hb249 => ?_)
              replace hE3 := Ex.tr hE3 hx249
              replace hE5 := Ex.tr hE5 hx249
              replace hE17 := Ex.tr hE17 hx249
              replace hE245 := Ex.tr hE245 hx249
              replace hE248 := Ex.tr hE248 hx249
              have hlit250 : RdL w249 3 Br.c (.slice (some ⟨g249, 0, none⟩) 1 1) ([(⟨(setupOf f).og, (setupOf f).lo, (setupOf f).hi⟩ : Br)]) := RdL.of_blk Br.c_len (l := [(⟨(setupOf f).og, (setupOf f).lo, (setupOf f).hi⟩ : Br)]) hb249 (Nat.le_refl _) (by decide)
              refine RG.call rfl rfl rfl rfl rfl rfl rfl en_11 (margin_ret (⟨(setupOf f).pl, (setupOf f).og, (setupOf f).pi, min n (-1), (setupOf f).lo, (setupOf f).hi⟩ : Su) _ [(⟨(setupOf f).og, (setupOf f).lo, (setupOf f).hi⟩ : Br)] _ (hlit250) (by simp)) ?_
              rintro _ w251 ⟨rfl, hx251⟩
              replace hE3 := Ex.tr hE3 hx251
              replace hE5 := Ex.tr hE5 hx251
              replace hE17 := Ex.tr hE17 hx251
              replace hE245 := Ex.tr hE245 hx251
              replace hE248 := Ex.tr hE248 hx251
              have hE252 := hx251
              refine RG.vl rfl rfl rfl (Ev.move rfl rfl) ?_
              refine RG.vl rfl rfl rfl (Ev.extract rfl rfl rfl) ?_
              refine RG.vl rfl rfl rfl (Ev.extract rfl rfl rfl) ?_
              refine RG.vl rfl rfl rfl (Ev.assign rfl rfl) ?_
              refine RG.vl rfl rfl rfl (Ev.assign rfl rfl) ?_
              refine RG.done ?_
              refine QW.sub (S' := [(1, _), (6, _), (7, _), (8, _), (10, _), (11, _), (13, _)]) ⟨rfl, rfl, rfl, rfl, rfl, rfl, rfl, trivial⟩ ?_
              refine QW.then_ ?_
              refine CW.seq ?_
              refine CW.region ?_
              refine RG.vl rfl rfl rfl (Ev.ldAgg rfl rfl Try.underlying23 rfl sz_23 rfl ((hbws243.ext hE245).cells)) ?_
              refine RG.vl rfl rfl rfl (Ev.move rfl rfl) ?_
              refine RG.call rfl rfl rfl rfl rfl rfl rfl en_18 (draw_ret (⟨(setupOf f).pl, (setupOf f).og, (setupOf f).pi, min n (-1), (setupOf f).lo, (setupOf f).hi⟩ : Su) _ _ (by rw [read_bad _ _ he]; decide)) ?_
              rintro _ w253 ⟨dr253, rfl, hdr253, hx253⟩
              replace hE3 := Ex.tr hE3 hx253
              replace hE5 := Ex.tr hE5 hx253
              replace hE17 := Ex.tr hE17 hx253
              replace hE245 := Ex.tr hE245 hx253
              replace hE248 := Ex.tr hE248 hx253
              replace hE252 := Ex.tr hE252 hx253
              have hE254 := hx253
              refine RG.vl rfl rfl rfl (Ev.move rfl rfl) ?_
              refine RG.vl rfl rfl rfl (Ev.extract rfl rfl rfl) ?_
              refine RG.vl rfl rfl rfl (Ev.extract rfl rfl rfl) ?_
              refine RG.vl rfl rfl rfl (Ev.assign rfl rfl) ?_
              refine RG.vl rfl rfl rfl (Ev.assign rfl rfl) ?_
              refine RG.done ?_
              refine QW.then_ ?_
              refine CW.seq ?_
              refine CW.draw [] (.ex) 8 rfl mixed (fun wd255 hxwd255 => ?_)
              replace hE3 := Ex.tr hE3 hxwd255
              replace hE5 := Ex.tr hE5 hxwd255
              replace hE17 := Ex.tr hE17 hxwd255
              replace hE245 := Ex.tr hE245 hxwd255
              replace hE248 := Ex.tr hE248 hxwd255
              replace hE252 := Ex.tr hE252 hxwd255
              replace hE254 := Ex.tr hE254 hxwd255
              have hE256 := hxwd255
              refine AG.take 0 rfl (by kernel_rfl) (by kernel_rfl) rfl rfl rfl (fun wq hq => Ev.ldAgg rfl rfl Try.underlying23 rfl sz_23 rfl (((hbws243.ext hE245).ext hq).cells)) ?_
              refine AG.only 1 rfl (by kernel_rfl) ?_
              refine RG.makeL (m := 401) (enc := Br.c) (⟨0, 0, 0⟩ : Br) rfl rfl rfl rfl rfl rfl (rfl) Try.underlying24 inf_48 Br.c_len rfl rfl (by omega) (by simp only [maxLen]; omega) (fun g258 w258 eg258 hx258 hb258 hmk259 => ?_)
              have hle260 : w.heap.size ≤ g258 := by have := hE3.size; omega
              have hle261 : w1.heap.size ≤ g258 := by have := hE5.size; omega
              have hle262 : w6.heap.size ≤ g258 := by have := hE17.size; omega
              have hle263 : ws243.heap.size ≤ g258 := by have := hE245.size; omega
              have hle264 : w244.heap.size ≤ g258 := by have := hE248.size; omega
              have hle265 : w249.heap.size ≤ g258 := by have := hE252.size; omega
              have hle266 : w251.heap.size ≤ g258 := by have := hE254.size; omega
              have hle267 : w253.heap.size ≤ g258 := by have := hE256.size; omega
              have hle268 : wd255.heap.size ≤ g258 := by have := (Ex.rfl_ wd255).size; omega
              have hlt269 : g1 < g258 := by have := Blk.lt (hb1.ext hE5); omega
              have hlt270 : gS < g258 := by have := Blk.lt (hb6.ext hE17); omega
              have hlt271 : gR < g258 := by have := Blk.lt (hb18.ext hE245); omega
              have hlt272 : gB < g258 := by have := Blk.lt (hbws243.ext hE245); omega
              have hlt273 : g244 < g258 := by have := Blk.lt (hb244.ext hE248); omega
              have hlt274 : g249 < g258 := by have := Blk.lt (hb249.ext hE252); omega
              replace hE3 := Ex.tr hE3 hx258
              replace hE5 := Ex.tr hE5 hx258
              replace hE17 := Ex.tr hE17 hx258
              replace hE245 := Ex.tr hE245 hx258
              replace hE248 := Ex.tr hE248 hx258
              replace hE252 := Ex.tr hE252 hx258
              replace hE254 := Ex.tr hE254 hx258
              replace hE256 := Ex.tr hE256 hx258
              have hE275 := hx258
              refine RG.done ?_
              refine QW.an (fun _ => hE275) ?_
              refine AG.only 2 rfl (by kernel_rfl) ?_
              refine RG.call rfl rfl rfl rfl rfl rfl rfl en_10 (read_ret (⟨(setupOf f).pl, (setupOf f).og, (setupOf f).pi, min n (-1), (setupOf f).lo, (setupOf f).hi⟩ : Su) _ (List.replicate 401 ⟨0, 0, 0⟩) _ (hmk259) (by rw [List.length_replicate]; decide)) ?_
              rintro _ w277 ⟨rfl, hx277⟩
              replace hE3 := Ex.tr hE3 hx277
              replace hE5 := Ex.tr hE5 hx277
              replace hE17 := Ex.tr hE17 hx277
              replace hE245 := Ex.tr hE245 hx277
              replace hE248 := Ex.tr hE248 hx277
              replace hE252 := Ex.tr hE252 hx277
              replace hE254 := Ex.tr hE254 hx277
              replace hE256 := Ex.tr hE256 hx277
              have hE278 := hx277
              refine RG.done ?_
              refine QW.an (fun _ => hE278) ?_
              refine AG.takeW 3 rfl (by kernel_rfl) (by kernel_rfl) rfl rfl rfl (fun _ => Ev.move rfl rfl) ?_
              refine AG.takeW 4 rfl (by kernel_rfl) (by kernel_rfl) rfl rfl rfl (fun _ => Ev.extract rfl rfl rfl) ?_
              refine AG.takeW 5 rfl (by kernel_rfl) (by kernel_rfl) rfl rfl rfl (fun _ => Ev.extract rfl rfl rfl) ?_
              refine AG.takeW 6 rfl (by kernel_rfl) (by kernel_rfl) rfl rfl rfl (fun _ => Ev.assign rfl rfl) ?_
              refine AG.takeW 7 rfl (by kernel_rfl) (by kernel_rfl) rfl rfl rfl (fun _ => Ev.assign rfl rfl) ?_
              refine AG.done (by kernel_rfl) ?_
              refine QW.sub (S' := [(1, _), (6, _), (7, _), (8, _), (10, _), (11, _), (13, _), (15, _), (17, _)]) ⟨rfl, rfl, rfl, rfl, rfl, rfl, rfl, rfl, rfl, trivial⟩ ?_
              refine QW.then_ ?_
              refine CW.seq ?_
              have hdr : drawErr (⟨(setupOf f).pl, (setupOf f).og, (setupOf f).pi, min n (-1), (setupOf f).lo, (setupOf f).hi⟩ : Su) (⟨(readOf (⟨(setupOf f).pl, (setupOf f).og, (setupOf f).pi, min n (-1), (setupOf f).lo, (setupOf f).hi⟩ : Su) [(⟨(setupOf f).og, (setupOf f).lo, (setupOf f).hi⟩ : Br)]).toArray⟩ : ByteArray).data.toList = 2 := by rw [read_bad _ _ he]; exact draw_empty _
              refine CW.region ?_
              refine RG.vl rfl rfl rfl (Ev.move rfl rfl) ?_
              refine RG.vl rfl rfl rfl (Ev.isT (Ev.eqI rfl rfl rfl) (by omega)) ?_
              refine RG.vl rfl rfl rfl (Ev.move rfl rfl) ?_
              refine RG.vl rfl rfl rfl (Ev.move rfl rfl) ?_
              refine RG.vl rfl rfl rfl (Ev.move rfl rfl) ?_
              refine RG.vl rfl rfl rfl (Ev.isT (Ev.eqI rfl rfl rfl) (rfl)) ?_
              refine RG.vl rfl rfl rfl (Ev.pickT rfl rfl rfl) ?_
              refine RG.vl rfl rfl rfl (Ev.move rfl rfl) ?_
              refine RG.vl rfl rfl rfl (Ev.move rfl rfl) ?_
              refine RG.vl rfl rfl rfl (Ev.isT (Ev.eqS rfl rfl rfl) (by rw [read_bad _ _ he])) ?_
              refine RG.vl rfl rfl rfl (Ev.pickT rfl rfl rfl) ?_
              refine RG.vl rfl rfl rfl (Ev.move rfl rfl) ?_
              refine RG.vl rfl rfl rfl (Ev.move rfl rfl) ?_
              refine RG.vl rfl rfl rfl (Ev.rem8 rfl rfl rfl (by omega)) ?_
              refine RG.vl rfl rfl rfl (Ev.isF (Ev.geq rfl rfl rfl) (by omega)) ?_
              refine RG.vl rfl rfl rfl (Ev.move rfl rfl) ?_
              refine RG.vl rfl rfl rfl (Ev.move rfl rfl) ?_
              refine RG.vl rfl rfl rfl (Ev.isT (Ev.eqI rfl rfl rfl) (hdr)) ?_
              refine RG.vl rfl rfl rfl (Ev.move rfl rfl) ?_
              refine RG.vl rfl rfl rfl (Ev.ldAgg rfl rfl Try.underlying23 rfl sz_23 rfl ((hbws243.ext hE245).cells)) ?_
              refine RG.call rfl rfl rfl rfl rfl rfl rfl en_15 (right_no (⟨(setupOf f).pl, (setupOf f).og, (setupOf f).pi, min n (-1), (setupOf f).lo, (setupOf f).hi⟩ : Su) _ hno) ?_
              rintro _ w279 ⟨rfl, hx279⟩
              replace hE3 := Ex.tr hE3 hx279
              replace hE5 := Ex.tr hE5 hx279
              replace hE17 := Ex.tr hE17 hx279
              replace hE245 := Ex.tr hE245 hx279
              replace hE248 := Ex.tr hE248 hx279
              replace hE252 := Ex.tr hE252 hx279
              replace hE254 := Ex.tr hE254 hx279
              replace hE256 := Ex.tr hE256 hx279
              replace hE278 := Ex.tr hE278 hx279
              have hE280 := hx279
              refine RG.vl rfl rfl rfl (Ev.notT rfl rfl) ?_
              refine RG.vl rfl rfl rfl (Ev.pickT rfl rfl rfl) ?_
              refine RG.vl rfl rfl rfl (Ev.pickF rfl rfl rfl) ?_
              refine RG.vl rfl rfl rfl (Ev.pickT rfl rfl rfl) ?_
              refine RG.vl rfl rfl rfl (Ev.move rfl rfl) ?_
              refine RG.vl rfl rfl rfl (Ev.ldAgg rfl rfl Try.underlying23 rfl sz_23 rfl ((hb6.ext hE17).cells)) ?_
              refine RG.call rfl rfl rfl rfl rfl rfl rfl en_15 (right_yes (setupOf f) _ hok) ?_
              rintro _ w281 ⟨rfl, hx281⟩
              replace hE3 := Ex.tr hE3 hx281
              replace hE5 := Ex.tr hE5 hx281
              replace hE17 := Ex.tr hE17 hx281
              replace hE245 := Ex.tr hE245 hx281
              replace hE248 := Ex.tr hE248 hx281
              replace hE252 := Ex.tr hE252 hx281
              replace hE254 := Ex.tr hE254 hx281
              replace hE256 := Ex.tr hE256 hx281
              replace hE278 := Ex.tr hE278 hx281
              replace hE280 := Ex.tr hE280 hx281
              have hE282 := hx281
              refine RG.vl rfl rfl rfl (Ev.pickT rfl rfl rfl) ?_
              refine RG.vl rfl rfl rfl (Ev.move rfl rfl) ?_
              refine RG.vl rfl rfl rfl (Ev.move rfl rfl) ?_
              refine RG.vl rfl rfl rfl (Ev.isT (Ev.eqI rfl rfl rfl) (by rw [err_many])) ?_
              refine RG.vl rfl rfl rfl (Ev.pickT rfl rfl rfl) ?_
              refine RG.vl rfl rfl rfl (Ev.move rfl rfl) ?_
              refine RG.call rfl rfl rfl rfl rfl rfl rfl en_9 (awake_ret _) ?_
              rintro _ w283 ⟨rfl, hx283⟩
              replace hE3 := Ex.tr hE3 hx283
              replace hE5 := Ex.tr hE5 hx283
              replace hE17 := Ex.tr hE17 hx283
              replace hE245 := Ex.tr hE245 hx283
              replace hE248 := Ex.tr hE248 hx283
              replace hE252 := Ex.tr hE252 hx283
              replace hE254 := Ex.tr hE254 hx283
              replace hE256 := Ex.tr hE256 hx283
              replace hE278 := Ex.tr hE278 hx283
              replace hE280 := Ex.tr hE280 hx283
              replace hE282 := Ex.tr hE282 hx283
              have hE284 := hx283
              refine RG.vl rfl rfl rfl (Ev.pickT rfl rfl rfl) ?_
              refine RG.vl rfl rfl rfl (Ev.assign rfl rfl) ?_
              refine RG.done ?_
              refine QW.sub (S' := [(6, _)]) ⟨rfl, trivial⟩ ?_
              refine QW.then_ ?_
              refine CW.ret ?_
              refine QW.ret1 rfl rfl ?_
              have hB := (Ex.tr hB0 hE3)
              exact ⟨rfl, hB⟩
            · refine CW.seq ?_
              refine CW.region ?_
              refine RG.vl rfl rfl rfl (Ev.eqI rfl rfl rfl) ?_
              refine RG.vl rfl rfl rfl (Ev.assign rfl rfl) ?_
              refine RG.done ?_
              refine QW.then_ ?_
              refine CW.condP rfl (fun hc285 => ?_) (fun hc285 => ?_)
              · refine CW.region ?_
                refine RG.vl rfl rfl rfl (Ev.move rfl rfl) ?_
                refine RG.vl rfl rfl rfl (Ev.min2 rfl rfl rfl rfl) ?_
                refine RG.vl rfl rfl rfl (Ev.fld rfl rfl fld_23_4) ?_
                refine RG.st (g := gB) (k := 4) rfl rfl rfl rfl rfl sz_3 rfl (hb11.ext hE26) rfl (fun ws286 hwws286 hbws286 => ?_)
                replace hb18 := Blk.far hb18 hwws286 (by omega)
                replace hE3 := Wr.below hE3 hwws286 hle12
                replace hE5 := Wr.below hE5 hwws286 hle13
                replace hE17 := Wr.below hE17 hwws286 hle14
                refine RG.done ?_
                refine QW.blockN ?_
                refine QW.then_ ?_
                refine CW.seq ?_
                have hno : ¬ Okay (⟨(setupOf f).pl, (setupOf f).og, (setupOf f).pi, (setupOf f).sl, min n (-1), (setupOf f).hi⟩ : Su) := by intro h; unfold Okay at h; simp only at h; omega
                have he : errOf (⟨(setupOf f).pl, (setupOf f).og, (setupOf f).pi, (setupOf f).sl, min n (-1), (setupOf f).hi⟩ : Su) [(⟨(setupOf f).og, (setupOf f).lo, (setupOf f).hi⟩ : Br)] = 2 := err_setup _ _ hno
                refine CW.region ?_
                refine RG.vl rfl rfl rfl (Ev.ldAgg rfl rfl Try.underlying23 rfl sz_23 rfl (hbws286.cells)) ?_
                refine RG.vl rfl rfl rfl (Ev.ldAgg rfl rfl Try.underlying48 rfl sz_48 rfl (hb18.cells)) ?_
                refine RG.buildD (xs := [.tmp 98]) rfl rfl rfl rfl rfl rfl rfl Try.underlying24 inf_48 rfl rfl rfl rfl (fun g287 w287 eg287 hx287 hb287 => ?_)
                replace hE3 := Ex.tr hE3 hx287
                replace hE5 := Ex.tr hE5 hx287
                replace hE17 := Ex.tr hE17 hx287
                have hE288 := hx287
                have hlit289 : RdL w287 3 Br.c (.slice (some ⟨g287, 0, none⟩) 1 1) ([(⟨(setupOf f).og, (setupOf f).lo, (setupOf f).hi⟩ : Br)]) := RdL.of_blk Br.c_len (l := [(⟨(setupOf f).og, (setupOf f).lo, (setupOf f).hi⟩ : Br)]) hb287 (Nat.le_refl _) (by decide)
                refine RG.call rfl rfl rfl rfl rfl rfl rfl en_10 (read_ret (⟨(setupOf f).pl, (setupOf f).og, (setupOf f).pi, (setupOf f).sl, min n (-1), (setupOf f).hi⟩ : Su) _ [(⟨(setupOf f).og, (setupOf f).lo, (setupOf f).hi⟩ : Br)] _ (hlit289) (by simp)) ?_
                rintro _ w290 ⟨rfl, hx290⟩
                replace hE3 := Ex.tr hE3 hx290
                replace hE5 := Ex.tr hE5 hx290
                replace hE17 := Ex.tr hE17 hx290
                replace hE288 := Ex.tr hE288 hx290
                have hE291 := hx290
                refine RG.vl rfl rfl rfl (Ev.move rfl rfl) ?_
                refine RG.vl rfl rfl rfl (Ev.extract rfl rfl rfl) ?_
                refine RG.vl rfl rfl rfl (Ev.extract rfl rfl rfl) ?_
                refine RG.vl rfl rfl rfl (Ev.assign rfl rfl) ?_
                refine RG.vl rfl rfl rfl (Ev.assign rfl rfl) ?_
                refine RG.done ?_
                refine QW.sub (S' := [(1, _), (6, _), (7, _), (8, _), (9, _), (10, _), (11, _)]) ⟨rfl, rfl, rfl, rfl, rfl, rfl, rfl, trivial⟩ ?_
                refine QW.then_ ?_
                refine CW.seq ?_
                refine CW.region ?_
                refine RG.vl rfl rfl rfl (Ev.ldAgg rfl rfl Try.underlying23 rfl sz_23 rfl ((hbws286.ext hE288).cells)) ?_
                refine RG.vl rfl rfl rfl (Ev.ldAgg rfl rfl Try.underlying48 rfl sz_48 rfl ((hb18.ext hE288).cells)) ?_
                refine RG.buildD (xs := [.tmp 105]) rfl rfl rfl rfl rfl rfl rfl Try.underlying24 inf_48 rfl rfl rfl rfl (fun g292 w292 eg292 hx292 hb292 => ?_)
                replace hE3 := Ex.tr hE3 hx292
                replace hE5 := Ex.tr hE5 hx292
                replace hE17 := Ex.tr hE17 hx292
                replace hE288 := Ex.tr hE288 hx292
                replace hE291 := Ex.tr hE291 hx292
                have hlit293 : RdL w292 3 Br.c (.slice (some ⟨g292, 0, none⟩) 1 1) ([(⟨(setupOf f).og, (setupOf f).lo, (setupOf f).hi⟩ : Br)]) := RdL.of_blk Br.c_len (l := [(⟨(setupOf f).og, (setupOf f).lo, (setupOf f).hi⟩ : Br)]) hb292 (Nat.le_refl _) (by decide)
                refine RG.call rfl rfl rfl rfl rfl rfl rfl en_11 (margin_ret (⟨(setupOf f).pl, (setupOf f).og, (setupOf f).pi, (setupOf f).sl, min n (-1), (setupOf f).hi⟩ : Su) _ [(⟨(setupOf f).og, (setupOf f).lo, (setupOf f).hi⟩ : Br)] _ (hlit293) (by simp)) ?_
                rintro _ w294 ⟨rfl, hx294⟩
                replace hE3 := Ex.tr hE3 hx294
                replace hE5 := Ex.tr hE5 hx294
                replace hE17 := Ex.tr hE17 hx294
                replace hE288 := Ex.tr hE288 hx294
                replace hE291 := Ex.tr hE291 hx294
                have hE295 := hx294
                refine RG.vl rfl rfl rfl (Ev.move rfl rfl) ?_
                refine RG.vl rfl rfl rfl (Ev.extract rfl rfl rfl) ?_
                refine RG.vl rfl rfl rfl (Ev.extract rfl rfl rfl) ?_
                refine RG.vl rfl rfl rfl (Ev.assign rfl rfl) ?_
                refine RG.vl rfl rfl rfl (Ev.assign rfl rfl) ?_
                refine RG.done ?_
                refine QW.then_ ?_
                refine CW.seq ?_
                refine CW.region ?_
                refine RG.vl rfl rfl rfl (Ev.ldAgg rfl rfl Try.underlying23 rfl sz_23 rfl ((hbws286.ext hE288).cells)) ?_
                refine RG.vl rfl rfl rfl (Ev.move rfl rfl) ?_
                refine RG.call rfl rfl rfl rfl rfl rfl rfl en_18 (draw_ret (⟨(setupOf f).pl, (setupOf f).og, (setupOf f).pi, (setupOf f).sl, min n (-1), (setupOf f).hi⟩ : Su) _ _ (by rw [read_bad _ _ he]; decide)) ?_
                rintro _ w296 ⟨dr296, rfl, hdr296, hx296⟩
                replace hE3 := Ex.tr hE3 hx296
                replace hE5 := Ex.tr hE5 hx296
                replace hE17 := Ex.tr hE17 hx296
                replace hE288 := Ex.tr hE288 hx296
                replace hE291 := Ex.tr hE291 hx296
                replace hE295 := Ex.tr hE295 hx296
                have hE297 := hx296
                refine RG.vl rfl rfl rfl (Ev.move rfl rfl) ?_
                refine RG.vl rfl rfl rfl (Ev.extract rfl rfl rfl) ?_
                refine RG.vl rfl rfl rfl (Ev.extract rfl rfl rfl) ?_
                refine RG.vl rfl rfl rfl (Ev.assign rfl rfl) ?_
                refine RG.vl rfl rfl rfl (Ev.assign rfl rfl) ?_
                refine RG.done ?_
                refine QW.sub (S' := [(1, _), (6, _), (7, _), (8, _), (10, _), (11, _), (13, _), (15, _)]) ⟨rfl, rfl, rfl, rfl, rfl, rfl, rfl, rfl, trivial⟩ ?_
                refine QW.then_ ?_
                refine CW.seq ?_
                refine CW.draw [] (.ex) 8 rfl mixed (fun wd298 hxwd298 => ?_)
                replace hE3 := Ex.tr hE3 hxwd298
                replace hE5 := Ex.tr hE5 hxwd298
                replace hE17 := Ex.tr hE17 hxwd298
                replace hE288 := Ex.tr hE288 hxwd298
                replace hE291 := Ex.tr hE291 hxwd298
                replace hE295 := Ex.tr hE295 hxwd298
                replace hE297 := Ex.tr hE297 hxwd298
                have hE299 := hxwd298
                refine AG.take 0 rfl (by kernel_rfl) (by kernel_rfl) rfl rfl rfl (fun wq hq => Ev.ldAgg rfl rfl Try.underlying23 rfl sz_23 rfl (((hbws286.ext hE288).ext hq).cells)) ?_
                refine AG.only 1 rfl (by kernel_rfl) ?_
                refine RG.makeL (m := 401) (enc := Br.c) (⟨0, 0, 0⟩ : Br) rfl rfl rfl rfl rfl rfl (rfl) Try.underlying24 inf_48 Br.c_len rfl rfl (by omega) (by simp only [maxLen]; omega) (fun g301 w301 eg301 hx301 hb301 hmk302 => ?_)
                have hle303 : w.heap.size ≤ g301 := by have := hE3.size; omega
                have hle304 : w1.heap.size ≤ g301 := by have := hE5.size; omega
                have hle305 : w6.heap.size ≤ g301 := by have := hE17.size; omega
                have hle306 : ws286.heap.size ≤ g301 := by have := hE288.size; omega
                have hle307 : w287.heap.size ≤ g301 := by have := hE291.size; omega
                have hle308 : w292.heap.size ≤ g301 := by have := hE295.size; omega
                have hle309 : w294.heap.size ≤ g301 := by have := hE297.size; omega
                have hle310 : w296.heap.size ≤ g301 := by have := hE299.size; omega
                have hle311 : wd298.heap.size ≤ g301 := by have := (Ex.rfl_ wd298).size; omega
                have hlt312 : g1 < g301 := by have := Blk.lt (hb1.ext hE5); omega
                have hlt313 : gS < g301 := by have := Blk.lt (hb6.ext hE17); omega
                have hlt314 : gR < g301 := by have := Blk.lt (hb18.ext hE288); omega
                have hlt315 : gB < g301 := by have := Blk.lt (hbws286.ext hE288); omega
                have hlt316 : g287 < g301 := by have := Blk.lt (hb287.ext hE291); omega
                have hlt317 : g292 < g301 := by have := Blk.lt (hb292.ext hE295); omega
                replace hE3 := Ex.tr hE3 hx301
                replace hE5 := Ex.tr hE5 hx301
                replace hE17 := Ex.tr hE17 hx301
                replace hE288 := Ex.tr hE288 hx301
                replace hE291 := Ex.tr hE291 hx301
                replace hE295 := Ex.tr hE295 hx301
                replace hE297 := Ex.tr hE297 hx301
                replace hE299 := Ex.tr hE299 hx301
                have hE318 := hx301
                refine RG.done ?_
                refine QW.an (fun _ => hE318) ?_
                refine AG.only 2 rfl (by kernel_rfl) ?_
                refine RG.call rfl rfl rfl rfl rfl rfl rfl en_10 (read_ret (⟨(setupOf f).pl, (setupOf f).og, (setupOf f).pi, (setupOf f).sl, min n (-1), (setupOf f).hi⟩ : Su) _ (List.replicate 401 ⟨0, 0, 0⟩) _ (hmk302) (by rw [List.length_replicate]; decide)) ?_
                rintro _ w320 ⟨rfl, hx320⟩
                replace hE3 := Ex.tr hE3 hx320
                replace hE5 := Ex.tr hE5 hx320
                replace hE17 := Ex.tr hE17 hx320
                replace hE288 := Ex.tr hE288 hx320
                replace hE291 := Ex.tr hE291 hx320
                replace hE295 := Ex.tr hE295 hx320
                replace hE297 := Ex.tr hE297 hx320
                replace hE299 := Ex.tr hE299 hx320
                have hE321 := hx320
                refine RG.done ?_
                refine QW.an (fun _ => hE321) ?_
                refine AG.takeW 3 rfl (by kernel_rfl) (by kernel_rfl) rfl rfl rfl (fun _ => Ev.move rfl rfl) ?_
                refine AG.takeW 4 rfl (by kernel_rfl) (by kernel_rfl) rfl rfl rfl (fun _ => Ev.extract rfl rfl rfl) ?_
                refine AG.takeW 5 rfl (by kernel_rfl) (by kernel_rfl) rfl rfl rfl (fun _ => Ev.extract rfl rfl rfl) ?_
                refine AG.takeW 6 rfl (by kernel_rfl) (by kernel_rfl) rfl rfl rfl (fun _ => Ev.assign rfl rfl) ?_
                refine AG.takeW 7 rfl (by kernel_rfl) (by kernel_rfl) rfl rfl rfl (fun _ => Ev.assign rfl rfl) ?_
                refine AG.done (by kernel_rfl) ?_
                refine QW.then_ ?_
                refine CW.seq ?_
                have hdr : drawErr (⟨(setupOf f).pl, (setupOf f).og, (setupOf f).pi, (setupOf f).sl, min n (-1), (setupOf f).hi⟩ : Su) (⟨(readOf (⟨(setupOf f).pl, (setupOf f).og, (setupOf f).pi, (setupOf f).sl, min n (-1), (setupOf f).hi⟩ : Su) [(⟨(setupOf f).og, (setupOf f).lo, (setupOf f).hi⟩ : Br)]).toArray⟩ : ByteArray).data.toList = 2 := by rw [read_bad _ _ he]; exact draw_empty _
                refine CW.region ?_
                refine RG.vl rfl rfl rfl (Ev.move rfl rfl) ?_
                refine RG.vl rfl rfl rfl (Ev.isT (Ev.eqI rfl rfl rfl) (by omega)) ?_
                refine RG.vl rfl rfl rfl (Ev.move rfl rfl) ?_
                refine RG.vl rfl rfl rfl (Ev.move rfl rfl) ?_
                refine RG.vl rfl rfl rfl (Ev.move rfl rfl) ?_
                refine RG.vl rfl rfl rfl (Ev.isT (Ev.eqI rfl rfl rfl) (rfl)) ?_
                refine RG.vl rfl rfl rfl (Ev.pickT rfl rfl rfl) ?_
                refine RG.vl rfl rfl rfl (Ev.move rfl rfl) ?_
                refine RG.vl rfl rfl rfl (Ev.move rfl rfl) ?_
                refine RG.vl rfl rfl rfl (Ev.isT (Ev.eqS rfl rfl rfl) (by rw [read_bad _ _ he])) ?_
                refine RG.vl rfl rfl rfl (Ev.pickT rfl rfl rfl) ?_
                refine RG.vl rfl rfl rfl (Ev.move rfl rfl) ?_
                refine RG.vl rfl rfl rfl (Ev.move rfl rfl) ?_
                refine RG.vl rfl rfl rfl (Ev.rem8 rfl rfl rfl (by omega)) ?_
                refine RG.vl rfl rfl rfl (Ev.isF (Ev.geq rfl rfl rfl) (by omega)) ?_
                refine RG.vl rfl rfl rfl (Ev.move rfl rfl) ?_
                refine RG.vl rfl rfl rfl (Ev.move rfl rfl) ?_
                refine RG.vl rfl rfl rfl (Ev.isT (Ev.eqI rfl rfl rfl) (hdr)) ?_
                refine RG.vl rfl rfl rfl (Ev.move rfl rfl) ?_
                refine RG.vl rfl rfl rfl (Ev.ldAgg rfl rfl Try.underlying23 rfl sz_23 rfl ((hbws286.ext hE288).cells)) ?_
                refine RG.call rfl rfl rfl rfl rfl rfl rfl en_15 (right_no (⟨(setupOf f).pl, (setupOf f).og, (setupOf f).pi, (setupOf f).sl, min n (-1), (setupOf f).hi⟩ : Su) _ hno) ?_
                rintro _ w322 ⟨rfl, hx322⟩
                replace hE3 := Ex.tr hE3 hx322
                replace hE5 := Ex.tr hE5 hx322
                replace hE17 := Ex.tr hE17 hx322
                replace hE288 := Ex.tr hE288 hx322
                replace hE291 := Ex.tr hE291 hx322
                replace hE295 := Ex.tr hE295 hx322
                replace hE297 := Ex.tr hE297 hx322
                replace hE299 := Ex.tr hE299 hx322
                replace hE321 := Ex.tr hE321 hx322
                have hE323 := hx322
                refine RG.vl rfl rfl rfl (Ev.notT rfl rfl) ?_
                refine RG.vl rfl rfl rfl (Ev.pickT rfl rfl rfl) ?_
                refine RG.vl rfl rfl rfl (Ev.pickF rfl rfl rfl) ?_
                refine RG.vl rfl rfl rfl (Ev.pickT rfl rfl rfl) ?_
                refine RG.vl rfl rfl rfl (Ev.move rfl rfl) ?_
                refine RG.vl rfl rfl rfl (Ev.ldAgg rfl rfl Try.underlying23 rfl sz_23 rfl ((hb6.ext hE17).cells)) ?_
                refine RG.call rfl rfl rfl rfl rfl rfl rfl en_15 (right_yes (setupOf f) _ hok) ?_
                rintro _ w324 ⟨rfl, hx324⟩
                replace hE3 := Ex.tr hE3 hx324
                replace hE5 := Ex.tr hE5 hx324
                replace hE17 := Ex.tr hE17 hx324
                replace hE288 := Ex.tr hE288 hx324
                replace hE291 := Ex.tr hE291 hx324
                replace hE295 := Ex.tr hE295 hx324
                replace hE297 := Ex.tr hE297 hx324
                replace hE299 := Ex.tr hE299 hx324
                replace hE321 := Ex.tr hE321 hx324
                replace hE323 := Ex.tr hE323 hx324
                have hE325 := hx324
                refine RG.vl rfl rfl rfl (Ev.pickT rfl rfl rfl) ?_
                refine RG.vl rfl rfl rfl (Ev.move rfl rfl) ?_
                refine RG.vl rfl rfl rfl (Ev.move rfl rfl) ?_
                refine RG.vl rfl rfl rfl (Ev.isT (Ev.eqI rfl rfl rfl) (by rw [err_many])) ?_
                refine RG.vl rfl rfl rfl (Ev.pickT rfl rfl rfl) ?_
                refine RG.vl rfl rfl rfl (Ev.move rfl rfl) ?_
                refine RG.call rfl rfl rfl rfl rfl rfl rfl en_9 (awake_ret _) ?_
                rintro _ w326 ⟨rfl, hx326⟩
                replace hE3 := Ex.tr hE3 hx326
                replace hE5 := Ex.tr hE5 hx326
                replace hE17 := Ex.tr hE17 hx326
                replace hE288 := Ex.tr hE288 hx326
                replace hE291 := Ex.tr hE291 hx326
                replace hE295 := Ex.tr hE295 hx326
                replace hE297 := Ex.tr hE297 hx326
                replace hE299 := Ex.tr hE299 hx326
                replace hE321 := Ex.tr hE321 hx326
                replace hE323 := Ex.tr hE323 hx326
                replace hE325 := Ex.tr hE325 hx326
                have hE327 := hx326
                refine RG.vl rfl rfl rfl (Ev.pickT rfl rfl rfl) ?_
                refine RG.vl rfl rfl rfl (Ev.assign rfl rfl) ?_
                refine RG.done ?_
                refine QW.sub (S' := [(6, _)]) ⟨rfl, trivial⟩ ?_
                refine QW.then_ ?_
                refine CW.ret ?_
                refine QW.ret1 rfl rfl ?_
                have hB := (Ex.tr hB0 hE3)
                exact ⟨rfl, hB⟩
              · refine CW.seq ?_
                refine CW.region ?_
                refine RG.vl rfl rfl rfl (Ev.eqI rfl rfl rfl) ?_
                refine RG.vl rfl rfl rfl (Ev.assign rfl rfl) ?_
                refine RG.done ?_
                refine QW.then_ ?_
                refine CW.condP rfl (fun hc328 => ?_) (fun hc328 => ?_)
                · refine CW.region ?_
                  refine RG.vl rfl rfl rfl (Ev.move rfl rfl) ?_
                  refine RG.vl rfl rfl rfl (Ev.fld rfl rfl fld_23_4) ?_
                  refine RG.vl rfl rfl rfl (Ev.ldAt rfl rfl Try.underlying3 rfl ((hb6.ext hE17).cells) (rfl)) ?_
                  refine RG.vl rfl rfl rfl (Ev.min2 rfl rfl rfl rfl) ?_
                  refine RG.vl rfl rfl rfl (Ev.fld rfl rfl fld_23_5) ?_
                  refine RG.st (g := gB) (k := 5) rfl rfl rfl rfl rfl sz_3 rfl (hb11.ext hE26) rfl (fun ws329 hwws329 hbws329 => ?_)
                  replace hb18 := Blk.far hb18 hwws329 (by omega)
                  replace hE3 := Wr.below hE3 hwws329 hle12
                  replace hE5 := Wr.below hE5 hwws329 hle13
                  replace hE17 := Wr.below hE17 hwws329 hle14
                  refine RG.done ?_
                  refine QW.blockN ?_
                  refine QW.then_ ?_
                  refine CW.seq ?_
                  have hno : ¬ Okay (⟨(setupOf f).pl, (setupOf f).og, (setupOf f).pi, (setupOf f).sl, (setupOf f).lo, min n (setupOf f).lo⟩ : Su) := by intro h; unfold Okay at h; simp only at h; omega
                  have he : errOf (⟨(setupOf f).pl, (setupOf f).og, (setupOf f).pi, (setupOf f).sl, (setupOf f).lo, min n (setupOf f).lo⟩ : Su) [(⟨(setupOf f).og, (setupOf f).lo, (setupOf f).hi⟩ : Br)] = 2 := err_setup _ _ hno
                  refine CW.region ?_
                  refine RG.vl rfl rfl rfl (Ev.ldAgg rfl rfl Try.underlying23 rfl sz_23 rfl (hbws329.cells)) ?_
                  refine RG.vl rfl rfl rfl (Ev.ldAgg rfl rfl Try.underlying48 rfl sz_48 rfl (hb18.cells)) ?_
                  refine RG.buildD (xs := [.tmp 98]) rfl rfl rfl rfl rfl rfl rfl Try.underlying24 inf_48 rfl rfl rfl rfl (fun g330 w330 eg330 hx330 hb330 => ?_)
                  replace hE3 := Ex.tr hE3 hx330
                  replace hE5 := Ex.tr hE5 hx330
                  replace hE17 := Ex.tr hE17 hx330
                  have hE331 := hx330
                  have hlit332 : RdL w330 3 Br.c (.slice (some ⟨g330, 0, none⟩) 1 1) ([(⟨(setupOf f).og, (setupOf f).lo, (setupOf f).hi⟩ : Br)]) := RdL.of_blk Br.c_len (l := [(⟨(setupOf f).og, (setupOf f).lo, (setupOf f).hi⟩ : Br)]) hb330 (Nat.le_refl _) (by decide)
                  refine RG.call rfl rfl rfl rfl rfl rfl rfl en_10 (read_ret (⟨(setupOf f).pl, (setupOf f).og, (setupOf f).pi, (setupOf f).sl, (setupOf f).lo, min n (setupOf f).lo⟩ : Su) _ [(⟨(setupOf f).og, (setupOf f).lo, (setupOf f).hi⟩ : Br)] _ (hlit332) (by simp)) ?_
                  rintro _ w333 ⟨rfl, hx333⟩
                  replace hE3 := Ex.tr hE3 hx333
                  replace hE5 := Ex.tr hE5 hx333
                  replace hE17 := Ex.tr hE17 hx333
                  replace hE331 := Ex.tr hE331 hx333
                  have hE334 := hx333
                  refine RG.vl rfl rfl rfl (Ev.move rfl rfl) ?_
                  refine RG.vl rfl rfl rfl (Ev.extract rfl rfl rfl) ?_
                  refine RG.vl rfl rfl rfl (Ev.extract rfl rfl rfl) ?_
                  refine RG.vl rfl rfl rfl (Ev.assign rfl rfl) ?_
                  refine RG.vl rfl rfl rfl (Ev.assign rfl rfl) ?_
                  refine RG.done ?_
                  refine QW.sub (S' := [(1, _), (6, _), (7, _), (8, _), (9, _), (10, _), (11, _)]) ⟨rfl, rfl, rfl, rfl, rfl, rfl, rfl, trivial⟩ ?_
                  refine QW.then_ ?_
                  refine CW.seq ?_
                  refine CW.region ?_
                  refine RG.vl rfl rfl rfl (Ev.ldAgg rfl rfl Try.underlying23 rfl sz_23 rfl ((hbws329.ext hE331).cells)) ?_
                  refine RG.vl rfl rfl rfl (Ev.ldAgg rfl rfl Try.underlying48 rfl sz_48 rfl ((hb18.ext hE331).cells)) ?_
                  refine RG.buildD (xs := [.tmp 105]) rfl rfl rfl rfl rfl rfl rfl Try.underlying24 inf_48 rfl rfl rfl rfl (fun g335 w335 eg335 hx335 hb335 => ?_)
                  replace hE3 := Ex.tr hE3 hx335
                  replace hE5 := Ex.tr hE5 hx335
                  replace hE17 := Ex.tr hE17 hx335
                  replace hE331 := Ex.tr hE331 hx335
                  replace hE334 := Ex.tr hE334 hx335
                  have hlit336 : RdL w335 3 Br.c (.slice (some ⟨g335, 0, none⟩) 1 1) ([(⟨(setupOf f).og, (setupOf f).lo, (setupOf f).hi⟩ : Br)]) := RdL.of_blk Br.c_len (l := [(⟨(setupOf f).og, (setupOf f).lo, (setupOf f).hi⟩ : Br)]) hb335 (Nat.le_refl _) (by decide)
                  refine RG.call rfl rfl rfl rfl rfl rfl rfl en_11 (margin_ret (⟨(setupOf f).pl, (setupOf f).og, (setupOf f).pi, (setupOf f).sl, (setupOf f).lo, min n (setupOf f).lo⟩ : Su) _ [(⟨(setupOf f).og, (setupOf f).lo, (setupOf f).hi⟩ : Br)] _ (hlit336) (by simp)) ?_
                  rintro _ w337 ⟨rfl, hx337⟩
                  replace hE3 := Ex.tr hE3 hx337
                  replace hE5 := Ex.tr hE5 hx337
                  replace hE17 := Ex.tr hE17 hx337
                  replace hE331 := Ex.tr hE331 hx337
                  replace hE334 := Ex.tr hE334 hx337
                  have hE338 := hx337
                  refine RG.vl rfl rfl rfl (Ev.move rfl rfl) ?_
                  refine RG.vl rfl rfl rfl (Ev.extract rfl rfl rfl) ?_
                  refine RG.vl rfl rfl rfl (Ev.extract rfl rfl rfl) ?_
                  refine RG.vl rfl rfl rfl (Ev.assign rfl rfl) ?_
                  refine RG.vl rfl rfl rfl (Ev.assign rfl rfl) ?_
                  refine RG.done ?_
                  refine QW.then_ ?_
                  refine CW.seq ?_
                  refine CW.region ?_
                  refine RG.vl rfl rfl rfl (Ev.ldAgg rfl rfl Try.underlying23 rfl sz_23 rfl ((hbws329.ext hE331).cells)) ?_
                  refine RG.vl rfl rfl rfl (Ev.move rfl rfl) ?_
                  refine RG.call rfl rfl rfl rfl rfl rfl rfl en_18 (draw_ret (⟨(setupOf f).pl, (setupOf f).og, (setupOf f).pi, (setupOf f).sl, (setupOf f).lo, min n (setupOf f).lo⟩ : Su) _ _ (by rw [read_bad _ _ he]; decide)) ?_
                  rintro _ w339 ⟨dr339, rfl, hdr339, hx339⟩
                  replace hE3 := Ex.tr hE3 hx339
                  replace hE5 := Ex.tr hE5 hx339
                  replace hE17 := Ex.tr hE17 hx339
                  replace hE331 := Ex.tr hE331 hx339
                  replace hE334 := Ex.tr hE334 hx339
                  replace hE338 := Ex.tr hE338 hx339
                  have hE340 := hx339
                  refine RG.vl rfl rfl rfl (Ev.move rfl rfl) ?_
                  refine RG.vl rfl rfl rfl (Ev.extract rfl rfl rfl) ?_
                  refine RG.vl rfl rfl rfl (Ev.extract rfl rfl rfl) ?_
                  refine RG.vl rfl rfl rfl (Ev.assign rfl rfl) ?_
                  refine RG.vl rfl rfl rfl (Ev.assign rfl rfl) ?_
                  refine RG.done ?_
                  refine QW.sub (S' := [(1, _), (6, _), (7, _), (8, _), (10, _), (11, _), (13, _), (15, _)]) ⟨rfl, rfl, rfl, rfl, rfl, rfl, rfl, rfl, trivial⟩ ?_
                  refine QW.then_ ?_
                  refine CW.seq ?_
                  refine CW.draw [] (.ex) 8 rfl mixed (fun wd341 hxwd341 => ?_)
                  replace hE3 := Ex.tr hE3 hxwd341
                  replace hE5 := Ex.tr hE5 hxwd341
                  replace hE17 := Ex.tr hE17 hxwd341
                  replace hE331 := Ex.tr hE331 hxwd341
                  replace hE334 := Ex.tr hE334 hxwd341
                  replace hE338 := Ex.tr hE338 hxwd341
                  replace hE340 := Ex.tr hE340 hxwd341
                  have hE342 := hxwd341
                  refine AG.take 0 rfl (by kernel_rfl) (by kernel_rfl) rfl rfl rfl (fun wq hq => Ev.ldAgg rfl rfl Try.underlying23 rfl sz_23 rfl (((hbws329.ext hE331).ext hq).cells)) ?_
                  refine AG.only 1 rfl (by kernel_rfl) ?_
                  refine RG.makeL (m := 401) (enc := Br.c) (⟨0, 0, 0⟩ : Br) rfl rfl rfl rfl rfl rfl (rfl) Try.underlying24 inf_48 Br.c_len rfl rfl (by omega) (by simp only [maxLen]; omega) (fun g344 w344 eg344 hx344 hb344 hmk345 => ?_)
                  have hle346 : w.heap.size ≤ g344 := by have := hE3.size; omega
                  have hle347 : w1.heap.size ≤ g344 := by have := hE5.size; omega
                  have hle348 : w6.heap.size ≤ g344 := by have := hE17.size; omega
                  have hle349 : ws329.heap.size ≤ g344 := by have := hE331.size; omega
                  have hle350 : w330.heap.size ≤ g344 := by have := hE334.size; omega
                  have hle351 : w335.heap.size ≤ g344 := by have := hE338.size; omega
                  have hle352 : w337.heap.size ≤ g344 := by have := hE340.size; omega
                  have hle353 : w339.heap.size ≤ g344 := by have := hE342.size; omega
                  have hle354 : wd341.heap.size ≤ g344 := by have := (Ex.rfl_ wd341).size; omega
                  have hlt355 : g1 < g344 := by have := Blk.lt (hb1.ext hE5); omega
                  have hlt356 : gS < g344 := by have := Blk.lt (hb6.ext hE17); omega
                  have hlt357 : gR < g344 := by have := Blk.lt (hb18.ext hE331); omega
                  have hlt358 : gB < g344 := by have := Blk.lt (hbws329.ext hE331); omega
                  have hlt359 : g330 < g344 := by have := Blk.lt (hb330.ext hE334); omega
                  have hlt360 : g335 < g344 := by have := Blk.lt (hb335.ext hE338); omega
                  replace hE3 := Ex.tr hE3 hx344
                  replace hE5 := Ex.tr hE5 hx344
                  replace hE17 := Ex.tr hE17 hx344
                  replace hE331 := Ex.tr hE331 hx344
                  replace hE334 := Ex.tr hE334 hx344
                  replace hE338 := Ex.tr hE338 hx344
                  replace hE340 := Ex.tr hE340 hx344
                  replace hE342 := Ex.tr hE342 hx344
                  have hE361 := hx344
                  refine RG.done ?_
                  refine QW.an (fun _ => hE361) ?_
                  refine AG.only 2 rfl (by kernel_rfl) ?_
                  refine RG.call rfl rfl rfl rfl rfl rfl rfl en_10 (read_ret (⟨(setupOf f).pl, (setupOf f).og, (setupOf f).pi, (setupOf f).sl, (setupOf f).lo, min n (setupOf f).lo⟩ : Su) _ (List.replicate 401 ⟨0, 0, 0⟩) _ (hmk345) (by rw [List.length_replicate]; decide)) ?_
                  rintro _ w363 ⟨rfl, hx363⟩
                  replace hE3 := Ex.tr hE3 hx363
                  replace hE5 := Ex.tr hE5 hx363
                  replace hE17 := Ex.tr hE17 hx363
                  replace hE331 := Ex.tr hE331 hx363
                  replace hE334 := Ex.tr hE334 hx363
                  replace hE338 := Ex.tr hE338 hx363
                  replace hE340 := Ex.tr hE340 hx363
                  replace hE342 := Ex.tr hE342 hx363
                  have hE364 := hx363
                  refine RG.done ?_
                  refine QW.an (fun _ => hE364) ?_
                  refine AG.takeW 3 rfl (by kernel_rfl) (by kernel_rfl) rfl rfl rfl (fun _ => Ev.move rfl rfl) ?_
                  refine AG.takeW 4 rfl (by kernel_rfl) (by kernel_rfl) rfl rfl rfl (fun _ => Ev.extract rfl rfl rfl) ?_
                  refine AG.takeW 5 rfl (by kernel_rfl) (by kernel_rfl) rfl rfl rfl (fun _ => Ev.extract rfl rfl rfl) ?_
                  refine AG.takeW 6 rfl (by kernel_rfl) (by kernel_rfl) rfl rfl rfl (fun _ => Ev.assign rfl rfl) ?_
                  refine AG.takeW 7 rfl (by kernel_rfl) (by kernel_rfl) rfl rfl rfl (fun _ => Ev.assign rfl rfl) ?_
                  refine AG.done (by kernel_rfl) ?_
                  refine QW.then_ ?_
                  refine CW.seq ?_
                  have hdr : drawErr (⟨(setupOf f).pl, (setupOf f).og, (setupOf f).pi, (setupOf f).sl, (setupOf f).lo, min n (setupOf f).lo⟩ : Su) (⟨(readOf (⟨(setupOf f).pl, (setupOf f).og, (setupOf f).pi, (setupOf f).sl, (setupOf f).lo, min n (setupOf f).lo⟩ : Su) [(⟨(setupOf f).og, (setupOf f).lo, (setupOf f).hi⟩ : Br)]).toArray⟩ : ByteArray).data.toList = 2 := by rw [read_bad _ _ he]; exact draw_empty _
                  refine CW.region ?_
                  refine RG.vl rfl rfl rfl (Ev.move rfl rfl) ?_
                  refine RG.vl rfl rfl rfl (Ev.isT (Ev.eqI rfl rfl rfl) (by omega)) ?_
                  refine RG.vl rfl rfl rfl (Ev.move rfl rfl) ?_
                  refine RG.vl rfl rfl rfl (Ev.move rfl rfl) ?_
                  refine RG.vl rfl rfl rfl (Ev.move rfl rfl) ?_
                  refine RG.vl rfl rfl rfl (Ev.isT (Ev.eqI rfl rfl rfl) (rfl)) ?_
                  refine RG.vl rfl rfl rfl (Ev.pickT rfl rfl rfl) ?_
                  refine RG.vl rfl rfl rfl (Ev.move rfl rfl) ?_
                  refine RG.vl rfl rfl rfl (Ev.move rfl rfl) ?_
                  refine RG.vl rfl rfl rfl (Ev.isT (Ev.eqS rfl rfl rfl) (by rw [read_bad _ _ he])) ?_
                  refine RG.vl rfl rfl rfl (Ev.pickT rfl rfl rfl) ?_
                  refine RG.vl rfl rfl rfl (Ev.move rfl rfl) ?_
                  refine RG.vl rfl rfl rfl (Ev.move rfl rfl) ?_
                  refine RG.vl rfl rfl rfl (Ev.rem8 rfl rfl rfl (by omega)) ?_
                  refine RG.vl rfl rfl rfl (Ev.isF (Ev.geq rfl rfl rfl) (by omega)) ?_
                  refine RG.vl rfl rfl rfl (Ev.move rfl rfl) ?_
                  refine RG.vl rfl rfl rfl (Ev.move rfl rfl) ?_
                  refine RG.vl rfl rfl rfl (Ev.isT (Ev.eqI rfl rfl rfl) (hdr)) ?_
                  refine RG.vl rfl rfl rfl (Ev.move rfl rfl) ?_
                  refine RG.vl rfl rfl rfl (Ev.ldAgg rfl rfl Try.underlying23 rfl sz_23 rfl ((hbws329.ext hE331).cells)) ?_
                  refine RG.call rfl rfl rfl rfl rfl rfl rfl en_15 (right_no (⟨(setupOf f).pl, (setupOf f).og, (setupOf f).pi, (setupOf f).sl, (setupOf f).lo, min n (setupOf f).lo⟩ : Su) _ hno) ?_
                  rintro _ w365 ⟨rfl, hx365⟩
                  replace hE3 := Ex.tr hE3 hx365
                  replace hE5 := Ex.tr hE5 hx365
                  replace hE17 := Ex.tr hE17 hx365
                  replace hE331 := Ex.tr hE331 hx365
                  replace hE334 := Ex.tr hE334 hx365
                  replace hE338 := Ex.tr hE338 hx365
                  replace hE340 := Ex.tr hE340 hx365
                  replace hE342 := Ex.tr hE342 hx365
                  replace hE364 := Ex.tr hE364 hx365
                  have hE366 := hx365
                  refine RG.vl rfl rfl rfl (Ev.notT rfl rfl) ?_
                  refine RG.vl rfl rfl rfl (Ev.pickT rfl rfl rfl) ?_
                  refine RG.vl rfl rfl rfl (Ev.pickF rfl rfl rfl) ?_
                  refine RG.vl rfl rfl rfl (Ev.pickT rfl rfl rfl) ?_
                  refine RG.vl rfl rfl rfl (Ev.move rfl rfl) ?_
                  refine RG.vl rfl rfl rfl (Ev.ldAgg rfl rfl Try.underlying23 rfl sz_23 rfl ((hb6.ext hE17).cells)) ?_
                  refine RG.call rfl rfl rfl rfl rfl rfl rfl en_15 (right_yes (setupOf f) _ hok) ?_
                  rintro _ w367 ⟨rfl, hx367⟩
                  replace hE3 := Ex.tr hE3 hx367
                  replace hE5 := Ex.tr hE5 hx367
                  replace hE17 := Ex.tr hE17 hx367
                  replace hE331 := Ex.tr hE331 hx367
                  replace hE334 := Ex.tr hE334 hx367
                  replace hE338 := Ex.tr hE338 hx367
                  replace hE340 := Ex.tr hE340 hx367
                  replace hE342 := Ex.tr hE342 hx367
                  replace hE364 := Ex.tr hE364 hx367
                  replace hE366 := Ex.tr hE366 hx367
                  have hE368 := hx367
                  refine RG.vl rfl rfl rfl (Ev.pickT rfl rfl rfl) ?_
                  refine RG.vl rfl rfl rfl (Ev.move rfl rfl) ?_
                  refine RG.vl rfl rfl rfl (Ev.move rfl rfl) ?_
                  refine RG.vl rfl rfl rfl (Ev.isT (Ev.eqI rfl rfl rfl) (by rw [err_many])) ?_
                  refine RG.vl rfl rfl rfl (Ev.pickT rfl rfl rfl) ?_
                  refine RG.vl rfl rfl rfl (Ev.move rfl rfl) ?_
                  refine RG.call rfl rfl rfl rfl rfl rfl rfl en_9 (awake_ret _) ?_
                  rintro _ w369 ⟨rfl, hx369⟩
                  replace hE3 := Ex.tr hE3 hx369
                  replace hE5 := Ex.tr hE5 hx369
                  replace hE17 := Ex.tr hE17 hx369
                  replace hE331 := Ex.tr hE331 hx369
                  replace hE334 := Ex.tr hE334 hx369
                  replace hE338 := Ex.tr hE338 hx369
                  replace hE340 := Ex.tr hE340 hx369
                  replace hE342 := Ex.tr hE342 hx369
                  replace hE364 := Ex.tr hE364 hx369
                  replace hE366 := Ex.tr hE366 hx369
                  replace hE368 := Ex.tr hE368 hx369
                  have hE370 := hx369
                  refine RG.vl rfl rfl rfl (Ev.pickT rfl rfl rfl) ?_
                  refine RG.vl rfl rfl rfl (Ev.assign rfl rfl) ?_
                  refine RG.done ?_
                  refine QW.sub (S' := [(6, _)]) ⟨rfl, trivial⟩ ?_
                  refine QW.then_ ?_
                  refine CW.ret ?_
                  refine QW.ret1 rfl rfl ?_
                  have hB := (Ex.tr hB0 hE3)
                  exact ⟨rfl, hB⟩
                · refine CW.seq ?_
                  refine CW.region ?_
                  refine RG.vl rfl rfl rfl (Ev.eqI rfl rfl rfl) ?_
                  refine RG.vl rfl rfl rfl (Ev.assign rfl rfl) ?_
                  refine RG.done ?_
                  refine QW.then_ ?_
                  refine CW.condP rfl (fun hc371 => ?_) (fun hc371 => ?_)
                  · refine CW.region ?_
                    refine RG.vl rfl rfl rfl (Ev.move rfl rfl) ?_
                    refine RG.vl rfl rfl rfl (Ev.max2 rfl rfl rfl rfl) ?_
                    refine RG.vl rfl rfl rfl (Ev.fld rfl rfl fld_23_5) ?_
                    refine RG.st (g := gB) (k := 5) rfl rfl rfl rfl rfl sz_3 rfl (hb11.ext hE26) rfl (fun ws372 hwws372 hbws372 => ?_)
                    replace hb18 := Blk.far hb18 hwws372 (by omega)
                    replace hE3 := Wr.below hE3 hwws372 hle12
                    replace hE5 := Wr.below hE5 hwws372 hle13
                    replace hE17 := Wr.below hE17 hwws372 hle14
                    refine RG.done ?_
                    refine QW.blockN ?_
                    refine QW.then_ ?_
                    refine CW.seq ?_
                    have hno : ¬ Okay (⟨(setupOf f).pl, (setupOf f).og, (setupOf f).pi, (setupOf f).sl, (setupOf f).lo, max n 1048577⟩ : Su) := by intro h; unfold Okay at h; simp only at h; omega
                    have he : errOf (⟨(setupOf f).pl, (setupOf f).og, (setupOf f).pi, (setupOf f).sl, (setupOf f).lo, max n 1048577⟩ : Su) [(⟨(setupOf f).og, (setupOf f).lo, (setupOf f).hi⟩ : Br)] = 2 := err_setup _ _ hno
                    refine CW.region ?_
                    refine RG.vl rfl rfl rfl (Ev.ldAgg rfl rfl Try.underlying23 rfl sz_23 rfl (hbws372.cells)) ?_
                    refine RG.vl rfl rfl rfl (Ev.ldAgg rfl rfl Try.underlying48 rfl sz_48 rfl (hb18.cells)) ?_
                    refine RG.buildD (xs := [.tmp 98]) rfl rfl rfl rfl rfl rfl rfl Try.underlying24 inf_48 rfl rfl rfl rfl (fun g373 w373 eg373 hx373 hb373 => ?_)
                    replace hE3 := Ex.tr hE3 hx373
                    replace hE5 := Ex.tr hE5 hx373
                    replace hE17 := Ex.tr hE17 hx373
                    have hE374 := hx373
                    have hlit375 : RdL w373 3 Br.c (.slice (some ⟨g373, 0, none⟩) 1 1) ([(⟨(setupOf f).og, (setupOf f).lo, (setupOf f).hi⟩ : Br)]) := RdL.of_blk Br.c_len (l := [(⟨(setupOf f).og, (setupOf f).lo, (setupOf f).hi⟩ : Br)]) hb373 (Nat.le_refl _) (by decide)
                    refine RG.call rfl rfl rfl rfl rfl rfl rfl en_10 (read_ret (⟨(setupOf f).pl, (setupOf f).og, (setupOf f).pi, (setupOf f).sl, (setupOf f).lo, max n 1048577⟩ : Su) _ [(⟨(setupOf f).og, (setupOf f).lo, (setupOf f).hi⟩ : Br)] _ (hlit375) (by simp)) ?_
                    rintro _ w376 ⟨rfl, hx376⟩
                    replace hE3 := Ex.tr hE3 hx376
                    replace hE5 := Ex.tr hE5 hx376
                    replace hE17 := Ex.tr hE17 hx376
                    replace hE374 := Ex.tr hE374 hx376
                    have hE377 := hx376
                    refine RG.vl rfl rfl rfl (Ev.move rfl rfl) ?_
                    refine RG.vl rfl rfl rfl (Ev.extract rfl rfl rfl) ?_
                    refine RG.vl rfl rfl rfl (Ev.extract rfl rfl rfl) ?_
                    refine RG.vl rfl rfl rfl (Ev.assign rfl rfl) ?_
                    refine RG.vl rfl rfl rfl (Ev.assign rfl rfl) ?_
                    refine RG.done ?_
                    refine QW.sub (S' := [(1, _), (6, _), (7, _), (8, _), (9, _), (10, _), (11, _)]) ⟨rfl, rfl, rfl, rfl, rfl, rfl, rfl, trivial⟩ ?_
                    refine QW.then_ ?_
                    refine CW.seq ?_
                    refine CW.region ?_
                    refine RG.vl rfl rfl rfl (Ev.ldAgg rfl rfl Try.underlying23 rfl sz_23 rfl ((hbws372.ext hE374).cells)) ?_
                    refine RG.vl rfl rfl rfl (Ev.ldAgg rfl rfl Try.underlying48 rfl sz_48 rfl ((hb18.ext hE374).cells)) ?_
                    refine RG.buildD (xs := [.tmp 105]) rfl rfl rfl rfl rfl rfl rfl Try.underlying24 inf_48 rfl rfl rfl rfl (fun g378 w378 eg378 hx378 hb378 => ?_)
                    replace hE3 := Ex.tr hE3 hx378
                    replace hE5 := Ex.tr hE5 hx378
                    replace hE17 := Ex.tr hE17 hx378
                    replace hE374 := Ex.tr hE374 hx378
                    replace hE377 := Ex.tr hE377 hx378
                    have hlit379 : RdL w378 3 Br.c (.slice (some ⟨g378, 0, none⟩) 1 1) ([(⟨(setupOf f).og, (setupOf f).lo, (setupOf f).hi⟩ : Br)]) := RdL.of_blk Br.c_len (l := [(⟨(setupOf f).og, (setupOf f).lo, (setupOf f).hi⟩ : Br)]) hb378 (Nat.le_refl _) (by decide)
                    refine RG.call rfl rfl rfl rfl rfl rfl rfl en_11 (margin_ret (⟨(setupOf f).pl, (setupOf f).og, (setupOf f).pi, (setupOf f).sl, (setupOf f).lo, max n 1048577⟩ : Su) _ [(⟨(setupOf f).og, (setupOf f).lo, (setupOf f).hi⟩ : Br)] _ (hlit379) (by simp)) ?_
                    rintro _ w380 ⟨rfl, hx380⟩
                    replace hE3 := Ex.tr hE3 hx380
                    replace hE5 := Ex.tr hE5 hx380
                    replace hE17 := Ex.tr hE17 hx380
                    replace hE374 := Ex.tr hE374 hx380
                    replace hE377 := Ex.tr hE377 hx380
                    have hE381 := hx380
                    refine RG.vl rfl rfl rfl (Ev.move rfl rfl) ?_
                    refine RG.vl rfl rfl rfl (Ev.extract rfl rfl rfl) ?_
                    refine RG.vl rfl rfl rfl (Ev.extract rfl rfl rfl) ?_
                    refine RG.vl rfl rfl rfl (Ev.assign rfl rfl) ?_
                    refine RG.vl rfl rfl rfl (Ev.assign rfl rfl) ?_
                    refine RG.done ?_
                    refine QW.then_ ?_
                    refine CW.seq ?_
                    refine CW.region ?_
                    refine RG.vl rfl rfl rfl (Ev.ldAgg rfl rfl Try.underlying23 rfl sz_23 rfl ((hbws372.ext hE374).cells)) ?_
                    refine RG.vl rfl rfl rfl (Ev.move rfl rfl) ?_
                    refine RG.call rfl rfl rfl rfl rfl rfl rfl en_18 (draw_ret (⟨(setupOf f).pl, (setupOf f).og, (setupOf f).pi, (setupOf f).sl, (setupOf f).lo, max n 1048577⟩ : Su) _ _ (by rw [read_bad _ _ he]; decide)) ?_
                    rintro _ w382 ⟨dr382, rfl, hdr382, hx382⟩
                    replace hE3 := Ex.tr hE3 hx382
                    replace hE5 := Ex.tr hE5 hx382
                    replace hE17 := Ex.tr hE17 hx382
                    replace hE374 := Ex.tr hE374 hx382
                    replace hE377 := Ex.tr hE377 hx382
                    replace hE381 := Ex.tr hE381 hx382
                    have hE383 := hx382
                    refine RG.vl rfl rfl rfl (Ev.move rfl rfl) ?_
                    refine RG.vl rfl rfl rfl (Ev.extract rfl rfl rfl) ?_
                    refine RG.vl rfl rfl rfl (Ev.extract rfl rfl rfl) ?_
                    refine RG.vl rfl rfl rfl (Ev.assign rfl rfl) ?_
                    refine RG.vl rfl rfl rfl (Ev.assign rfl rfl) ?_
                    refine RG.done ?_
                    refine QW.sub (S' := [(1, _), (6, _), (7, _), (8, _), (10, _), (11, _), (13, _), (15, _)]) ⟨rfl, rfl, rfl, rfl, rfl, rfl, rfl, rfl, trivial⟩ ?_
                    refine QW.then_ ?_
                    refine CW.seq ?_
                    refine CW.draw [] (.ex) 8 rfl mixed (fun wd384 hxwd384 => ?_)
                    replace hE3 := Ex.tr hE3 hxwd384
                    replace hE5 := Ex.tr hE5 hxwd384
                    replace hE17 := Ex.tr hE17 hxwd384
                    replace hE374 := Ex.tr hE374 hxwd384
                    replace hE377 := Ex.tr hE377 hxwd384
                    replace hE381 := Ex.tr hE381 hxwd384
                    replace hE383 := Ex.tr hE383 hxwd384
                    have hE385 := hxwd384
                    refine AG.take 0 rfl (by kernel_rfl) (by kernel_rfl) rfl rfl rfl (fun wq hq => Ev.ldAgg rfl rfl Try.underlying23 rfl sz_23 rfl (((hbws372.ext hE374).ext hq).cells)) ?_
                    refine AG.only 1 rfl (by kernel_rfl) ?_
                    refine RG.makeL (m := 401) (enc := Br.c) (⟨0, 0, 0⟩ : Br) rfl rfl rfl rfl rfl rfl (rfl) Try.underlying24 inf_48 Br.c_len rfl rfl (by omega) (by simp only [maxLen]; omega) (fun g387 w387 eg387 hx387 hb387 hmk388 => ?_)
                    have hle389 : w.heap.size ≤ g387 := by have := hE3.size; omega
                    have hle390 : w1.heap.size ≤ g387 := by have := hE5.size; omega
                    have hle391 : w6.heap.size ≤ g387 := by have := hE17.size; omega
                    have hle392 : ws372.heap.size ≤ g387 := by have := hE374.size; omega
                    have hle393 : w373.heap.size ≤ g387 := by have := hE377.size; omega
                    have hle394 : w378.heap.size ≤ g387 := by have := hE381.size; omega
                    have hle395 : w380.heap.size ≤ g387 := by have := hE383.size; omega
                    have hle396 : w382.heap.size ≤ g387 := by have := hE385.size; omega
                    have hle397 : wd384.heap.size ≤ g387 := by have := (Ex.rfl_ wd384).size; omega
                    have hlt398 : g1 < g387 := by have := Blk.lt (hb1.ext hE5); omega
                    have hlt399 : gS < g387 := by have := Blk.lt (hb6.ext hE17); omega
                    have hlt400 : gR < g387 := by have := Blk.lt (hb18.ext hE374); omega
                    have hlt401 : gB < g387 := by have := Blk.lt (hbws372.ext hE374); omega
                    have hlt402 : g373 < g387 := by have := Blk.lt (hb373.ext hE377); omega
                    have hlt403 : g378 < g387 := by have := Blk.lt (hb378.ext hE381); omega
                    replace hE3 := Ex.tr hE3 hx387
                    replace hE5 := Ex.tr hE5 hx387
                    replace hE17 := Ex.tr hE17 hx387
                    replace hE374 := Ex.tr hE374 hx387
                    replace hE377 := Ex.tr hE377 hx387
                    replace hE381 := Ex.tr hE381 hx387
                    replace hE383 := Ex.tr hE383 hx387
                    replace hE385 := Ex.tr hE385 hx387
                    have hE404 := hx387
                    refine RG.done ?_
                    refine QW.an (fun _ => hE404) ?_
                    refine AG.only 2 rfl (by kernel_rfl) ?_
                    refine RG.call rfl rfl rfl rfl rfl rfl rfl en_10 (read_ret (⟨(setupOf f).pl, (setupOf f).og, (setupOf f).pi, (setupOf f).sl, (setupOf f).lo, max n 1048577⟩ : Su) _ (List.replicate 401 ⟨0, 0, 0⟩) _ (hmk388) (by rw [List.length_replicate]; decide)) ?_
                    rintro _ w406 ⟨rfl, hx406⟩
                    replace hE3 := Ex.tr hE3 hx406
                    replace hE5 := Ex.tr hE5 hx406
                    replace hE17 := Ex.tr hE17 hx406
                    replace hE374 := Ex.tr hE374 hx406
                    replace hE377 := Ex.tr hE377 hx406
                    replace hE381 := Ex.tr hE381 hx406
                    replace hE383 := Ex.tr hE383 hx406
                    replace hE385 := Ex.tr hE385 hx406
                    have hE407 := hx406
                    refine RG.done ?_
                    refine QW.an (fun _ => hE407) ?_
                    refine AG.takeW 3 rfl (by kernel_rfl) (by kernel_rfl) rfl rfl rfl (fun _ => Ev.move rfl rfl) ?_
                    refine AG.takeW 4 rfl (by kernel_rfl) (by kernel_rfl) rfl rfl rfl (fun _ => Ev.extract rfl rfl rfl) ?_
                    refine AG.takeW 5 rfl (by kernel_rfl) (by kernel_rfl) rfl rfl rfl (fun _ => Ev.extract rfl rfl rfl) ?_
                    refine AG.takeW 6 rfl (by kernel_rfl) (by kernel_rfl) rfl rfl rfl (fun _ => Ev.assign rfl rfl) ?_
                    refine AG.takeW 7 rfl (by kernel_rfl) (by kernel_rfl) rfl rfl rfl (fun _ => Ev.assign rfl rfl) ?_
                    refine AG.done (by kernel_rfl) ?_
                    refine QW.then_ ?_
                    refine CW.seq ?_
                    have hdr : drawErr (⟨(setupOf f).pl, (setupOf f).og, (setupOf f).pi, (setupOf f).sl, (setupOf f).lo, max n 1048577⟩ : Su) (⟨(readOf (⟨(setupOf f).pl, (setupOf f).og, (setupOf f).pi, (setupOf f).sl, (setupOf f).lo, max n 1048577⟩ : Su) [(⟨(setupOf f).og, (setupOf f).lo, (setupOf f).hi⟩ : Br)]).toArray⟩ : ByteArray).data.toList = 2 := by rw [read_bad _ _ he]; exact draw_empty _
                    refine CW.region ?_
                    refine RG.vl rfl rfl rfl (Ev.move rfl rfl) ?_
                    refine RG.vl rfl rfl rfl (Ev.isT (Ev.eqI rfl rfl rfl) (by omega)) ?_
                    refine RG.vl rfl rfl rfl (Ev.move rfl rfl) ?_
                    refine RG.vl rfl rfl rfl (Ev.move rfl rfl) ?_
                    refine RG.vl rfl rfl rfl (Ev.move rfl rfl) ?_
                    refine RG.vl rfl rfl rfl (Ev.isT (Ev.eqI rfl rfl rfl) (rfl)) ?_
                    refine RG.vl rfl rfl rfl (Ev.pickT rfl rfl rfl) ?_
                    refine RG.vl rfl rfl rfl (Ev.move rfl rfl) ?_
                    refine RG.vl rfl rfl rfl (Ev.move rfl rfl) ?_
                    refine RG.vl rfl rfl rfl (Ev.isT (Ev.eqS rfl rfl rfl) (by rw [read_bad _ _ he])) ?_
                    refine RG.vl rfl rfl rfl (Ev.pickT rfl rfl rfl) ?_
                    refine RG.vl rfl rfl rfl (Ev.move rfl rfl) ?_
                    refine RG.vl rfl rfl rfl (Ev.move rfl rfl) ?_
                    refine RG.vl rfl rfl rfl (Ev.rem8 rfl rfl rfl (by omega)) ?_
                    refine RG.vl rfl rfl rfl (Ev.isF (Ev.geq rfl rfl rfl) (by omega)) ?_
                    refine RG.vl rfl rfl rfl (Ev.move rfl rfl) ?_
                    refine RG.vl rfl rfl rfl (Ev.move rfl rfl) ?_
                    refine RG.vl rfl rfl rfl (Ev.isT (Ev.eqI rfl rfl rfl) (hdr)) ?_
                    refine RG.vl rfl rfl rfl (Ev.move rfl rfl) ?_
                    refine RG.vl rfl rfl rfl (Ev.ldAgg rfl rfl Try.underlying23 rfl sz_23 rfl ((hbws372.ext hE374).cells)) ?_
                    refine RG.call rfl rfl rfl rfl rfl rfl rfl en_15 (right_no (⟨(setupOf f).pl, (setupOf f).og, (setupOf f).pi, (setupOf f).sl, (setupOf f).lo, max n 1048577⟩ : Su) _ hno) ?_
                    rintro _ w408 ⟨rfl, hx408⟩
                    replace hE3 := Ex.tr hE3 hx408
                    replace hE5 := Ex.tr hE5 hx408
                    replace hE17 := Ex.tr hE17 hx408
                    replace hE374 := Ex.tr hE374 hx408
                    replace hE377 := Ex.tr hE377 hx408
                    replace hE381 := Ex.tr hE381 hx408
                    replace hE383 := Ex.tr hE383 hx408
                    replace hE385 := Ex.tr hE385 hx408
                    replace hE407 := Ex.tr hE407 hx408
                    have hE409 := hx408
                    refine RG.vl rfl rfl rfl (Ev.notT rfl rfl) ?_
                    refine RG.vl rfl rfl rfl (Ev.pickT rfl rfl rfl) ?_
                    refine RG.vl rfl rfl rfl (Ev.pickF rfl rfl rfl) ?_
                    refine RG.vl rfl rfl rfl (Ev.pickT rfl rfl rfl) ?_
                    refine RG.vl rfl rfl rfl (Ev.move rfl rfl) ?_
                    refine RG.vl rfl rfl rfl (Ev.ldAgg rfl rfl Try.underlying23 rfl sz_23 rfl ((hb6.ext hE17).cells)) ?_
                    refine RG.call rfl rfl rfl rfl rfl rfl rfl en_15 (right_yes (setupOf f) _ hok) ?_
                    rintro _ w410 ⟨rfl, hx410⟩
                    replace hE3 := Ex.tr hE3 hx410
                    replace hE5 := Ex.tr hE5 hx410
                    replace hE17 := Ex.tr hE17 hx410
                    replace hE374 := Ex.tr hE374 hx410
                    replace hE377 := Ex.tr hE377 hx410
                    replace hE381 := Ex.tr hE381 hx410
                    replace hE383 := Ex.tr hE383 hx410
                    replace hE385 := Ex.tr hE385 hx410
                    replace hE407 := Ex.tr hE407 hx410
                    replace hE409 := Ex.tr hE409 hx410
                    have hE411 := hx410
                    refine RG.vl rfl rfl rfl (Ev.pickT rfl rfl rfl) ?_
                    refine RG.vl rfl rfl rfl (Ev.move rfl rfl) ?_
                    refine RG.vl rfl rfl rfl (Ev.move rfl rfl) ?_
                    refine RG.vl rfl rfl rfl (Ev.isT (Ev.eqI rfl rfl rfl) (by rw [err_many])) ?_
                    refine RG.vl rfl rfl rfl (Ev.pickT rfl rfl rfl) ?_
                    refine RG.vl rfl rfl rfl (Ev.move rfl rfl) ?_
                    refine RG.call rfl rfl rfl rfl rfl rfl rfl en_9 (awake_ret _) ?_
                    rintro _ w412 ⟨rfl, hx412⟩
                    replace hE3 := Ex.tr hE3 hx412
                    replace hE5 := Ex.tr hE5 hx412
                    replace hE17 := Ex.tr hE17 hx412
                    replace hE374 := Ex.tr hE374 hx412
                    replace hE377 := Ex.tr hE377 hx412
                    replace hE381 := Ex.tr hE381 hx412
                    replace hE383 := Ex.tr hE383 hx412
                    replace hE385 := Ex.tr hE385 hx412
                    replace hE407 := Ex.tr hE407 hx412
                    replace hE409 := Ex.tr hE409 hx412
                    replace hE411 := Ex.tr hE411 hx412
                    have hE413 := hx412
                    refine RG.vl rfl rfl rfl (Ev.pickT rfl rfl rfl) ?_
                    refine RG.vl rfl rfl rfl (Ev.assign rfl rfl) ?_
                    refine RG.done ?_
                    refine QW.sub (S' := [(6, _)]) ⟨rfl, trivial⟩ ?_
                    refine QW.then_ ?_
                    refine CW.ret ?_
                    refine QW.ret1 rfl rfl ?_
                    have hB := (Ex.tr hB0 hE3)
                    exact ⟨rfl, hB⟩
                  · refine CW.seq ?_
                    refine CW.region ?_
                    refine RG.vl rfl rfl rfl (Ev.eqI rfl rfl rfl) ?_
                    refine RG.vl rfl rfl rfl (Ev.assign rfl rfl) ?_
                    refine RG.done ?_
                    refine QW.then_ ?_
                    refine CW.condP rfl (fun hc414 => ?_) (fun hc414 => ?_)
                    · refine CW.region ?_
                      refine RG.vl rfl rfl rfl (Ev.move rfl rfl) ?_
                      refine RG.vl rfl rfl rfl (Ev.min2 rfl rfl rfl rfl) ?_
                      refine RG.vl rfl rfl rfl (Ev.fld rfl rfl fld_48_0) ?_
                      refine RG.st (g := gR) (k := 0) rfl rfl rfl rfl rfl sz_3 rfl hb18 rfl (fun ws415 hwws415 hbws415 => ?_)
                      replace hE3 := Wr.below hE3 hwws415 hle19
                      replace hE5 := Wr.below hE5 hwws415 hle20
                      replace hE17 := Wr.below hE17 hwws415 hle21
                      replace hE26 := Wr.below hE26 hwws415 hle22
                      refine RG.done ?_
                      refine QW.blockN ?_
                      refine QW.then_ ?_
                      refine CW.seq ?_
                      have he : errOf (⟨(setupOf f).pl, (setupOf f).og, (setupOf f).pi, (setupOf f).sl, (setupOf f).lo, (setupOf f).hi⟩ : Su) [(⟨min n (-1), (setupOf f).lo, (setupOf f).hi⟩ : Br)] = 2 := err_bar _ _ (by intro h; unfold InB at h; simp only at h; omega)
                      refine CW.region ?_
                      refine RG.vl rfl rfl rfl (Ev.ldAgg rfl rfl Try.underlying23 rfl sz_23 rfl ((hb11.ext hE26).cells)) ?_
                      refine RG.vl rfl rfl rfl (Ev.ldAgg rfl rfl Try.underlying48 rfl sz_48 rfl (hbws415.cells)) ?_
                      refine RG.buildD (xs := [.tmp 98]) rfl rfl rfl rfl rfl rfl rfl Try.underlying24 inf_48 rfl rfl rfl rfl (fun g416 w416 eg416 hx416 hb416 => ?_)
                      replace hE3 := Ex.tr hE3 hx416
                      replace hE5 := Ex.tr hE5 hx416
                      replace hE17 := Ex.tr hE17 hx416
                      replace hE26 := Ex.tr hE26 hx416
                      have hE417 := hx416
                      have hlit418 : RdL w416 3 Br.c (.slice (some ⟨g416, 0, none⟩) 1 1) ([(⟨min n (-1), (setupOf f).lo, (setupOf f).hi⟩ : Br)]) := RdL.of_blk Br.c_len (l := [(⟨min n (-1), (setupOf f).lo, (setupOf f).hi⟩ : Br)]) hb416 (Nat.le_refl _) (by decide)
                      refine RG.call rfl rfl rfl rfl rfl rfl rfl en_10 (read_ret (⟨(setupOf f).pl, (setupOf f).og, (setupOf f).pi, (setupOf f).sl, (setupOf f).lo, (setupOf f).hi⟩ : Su) _ [(⟨min n (-1), (setupOf f).lo, (setupOf f).hi⟩ : Br)] _ (hlit418) (by simp)) ?_
                      rintro _ w419 ⟨rfl, hx419⟩
                      replace hE3 := Ex.tr hE3 hx419
                      replace hE5 := Ex.tr hE5 hx419
                      replace hE17 := Ex.tr hE17 hx419
                      replace hE26 := Ex.tr hE26 hx419
                      replace hE417 := Ex.tr hE417 hx419
                      have hE420 := hx419
                      refine RG.vl rfl rfl rfl (Ev.move rfl rfl) ?_
                      refine RG.vl rfl rfl rfl (Ev.extract rfl rfl rfl) ?_
                      refine RG.vl rfl rfl rfl (Ev.extract rfl rfl rfl) ?_
                      refine RG.vl rfl rfl rfl (Ev.assign rfl rfl) ?_
                      refine RG.vl rfl rfl rfl (Ev.assign rfl rfl) ?_
                      refine RG.done ?_
                      refine QW.sub (S' := [(1, _), (6, _), (7, _), (8, _), (9, _), (10, _), (11, _)]) ⟨rfl, rfl, rfl, rfl, rfl, rfl, rfl, trivial⟩ ?_
                      refine QW.then_ ?_
                      refine CW.seq ?_
                      refine CW.region ?_
                      refine RG.vl rfl rfl rfl (Ev.ldAgg rfl rfl Try.underlying23 rfl sz_23 rfl ((hb11.ext hE26).cells)) ?_
                      refine RG.vl rfl rfl rfl (Ev.ldAgg rfl rfl Try.underlying48 rfl sz_48 rfl ((hbws415.ext hE417).cells)) ?_
                      refine RG.buildD (xs := [.tmp 105]) rfl rfl rfl rfl rfl rfl rfl Try.underlying24 inf_48 rfl rfl rfl rfl (fun g421 w421 eg421 hx421 hb421 => ?_)
                      replace hE3 := Ex.tr hE3 hx421
                      replace hE5 := Ex.tr hE5 hx421
                      replace hE17 := Ex.tr hE17 hx421
                      replace hE26 := Ex.tr hE26 hx421
                      replace hE417 := Ex.tr hE417 hx421
                      replace hE420 := Ex.tr hE420 hx421
                      have hlit422 : RdL w421 3 Br.c (.slice (some ⟨g421, 0, none⟩) 1 1) ([(⟨min n (-1), (setupOf f).lo, (setupOf f).hi⟩ : Br)]) := RdL.of_blk Br.c_len (l := [(⟨min n (-1), (setupOf f).lo, (setupOf f).hi⟩ : Br)]) hb421 (Nat.le_refl _) (by decide)
                      refine RG.call rfl rfl rfl rfl rfl rfl rfl en_11 (margin_ret (⟨(setupOf f).pl, (setupOf f).og, (setupOf f).pi, (setupOf f).sl, (setupOf f).lo, (setupOf f).hi⟩ : Su) _ [(⟨min n (-1), (setupOf f).lo, (setupOf f).hi⟩ : Br)] _ (hlit422) (by simp)) ?_
                      rintro _ w423 ⟨rfl, hx423⟩
                      replace hE3 := Ex.tr hE3 hx423
                      replace hE5 := Ex.tr hE5 hx423
                      replace hE17 := Ex.tr hE17 hx423
                      replace hE26 := Ex.tr hE26 hx423
                      replace hE417 := Ex.tr hE417 hx423
                      replace hE420 := Ex.tr hE420 hx423
                      have hE424 := hx423
                      refine RG.vl rfl rfl rfl (Ev.move rfl rfl) ?_
                      refine RG.vl rfl rfl rfl (Ev.extract rfl rfl rfl) ?_
                      refine RG.vl rfl rfl rfl (Ev.extract rfl rfl rfl) ?_
                      refine RG.vl rfl rfl rfl (Ev.assign rfl rfl) ?_
                      refine RG.vl rfl rfl rfl (Ev.assign rfl rfl) ?_
                      refine RG.done ?_
                      refine QW.then_ ?_
                      refine CW.seq ?_
                      refine CW.region ?_
                      refine RG.vl rfl rfl rfl (Ev.ldAgg rfl rfl Try.underlying23 rfl sz_23 rfl ((hb11.ext hE26).cells)) ?_
                      refine RG.vl rfl rfl rfl (Ev.move rfl rfl) ?_
                      refine RG.call rfl rfl rfl rfl rfl rfl rfl en_18 (draw_ret (⟨(setupOf f).pl, (setupOf f).og, (setupOf f).pi, (setupOf f).sl, (setupOf f).lo, (setupOf f).hi⟩ : Su) _ _ (by rw [read_bad _ _ he]; decide)) ?_
                      rintro _ w425 ⟨dr425, rfl, hdr425, hx425⟩
                      replace hE3 := Ex.tr hE3 hx425
                      replace hE5 := Ex.tr hE5 hx425
                      replace hE17 := Ex.tr hE17 hx425
                      replace hE26 := Ex.tr hE26 hx425
                      replace hE417 := Ex.tr hE417 hx425
                      replace hE420 := Ex.tr hE420 hx425
                      replace hE424 := Ex.tr hE424 hx425
                      have hE426 := hx425
                      refine RG.vl rfl rfl rfl (Ev.move rfl rfl) ?_
                      refine RG.vl rfl rfl rfl (Ev.extract rfl rfl rfl) ?_
                      refine RG.vl rfl rfl rfl (Ev.extract rfl rfl rfl) ?_
                      refine RG.vl rfl rfl rfl (Ev.assign rfl rfl) ?_
                      refine RG.vl rfl rfl rfl (Ev.assign rfl rfl) ?_
                      refine RG.done ?_
                      refine QW.sub (S' := [(1, _), (6, _), (7, _), (8, _), (10, _), (11, _), (13, _), (15, _)]) ⟨rfl, rfl, rfl, rfl, rfl, rfl, rfl, rfl, trivial⟩ ?_
                      refine QW.then_ ?_
                      refine CW.seq ?_
                      refine CW.draw [] (.ex) 8 rfl mixed (fun wd427 hxwd427 => ?_)
                      replace hE3 := Ex.tr hE3 hxwd427
                      replace hE5 := Ex.tr hE5 hxwd427
                      replace hE17 := Ex.tr hE17 hxwd427
                      replace hE26 := Ex.tr hE26 hxwd427
                      replace hE417 := Ex.tr hE417 hxwd427
                      replace hE420 := Ex.tr hE420 hxwd427
                      replace hE424 := Ex.tr hE424 hxwd427
                      replace hE426 := Ex.tr hE426 hxwd427
                      have hE428 := hxwd427
                      refine AG.take 0 rfl (by kernel_rfl) (by kernel_rfl) rfl rfl rfl (fun wq hq => Ev.ldAgg rfl rfl Try.underlying23 rfl sz_23 rfl (((hb11.ext hE26).ext hq).cells)) ?_
                      refine AG.only 1 rfl (by kernel_rfl) ?_
                      refine RG.makeL (m := 401) (enc := Br.c) (⟨0, 0, 0⟩ : Br) rfl rfl rfl rfl rfl rfl (rfl) Try.underlying24 inf_48 Br.c_len rfl rfl (by omega) (by simp only [maxLen]; omega) (fun g430 w430 eg430 hx430 hb430 hmk431 => ?_)
                      have hle432 : w.heap.size ≤ g430 := by have := hE3.size; omega
                      have hle433 : w1.heap.size ≤ g430 := by have := hE5.size; omega
                      have hle434 : w6.heap.size ≤ g430 := by have := hE17.size; omega
                      have hle435 : w11.heap.size ≤ g430 := by have := hE26.size; omega
                      have hle436 : ws415.heap.size ≤ g430 := by have := hE417.size; omega
                      have hle437 : w416.heap.size ≤ g430 := by have := hE420.size; omega
                      have hle438 : w421.heap.size ≤ g430 := by have := hE424.size; omega
                      have hle439 : w423.heap.size ≤ g430 := by have := hE426.size; omega
                      have hle440 : w425.heap.size ≤ g430 := by have := hE428.size; omega
                      have hle441 : wd427.heap.size ≤ g430 := by have := (Ex.rfl_ wd427).size; omega
                      have hlt442 : g1 < g430 := by have := Blk.lt (hb1.ext hE5); omega
                      have hlt443 : gS < g430 := by have := Blk.lt (hb6.ext hE17); omega
                      have hlt444 : gB < g430 := by have := Blk.lt (hb11.ext hE26); omega
                      have hlt445 : gR < g430 := by have := Blk.lt (hbws415.ext hE417); omega
                      have hlt446 : g416 < g430 := by have := Blk.lt (hb416.ext hE420); omega
                      have hlt447 : g421 < g430 := by have := Blk.lt (hb421.ext hE424); omega
                      replace hE3 := Ex.tr hE3 hx430
                      replace hE5 := Ex.tr hE5 hx430
                      replace hE17 := Ex.tr hE17 hx430
                      replace hE26 := Ex.tr hE26 hx430
                      replace hE417 := Ex.tr hE417 hx430
                      replace hE420 := Ex.tr hE420 hx430
                      replace hE424 := Ex.tr hE424 hx430
                      replace hE426 := Ex.tr hE426 hx430
                      replace hE428 := Ex.tr hE428 hx430
                      have hE448 := hx430
                      refine RG.done ?_
                      refine QW.an (fun _ => hE448) ?_
                      refine AG.only 2 rfl (by kernel_rfl) ?_
                      refine RG.call rfl rfl rfl rfl rfl rfl rfl en_10 (read_ret (⟨(setupOf f).pl, (setupOf f).og, (setupOf f).pi, (setupOf f).sl, (setupOf f).lo, (setupOf f).hi⟩ : Su) _ (List.replicate 401 ⟨0, 0, 0⟩) _ (hmk431) (by rw [List.length_replicate]; decide)) ?_
                      rintro _ w450 ⟨rfl, hx450⟩
                      replace hE3 := Ex.tr hE3 hx450
                      replace hE5 := Ex.tr hE5 hx450
                      replace hE17 := Ex.tr hE17 hx450
                      replace hE26 := Ex.tr hE26 hx450
                      replace hE417 := Ex.tr hE417 hx450
                      replace hE420 := Ex.tr hE420 hx450
                      replace hE424 := Ex.tr hE424 hx450
                      replace hE426 := Ex.tr hE426 hx450
                      replace hE428 := Ex.tr hE428 hx450
                      have hE451 := hx450
                      refine RG.done ?_
                      refine QW.an (fun _ => hE451) ?_
                      refine AG.takeW 3 rfl (by kernel_rfl) (by kernel_rfl) rfl rfl rfl (fun _ => Ev.move rfl rfl) ?_
                      refine AG.takeW 4 rfl (by kernel_rfl) (by kernel_rfl) rfl rfl rfl (fun _ => Ev.extract rfl rfl rfl) ?_
                      refine AG.takeW 5 rfl (by kernel_rfl) (by kernel_rfl) rfl rfl rfl (fun _ => Ev.extract rfl rfl rfl) ?_
                      refine AG.takeW 6 rfl (by kernel_rfl) (by kernel_rfl) rfl rfl rfl (fun _ => Ev.assign rfl rfl) ?_
                      refine AG.takeW 7 rfl (by kernel_rfl) (by kernel_rfl) rfl rfl rfl (fun _ => Ev.assign rfl rfl) ?_
                      refine AG.done (by kernel_rfl) ?_
                      refine QW.then_ ?_
                      refine CW.seq ?_
                      have hdr : drawErr (⟨(setupOf f).pl, (setupOf f).og, (setupOf f).pi, (setupOf f).sl, (setupOf f).lo, (setupOf f).hi⟩ : Su) (⟨(readOf (⟨(setupOf f).pl, (setupOf f).og, (setupOf f).pi, (setupOf f).sl, (setupOf f).lo, (setupOf f).hi⟩ : Su) [(⟨min n (-1), (setupOf f).lo, (setupOf f).hi⟩ : Br)]).toArray⟩ : ByteArray).data.toList = 2 := by rw [read_bad _ _ he]; exact draw_empty _
                      refine CW.region ?_
                      refine RG.vl rfl rfl rfl (Ev.move rfl rfl) ?_
                      refine RG.vl rfl rfl rfl (Ev.isT (Ev.eqI rfl rfl rfl) (by omega)) ?_
                      refine RG.vl rfl rfl rfl (Ev.move rfl rfl) ?_
                      refine RG.vl rfl rfl rfl (Ev.move rfl rfl) ?_
                      refine RG.vl rfl rfl rfl (Ev.move rfl rfl) ?_
                      refine RG.vl rfl rfl rfl (Ev.isT (Ev.eqI rfl rfl rfl) (rfl)) ?_
                      refine RG.vl rfl rfl rfl (Ev.pickT rfl rfl rfl) ?_
                      refine RG.vl rfl rfl rfl (Ev.move rfl rfl) ?_
                      refine RG.vl rfl rfl rfl (Ev.move rfl rfl) ?_
                      refine RG.vl rfl rfl rfl (Ev.isT (Ev.eqS rfl rfl rfl) (by rw [read_bad _ _ he])) ?_
                      refine RG.vl rfl rfl rfl (Ev.pickT rfl rfl rfl) ?_
                      refine RG.vl rfl rfl rfl (Ev.move rfl rfl) ?_
                      refine RG.vl rfl rfl rfl (Ev.move rfl rfl) ?_
                      refine RG.vl rfl rfl rfl (Ev.rem8 rfl rfl rfl (by omega)) ?_
                      refine RG.vl rfl rfl rfl (Ev.isT (Ev.geq rfl rfl rfl) (by omega)) ?_
                      refine RG.vl rfl rfl rfl (Ev.move rfl rfl) ?_
                      refine RG.pass rfl rfl rfl ?_
                      refine RG.pass rfl rfl rfl ?_
                      refine RG.pass rfl rfl rfl ?_
                      refine RG.pass rfl rfl rfl ?_
                      refine RG.pass rfl rfl rfl ?_
                      refine RG.pass rfl rfl rfl ?_
                      refine RG.pass rfl rfl rfl ?_
                      refine RG.vl rfl rfl rfl (Ev.pickT rfl rfl rfl) ?_
                      refine RG.vl rfl rfl rfl (Ev.pickT rfl rfl rfl) ?_
                      refine RG.vl rfl rfl rfl (Ev.move rfl rfl) ?_
                      refine RG.vl rfl rfl rfl (Ev.ldAgg rfl rfl Try.underlying23 rfl sz_23 rfl ((hb6.ext hE17).cells)) ?_
                      refine RG.call rfl rfl rfl rfl rfl rfl rfl en_15 (right_yes (setupOf f) _ hok) ?_
                      rintro _ w452 ⟨rfl, hx452⟩
                      replace hE3 := Ex.tr hE3 hx452
                      replace hE5 := Ex.tr hE5 hx452
                      replace hE17 := Ex.tr hE17 hx452
                      replace hE26 := Ex.tr hE26 hx452
                      replace hE417 := Ex.tr hE417 hx452
                      replace hE420 := Ex.tr hE420 hx452
                      replace hE424 := Ex.tr hE424 hx452
                      replace hE426 := Ex.tr hE426 hx452
                      replace hE428 := Ex.tr hE428 hx452
                      replace hE451 := Ex.tr hE451 hx452
                      have hE453 := hx452
                      refine RG.vl rfl rfl rfl (Ev.pickT rfl rfl rfl) ?_
                      refine RG.vl rfl rfl rfl (Ev.move rfl rfl) ?_
                      refine RG.vl rfl rfl rfl (Ev.move rfl rfl) ?_
                      refine RG.vl rfl rfl rfl (Ev.isT (Ev.eqI rfl rfl rfl) (by rw [err_many])) ?_
                      refine RG.vl rfl rfl rfl (Ev.pickT rfl rfl rfl) ?_
                      refine RG.vl rfl rfl rfl (Ev.move rfl rfl) ?_
                      refine RG.call rfl rfl rfl rfl rfl rfl rfl en_9 (awake_ret _) ?_
                      rintro _ w454 ⟨rfl, hx454⟩
                      replace hE3 := Ex.tr hE3 hx454
                      replace hE5 := Ex.tr hE5 hx454
                      replace hE17 := Ex.tr hE17 hx454
                      replace hE26 := Ex.tr hE26 hx454
                      replace hE417 := Ex.tr hE417 hx454
                      replace hE420 := Ex.tr hE420 hx454
                      replace hE424 := Ex.tr hE424 hx454
                      replace hE426 := Ex.tr hE426 hx454
                      replace hE428 := Ex.tr hE428 hx454
                      replace hE451 := Ex.tr hE451 hx454
                      replace hE453 := Ex.tr hE453 hx454
                      have hE455 := hx454
                      refine RG.vl rfl rfl rfl (Ev.pickT rfl rfl rfl) ?_
                      refine RG.vl rfl rfl rfl (Ev.assign rfl rfl) ?_
                      refine RG.done ?_
                      refine QW.sub (S' := [(6, _)]) ⟨rfl, trivial⟩ ?_
                      refine QW.then_ ?_
                      refine CW.ret ?_
                      refine QW.ret1 rfl rfl ?_
                      have hB := (Ex.tr hB0 hE3)
                      exact ⟨rfl, hB⟩
                    · refine CW.seq ?_
                      refine CW.region ?_
                      refine RG.vl rfl rfl rfl (Ev.eqI rfl rfl rfl) ?_
                      refine RG.vl rfl rfl rfl (Ev.assign rfl rfl) ?_
                      refine RG.done ?_
                      refine QW.then_ ?_
                      refine CW.condP rfl (fun hc456 => ?_) (fun hc456 => ?_)
                      · refine CW.region ?_
                        refine RG.vl rfl rfl rfl (Ev.move rfl rfl) ?_
                        refine RG.vl rfl rfl rfl (Ev.max2 rfl rfl rfl rfl) ?_
                        refine RG.vl rfl rfl rfl (Ev.fld rfl rfl fld_48_1) ?_
                        refine RG.st (g := gR) (k := 1) rfl rfl rfl rfl rfl sz_3 rfl hb18 rfl (fun ws457 hwws457 hbws457 => ?_)
                        replace hE3 := Wr.below hE3 hwws457 hle19
                        replace hE5 := Wr.below hE5 hwws457 hle20
                        replace hE17 := Wr.below hE17 hwws457 hle21
                        replace hE26 := Wr.below hE26 hwws457 hle22
                        refine RG.done ?_
                        refine QW.blockN ?_
                        refine QW.then_ ?_
                        refine CW.seq ?_
                        have he : errOf (⟨(setupOf f).pl, (setupOf f).og, (setupOf f).pi, (setupOf f).sl, (setupOf f).lo, (setupOf f).hi⟩ : Su) [(⟨(setupOf f).og, max n 1048577, (setupOf f).hi⟩ : Br)] = 2 := err_bar _ _ (by intro h; unfold InB at h; simp only at h; omega)
                        refine CW.region ?_
                        refine RG.vl rfl rfl rfl (Ev.ldAgg rfl rfl Try.underlying23 rfl sz_23 rfl ((hb11.ext hE26).cells)) ?_
                        refine RG.vl rfl rfl rfl (Ev.ldAgg rfl rfl Try.underlying48 rfl sz_48 rfl (hbws457.cells)) ?_
                        refine RG.buildD (xs := [.tmp 98]) rfl rfl rfl rfl rfl rfl rfl Try.underlying24 inf_48 rfl rfl rfl rfl (fun g458 w458 eg458 hx458 hb458 => ?_)
                        replace hE3 := Ex.tr hE3 hx458
                        replace hE5 := Ex.tr hE5 hx458
                        replace hE17 := Ex.tr hE17 hx458
                        replace hE26 := Ex.tr hE26 hx458
                        have hE459 := hx458
                        have hlit460 : RdL w458 3 Br.c (.slice (some ⟨g458, 0, none⟩) 1 1) ([(⟨(setupOf f).og, max n 1048577, (setupOf f).hi⟩ : Br)]) := RdL.of_blk Br.c_len (l := [(⟨(setupOf f).og, max n 1048577, (setupOf f).hi⟩ : Br)]) hb458 (Nat.le_refl _) (by decide)
                        refine RG.call rfl rfl rfl rfl rfl rfl rfl en_10 (read_ret (⟨(setupOf f).pl, (setupOf f).og, (setupOf f).pi, (setupOf f).sl, (setupOf f).lo, (setupOf f).hi⟩ : Su) _ [(⟨(setupOf f).og, max n 1048577, (setupOf f).hi⟩ : Br)] _ (hlit460) (by simp)) ?_
                        rintro _ w461 ⟨rfl, hx461⟩
                        replace hE3 := Ex.tr hE3 hx461
                        replace hE5 := Ex.tr hE5 hx461
                        replace hE17 := Ex.tr hE17 hx461
                        replace hE26 := Ex.tr hE26 hx461
                        replace hE459 := Ex.tr hE459 hx461
                        have hE462 := hx461
                        refine RG.vl rfl rfl rfl (Ev.move rfl rfl) ?_
                        refine RG.vl rfl rfl rfl (Ev.extract rfl rfl rfl) ?_
                        refine RG.vl rfl rfl rfl (Ev.extract rfl rfl rfl) ?_
                        refine RG.vl rfl rfl rfl (Ev.assign rfl rfl) ?_
                        refine RG.vl rfl rfl rfl (Ev.assign rfl rfl) ?_
                        refine RG.done ?_
                        refine QW.sub (S' := [(1, _), (6, _), (7, _), (8, _), (9, _), (10, _), (11, _)]) ⟨rfl, rfl, rfl, rfl, rfl, rfl, rfl, trivial⟩ ?_
                        refine QW.then_ ?_
                        refine CW.seq ?_
                        refine CW.region ?_
                        refine RG.vl rfl rfl rfl (Ev.ldAgg rfl rfl Try.underlying23 rfl sz_23 rfl ((hb11.ext hE26).cells)) ?_
                        refine RG.vl rfl rfl rfl (Ev.ldAgg rfl rfl Try.underlying48 rfl sz_48 rfl ((hbws457.ext hE459).cells)) ?_
                        refine RG.buildD (xs := [.tmp 105]) rfl rfl rfl rfl rfl rfl rfl Try.underlying24 inf_48 rfl rfl rfl rfl (fun g463 w463 eg463 hx463 hb463 => ?_)
                        replace hE3 := Ex.tr hE3 hx463
                        replace hE5 := Ex.tr hE5 hx463
                        replace hE17 := Ex.tr hE17 hx463
                        replace hE26 := Ex.tr hE26 hx463
                        replace hE459 := Ex.tr hE459 hx463
                        replace hE462 := Ex.tr hE462 hx463
                        have hlit464 : RdL w463 3 Br.c (.slice (some ⟨g463, 0, none⟩) 1 1) ([(⟨(setupOf f).og, max n 1048577, (setupOf f).hi⟩ : Br)]) := RdL.of_blk Br.c_len (l := [(⟨(setupOf f).og, max n 1048577, (setupOf f).hi⟩ : Br)]) hb463 (Nat.le_refl _) (by decide)
                        refine RG.call rfl rfl rfl rfl rfl rfl rfl en_11 (margin_ret (⟨(setupOf f).pl, (setupOf f).og, (setupOf f).pi, (setupOf f).sl, (setupOf f).lo, (setupOf f).hi⟩ : Su) _ [(⟨(setupOf f).og, max n 1048577, (setupOf f).hi⟩ : Br)] _ (hlit464) (by simp)) ?_
                        rintro _ w465 ⟨rfl, hx465⟩
                        replace hE3 := Ex.tr hE3 hx465
                        replace hE5 := Ex.tr hE5 hx465
                        replace hE17 := Ex.tr hE17 hx465
                        replace hE26 := Ex.tr hE26 hx465
                        replace hE459 := Ex.tr hE459 hx465
                        replace hE462 := Ex.tr hE462 hx465
                        have hE466 := hx465
                        refine RG.vl rfl rfl rfl (Ev.move rfl rfl) ?_
                        refine RG.vl rfl rfl rfl (Ev.extract rfl rfl rfl) ?_
                        refine RG.vl rfl rfl rfl (Ev.extract rfl rfl rfl) ?_
                        refine RG.vl rfl rfl rfl (Ev.assign rfl rfl) ?_
                        refine RG.vl rfl rfl rfl (Ev.assign rfl rfl) ?_
                        refine RG.done ?_
                        refine QW.then_ ?_
                        refine CW.seq ?_
                        refine CW.region ?_
                        refine RG.vl rfl rfl rfl (Ev.ldAgg rfl rfl Try.underlying23 rfl sz_23 rfl ((hb11.ext hE26).cells)) ?_
                        refine RG.vl rfl rfl rfl (Ev.move rfl rfl) ?_
                        refine RG.call rfl rfl rfl rfl rfl rfl rfl en_18 (draw_ret (⟨(setupOf f).pl, (setupOf f).og, (setupOf f).pi, (setupOf f).sl, (setupOf f).lo, (setupOf f).hi⟩ : Su) _ _ (by rw [read_bad _ _ he]; decide)) ?_
                        rintro _ w467 ⟨dr467, rfl, hdr467, hx467⟩
                        replace hE3 := Ex.tr hE3 hx467
                        replace hE5 := Ex.tr hE5 hx467
                        replace hE17 := Ex.tr hE17 hx467
                        replace hE26 := Ex.tr hE26 hx467
                        replace hE459 := Ex.tr hE459 hx467
                        replace hE462 := Ex.tr hE462 hx467
                        replace hE466 := Ex.tr hE466 hx467
                        have hE468 := hx467
                        refine RG.vl rfl rfl rfl (Ev.move rfl rfl) ?_
                        refine RG.vl rfl rfl rfl (Ev.extract rfl rfl rfl) ?_
                        refine RG.vl rfl rfl rfl (Ev.extract rfl rfl rfl) ?_
                        refine RG.vl rfl rfl rfl (Ev.assign rfl rfl) ?_
                        refine RG.vl rfl rfl rfl (Ev.assign rfl rfl) ?_
                        refine RG.done ?_
                        refine QW.sub (S' := [(1, _), (6, _), (7, _), (8, _), (10, _), (11, _), (13, _), (15, _)]) ⟨rfl, rfl, rfl, rfl, rfl, rfl, rfl, rfl, trivial⟩ ?_
                        refine QW.then_ ?_
                        refine CW.seq ?_
                        refine CW.draw [] (.ex) 8 rfl mixed (fun wd469 hxwd469 => ?_)
                        replace hE3 := Ex.tr hE3 hxwd469
                        replace hE5 := Ex.tr hE5 hxwd469
                        replace hE17 := Ex.tr hE17 hxwd469
                        replace hE26 := Ex.tr hE26 hxwd469
                        replace hE459 := Ex.tr hE459 hxwd469
                        replace hE462 := Ex.tr hE462 hxwd469
                        replace hE466 := Ex.tr hE466 hxwd469
                        replace hE468 := Ex.tr hE468 hxwd469
                        have hE470 := hxwd469
                        refine AG.take 0 rfl (by kernel_rfl) (by kernel_rfl) rfl rfl rfl (fun wq hq => Ev.ldAgg rfl rfl Try.underlying23 rfl sz_23 rfl (((hb11.ext hE26).ext hq).cells)) ?_
                        refine AG.only 1 rfl (by kernel_rfl) ?_
                        refine RG.makeL (m := 401) (enc := Br.c) (⟨0, 0, 0⟩ : Br) rfl rfl rfl rfl rfl rfl (rfl) Try.underlying24 inf_48 Br.c_len rfl rfl (by omega) (by simp only [maxLen]; omega) (fun g472 w472 eg472 hx472 hb472 hmk473 => ?_)
                        have hle474 : w.heap.size ≤ g472 := by have := hE3.size; omega
                        have hle475 : w1.heap.size ≤ g472 := by have := hE5.size; omega
                        have hle476 : w6.heap.size ≤ g472 := by have := hE17.size; omega
                        have hle477 : w11.heap.size ≤ g472 := by have := hE26.size; omega
                        have hle478 : ws457.heap.size ≤ g472 := by have := hE459.size; omega
                        have hle479 : w458.heap.size ≤ g472 := by have := hE462.size; omega
                        have hle480 : w463.heap.size ≤ g472 := by have := hE466.size; omega
                        have hle481 : w465.heap.size ≤ g472 := by have := hE468.size; omega
                        have hle482 : w467.heap.size ≤ g472 := by have := hE470.size; omega
                        have hle483 : wd469.heap.size ≤ g472 := by have := (Ex.rfl_ wd469).size; omega
                        have hlt484 : g1 < g472 := by have := Blk.lt (hb1.ext hE5); omega
                        have hlt485 : gS < g472 := by have := Blk.lt (hb6.ext hE17); omega
                        have hlt486 : gB < g472 := by have := Blk.lt (hb11.ext hE26); omega
                        have hlt487 : gR < g472 := by have := Blk.lt (hbws457.ext hE459); omega
                        have hlt488 : g458 < g472 := by have := Blk.lt (hb458.ext hE462); omega
                        have hlt489 : g463 < g472 := by have := Blk.lt (hb463.ext hE466); omega
                        replace hE3 := Ex.tr hE3 hx472
                        replace hE5 := Ex.tr hE5 hx472
                        replace hE17 := Ex.tr hE17 hx472
                        replace hE26 := Ex.tr hE26 hx472
                        replace hE459 := Ex.tr hE459 hx472
                        replace hE462 := Ex.tr hE462 hx472
                        replace hE466 := Ex.tr hE466 hx472
                        replace hE468 := Ex.tr hE468 hx472
                        replace hE470 := Ex.tr hE470 hx472
                        have hE490 := hx472
                        refine RG.done ?_
                        refine QW.an (fun _ => hE490) ?_
                        refine AG.only 2 rfl (by kernel_rfl) ?_
                        refine RG.call rfl rfl rfl rfl rfl rfl rfl en_10 (read_ret (⟨(setupOf f).pl, (setupOf f).og, (setupOf f).pi, (setupOf f).sl, (setupOf f).lo, (setupOf f).hi⟩ : Su) _ (List.replicate 401 ⟨0, 0, 0⟩) _ (hmk473) (by rw [List.length_replicate]; decide)) ?_
                        rintro _ w492 ⟨rfl, hx492⟩
                        replace hE3 := Ex.tr hE3 hx492
                        replace hE5 := Ex.tr hE5 hx492
                        replace hE17 := Ex.tr hE17 hx492
                        replace hE26 := Ex.tr hE26 hx492
                        replace hE459 := Ex.tr hE459 hx492
                        replace hE462 := Ex.tr hE462 hx492
                        replace hE466 := Ex.tr hE466 hx492
                        replace hE468 := Ex.tr hE468 hx492
                        replace hE470 := Ex.tr hE470 hx492
                        have hE493 := hx492
                        refine RG.done ?_
                        refine QW.an (fun _ => hE493) ?_
                        refine AG.takeW 3 rfl (by kernel_rfl) (by kernel_rfl) rfl rfl rfl (fun _ => Ev.move rfl rfl) ?_
                        refine AG.takeW 4 rfl (by kernel_rfl) (by kernel_rfl) rfl rfl rfl (fun _ => Ev.extract rfl rfl rfl) ?_
                        refine AG.takeW 5 rfl (by kernel_rfl) (by kernel_rfl) rfl rfl rfl (fun _ => Ev.extract rfl rfl rfl) ?_
                        refine AG.takeW 6 rfl (by kernel_rfl) (by kernel_rfl) rfl rfl rfl (fun _ => Ev.assign rfl rfl) ?_
                        refine AG.takeW 7 rfl (by kernel_rfl) (by kernel_rfl) rfl rfl rfl (fun _ => Ev.assign rfl rfl) ?_
                        refine AG.done (by kernel_rfl) ?_
                        refine QW.then_ ?_
                        refine CW.seq ?_
                        have hdr : drawErr (⟨(setupOf f).pl, (setupOf f).og, (setupOf f).pi, (setupOf f).sl, (setupOf f).lo, (setupOf f).hi⟩ : Su) (⟨(readOf (⟨(setupOf f).pl, (setupOf f).og, (setupOf f).pi, (setupOf f).sl, (setupOf f).lo, (setupOf f).hi⟩ : Su) [(⟨(setupOf f).og, max n 1048577, (setupOf f).hi⟩ : Br)]).toArray⟩ : ByteArray).data.toList = 2 := by rw [read_bad _ _ he]; exact draw_empty _
                        refine CW.region ?_
                        refine RG.vl rfl rfl rfl (Ev.move rfl rfl) ?_
                        refine RG.vl rfl rfl rfl (Ev.isT (Ev.eqI rfl rfl rfl) (by omega)) ?_
                        refine RG.vl rfl rfl rfl (Ev.move rfl rfl) ?_
                        refine RG.vl rfl rfl rfl (Ev.move rfl rfl) ?_
                        refine RG.vl rfl rfl rfl (Ev.move rfl rfl) ?_
                        refine RG.vl rfl rfl rfl (Ev.isT (Ev.eqI rfl rfl rfl) (rfl)) ?_
                        refine RG.vl rfl rfl rfl (Ev.pickT rfl rfl rfl) ?_
                        refine RG.vl rfl rfl rfl (Ev.move rfl rfl) ?_
                        refine RG.vl rfl rfl rfl (Ev.move rfl rfl) ?_
                        refine RG.vl rfl rfl rfl (Ev.isT (Ev.eqS rfl rfl rfl) (by rw [read_bad _ _ he])) ?_
                        refine RG.vl rfl rfl rfl (Ev.pickT rfl rfl rfl) ?_
                        refine RG.vl rfl rfl rfl (Ev.move rfl rfl) ?_
                        refine RG.vl rfl rfl rfl (Ev.move rfl rfl) ?_
                        refine RG.vl rfl rfl rfl (Ev.rem8 rfl rfl rfl (by omega)) ?_
                        refine RG.vl rfl rfl rfl (Ev.isT (Ev.geq rfl rfl rfl) (by omega)) ?_
                        refine RG.vl rfl rfl rfl (Ev.move rfl rfl) ?_
                        refine RG.pass rfl rfl rfl ?_
                        refine RG.pass rfl rfl rfl ?_
                        refine RG.pass rfl rfl rfl ?_
                        refine RG.pass rfl rfl rfl ?_
                        refine RG.pass rfl rfl rfl ?_
                        refine RG.pass rfl rfl rfl ?_
                        refine RG.pass rfl rfl rfl ?_
                        refine RG.vl rfl rfl rfl (Ev.pickT rfl rfl rfl) ?_
                        refine RG.vl rfl rfl rfl (Ev.pickT rfl rfl rfl) ?_
                        refine RG.vl rfl rfl rfl (Ev.move rfl rfl) ?_
                        refine RG.vl rfl rfl rfl (Ev.ldAgg rfl rfl Try.underlying23 rfl sz_23 rfl ((hb6.ext hE17).cells)) ?_
                        refine RG.call rfl rfl rfl rfl rfl rfl rfl en_15 (right_yes (setupOf f) _ hok) ?_
                        rintro _ w494 ⟨rfl, hx494⟩
                        replace hE3 := Ex.tr hE3 hx494
                        replace hE5 := Ex.tr hE5 hx494
                        replace hE17 := Ex.tr hE17 hx494
                        replace hE26 := Ex.tr hE26 hx494
                        replace hE459 := Ex.tr hE459 hx494
                        replace hE462 := Ex.tr hE462 hx494
                        replace hE466 := Ex.tr hE466 hx494
                        replace hE468 := Ex.tr hE468 hx494
                        replace hE470 := Ex.tr hE470 hx494
                        replace hE493 := Ex.tr hE493 hx494
                        have hE495 := hx494
                        refine RG.vl rfl rfl rfl (Ev.pickT rfl rfl rfl) ?_
                        refine RG.vl rfl rfl rfl (Ev.move rfl rfl) ?_
                        refine RG.vl rfl rfl rfl (Ev.move rfl rfl) ?_
                        refine RG.vl rfl rfl rfl (Ev.isT (Ev.eqI rfl rfl rfl) (by rw [err_many])) ?_
                        refine RG.vl rfl rfl rfl (Ev.pickT rfl rfl rfl) ?_
                        refine RG.vl rfl rfl rfl (Ev.move rfl rfl) ?_
                        refine RG.call rfl rfl rfl rfl rfl rfl rfl en_9 (awake_ret _) ?_
                        rintro _ w496 ⟨rfl, hx496⟩
                        replace hE3 := Ex.tr hE3 hx496
                        replace hE5 := Ex.tr hE5 hx496
                        replace hE17 := Ex.tr hE17 hx496
                        replace hE26 := Ex.tr hE26 hx496
                        replace hE459 := Ex.tr hE459 hx496
                        replace hE462 := Ex.tr hE462 hx496
                        replace hE466 := Ex.tr hE466 hx496
                        replace hE468 := Ex.tr hE468 hx496
                        replace hE470 := Ex.tr hE470 hx496
                        replace hE493 := Ex.tr hE493 hx496
                        replace hE495 := Ex.tr hE495 hx496
                        have hE497 := hx496
                        refine RG.vl rfl rfl rfl (Ev.pickT rfl rfl rfl) ?_
                        refine RG.vl rfl rfl rfl (Ev.assign rfl rfl) ?_
                        refine RG.done ?_
                        refine QW.sub (S' := [(6, _)]) ⟨rfl, trivial⟩ ?_
                        refine QW.then_ ?_
                        refine CW.ret ?_
                        refine QW.ret1 rfl rfl ?_
                        have hB := (Ex.tr hB0 hE3)
                        exact ⟨rfl, hB⟩
                      · refine CW.seq ?_
                        refine CW.region ?_
                        refine RG.vl rfl rfl rfl (Ev.eqI rfl rfl rfl) ?_
                        refine RG.vl rfl rfl rfl (Ev.assign rfl rfl) ?_
                        refine RG.done ?_
                        refine QW.then_ ?_
                        refine CW.condP rfl (fun hc498 => ?_) (fun hc498 => ?_)
                        · refine CW.region ?_
                          refine RG.vl rfl rfl rfl (Ev.move rfl rfl) ?_
                          refine RG.vl rfl rfl rfl (Ev.min2 rfl rfl rfl rfl) ?_
                          refine RG.vl rfl rfl rfl (Ev.fld rfl rfl fld_48_2) ?_
                          refine RG.st (g := gR) (k := 2) rfl rfl rfl rfl rfl sz_3 rfl hb18 rfl (fun ws499 hwws499 hbws499 => ?_)
                          replace hE3 := Wr.below hE3 hwws499 hle19
                          replace hE5 := Wr.below hE5 hwws499 hle20
                          replace hE17 := Wr.below hE17 hwws499 hle21
                          replace hE26 := Wr.below hE26 hwws499 hle22
                          refine RG.done ?_
                          refine QW.sub (S' := [(1, _), (6, _), (7, _), (8, _), (9, _)]) ⟨rfl, rfl, rfl, rfl, rfl, trivial⟩ ?_
                          refine QW.blockN ?_
                          refine QW.then_ ?_
                          refine CW.seq ?_
                          have he : errOf (⟨(setupOf f).pl, (setupOf f).og, (setupOf f).pi, (setupOf f).sl, (setupOf f).lo, (setupOf f).hi⟩ : Su) [(⟨(setupOf f).og, (setupOf f).lo, min n (-1)⟩ : Br)] = 2 := err_bar _ _ (by intro h; unfold InB at h; simp only at h; omega)
                          refine CW.region ?_
                          refine RG.vl rfl rfl rfl (Ev.ldAgg rfl rfl Try.underlying23 rfl sz_23 rfl ((hb11.ext hE26).cells)) ?_
                          refine RG.vl rfl rfl rfl (Ev.ldAgg rfl rfl Try.underlying48 rfl sz_48 rfl (hbws499.cells)) ?_
                          refine RG.buildD (xs := [.tmp 98]) rfl rfl rfl rfl rfl rfl rfl Try.underlying24 inf_48 rfl rfl rfl rfl (fun g500 w500 eg500 hx500 hb500 => ?_)
                          replace hE3 := Ex.tr hE3 hx500
                          replace hE5 := Ex.tr hE5 hx500
                          replace hE17 := Ex.tr hE17 hx500
                          replace hE26 := Ex.tr hE26 hx500
                          have hE501 := hx500
                          have hlit502 : RdL w500 3 Br.c (.slice (some ⟨g500, 0, none⟩) 1 1) ([(⟨(setupOf f).og, (setupOf f).lo, min n (-1)⟩ : Br)]) := RdL.of_blk Br.c_len (l := [(⟨(setupOf f).og, (setupOf f).lo, min n (-1)⟩ : Br)]) hb500 (Nat.le_refl _) (by decide)
                          refine RG.call rfl rfl rfl rfl rfl rfl rfl en_10 (read_ret (⟨(setupOf f).pl, (setupOf f).og, (setupOf f).pi, (setupOf f).sl, (setupOf f).lo, (setupOf f).hi⟩ : Su) _ [(⟨(setupOf f).og, (setupOf f).lo, min n (-1)⟩ : Br)] _ (hlit502) (by simp)) ?_
                          rintro _ w503 ⟨rfl, hx503⟩
                          replace hE3 := Ex.tr hE3 hx503
                          replace hE5 := Ex.tr hE5 hx503
                          replace hE17 := Ex.tr hE17 hx503
                          replace hE26 := Ex.tr hE26 hx503
                          replace hE501 := Ex.tr hE501 hx503
                          have hE504 := hx503
                          refine RG.vl rfl rfl rfl (Ev.move rfl rfl) ?_
                          refine RG.vl rfl rfl rfl (Ev.extract rfl rfl rfl) ?_
                          refine RG.vl rfl rfl rfl (Ev.extract rfl rfl rfl) ?_
                          refine RG.vl rfl rfl rfl (Ev.assign rfl rfl) ?_
                          refine RG.vl rfl rfl rfl (Ev.assign rfl rfl) ?_
                          refine RG.done ?_
                          refine QW.then_ ?_
                          refine CW.seq ?_
                          refine CW.region ?_
                          refine RG.vl rfl rfl rfl (Ev.ldAgg rfl rfl Try.underlying23 rfl sz_23 rfl ((hb11.ext hE26).cells)) ?_
                          refine RG.vl rfl rfl rfl (Ev.ldAgg rfl rfl Try.underlying48 rfl sz_48 rfl ((hbws499.ext hE501).cells)) ?_
                          refine RG.buildD (xs := [.tmp 105]) rfl rfl rfl rfl rfl rfl rfl Try.underlying24 inf_48 rfl rfl rfl rfl (fun g505 w505 eg505 hx505 hb505 => ?_)
                          replace hE3 := Ex.tr hE3 hx505
                          replace hE5 := Ex.tr hE5 hx505
                          replace hE17 := Ex.tr hE17 hx505
                          replace hE26 := Ex.tr hE26 hx505
                          replace hE501 := Ex.tr hE501 hx505
                          replace hE504 := Ex.tr hE504 hx505
                          have hlit506 : RdL w505 3 Br.c (.slice (some ⟨g505, 0, none⟩) 1 1) ([(⟨(setupOf f).og, (setupOf f).lo, min n (-1)⟩ : Br)]) := RdL.of_blk Br.c_len (l := [(⟨(setupOf f).og, (setupOf f).lo, min n (-1)⟩ : Br)]) hb505 (Nat.le_refl _) (by decide)
                          refine RG.call rfl rfl rfl rfl rfl rfl rfl en_11 (margin_ret (⟨(setupOf f).pl, (setupOf f).og, (setupOf f).pi, (setupOf f).sl, (setupOf f).lo, (setupOf f).hi⟩ : Su) _ [(⟨(setupOf f).og, (setupOf f).lo, min n (-1)⟩ : Br)] _ (hlit506) (by simp)) ?_
                          rintro _ w507 ⟨rfl, hx507⟩
                          replace hE3 := Ex.tr hE3 hx507
                          replace hE5 := Ex.tr hE5 hx507
                          replace hE17 := Ex.tr hE17 hx507
                          replace hE26 := Ex.tr hE26 hx507
                          replace hE501 := Ex.tr hE501 hx507
                          replace hE504 := Ex.tr hE504 hx507
                          have hE508 := hx507
                          refine RG.vl rfl rfl rfl (Ev.move rfl rfl) ?_
                          refine RG.vl rfl rfl rfl (Ev.extract rfl rfl rfl) ?_
                          refine RG.vl rfl rfl rfl (Ev.extract rfl rfl rfl) ?_
                          refine RG.vl rfl rfl rfl (Ev.assign rfl rfl) ?_
                          refine RG.vl rfl rfl rfl (Ev.assign rfl rfl) ?_
                          refine RG.done ?_
                          refine QW.sub (S' := [(1, _), (6, _), (7, _), (8, _), (10, _), (11, _), (13, _)]) ⟨rfl, rfl, rfl, rfl, rfl, rfl, rfl, trivial⟩ ?_
                          refine QW.then_ ?_
                          refine CW.seq ?_
                          refine CW.region ?_
                          refine RG.vl rfl rfl rfl (Ev.ldAgg rfl rfl Try.underlying23 rfl sz_23 rfl ((hb11.ext hE26).cells)) ?_
                          refine RG.vl rfl rfl rfl (Ev.move rfl rfl) ?_
                          refine RG.call rfl rfl rfl rfl rfl rfl rfl en_18 (draw_ret (⟨(setupOf f).pl, (setupOf f).og, (setupOf f).pi, (setupOf f).sl, (setupOf f).lo, (setupOf f).hi⟩ : Su) _ _ (by rw [read_bad _ _ he]; decide)) ?_
                          rintro _ w509 ⟨dr509, rfl, hdr509, hx509⟩
                          replace hE3 := Ex.tr hE3 hx509
                          replace hE5 := Ex.tr hE5 hx509
                          replace hE17 := Ex.tr hE17 hx509
                          replace hE26 := Ex.tr hE26 hx509
                          replace hE501 := Ex.tr hE501 hx509
                          replace hE504 := Ex.tr hE504 hx509
                          replace hE508 := Ex.tr hE508 hx509
                          have hE510 := hx509
                          refine RG.vl rfl rfl rfl (Ev.move rfl rfl) ?_
                          refine RG.vl rfl rfl rfl (Ev.extract rfl rfl rfl) ?_
                          refine RG.vl rfl rfl rfl (Ev.extract rfl rfl rfl) ?_
                          refine RG.vl rfl rfl rfl (Ev.assign rfl rfl) ?_
                          refine RG.vl rfl rfl rfl (Ev.assign rfl rfl) ?_
                          refine RG.done ?_
                          refine QW.then_ ?_
                          refine CW.seq ?_
                          refine CW.draw [] (.ex) 8 rfl mixed (fun wd511 hxwd511 => ?_)
                          replace hE3 := Ex.tr hE3 hxwd511
                          replace hE5 := Ex.tr hE5 hxwd511
                          replace hE17 := Ex.tr hE17 hxwd511
                          replace hE26 := Ex.tr hE26 hxwd511
                          replace hE501 := Ex.tr hE501 hxwd511
                          replace hE504 := Ex.tr hE504 hxwd511
                          replace hE508 := Ex.tr hE508 hxwd511
                          replace hE510 := Ex.tr hE510 hxwd511
                          have hE512 := hxwd511
                          refine AG.take 0 rfl (by kernel_rfl) (by kernel_rfl) rfl rfl rfl (fun wq hq => Ev.ldAgg rfl rfl Try.underlying23 rfl sz_23 rfl (((hb11.ext hE26).ext hq).cells)) ?_
                          refine AG.only 1 rfl (by kernel_rfl) ?_
                          refine RG.makeL (m := 401) (enc := Br.c) (⟨0, 0, 0⟩ : Br) rfl rfl rfl rfl rfl rfl (rfl) Try.underlying24 inf_48 Br.c_len rfl rfl (by omega) (by simp only [maxLen]; omega) (fun g514 w514 eg514 hx514 hb514 hmk515 => ?_)
                          have hle516 : w.heap.size ≤ g514 := by have := hE3.size; omega
                          have hle517 : w1.heap.size ≤ g514 := by have := hE5.size; omega
                          have hle518 : w6.heap.size ≤ g514 := by have := hE17.size; omega
                          have hle519 : w11.heap.size ≤ g514 := by have := hE26.size; omega
                          have hle520 : ws499.heap.size ≤ g514 := by have := hE501.size; omega
                          have hle521 : w500.heap.size ≤ g514 := by have := hE504.size; omega
                          have hle522 : w505.heap.size ≤ g514 := by have := hE508.size; omega
                          have hle523 : w507.heap.size ≤ g514 := by have := hE510.size; omega
                          have hle524 : w509.heap.size ≤ g514 := by have := hE512.size; omega
                          have hle525 : wd511.heap.size ≤ g514 := by have := (Ex.rfl_ wd511).size; omega
                          have hlt526 : g1 < g514 := by have := Blk.lt (hb1.ext hE5); omega
                          have hlt527 : gS < g514 := by have := Blk.lt (hb6.ext hE17); omega
                          have hlt528 : gB < g514 := by have := Blk.lt (hb11.ext hE26); omega
                          have hlt529 : gR < g514 := by have := Blk.lt (hbws499.ext hE501); omega
                          have hlt530 : g500 < g514 := by have := Blk.lt (hb500.ext hE504); omega
                          have hlt531 : g505 < g514 := by have := Blk.lt (hb505.ext hE508); omega
                          replace hE3 := Ex.tr hE3 hx514
                          replace hE5 := Ex.tr hE5 hx514
                          replace hE17 := Ex.tr hE17 hx514
                          replace hE26 := Ex.tr hE26 hx514
                          replace hE501 := Ex.tr hE501 hx514
                          replace hE504 := Ex.tr hE504 hx514
                          replace hE508 := Ex.tr hE508 hx514
                          replace hE510 := Ex.tr hE510 hx514
                          replace hE512 := Ex.tr hE512 hx514
                          have hE532 := hx514
                          refine RG.done ?_
                          refine QW.an (fun _ => hE532) ?_
                          refine AG.only 2 rfl (by kernel_rfl) ?_
                          refine RG.call rfl rfl rfl rfl rfl rfl rfl en_10 (read_ret (⟨(setupOf f).pl, (setupOf f).og, (setupOf f).pi, (setupOf f).sl, (setupOf f).lo, (setupOf f).hi⟩ : Su) _ (List.replicate 401 ⟨0, 0, 0⟩) _ (hmk515) (by rw [List.length_replicate]; decide)) ?_
                          rintro _ w534 ⟨rfl, hx534⟩
                          replace hE3 := Ex.tr hE3 hx534
                          replace hE5 := Ex.tr hE5 hx534
                          replace hE17 := Ex.tr hE17 hx534
                          replace hE26 := Ex.tr hE26 hx534
                          replace hE501 := Ex.tr hE501 hx534
                          replace hE504 := Ex.tr hE504 hx534
                          replace hE508 := Ex.tr hE508 hx534
                          replace hE510 := Ex.tr hE510 hx534
                          replace hE512 := Ex.tr hE512 hx534
                          have hE535 := hx534
                          refine RG.done ?_
                          refine QW.an (fun _ => hE535) ?_
                          refine AG.takeW 3 rfl (by kernel_rfl) (by kernel_rfl) rfl rfl rfl (fun _ => Ev.move rfl rfl) ?_
                          refine AG.takeW 4 rfl (by kernel_rfl) (by kernel_rfl) rfl rfl rfl (fun _ => Ev.extract rfl rfl rfl) ?_
                          refine AG.takeW 5 rfl (by kernel_rfl) (by kernel_rfl) rfl rfl rfl (fun _ => Ev.extract rfl rfl rfl) ?_
                          refine AG.takeW 6 rfl (by kernel_rfl) (by kernel_rfl) rfl rfl rfl (fun _ => Ev.assign rfl rfl) ?_
                          refine AG.takeW 7 rfl (by kernel_rfl) (by kernel_rfl) rfl rfl rfl (fun _ => Ev.assign rfl rfl) ?_
                          refine AG.done (by kernel_rfl) ?_
                          refine QW.sub (S' := [(1, _), (6, _), (7, _), (8, _), (10, _), (11, _), (13, _), (15, _), (17, _)]) ⟨rfl, rfl, rfl, rfl, rfl, rfl, rfl, rfl, rfl, trivial⟩ ?_
                          refine QW.then_ ?_
                          refine CW.seq ?_
                          have hdr : drawErr (⟨(setupOf f).pl, (setupOf f).og, (setupOf f).pi, (setupOf f).sl, (setupOf f).lo, (setupOf f).hi⟩ : Su) (⟨(readOf (⟨(setupOf f).pl, (setupOf f).og, (setupOf f).pi, (setupOf f).sl, (setupOf f).lo, (setupOf f).hi⟩ : Su) [(⟨(setupOf f).og, (setupOf f).lo, min n (-1)⟩ : Br)]).toArray⟩ : ByteArray).data.toList = 2 := by rw [read_bad _ _ he]; exact draw_empty _
                          refine CW.region ?_
                          refine RG.vl rfl rfl rfl (Ev.move rfl rfl) ?_
                          refine RG.vl rfl rfl rfl (Ev.isT (Ev.eqI rfl rfl rfl) (by omega)) ?_
                          refine RG.vl rfl rfl rfl (Ev.move rfl rfl) ?_
                          refine RG.vl rfl rfl rfl (Ev.move rfl rfl) ?_
                          refine RG.vl rfl rfl rfl (Ev.move rfl rfl) ?_
                          refine RG.vl rfl rfl rfl (Ev.isT (Ev.eqI rfl rfl rfl) (rfl)) ?_
                          refine RG.vl rfl rfl rfl (Ev.pickT rfl rfl rfl) ?_
                          refine RG.vl rfl rfl rfl (Ev.move rfl rfl) ?_
                          refine RG.vl rfl rfl rfl (Ev.move rfl rfl) ?_
                          refine RG.vl rfl rfl rfl (Ev.isT (Ev.eqS rfl rfl rfl) (by rw [read_bad _ _ he])) ?_
                          refine RG.vl rfl rfl rfl (Ev.pickT rfl rfl rfl) ?_
                          refine RG.vl rfl rfl rfl (Ev.move rfl rfl) ?_
                          refine RG.vl rfl rfl rfl (Ev.move rfl rfl) ?_
                          refine RG.vl rfl rfl rfl (Ev.rem8 rfl rfl rfl (by omega)) ?_
                          refine RG.vl rfl rfl rfl (Ev.isT (Ev.geq rfl rfl rfl) (by omega)) ?_
                          refine RG.vl rfl rfl rfl (Ev.move rfl rfl) ?_
                          refine RG.pass rfl rfl rfl ?_
                          refine RG.pass rfl rfl rfl ?_
                          refine RG.pass rfl rfl rfl ?_
                          refine RG.pass rfl rfl rfl ?_
                          refine RG.pass rfl rfl rfl ?_
                          refine RG.pass rfl rfl rfl ?_
                          refine RG.pass rfl rfl rfl ?_
                          refine RG.vl rfl rfl rfl (Ev.pickT rfl rfl rfl) ?_
                          refine RG.vl rfl rfl rfl (Ev.pickT rfl rfl rfl) ?_
                          refine RG.vl rfl rfl rfl (Ev.move rfl rfl) ?_
                          refine RG.vl rfl rfl rfl (Ev.ldAgg rfl rfl Try.underlying23 rfl sz_23 rfl ((hb6.ext hE17).cells)) ?_
                          refine RG.call rfl rfl rfl rfl rfl rfl rfl en_15 (right_yes (setupOf f) _ hok) ?_
                          rintro _ w536 ⟨rfl, hx536⟩
                          replace hE3 := Ex.tr hE3 hx536
                          replace hE5 := Ex.tr hE5 hx536
                          replace hE17 := Ex.tr hE17 hx536
                          replace hE26 := Ex.tr hE26 hx536
                          replace hE501 := Ex.tr hE501 hx536
                          replace hE504 := Ex.tr hE504 hx536
                          replace hE508 := Ex.tr hE508 hx536
                          replace hE510 := Ex.tr hE510 hx536
                          replace hE512 := Ex.tr hE512 hx536
                          replace hE535 := Ex.tr hE535 hx536
                          have hE537 := hx536
                          refine RG.vl rfl rfl rfl (Ev.pickT rfl rfl rfl) ?_
                          refine RG.vl rfl rfl rfl (Ev.move rfl rfl) ?_
                          refine RG.vl rfl rfl rfl (Ev.move rfl rfl) ?_
                          refine RG.vl rfl rfl rfl (Ev.isT (Ev.eqI rfl rfl rfl) (by rw [err_many])) ?_
                          refine RG.vl rfl rfl rfl (Ev.pickT rfl rfl rfl) ?_
                          refine RG.vl rfl rfl rfl (Ev.move rfl rfl) ?_
                          refine RG.call rfl rfl rfl rfl rfl rfl rfl en_9 (awake_ret _) ?_
                          rintro _ w538 ⟨rfl, hx538⟩
                          replace hE3 := Ex.tr hE3 hx538
                          replace hE5 := Ex.tr hE5 hx538
                          replace hE17 := Ex.tr hE17 hx538
                          replace hE26 := Ex.tr hE26 hx538
                          replace hE501 := Ex.tr hE501 hx538
                          replace hE504 := Ex.tr hE504 hx538
                          replace hE508 := Ex.tr hE508 hx538
                          replace hE510 := Ex.tr hE510 hx538
                          replace hE512 := Ex.tr hE512 hx538
                          replace hE535 := Ex.tr hE535 hx538
                          replace hE537 := Ex.tr hE537 hx538
                          have hE539 := hx538
                          refine RG.vl rfl rfl rfl (Ev.pickT rfl rfl rfl) ?_
                          refine RG.vl rfl rfl rfl (Ev.assign rfl rfl) ?_
                          refine RG.done ?_
                          refine QW.sub (S' := [(6, _)]) ⟨rfl, trivial⟩ ?_
                          refine QW.then_ ?_
                          refine CW.ret ?_
                          refine QW.ret1 rfl rfl ?_
                          have hB := (Ex.tr hB0 hE3)
                          exact ⟨rfl, hB⟩
                        · refine CW.skip ?_
                          refine QW.blockN ?_
                          refine QW.then_ ?_
                          refine CW.seq ?_
                          exfalso; omega

end Go.Proofs.Ytnecppiamecemaa
