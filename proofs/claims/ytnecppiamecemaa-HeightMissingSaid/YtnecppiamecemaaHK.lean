/- Walks (HK). Written by program. -/
import Derived.Test.YtnecppiamecemaaT
import Derived.Test.YtnecppiamecemaaHJ
namespace Go.Proofs.Ytnecppiamecemaa
open Go.RowKit
set_option maxRecDepth 100000 in
set_option maxHeartbeats 1000000 in
theorem heightWrong_ret (f : Fm) (y n : Int) (w : World) (hf : f.Ok) (hy : 0 ≤ y ∧ y ≤ 255) :
    Ret Try.prog 7 [f.v, .int .u8 y, .int .i64 n] w (fun v w' => v = .bool true ∧ Ex w w') := by
  have hB0 : Ex w w := Ex.rfl_ _
  refine Ret.of Try.func7 rfl Try.ntmps7 rfl ?_
  refine CW.seq ?_
  refine CW.region ?_
  refine RG.box rfl rfl rfl rfl rfl (fun g1 w1 eg1 hx1 hb1 => ?_)
  have hE2 := hx1
  refine RG.vl rfl rfl rfl (Ev.assign rfl rfl) ?_
  refine RG.done ?_
  refine QW.then_ ?_
  refine CW.seq ?_
  refine CW.region ?_
  refine RG.vl rfl rfl rfl (Ev.ldAgg rfl rfl Try.underlying51 rfl sz_51 rfl (hb1.cells)) ?_
  refine RG.call rfl rfl rfl rfl rfl rfl rfl en_20 (setup_ret f _ hf) ?_
  rintro _ w3 ⟨rfl, hx3⟩
  replace hE2 := Ex.tr hE2 hx3
  have hE4 := hx3
  refine RG.local_ rfl rfl rfl rfl (fun _ => rfl) rfl rfl (fun _ => rfl) inf_23 rfl rfl rfl (fun gS w5 egS hx5 hb5 => ?_)
  have hle6 : w.heap.size ≤ gS := by have := hE2.size; omega
  have hle7 : w1.heap.size ≤ gS := by have := hE4.size; omega
  have hle8 : w3.heap.size ≤ gS := by have := (Ex.rfl_ w3).size; omega
  have hlt9 : g1 < gS := by have := Blk.lt (hb1.ext hE4); omega
  replace hE2 := Ex.tr hE2 hx5
  replace hE4 := Ex.tr hE4 hx5
  refine RG.done ?_
  refine QW.then_ ?_
  refine CW.seq ?_
  refine CW.region ?_
  refine RG.vl rfl rfl rfl (Ev.ldAgg rfl rfl Try.underlying23 rfl sz_23 rfl (hb5.cells)) ?_
  refine RG.local_ rfl rfl rfl rfl (fun _ => rfl) rfl rfl (fun _ => rfl) inf_23 rfl rfl rfl (fun gB w10 egB hx10 hb10 => ?_)
  have hle11 : w.heap.size ≤ gB := by have := hE2.size; omega
  have hle12 : w1.heap.size ≤ gB := by have := hE4.size; omega
  have hle13 : w5.heap.size ≤ gB := by have := (Ex.rfl_ w5).size; omega
  have hlt14 : g1 < gB := by have := Blk.lt (hb1.ext hE4); omega
  have hlt15 : gS < gB := by have := Blk.lt hb5; omega
  replace hE2 := Ex.tr hE2 hx10
  replace hE4 := Ex.tr hE4 hx10
  have hE16 := hx10
  refine RG.done ?_
  refine QW.then_ ?_
  refine CW.seq ?_
  refine CW.region ?_
  refine RG.vl rfl rfl rfl (Ev.fld rfl rfl fld_23_1) ?_
  refine RG.vl rfl rfl rfl (Ev.ldAt rfl rfl Try.underlying3 rfl ((hb5.ext hE16).cells) (rfl)) ?_
  refine RG.vl rfl rfl rfl (Ev.fld rfl rfl fld_23_4) ?_
  refine RG.vl rfl rfl rfl (Ev.ldAt rfl rfl Try.underlying3 rfl ((hb5.ext hE16).cells) (rfl)) ?_
  refine RG.vl rfl rfl rfl (Ev.fld rfl rfl fld_23_5) ?_
  refine RG.vl rfl rfl rfl (Ev.ldAt rfl rfl Try.underlying3 rfl ((hb5.ext hE16).cells) (rfl)) ?_
  refine RG.vl rfl rfl rfl (Ev.build1 rfl rfl rfl inf_48 rfl rfl (by kernel_rfl) rfl) ?_
  refine RG.local_ rfl rfl rfl rfl (fun _ => rfl) rfl rfl (fun _ => rfl) inf_48 rfl rfl rfl (fun gR w17 egR hx17 hb17 => ?_)
  have hle18 : w.heap.size ≤ gR := by have := hE2.size; omega
  have hle19 : w1.heap.size ≤ gR := by have := hE4.size; omega
  have hle20 : w5.heap.size ≤ gR := by have := hE16.size; omega
  have hle21 : w10.heap.size ≤ gR := by have := (Ex.rfl_ w10).size; omega
  have hlt22 : g1 < gR := by have := Blk.lt (hb1.ext hE4); omega
  have hlt23 : gS < gR := by have := Blk.lt (hb5.ext hE16); omega
  have hlt24 : gB < gR := by have := Blk.lt hb10; omega
  replace hE2 := Ex.tr hE2 hx17
  replace hE4 := Ex.tr hE4 hx17
  replace hE16 := Ex.tr hE16 hx17
  have hE25 := hx17
  refine RG.done ?_
  refine QW.sub (S' := [(1, _), (2, _), (6, _), (7, _), (8, _), (9, _)]) ⟨rfl, rfl, rfl, rfl, rfl, rfl, trivial⟩ ?_
  refine QW.then_ ?_
  refine CW.seq ?_
  refine CW.seq ?_
  have hok := setup_okay f hf
  obtain ⟨a1, a2, a3, a4, a5, a6, a7, a8, a9, a10, a11⟩ := id hok
  refine CW.region ?_
  refine RG.vl rfl rfl rfl (Ev.move rfl rfl) ?_
  refine RG.vl rfl rfl rfl (Ev.rem8 rfl rfl rfl (by omega)) ?_
  refine RG.done ?_
  refine QW.then_ ?_
  refine CW.block ?_
  refine CW.seq ?_
  refine CW.region ?_
  refine RG.vl rfl rfl rfl (Ev.eqI rfl rfl rfl) ?_
  refine RG.vl rfl rfl rfl (Ev.assign rfl rfl) ?_
  refine RG.done ?_
  refine QW.then_ ?_
  refine CW.condP rfl (fun hc26 => ?_) (fun hc26 => ?_)
  · refine CW.region ?_
    refine RG.vl rfl rfl rfl (Ev.move rfl rfl) ?_
    refine RG.vl rfl rfl rfl (Ev.min2 rfl rfl rfl rfl) ?_
    refine RG.vl rfl rfl rfl (Ev.fld rfl rfl fld_23_0) ?_
    refine RG.st (g := gB) (k := 0) rfl rfl rfl rfl rfl sz_3 rfl (hb10.ext hE25) rfl (fun ws27 hwws27 hbws27 => ?_)
    replace hb17 := Blk.far hb17 hwws27 (by omega)
    replace hE2 := Wr.below hE2 hwws27 hle11
    replace hE4 := Wr.below hE4 hwws27 hle12
    replace hE16 := Wr.below hE16 hwws27 hle13
    refine RG.done ?_
    refine QW.blockN ?_
    refine QW.then_ ?_
    refine CW.seq ?_
    have hno : ¬ Okay (⟨min n 0, (setupOf f).og, (setupOf f).pi, (setupOf f).sl, (setupOf f).lo, (setupOf f).hi⟩ : Su) := by intro h; unfold Okay at h; simp only at h; omega
    have he : errOf (⟨min n 0, (setupOf f).og, (setupOf f).pi, (setupOf f).sl, (setupOf f).lo, (setupOf f).hi⟩ : Su) [(⟨(setupOf f).og, (setupOf f).lo, (setupOf f).hi⟩ : Br)] = 2 := err_setup _ _ hno
    refine CW.region ?_
    refine RG.vl rfl rfl rfl (Ev.ldAgg rfl rfl Try.underlying23 rfl sz_23 rfl (hbws27.cells)) ?_
    refine RG.vl rfl rfl rfl (Ev.ldAgg rfl rfl Try.underlying48 rfl sz_48 rfl (hb17.cells)) ?_
    refine RG.buildD (xs := [.tmp 98]) rfl rfl rfl rfl rfl rfl rfl Try.underlying24 inf_48 rfl rfl rfl rfl (fun g28 w28 eg28 hx28 hb28 => ?_)
    replace hE2 := Ex.tr hE2 hx28
    replace hE4 := Ex.tr hE4 hx28
    replace hE16 := Ex.tr hE16 hx28
    have hE29 := hx28
    have hlit30 : RdL w28 3 Br.c (.slice (some ⟨g28, 0, none⟩) 1 1) ([(⟨(setupOf f).og, (setupOf f).lo, (setupOf f).hi⟩ : Br)]) := RdL.of_blk Br.c_len (l := [(⟨(setupOf f).og, (setupOf f).lo, (setupOf f).hi⟩ : Br)]) hb28 (Nat.le_refl _) (by decide)
    refine RG.call rfl rfl rfl rfl rfl rfl rfl en_10 (read_ret (⟨min n 0, (setupOf f).og, (setupOf f).pi, (setupOf f).sl, (setupOf f).lo, (setupOf f).hi⟩ : Su) _ [(⟨(setupOf f).og, (setupOf f).lo, (setupOf f).hi⟩ : Br)] _ (hlit30) (by simp)) ?_
    rintro _ w31 ⟨rfl, hx31⟩
    replace hE2 := Ex.tr hE2 hx31
    replace hE4 := Ex.tr hE4 hx31
    replace hE16 := Ex.tr hE16 hx31
    replace hE29 := Ex.tr hE29 hx31
    have hE32 := hx31
    refine RG.vl rfl rfl rfl (Ev.move rfl rfl) ?_
    refine RG.vl rfl rfl rfl (Ev.extract rfl rfl rfl) ?_
    refine RG.vl rfl rfl rfl (Ev.extract rfl rfl rfl) ?_
    refine RG.vl rfl rfl rfl (Ev.assign rfl rfl) ?_
    refine RG.vl rfl rfl rfl (Ev.assign rfl rfl) ?_
    refine RG.done ?_
    refine QW.sub (S' := [(1, _), (6, _), (7, _), (8, _), (9, _), (10, _), (11, _)]) ⟨rfl, rfl, rfl, rfl, rfl, rfl, rfl, trivial⟩ ?_
    refine QW.then_ ?_
    refine CW.seq ?_
    refine CW.region ?_
    refine RG.vl rfl rfl rfl (Ev.ldAgg rfl rfl Try.underlying23 rfl sz_23 rfl ((hbws27.ext hE29).cells)) ?_
    refine RG.vl rfl rfl rfl (Ev.ldAgg rfl rfl Try.underlying48 rfl sz_48 rfl ((hb17.ext hE29).cells)) ?_
    refine RG.buildD (xs := [.tmp 105]) rfl rfl rfl rfl rfl rfl rfl Try.underlying24 inf_48 rfl rfl rfl rfl (fun g33 w33 eg33 hx33 hb33 => ?_)
    replace hE2 := Ex.tr hE2 hx33
    replace hE4 := Ex.tr hE4 hx33
    replace hE16 := Ex.tr hE16 hx33
    replace hE29 := Ex.tr hE29 hx33
    replace hE32 := Ex.tr hE32 hx33
    have hlit34 : RdL w33 3 Br.c (.slice (some ⟨g33, 0, none⟩) 1 1) ([(⟨(setupOf f).og, (setupOf f).lo, (setupOf f).hi⟩ : Br)]) := RdL.of_blk Br.c_len (l := [(⟨(setupOf f).og, (setupOf f).lo, (setupOf f).hi⟩ : Br)]) hb33 (Nat.le_refl _) (by decide)
    refine RG.call rfl rfl rfl rfl rfl rfl rfl en_11 (margin_ret (⟨min n 0, (setupOf f).og, (setupOf f).pi, (setupOf f).sl, (setupOf f).lo, (setupOf f).hi⟩ : Su) _ [(⟨(setupOf f).og, (setupOf f).lo, (setupOf f).hi⟩ : Br)] _ (hlit34) (by simp)) ?_
    rintro _ w35 ⟨rfl, hx35⟩
    replace hE2 := Ex.tr hE2 hx35
    replace hE4 := Ex.tr hE4 hx35
    replace hE16 := Ex.tr hE16 hx35
    replace hE29 := Ex.tr hE29 hx35
    replace hE32 := Ex.tr hE32 hx35
    have hE36 := hx35
    refine RG.vl rfl rfl rfl (Ev.move rfl rfl) ?_
    refine RG.vl rfl rfl rfl (Ev.extract rfl rfl rfl) ?_
    refine RG.vl rfl rfl rfl (Ev.extract rfl rfl rfl) ?_
    refine RG.vl rfl rfl rfl (Ev.assign rfl rfl) ?_
    refine RG.vl rfl rfl rfl (Ev.assign rfl rfl) ?_
    refine RG.done ?_
    refine QW.then_ ?_
    refine CW.seq ?_
    refine CW.region ?_
    refine RG.vl rfl rfl rfl (Ev.ldAgg rfl rfl Try.underlying23 rfl sz_23 rfl ((hbws27.ext hE29).cells)) ?_
    refine RG.vl rfl rfl rfl (Ev.move rfl rfl) ?_
    refine RG.call rfl rfl rfl rfl rfl rfl rfl en_18 (draw_ret (⟨min n 0, (setupOf f).og, (setupOf f).pi, (setupOf f).sl, (setupOf f).lo, (setupOf f).hi⟩ : Su) _ _ (by rw [read_bad _ _ he]; decide)) ?_
    rintro _ w37 ⟨dr37, rfl, hdr37, hx37⟩
    replace hE2 := Ex.tr hE2 hx37
    replace hE4 := Ex.tr hE4 hx37
    replace hE16 := Ex.tr hE16 hx37
    replace hE29 := Ex.tr hE29 hx37
    replace hE32 := Ex.tr hE32 hx37
    replace hE36 := Ex.tr hE36 hx37
    refine RG.vl rfl rfl rfl (Ev.move rfl rfl) ?_
    refine RG.vl rfl rfl rfl (Ev.extract rfl rfl rfl) ?_
    refine RG.vl rfl rfl rfl (Ev.extract rfl rfl rfl) ?_
    refine RG.vl rfl rfl rfl (Ev.assign rfl rfl) ?_
    refine RG.vl rfl rfl rfl (Ev.assign rfl rfl) ?_
    refine RG.done ?_
    refine QW.sub (S' := [(1, _), (6, _), (7, _), (8, _), (10, _), (11, _), (13, _), (15, _)]) ⟨rfl, rfl, rfl, rfl, rfl, rfl, rfl, rfl, trivial⟩ ?_
    refine QW.then_ ?_
    refine CW.seq ?_
    refine CW.draw [] (.ex) 8 rfl mixed (fun wd38 hxwd38 => ?_)
    replace hE2 := Ex.tr hE2 hxwd38
    replace hE4 := Ex.tr hE4 hxwd38
    replace hE16 := Ex.tr hE16 hxwd38
    replace hE29 := Ex.tr hE29 hxwd38
    replace hE32 := Ex.tr hE32 hxwd38
    replace hE36 := Ex.tr hE36 hxwd38
    have hE39 := hxwd38
    refine AG.take 0 rfl (by kernel_rfl) (by kernel_rfl) rfl rfl rfl (fun wq hq => Ev.ldAgg rfl rfl Try.underlying23 rfl sz_23 rfl (((hbws27.ext hE29).ext hq).cells)) ?_
    refine AG.only 1 rfl (by kernel_rfl) ?_
    refine RG.makeL (m := 401) (enc := Br.c) (⟨0, 0, 0⟩ : Br) rfl rfl rfl rfl rfl rfl (rfl) Try.underlying24 inf_48 Br.c_len rfl rfl (by omega) (by simp only [maxLen]; omega) (fun g41 w41 eg41 hx41 hb41 hmk42 => ?_)
    have hle43 : w.heap.size ≤ g41 := by have := hE2.size; omega
    have hle44 : w1.heap.size ≤ g41 := by have := hE4.size; omega
    have hle45 : w5.heap.size ≤ g41 := by have := hE16.size; omega
    have hle46 : ws27.heap.size ≤ g41 := by have := hE29.size; omega
    have hle47 : w28.heap.size ≤ g41 := by have := hE32.size; omega
    have hle48 : w33.heap.size ≤ g41 := by have := hE36.size; omega
    have hle49 : w37.heap.size ≤ g41 := by have := hE39.size; omega
    have hle50 : wd38.heap.size ≤ g41 := by have := (Ex.rfl_ wd38).size; omega
    have hlt51 : g1 < g41 := by have := Blk.lt (hb1.ext hE4); omega
    have hlt52 : gS < g41 := by have := Blk.lt (hb5.ext hE16); omega
    have hlt53 : gR < g41 := by have := Blk.lt (hb17.ext hE29); omega
    have hlt54 : gB < g41 := by have := Blk.lt (hbws27.ext hE29); omega
    have hlt55 : g28 < g41 := by have := Blk.lt (hb28.ext hE32); omega
    have hlt56 : g33 < g41 := by have := Blk.lt (hb33.ext hE36); omega
    replace hE2 := Ex.tr hE2 hx41
    replace hE4 := Ex.tr hE4 hx41
    replace hE16 := Ex.tr hE16 hx41
    replace hE29 := Ex.tr hE29 hx41
    replace hE32 := Ex.tr hE32 hx41
    replace hE36 := Ex.tr hE36 hx41
    replace hE39 := Ex.tr hE39 hx41
    have hE57 := hx41
    refine RG.done ?_
    refine QW.an (fun _ => hE57) ?_
    refine AG.only 2 rfl (by kernel_rfl) ?_
    refine RG.call rfl rfl rfl rfl rfl rfl rfl en_10 (read_ret (⟨min n 0, (setupOf f).og, (setupOf f).pi, (setupOf f).sl, (setupOf f).lo, (setupOf f).hi⟩ : Su) _ (List.replicate 401 ⟨0, 0, 0⟩) _ (hmk42) (by rw [List.length_replicate]; decide)) ?_
    rintro _ w59 ⟨rfl, hx59⟩
    replace hE2 := Ex.tr hE2 hx59
    replace hE4 := Ex.tr hE4 hx59
    replace hE16 := Ex.tr hE16 hx59
    replace hE29 := Ex.tr hE29 hx59
    replace hE32 := Ex.tr hE32 hx59
    replace hE36 := Ex.tr hE36 hx59
    replace hE39 := Ex.tr hE39 hx59
    have hE60 := hx59
    refine RG.done ?_
    refine QW.an (fun _ => hE60) ?_
    refine AG.takeW 3 rfl (by kernel_rfl) (by kernel_rfl) rfl rfl rfl (fun _ => Ev.move rfl rfl) ?_
    refine AG.takeW 4 rfl (by kernel_rfl) (by kernel_rfl) rfl rfl rfl (fun _ => Ev.extract rfl rfl rfl) ?_
    refine AG.takeW 5 rfl (by kernel_rfl) (by kernel_rfl) rfl rfl rfl (fun _ => Ev.extract rfl rfl rfl) ?_
    refine AG.takeW 6 rfl (by kernel_rfl) (by kernel_rfl) rfl rfl rfl (fun _ => Ev.assign rfl rfl) ?_
    refine AG.takeW 7 rfl (by kernel_rfl) (by kernel_rfl) rfl rfl rfl (fun _ => Ev.assign rfl rfl) ?_
    refine AG.done (by kernel_rfl) ?_
    refine QW.then_ ?_
    refine CW.seq ?_
    have hdr : drawErr (⟨min n 0, (setupOf f).og, (setupOf f).pi, (setupOf f).sl, (setupOf f).lo, (setupOf f).hi⟩ : Su) (⟨(readOf (⟨min n 0, (setupOf f).og, (setupOf f).pi, (setupOf f).sl, (setupOf f).lo, (setupOf f).hi⟩ : Su) [(⟨(setupOf f).og, (setupOf f).lo, (setupOf f).hi⟩ : Br)]).toArray⟩ : ByteArray).data.toList = 2 := by rw [read_bad _ _ he]; exact draw_empty _
    refine CW.region ?_
    refine RG.vl rfl rfl rfl (Ev.move rfl rfl) ?_
    refine RG.vl rfl rfl rfl (Ev.isT (Ev.eqI rfl rfl rfl) (by omega)) ?_
    refine RG.vl rfl rfl rfl (Ev.move rfl rfl) ?_
    refine RG.vl rfl rfl rfl (Ev.move rfl rfl) ?_
    refine RG.vl rfl rfl rfl (Ev.move rfl rfl) ?_
    refine RG.vl rfl rfl rfl (Ev.isT (Ev.eqI rfl rfl rfl) (rfl)) ?_
    refine RG.vl rfl rfl rfl (Ev.pickT rfl rfl rfl) ?_
    refine RG.vl rfl rfl rfl (Ev.move rfl rfl) ?_
    refine RG.vl rfl rfl rfl (Ev.move rfl rfl) ?_
    refine RG.vl rfl rfl rfl (Ev.isT (Ev.eqS rfl rfl rfl) (by rw [read_bad _ _ he])) ?_
    refine RG.vl rfl rfl rfl (Ev.pickT rfl rfl rfl) ?_
    refine RG.vl rfl rfl rfl (Ev.move rfl rfl) ?_
    refine RG.vl rfl rfl rfl (Ev.move rfl rfl) ?_
    refine RG.vl rfl rfl rfl (Ev.rem8 rfl rfl rfl (by omega)) ?_
    refine RG.vl rfl rfl rfl (Ev.isF (Ev.geq rfl rfl rfl) (by omega)) ?_
    refine RG.vl rfl rfl rfl (Ev.move rfl rfl) ?_
    refine RG.vl rfl rfl rfl (Ev.move rfl rfl) ?_
    refine RG.vl rfl rfl rfl (Ev.isT (Ev.eqI rfl rfl rfl) (hdr)) ?_
    refine RG.vl rfl rfl rfl (Ev.move rfl rfl) ?_
    refine RG.vl rfl rfl rfl (Ev.ldAgg rfl rfl Try.underlying23 rfl sz_23 rfl ((hbws27.ext hE29).cells)) ?_
    refine RG.call rfl rfl rfl rfl rfl rfl rfl en_15 (right_no (⟨min n 0, (setupOf f).og, (setupOf f).pi, (setupOf f).sl, (setupOf f).lo, (setupOf f).hi⟩ : Su) _ hno) ?_
    rintro _ w61 ⟨rfl, hx61⟩
    replace hE2 := Ex.tr hE2 hx61
    replace hE4 := Ex.tr hE4 hx61
    replace hE16 := Ex.tr hE16 hx61
    replace hE29 := Ex.tr hE29 hx61
    replace hE32 := Ex.tr hE32 hx61
    replace hE36 := Ex.tr hE36 hx61
    replace hE39 := Ex.tr hE39 hx61
    replace hE60 := Ex.tr hE60 hx61
    refine RG.vl rfl rfl rfl (Ev.notT rfl rfl) ?_
    refine RG.vl rfl rfl rfl (Ev.pickT rfl rfl rfl) ?_
    refine RG.vl rfl rfl rfl (Ev.pickF rfl rfl rfl) ?_
    refine RG.vl rfl rfl rfl (Ev.pickT rfl rfl rfl) ?_
    refine RG.vl rfl rfl rfl (Ev.move rfl rfl) ?_
    refine RG.vl rfl rfl rfl (Ev.ldAgg rfl rfl Try.underlying23 rfl sz_23 rfl ((hb5.ext hE16).cells)) ?_
    refine RG.call rfl rfl rfl rfl rfl rfl rfl en_15 (right_yes (setupOf f) _ hok) ?_
    rintro _ w62 ⟨rfl, hx62⟩
    replace hE2 := Ex.tr hE2 hx62
    replace hE4 := Ex.tr hE4 hx62
    replace hE16 := Ex.tr hE16 hx62
    replace hE29 := Ex.tr hE29 hx62
    replace hE32 := Ex.tr hE32 hx62
    replace hE36 := Ex.tr hE36 hx62
    replace hE39 := Ex.tr hE39 hx62
    replace hE60 := Ex.tr hE60 hx62
    refine RG.vl rfl rfl rfl (Ev.pickT rfl rfl rfl) ?_
    refine RG.vl rfl rfl rfl (Ev.move rfl rfl) ?_
    refine RG.vl rfl rfl rfl (Ev.move rfl rfl) ?_
    refine RG.vl rfl rfl rfl (Ev.isT (Ev.eqI rfl rfl rfl) (by rw [err_many])) ?_
    refine RG.vl rfl rfl rfl (Ev.pickT rfl rfl rfl) ?_
    refine RG.vl rfl rfl rfl (Ev.move rfl rfl) ?_
    refine RG.call rfl rfl rfl rfl rfl rfl rfl en_9 (awake_ret _) ?_
    rintro _ w63 ⟨rfl, hx63⟩
    replace hE2 := Ex.tr hE2 hx63
    replace hE4 := Ex.tr hE4 hx63
    replace hE16 := Ex.tr hE16 hx63
    replace hE29 := Ex.tr hE29 hx63
    replace hE32 := Ex.tr hE32 hx63
    replace hE36 := Ex.tr hE36 hx63
    replace hE39 := Ex.tr hE39 hx63
    replace hE60 := Ex.tr hE60 hx63
    refine RG.vl rfl rfl rfl (Ev.pickT rfl rfl rfl) ?_
    refine RG.vl rfl rfl rfl (Ev.assign rfl rfl) ?_
    refine RG.done ?_
    refine QW.sub (S' := [(6, _)]) ⟨rfl, trivial⟩ ?_
    refine QW.then_ ?_
    refine CW.ret ?_
    refine QW.ret1 rfl rfl ?_
    have hB := (Ex.tr hB0 hE2)
    exact ⟨rfl, hB⟩
  · refine CW.seq ?_
    refine CW.region ?_
    refine RG.vl rfl rfl rfl (Ev.eqI rfl rfl rfl) ?_
    refine RG.vl rfl rfl rfl (Ev.assign rfl rfl) ?_
    refine RG.done ?_
    refine QW.then_ ?_
    refine CW.condP rfl (fun hc64 => ?_) (fun hc64 => ?_)
    · refine CW.region ?_
      refine RG.vl rfl rfl rfl (Ev.move rfl rfl) ?_
      refine RG.vl rfl rfl rfl (Ev.max2 rfl rfl rfl rfl) ?_
      refine RG.vl rfl rfl rfl (Ev.fld rfl rfl fld_23_0) ?_
      refine RG.st (g := gB) (k := 0) rfl rfl rfl rfl rfl sz_3 rfl (hb10.ext hE25) rfl (fun ws65 hwws65 hbws65 => ?_)
      replace hb17 := Blk.far hb17 hwws65 (by omega)
      replace hE2 := Wr.below hE2 hwws65 hle11
      replace hE4 := Wr.below hE4 hwws65 hle12
      replace hE16 := Wr.below hE16 hwws65 hle13
      refine RG.done ?_
      refine QW.blockN ?_
      refine QW.then_ ?_
      refine CW.seq ?_
      have hno : ¬ Okay (⟨max n 201, (setupOf f).og, (setupOf f).pi, (setupOf f).sl, (setupOf f).lo, (setupOf f).hi⟩ : Su) := by intro h; unfold Okay at h; simp only at h; omega
      have he : errOf (⟨max n 201, (setupOf f).og, (setupOf f).pi, (setupOf f).sl, (setupOf f).lo, (setupOf f).hi⟩ : Su) [(⟨(setupOf f).og, (setupOf f).lo, (setupOf f).hi⟩ : Br)] = 2 := err_setup _ _ hno
      refine CW.region ?_
      refine RG.vl rfl rfl rfl (Ev.ldAgg rfl rfl Try.underlying23 rfl sz_23 rfl (hbws65.cells)) ?_
      refine RG.vl rfl rfl rfl (Ev.ldAgg rfl rfl Try.underlying48 rfl sz_48 rfl (hb17.cells)) ?_
      refine RG.buildD (xs := [.tmp 98]) rfl rfl rfl rfl rfl rfl rfl Try.underlying24 inf_48 rfl rfl rfl rfl (fun g66 w66 eg66 hx66 hb66 => ?_)
      replace hE2 := Ex.tr hE2 hx66
      replace hE4 := Ex.tr hE4 hx66
      replace hE16 := Ex.tr hE16 hx66
      have hE67 := hx66
      have hlit68 : RdL w66 3 Br.c (.slice (some ⟨g66, 0, none⟩) 1 1) ([(⟨(setupOf f).og, (setupOf f).lo, (setupOf f).hi⟩ : Br)]) := RdL.of_blk Br.c_len (l := [(⟨(setupOf f).og, (setupOf f).lo, (setupOf f).hi⟩ : Br)]) hb66 (Nat.le_refl _) (by decide)
      refine RG.call rfl rfl rfl rfl rfl rfl rfl en_10 (read_ret (⟨max n 201, (setupOf f).og, (setupOf f).pi, (setupOf f).sl, (setupOf f).lo, (setupOf f).hi⟩ : Su) _ [(⟨(setupOf f).og, (setupOf f).lo, (setupOf f).hi⟩ : Br)] _ (hlit68) (by simp)) ?_
      rintro _ w69 ⟨rfl, hx69⟩
      replace hE2 := Ex.tr hE2 hx69
      replace hE4 := Ex.tr hE4 hx69
      replace hE16 := Ex.tr hE16 hx69
      replace hE67 := Ex.tr hE67 hx69
      have hE70 := hx69
      refine RG.vl rfl rfl rfl (Ev.move rfl rfl) ?_
      refine RG.vl rfl rfl rfl (Ev.extract rfl rfl rfl) ?_
      refine RG.vl rfl rfl rfl (Ev.extract rfl rfl rfl) ?_
      refine RG.vl rfl rfl rfl (Ev.assign rfl rfl) ?_
      refine RG.vl rfl rfl rfl (Ev.assign rfl rfl) ?_
      refine RG.done ?_
      refine QW.sub (S' := [(1, _), (6, _), (7, _), (8, _), (9, _), (10, _), (11, _)]) ⟨rfl, rfl, rfl, rfl, rfl, rfl, rfl, trivial⟩ ?_
      refine QW.then_ ?_
      refine CW.seq ?_
      refine CW.region ?_
      refine RG.vl rfl rfl rfl (Ev.ldAgg rfl rfl Try.underlying23 rfl sz_23 rfl ((hbws65.ext hE67).cells)) ?_
      refine RG.vl rfl rfl rfl (Ev.ldAgg rfl rfl Try.underlying48 rfl sz_48 rfl ((hb17.ext hE67).cells)) ?_
      refine RG.buildD (xs := [.tmp 105]) rfl rfl rfl rfl rfl rfl rfl Try.underlying24 inf_48 rfl rfl rfl rfl (fun g71 w71 eg71 hx71 hb71 => ?_)
      replace hE2 := Ex.tr hE2 hx71
      replace hE4 := Ex.tr hE4 hx71
      replace hE16 := Ex.tr hE16 hx71
      replace hE67 := Ex.tr hE67 hx71
      replace hE70 := Ex.tr hE70 hx71
      have hlit72 : RdL w71 3 Br.c (.slice (some ⟨g71, 0, none⟩) 1 1) ([(⟨(setupOf f).og, (setupOf f).lo, (setupOf f).hi⟩ : Br)]) := RdL.of_blk Br.c_len (l := [(⟨(setupOf f).og, (setupOf f).lo, (setupOf f).hi⟩ : Br)]) hb71 (Nat.le_refl _) (by decide)
      refine RG.call rfl rfl rfl rfl rfl rfl rfl en_11 (margin_ret (⟨max n 201, (setupOf f).og, (setupOf f).pi, (setupOf f).sl, (setupOf f).lo, (setupOf f).hi⟩ : Su) _ [(⟨(setupOf f).og, (setupOf f).lo, (setupOf f).hi⟩ : Br)] _ (hlit72) (by simp)) ?_
      rintro _ w73 ⟨rfl, hx73⟩
      replace hE2 := Ex.tr hE2 hx73
      replace hE4 := Ex.tr hE4 hx73
      replace hE16 := Ex.tr hE16 hx73
      replace hE67 := Ex.tr hE67 hx73
      replace hE70 := Ex.tr hE70 hx73
      have hE74 := hx73
      refine RG.vl rfl rfl rfl (Ev.move rfl rfl) ?_
      refine RG.vl rfl rfl rfl (Ev.extract rfl rfl rfl) ?_
      refine RG.vl rfl rfl rfl (Ev.extract rfl rfl rfl) ?_
      refine RG.vl rfl rfl rfl (Ev.assign rfl rfl) ?_
      refine RG.vl rfl rfl rfl (Ev.assign rfl rfl) ?_
      refine RG.done ?_
      refine QW.then_ ?_
      refine CW.seq ?_
      refine CW.region ?_
      refine RG.vl rfl rfl rfl (Ev.ldAgg rfl rfl Try.underlying23 rfl sz_23 rfl ((hbws65.ext hE67).cells)) ?_
      refine RG.vl rfl rfl rfl (Ev.move rfl rfl) ?_
      refine RG.call rfl rfl rfl rfl rfl rfl rfl en_18 (draw_ret (⟨max n 201, (setupOf f).og, (setupOf f).pi, (setupOf f).sl, (setupOf f).lo, (setupOf f).hi⟩ : Su) _ _ (by rw [read_bad _ _ he]; decide)) ?_
      rintro _ w75 ⟨dr75, rfl, hdr75, hx75⟩
      replace hE2 := Ex.tr hE2 hx75
      replace hE4 := Ex.tr hE4 hx75
      replace hE16 := Ex.tr hE16 hx75
      replace hE67 := Ex.tr hE67 hx75
      replace hE70 := Ex.tr hE70 hx75
      replace hE74 := Ex.tr hE74 hx75
      refine RG.vl rfl rfl rfl (Ev.move rfl rfl) ?_
      refine RG.vl rfl rfl rfl (Ev.extract rfl rfl rfl) ?_
      refine RG.vl rfl rfl rfl (Ev.extract rfl rfl rfl) ?_
      refine RG.vl rfl rfl rfl (Ev.assign rfl rfl) ?_
      refine RG.vl rfl rfl rfl (Ev.assign rfl rfl) ?_
      refine RG.done ?_
      refine QW.sub (S' := [(1, _), (6, _), (7, _), (8, _), (10, _), (11, _), (13, _), (15, _)]) ⟨rfl, rfl, rfl, rfl, rfl, rfl, rfl, rfl, trivial⟩ ?_
      refine QW.then_ ?_
      refine CW.seq ?_
      refine CW.draw [] (.ex) 8 rfl mixed (fun wd76 hxwd76 => ?_)
      replace hE2 := Ex.tr hE2 hxwd76
      replace hE4 := Ex.tr hE4 hxwd76
      replace hE16 := Ex.tr hE16 hxwd76
      replace hE67 := Ex.tr hE67 hxwd76
      replace hE70 := Ex.tr hE70 hxwd76
      replace hE74 := Ex.tr hE74 hxwd76
      have hE77 := hxwd76
      refine AG.take 0 rfl (by kernel_rfl) (by kernel_rfl) rfl rfl rfl (fun wq hq => Ev.ldAgg rfl rfl Try.underlying23 rfl sz_23 rfl (((hbws65.ext hE67).ext hq).cells)) ?_
      refine AG.only 1 rfl (by kernel_rfl) ?_
      refine RG.makeL (m := 401) (enc := Br.c) (⟨0, 0, 0⟩ : Br) rfl rfl rfl rfl rfl rfl (rfl) Try.underlying24 inf_48 Br.c_len rfl rfl (by omega) (by simp only [maxLen]; omega) (fun g79 w79 eg79 hx79 hb79 hmk80 => ?_)
      have hle81 : w.heap.size ≤ g79 := by have := hE2.size; omega
      have hle82 : w1.heap.size ≤ g79 := by have := hE4.size; omega
      have hle83 : w5.heap.size ≤ g79 := by have := hE16.size; omega
      have hle84 : ws65.heap.size ≤ g79 := by have := hE67.size; omega
      have hle85 : w66.heap.size ≤ g79 := by have := hE70.size; omega
      have hle86 : w71.heap.size ≤ g79 := by have := hE74.size; omega
      have hle87 : w75.heap.size ≤ g79 := by have := hE77.size; omega
      have hle88 : wd76.heap.size ≤ g79 := by have := (Ex.rfl_ wd76).size; omega
      have hlt89 : g1 < g79 := by have := Blk.lt (hb1.ext hE4); omega
      have hlt90 : gS < g79 := by have := Blk.lt (hb5.ext hE16); omega
      have hlt91 : gR < g79 := by have := Blk.lt (hb17.ext hE67); omega
      have hlt92 : gB < g79 := by have := Blk.lt (hbws65.ext hE67); omega
      have hlt93 : g66 < g79 := by have := Blk.lt (hb66.ext hE70); omega
      have hlt94 : g71 < g79 := by have := Blk.lt (hb71.ext hE74); omega
      replace hE2 := Ex.tr hE2 hx79
      replace hE4 := Ex.tr hE4 hx79
      replace hE16 := Ex.tr hE16 hx79
      replace hE67 := Ex.tr hE67 hx79
      replace hE70 := Ex.tr hE70 hx79
      replace hE74 := Ex.tr hE74 hx79
      replace hE77 := Ex.tr hE77 hx79
      have hE95 := hx79
      refine RG.done ?_
      refine QW.an (fun _ => hE95) ?_
      refine AG.only 2 rfl (by kernel_rfl) ?_
      refine RG.call rfl rfl rfl rfl rfl rfl rfl en_10 (read_ret (⟨max n 201, (setupOf f).og, (setupOf f).pi, (setupOf f).sl, (setupOf f).lo, (setupOf f).hi⟩ : Su) _ (List.replicate 401 ⟨0, 0, 0⟩) _ (hmk80) (by rw [List.length_replicate]; decide)) ?_
      rintro _ w97 ⟨rfl, hx97⟩
      replace hE2 := Ex.tr hE2 hx97
      replace hE4 := Ex.tr hE4 hx97
      replace hE16 := Ex.tr hE16 hx97
      replace hE67 := Ex.tr hE67 hx97
      replace hE70 := Ex.tr hE70 hx97
      replace hE74 := Ex.tr hE74 hx97
      replace hE77 := Ex.tr hE77 hx97
      have hE98 := hx97
      refine RG.done ?_
      refine QW.an (fun _ => hE98) ?_
      refine AG.takeW 3 rfl (by kernel_rfl) (by kernel_rfl) rfl rfl rfl (fun _ => Ev.move rfl rfl) ?_
      refine AG.takeW 4 rfl (by kernel_rfl) (by kernel_rfl) rfl rfl rfl (fun _ => Ev.extract rfl rfl rfl) ?_
      refine AG.takeW 5 rfl (by kernel_rfl) (by kernel_rfl) rfl rfl rfl (fun _ => Ev.extract rfl rfl rfl) ?_
      refine AG.takeW 6 rfl (by kernel_rfl) (by kernel_rfl) rfl rfl rfl (fun _ => Ev.assign rfl rfl) ?_
      refine AG.takeW 7 rfl (by kernel_rfl) (by kernel_rfl) rfl rfl rfl (fun _ => Ev.assign rfl rfl) ?_
      refine AG.done (by kernel_rfl) ?_
      refine QW.then_ ?_
      refine CW.seq ?_
      have hdr : drawErr (⟨max n 201, (setupOf f).og, (setupOf f).pi, (setupOf f).sl, (setupOf f).lo, (setupOf f).hi⟩ : Su) (⟨(readOf (⟨max n 201, (setupOf f).og, (setupOf f).pi, (setupOf f).sl, (setupOf f).lo, (setupOf f).hi⟩ : Su) [(⟨(setupOf f).og, (setupOf f).lo, (setupOf f).hi⟩ : Br)]).toArray⟩ : ByteArray).data.toList = 2 := by rw [read_bad _ _ he]; exact draw_empty _
      refine CW.region ?_
      refine RG.vl rfl rfl rfl (Ev.move rfl rfl) ?_
      refine RG.vl rfl rfl rfl (Ev.isT (Ev.eqI rfl rfl rfl) (by omega)) ?_
      refine RG.vl rfl rfl rfl (Ev.move rfl rfl) ?_
      refine RG.vl rfl rfl rfl (Ev.move rfl rfl) ?_
      refine RG.vl rfl rfl rfl (Ev.move rfl rfl) ?_
      refine RG.vl rfl rfl rfl (Ev.isT (Ev.eqI rfl rfl rfl) (rfl)) ?_
      refine RG.vl rfl rfl rfl (Ev.pickT rfl rfl rfl) ?_
      refine RG.vl rfl rfl rfl (Ev.move rfl rfl) ?_
      refine RG.vl rfl rfl rfl (Ev.move rfl rfl) ?_
      refine RG.vl rfl rfl rfl (Ev.isT (Ev.eqS rfl rfl rfl) (by rw [read_bad _ _ he])) ?_
      refine RG.vl rfl rfl rfl (Ev.pickT rfl rfl rfl) ?_
      refine RG.vl rfl rfl rfl (Ev.move rfl rfl) ?_
      refine RG.vl rfl rfl rfl (Ev.move rfl rfl) ?_
      refine RG.vl rfl rfl rfl (Ev.rem8 rfl rfl rfl (by omega)) ?_
      refine RG.vl rfl rfl rfl (Ev.isF (Ev.geq rfl rfl rfl) (by omega)) ?_
      refine RG.vl rfl rfl rfl (Ev.move rfl rfl) ?_
      refine RG.vl rfl rfl rfl (Ev.move rfl rfl) ?_
      refine RG.vl rfl rfl rfl (Ev.isT (Ev.eqI rfl rfl rfl) (hdr)) ?_
      refine RG.vl rfl rfl rfl (Ev.move rfl rfl) ?_
      refine RG.vl rfl rfl rfl (Ev.ldAgg rfl rfl Try.underlying23 rfl sz_23 rfl ((hbws65.ext hE67).cells)) ?_
      refine RG.call rfl rfl rfl rfl rfl rfl rfl en_15 (right_no (⟨max n 201, (setupOf f).og, (setupOf f).pi, (setupOf f).sl, (setupOf f).lo, (setupOf f).hi⟩ : Su) _ hno) ?_
      rintro _ w99 ⟨rfl, hx99⟩
      replace hE2 := Ex.tr hE2 hx99
      replace hE4 := Ex.tr hE4 hx99
      replace hE16 := Ex.tr hE16 hx99
      replace hE67 := Ex.tr hE67 hx99
      replace hE70 := Ex.tr hE70 hx99
      replace hE74 := Ex.tr hE74 hx99
      replace hE77 := Ex.tr hE77 hx99
      replace hE98 := Ex.tr hE98 hx99
      refine RG.vl rfl rfl rfl (Ev.notT rfl rfl) ?_
      refine RG.vl rfl rfl rfl (Ev.pickT rfl rfl rfl) ?_
      refine RG.vl rfl rfl rfl (Ev.pickF rfl rfl rfl) ?_
      refine RG.vl rfl rfl rfl (Ev.pickT rfl rfl rfl) ?_
      refine RG.vl rfl rfl rfl (Ev.move rfl rfl) ?_
      refine RG.vl rfl rfl rfl (Ev.ldAgg rfl rfl Try.underlying23 rfl sz_23 rfl ((hb5.ext hE16).cells)) ?_
      refine RG.call rfl rfl rfl rfl rfl rfl rfl en_15 (right_yes (setupOf f) _ hok) ?_
      rintro _ w100 ⟨rfl, hx100⟩
      replace hE2 := Ex.tr hE2 hx100
      replace hE4 := Ex.tr hE4 hx100
      replace hE16 := Ex.tr hE16 hx100
      replace hE67 := Ex.tr hE67 hx100
      replace hE70 := Ex.tr hE70 hx100
      replace hE74 := Ex.tr hE74 hx100
      replace hE77 := Ex.tr hE77 hx100
      replace hE98 := Ex.tr hE98 hx100
      refine RG.vl rfl rfl rfl (Ev.pickT rfl rfl rfl) ?_
      refine RG.vl rfl rfl rfl (Ev.move rfl rfl) ?_
      refine RG.vl rfl rfl rfl (Ev.move rfl rfl) ?_
      refine RG.vl rfl rfl rfl (Ev.isT (Ev.eqI rfl rfl rfl) (by rw [err_many])) ?_
      refine RG.vl rfl rfl rfl (Ev.pickT rfl rfl rfl) ?_
      refine RG.vl rfl rfl rfl (Ev.move rfl rfl) ?_
      refine RG.call rfl rfl rfl rfl rfl rfl rfl en_9 (awake_ret _) ?_
      rintro _ w101 ⟨rfl, hx101⟩
      replace hE2 := Ex.tr hE2 hx101
      replace hE4 := Ex.tr hE4 hx101
      replace hE16 := Ex.tr hE16 hx101
      replace hE67 := Ex.tr hE67 hx101
      replace hE70 := Ex.tr hE70 hx101
      replace hE74 := Ex.tr hE74 hx101
      replace hE77 := Ex.tr hE77 hx101
      replace hE98 := Ex.tr hE98 hx101
      refine RG.vl rfl rfl rfl (Ev.pickT rfl rfl rfl) ?_
      refine RG.vl rfl rfl rfl (Ev.assign rfl rfl) ?_
      refine RG.done ?_
      refine QW.sub (S' := [(6, _)]) ⟨rfl, trivial⟩ ?_
      refine QW.then_ ?_
      refine CW.ret ?_
      refine QW.ret1 rfl rfl ?_
      have hB := (Ex.tr hB0 hE2)
      exact ⟨rfl, hB⟩
    · refine CW.seq ?_
      refine CW.region ?_
      refine RG.vl rfl rfl rfl (Ev.eqI rfl rfl rfl) ?_
      refine RG.vl rfl rfl rfl (Ev.assign rfl rfl) ?_
      refine RG.done ?_
      refine QW.then_ ?_
      refine CW.condP rfl (fun hc102 => ?_) (fun hc102 => ?_)
      · refine CW.region ?_
        refine RG.vl rfl rfl rfl (Ev.move rfl rfl) ?_
        refine RG.vl rfl rfl rfl (Ev.min2 rfl rfl rfl rfl) ?_
        refine RG.vl rfl rfl rfl (Ev.fld rfl rfl fld_23_2) ?_
        refine RG.st (g := gB) (k := 2) rfl rfl rfl rfl rfl sz_3 rfl (hb10.ext hE25) rfl (fun ws103 hwws103 hbws103 => ?_)
        replace hb17 := Blk.far hb17 hwws103 (by omega)
        replace hE2 := Wr.below hE2 hwws103 hle11
        replace hE4 := Wr.below hE4 hwws103 hle12
        replace hE16 := Wr.below hE16 hwws103 hle13
        refine RG.done ?_
        refine QW.blockN ?_
        refine QW.then_ ?_
        refine CW.seq ?_
        have hno : ¬ Okay (⟨(setupOf f).pl, (setupOf f).og, min n 0, (setupOf f).sl, (setupOf f).lo, (setupOf f).hi⟩ : Su) := by intro h; unfold Okay at h; simp only at h; omega
        have he : errOf (⟨(setupOf f).pl, (setupOf f).og, min n 0, (setupOf f).sl, (setupOf f).lo, (setupOf f).hi⟩ : Su) [(⟨(setupOf f).og, (setupOf f).lo, (setupOf f).hi⟩ : Br)] = 2 := err_setup _ _ hno
        refine CW.region ?_
        refine RG.vl rfl rfl rfl (Ev.ldAgg rfl rfl Try.underlying23 rfl sz_23 rfl (hbws103.cells)) ?_
        refine RG.vl rfl rfl rfl (Ev.ldAgg rfl rfl Try.underlying48 rfl sz_48 rfl (hb17.cells)) ?_
        refine RG.buildD (xs := [.tmp 98]) rfl rfl rfl rfl rfl rfl rfl Try.underlying24 inf_48 rfl rfl rfl rfl (fun g104 w104 eg104 hx104 hb104 => ?_)
        replace hE2 := Ex.tr hE2 hx104
        replace hE4 := Ex.tr hE4 hx104
        replace hE16 := Ex.tr hE16 hx104
        have hE105 := hx104
        have hlit106 : RdL w104 3 Br.c (.slice (some ⟨g104, 0, none⟩) 1 1) ([(⟨(setupOf f).og, (setupOf f).lo, (setupOf f).hi⟩ : Br)]) := RdL.of_blk Br.c_len (l := [(⟨(setupOf f).og, (setupOf f).lo, (setupOf f).hi⟩ : Br)]) hb104 (Nat.le_refl _) (by decide)
        refine RG.call rfl rfl rfl rfl rfl rfl rfl en_10 (read_ret (⟨(setupOf f).pl, (setupOf f).og, min n 0, (setupOf f).sl, (setupOf f).lo, (setupOf f).hi⟩ : Su) _ [(⟨(setupOf f).og, (setupOf f).lo, (setupOf f).hi⟩ : Br)] _ (hlit106) (by simp)) ?_
        rintro _ w107 ⟨rfl, hx107⟩
        replace hE2 := Ex.tr hE2 hx107
        replace hE4 := Ex.tr hE4 hx107
        replace hE16 := Ex.tr hE16 hx107
        replace hE105 := Ex.tr hE105 hx107
        have hE108 := hx107
        refine RG.vl rfl rfl rfl (Ev.move rfl rfl) ?_
        refine RG.vl rfl rfl rfl (Ev.extract rfl rfl rfl) ?_
        refine RG.vl rfl rfl rfl (Ev.extract rfl rfl rfl) ?_
        refine RG.vl rfl rfl rfl (Ev.assign rfl rfl) ?_
        refine RG.vl rfl rfl rfl (Ev.assign rfl rfl) ?_
        refine RG.done ?_
        refine QW.sub (S' := [(1, _), (6, _), (7, _), (8, _), (9, _), (10, _), (11, _)]) ⟨rfl, rfl, rfl, rfl, rfl, rfl, rfl, trivial⟩ ?_
        refine QW.then_ ?_
        refine CW.seq ?_
        refine CW.region ?_
        refine RG.vl rfl rfl rfl (Ev.ldAgg rfl rfl Try.underlying23 rfl sz_23 rfl ((hbws103.ext hE105).cells)) ?_
        refine RG.vl rfl rfl rfl (Ev.ldAgg rfl rfl Try.underlying48 rfl sz_48 rfl ((hb17.ext hE105).cells)) ?_
        refine RG.buildD (xs := [.tmp 105]) rfl rfl rfl rfl rfl rfl rfl Try.underlying24 inf_48 rfl rfl rfl rfl (fun g109 w109 eg109 hx109 hb109 => ?_)
        replace hE2 := Ex.tr hE2 hx109
        replace hE4 := Ex.tr hE4 hx109
        replace hE16 := Ex.tr hE16 hx109
        replace hE105 := Ex.tr hE105 hx109
        replace hE108 := Ex.tr hE108 hx109
        have hlit110 : RdL w109 3 Br.c (.slice (some ⟨g109, 0, none⟩) 1 1) ([(⟨(setupOf f).og, (setupOf f).lo, (setupOf f).hi⟩ : Br)]) := RdL.of_blk Br.c_len (l := [(⟨(setupOf f).og, (setupOf f).lo, (setupOf f).hi⟩ : Br)]) hb109 (Nat.le_refl _) (by decide)
        refine RG.call rfl rfl rfl rfl rfl rfl rfl en_11 (margin_ret (⟨(setupOf f).pl, (setupOf f).og, min n 0, (setupOf f).sl, (setupOf f).lo, (setupOf f).hi⟩ : Su) _ [(⟨(setupOf f).og, (setupOf f).lo, (setupOf f).hi⟩ : Br)] _ (hlit110) (by simp)) ?_
        rintro _ w111 ⟨rfl, hx111⟩
        replace hE2 := Ex.tr hE2 hx111
        replace hE4 := Ex.tr hE4 hx111
        replace hE16 := Ex.tr hE16 hx111
        replace hE105 := Ex.tr hE105 hx111
        replace hE108 := Ex.tr hE108 hx111
        have hE112 := hx111
        refine RG.vl rfl rfl rfl (Ev.move rfl rfl) ?_
        refine RG.vl rfl rfl rfl (Ev.extract rfl rfl rfl) ?_
        refine RG.vl rfl rfl rfl (Ev.extract rfl rfl rfl) ?_
        refine RG.vl rfl rfl rfl (Ev.assign rfl rfl) ?_
        refine RG.vl rfl rfl rfl (Ev.assign rfl rfl) ?_
        refine RG.done ?_
        refine QW.then_ ?_
        refine CW.seq ?_
        refine CW.region ?_
        refine RG.vl rfl rfl rfl (Ev.ldAgg rfl rfl Try.underlying23 rfl sz_23 rfl ((hbws103.ext hE105).cells)) ?_
        refine RG.vl rfl rfl rfl (Ev.move rfl rfl) ?_
        refine RG.call rfl rfl rfl rfl rfl rfl rfl en_18 (draw_ret (⟨(setupOf f).pl, (setupOf f).og, min n 0, (setupOf f).sl, (setupOf f).lo, (setupOf f).hi⟩ : Su) _ _ (by rw [read_bad _ _ he]; decide)) ?_
        rintro _ w113 ⟨dr113, rfl, hdr113, hx113⟩
        replace hE2 := Ex.tr hE2 hx113
        replace hE4 := Ex.tr hE4 hx113
        replace hE16 := Ex.tr hE16 hx113
        replace hE105 := Ex.tr hE105 hx113
        replace hE108 := Ex.tr hE108 hx113
        replace hE112 := Ex.tr hE112 hx113
        refine RG.vl rfl rfl rfl (Ev.move rfl rfl) ?_
        refine RG.vl rfl rfl rfl (Ev.extract rfl rfl rfl) ?_
        refine RG.vl rfl rfl rfl (Ev.extract rfl rfl rfl) ?_
        refine RG.vl rfl rfl rfl (Ev.assign rfl rfl) ?_
        refine RG.vl rfl rfl rfl (Ev.assign rfl rfl) ?_
        refine RG.done ?_
        refine QW.sub (S' := [(1, _), (6, _), (7, _), (8, _), (10, _), (11, _), (13, _), (15, _)]) ⟨rfl, rfl, rfl, rfl, rfl, rfl, rfl, rfl, trivial⟩ ?_
        refine QW.then_ ?_
        refine CW.seq ?_
        refine CW.draw [] (.ex) 8 rfl mixed (fun wd114 hxwd114 => ?_)
        replace hE2 := Ex.tr hE2 hxwd114
        replace hE4 := Ex.tr hE4 hxwd114
        replace hE16 := Ex.tr hE16 hxwd114
        replace hE105 := Ex.tr hE105 hxwd114
        replace hE108 := Ex.tr hE108 hxwd114
        replace hE112 := Ex.tr hE112 hxwd114
        have hE115 := hxwd114
        refine AG.take 0 rfl (by kernel_rfl) (by kernel_rfl) rfl rfl rfl (fun wq hq => Ev.ldAgg rfl rfl Try.underlying23 rfl sz_23 rfl (((hbws103.ext hE105).ext hq).cells)) ?_
        refine AG.only 1 rfl (by kernel_rfl) ?_
        refine RG.makeL (m := 401) (enc := Br.c) (⟨0, 0, 0⟩ : Br) rfl rfl rfl rfl rfl rfl (rfl) Try.underlying24 inf_48 Br.c_len rfl rfl (by omega) (by simp only [maxLen]; omega) (fun g117 w117 eg117 hx117 hb117 hmk118 => ?_)
        have hle119 : w.heap.size ≤ g117 := by have := hE2.size; omega
        have hle120 : w1.heap.size ≤ g117 := by have := hE4.size; omega
        have hle121 : w5.heap.size ≤ g117 := by have := hE16.size; omega
        have hle122 : ws103.heap.size ≤ g117 := by have := hE105.size; omega
        have hle123 : w104.heap.size ≤ g117 := by have := hE108.size; omega
        have hle124 : w109.heap.size ≤ g117 := by have := hE112.size; omega
        have hle125 : w113.heap.size ≤ g117 := by have := hE115.size; omega
        have hle126 : wd114.heap.size ≤ g117 := by have := (Ex.rfl_ wd114).size; omega
        have hlt127 : g1 < g117 := by have := Blk.lt (hb1.ext hE4); omega
        have hlt128 : gS < g117 := by have := Blk.lt (hb5.ext hE16); omega
        have hlt129 : gR < g117 := by have := Blk.lt (hb17.ext hE105); omega
        have hlt130 : gB < g117 := by have := Blk.lt (hbws103.ext hE105); omega
        have hlt131 : g104 < g117 := by have := Blk.lt (hb104.ext hE108); omega
        have hlt132 : g109 < g117 := by have := Blk.lt (hb109.ext hE112); omega
        replace hE2 := Ex.tr hE2 hx117
        replace hE4 := Ex.tr hE4 hx117
        replace hE16 := Ex.tr hE16 hx117
        replace hE105 := Ex.tr hE105 hx117
        replace hE108 := Ex.tr hE108 hx117
        replace hE112 := Ex.tr hE112 hx117
        replace hE115 := Ex.tr hE115 hx117
        have hE133 := hx117
        refine RG.done ?_
        refine QW.an (fun _ => hE133) ?_
        refine AG.only 2 rfl (by kernel_rfl) ?_
        refine RG.call rfl rfl rfl rfl rfl rfl rfl en_10 (read_ret (⟨(setupOf f).pl, (setupOf f).og, min n 0, (setupOf f).sl, (setupOf f).lo, (setupOf f).hi⟩ : Su) _ (List.replicate 401 ⟨0, 0, 0⟩) _ (hmk118) (by rw [List.length_replicate]; decide)) ?_
        rintro _ w135 ⟨rfl, hx135⟩
        replace hE2 := Ex.tr hE2 hx135
        replace hE4 := Ex.tr hE4 hx135
        replace hE16 := Ex.tr hE16 hx135
        replace hE105 := Ex.tr hE105 hx135
        replace hE108 := Ex.tr hE108 hx135
        replace hE112 := Ex.tr hE112 hx135
        replace hE115 := Ex.tr hE115 hx135
        have hE136 := hx135
        refine RG.done ?_
        refine QW.an (fun _ => hE136) ?_
        refine AG.takeW 3 rfl (by kernel_rfl) (by kernel_rfl) rfl rfl rfl (fun _ => Ev.move rfl rfl) ?_
        refine AG.takeW 4 rfl (by kernel_rfl) (by kernel_rfl) rfl rfl rfl (fun _ => Ev.extract rfl rfl rfl) ?_
        refine AG.takeW 5 rfl (by kernel_rfl) (by kernel_rfl) rfl rfl rfl (fun _ => Ev.extract rfl rfl rfl) ?_
        refine AG.takeW 6 rfl (by kernel_rfl) (by kernel_rfl) rfl rfl rfl (fun _ => Ev.assign rfl rfl) ?_
        refine AG.takeW 7 rfl (by kernel_rfl) (by kernel_rfl) rfl rfl rfl (fun _ => Ev.assign rfl rfl) ?_
        refine AG.done (by kernel_rfl) ?_
        refine QW.then_ ?_
        refine CW.seq ?_
        have hdr : drawErr (⟨(setupOf f).pl, (setupOf f).og, min n 0, (setupOf f).sl, (setupOf f).lo, (setupOf f).hi⟩ : Su) (⟨(readOf (⟨(setupOf f).pl, (setupOf f).og, min n 0, (setupOf f).sl, (setupOf f).lo, (setupOf f).hi⟩ : Su) [(⟨(setupOf f).og, (setupOf f).lo, (setupOf f).hi⟩ : Br)]).toArray⟩ : ByteArray).data.toList = 2 := by rw [read_bad _ _ he]; exact draw_empty _
        refine CW.region ?_
        refine RG.vl rfl rfl rfl (Ev.move rfl rfl) ?_
        refine RG.vl rfl rfl rfl (Ev.isT (Ev.eqI rfl rfl rfl) (by omega)) ?_
        refine RG.vl rfl rfl rfl (Ev.move rfl rfl) ?_
        refine RG.vl rfl rfl rfl (Ev.move rfl rfl) ?_
        refine RG.vl rfl rfl rfl (Ev.move rfl rfl) ?_
        refine RG.vl rfl rfl rfl (Ev.isT (Ev.eqI rfl rfl rfl) (rfl)) ?_
        refine RG.vl rfl rfl rfl (Ev.pickT rfl rfl rfl) ?_
        refine RG.vl rfl rfl rfl (Ev.move rfl rfl) ?_
        refine RG.vl rfl rfl rfl (Ev.move rfl rfl) ?_
        refine RG.vl rfl rfl rfl (Ev.isT (Ev.eqS rfl rfl rfl) (by rw [read_bad _ _ he])) ?_
        refine RG.vl rfl rfl rfl (Ev.pickT rfl rfl rfl) ?_
        refine RG.vl rfl rfl rfl (Ev.move rfl rfl) ?_
        refine RG.vl rfl rfl rfl (Ev.move rfl rfl) ?_
        refine RG.vl rfl rfl rfl (Ev.rem8 rfl rfl rfl (by omega)) ?_
        refine RG.vl rfl rfl rfl (Ev.isF (Ev.geq rfl rfl rfl) (by omega)) ?_
        refine RG.vl rfl rfl rfl (Ev.move rfl rfl) ?_
        refine RG.vl rfl rfl rfl (Ev.move rfl rfl) ?_
        refine RG.vl rfl rfl rfl (Ev.isT (Ev.eqI rfl rfl rfl) (hdr)) ?_
        refine RG.vl rfl rfl rfl (Ev.move rfl rfl) ?_
        refine RG.vl rfl rfl rfl (Ev.ldAgg rfl rfl Try.underlying23 rfl sz_23 rfl ((hbws103.ext hE105).cells)) ?_
        refine RG.call rfl rfl rfl rfl rfl rfl rfl en_15 (right_no (⟨(setupOf f).pl, (setupOf f).og, min n 0, (setupOf f).sl, (setupOf f).lo, (setupOf f).hi⟩ : Su) _ hno) ?_
        rintro _ w137 ⟨rfl, hx137⟩
        replace hE2 := Ex.tr hE2 hx137
        replace hE4 := Ex.tr hE4 hx137
        replace hE16 := Ex.tr hE16 hx137
        replace hE105 := Ex.tr hE105 hx137
        replace hE108 := Ex.tr hE108 hx137
        replace hE112 := Ex.tr hE112 hx137
        replace hE115 := Ex.tr hE115 hx137
        replace hE136 := Ex.tr hE136 hx137
        refine RG.vl rfl rfl rfl (Ev.notT rfl rfl) ?_
        refine RG.vl rfl rfl rfl (Ev.pickT rfl rfl rfl) ?_
        refine RG.vl rfl rfl rfl (Ev.pickF rfl rfl rfl) ?_
        refine RG.vl rfl rfl rfl (Ev.pickT rfl rfl rfl) ?_
        refine RG.vl rfl rfl rfl (Ev.move rfl rfl) ?_
        refine RG.vl rfl rfl rfl (Ev.ldAgg rfl rfl Try.underlying23 rfl sz_23 rfl ((hb5.ext hE16).cells)) ?_
        refine RG.call rfl rfl rfl rfl rfl rfl rfl en_15 (right_yes (setupOf f) _ hok) ?_
        rintro _ w138 ⟨rfl, hx138⟩
        replace hE2 := Ex.tr hE2 hx138
        replace hE4 := Ex.tr hE4 hx138
        replace hE16 := Ex.tr hE16 hx138
        replace hE105 := Ex.tr hE105 hx138
        replace hE108 := Ex.tr hE108 hx138
        replace hE112 := Ex.tr hE112 hx138
        replace hE115 := Ex.tr hE115 hx138
        replace hE136 := Ex.tr hE136 hx138
        refine RG.vl rfl rfl rfl (Ev.pickT rfl rfl rfl) ?_
        refine RG.vl rfl rfl rfl (Ev.move rfl rfl) ?_
        refine RG.vl rfl rfl rfl (Ev.move rfl rfl) ?_
        refine RG.vl rfl rfl rfl (Ev.isT (Ev.eqI rfl rfl rfl) (by rw [err_many])) ?_
        refine RG.vl rfl rfl rfl (Ev.pickT rfl rfl rfl) ?_
        refine RG.vl rfl rfl rfl (Ev.move rfl rfl) ?_
        refine RG.call rfl rfl rfl rfl rfl rfl rfl en_9 (awake_ret _) ?_
        rintro _ w139 ⟨rfl, hx139⟩
        replace hE2 := Ex.tr hE2 hx139
        replace hE4 := Ex.tr hE4 hx139
        replace hE16 := Ex.tr hE16 hx139
        replace hE105 := Ex.tr hE105 hx139
        replace hE108 := Ex.tr hE108 hx139
        replace hE112 := Ex.tr hE112 hx139
        replace hE115 := Ex.tr hE115 hx139
        replace hE136 := Ex.tr hE136 hx139
        refine RG.vl rfl rfl rfl (Ev.pickT rfl rfl rfl) ?_
        refine RG.vl rfl rfl rfl (Ev.assign rfl rfl) ?_
        refine RG.done ?_
        refine QW.sub (S' := [(6, _)]) ⟨rfl, trivial⟩ ?_
        refine QW.then_ ?_
        refine CW.ret ?_
        refine QW.ret1 rfl rfl ?_
        have hB := (Ex.tr hB0 hE2)
        exact ⟨rfl, hB⟩
      · refine CW.seq ?_
        refine CW.region ?_
        refine RG.vl rfl rfl rfl (Ev.eqI rfl rfl rfl) ?_
        refine RG.vl rfl rfl rfl (Ev.assign rfl rfl) ?_
        refine RG.done ?_
        refine QW.then_ ?_
        refine CW.condP rfl (fun hc140 => ?_) (fun hc140 => ?_)
        · refine CW.region ?_
          refine RG.vl rfl rfl rfl (Ev.move rfl rfl) ?_
          refine RG.vl rfl rfl rfl (Ev.max2 rfl rfl rfl rfl) ?_
          refine RG.vl rfl rfl rfl (Ev.fld rfl rfl fld_23_2) ?_
          refine RG.st (g := gB) (k := 2) rfl rfl rfl rfl rfl sz_3 rfl (hb10.ext hE25) rfl (fun ws141 hwws141 hbws141 => ?_)
          replace hb17 := Blk.far hb17 hwws141 (by omega)
          replace hE2 := Wr.below hE2 hwws141 hle11
          replace hE4 := Wr.below hE4 hwws141 hle12
          replace hE16 := Wr.below hE16 hwws141 hle13
          refine RG.done ?_
          refine QW.blockN ?_
          refine QW.then_ ?_
          refine CW.seq ?_
          have hno : ¬ Okay (⟨(setupOf f).pl, (setupOf f).og, max n 1048577, (setupOf f).sl, (setupOf f).lo, (setupOf f).hi⟩ : Su) := by intro h; unfold Okay at h; simp only at h; omega
          have he : errOf (⟨(setupOf f).pl, (setupOf f).og, max n 1048577, (setupOf f).sl, (setupOf f).lo, (setupOf f).hi⟩ : Su) [(⟨(setupOf f).og, (setupOf f).lo, (setupOf f).hi⟩ : Br)] = 2 := err_setup _ _ hno
          refine CW.region ?_
          refine RG.vl rfl rfl rfl (Ev.ldAgg rfl rfl Try.underlying23 rfl sz_23 rfl (hbws141.cells)) ?_
          refine RG.vl rfl rfl rfl (Ev.ldAgg rfl rfl Try.underlying48 rfl sz_48 rfl (hb17.cells)) ?_
          refine RG.buildD (xs := [.tmp 98]) rfl rfl rfl rfl rfl rfl rfl Try.underlying24 inf_48 rfl rfl rfl rfl (fun g142 w142 eg142 hx142 hb142 => ?_)
          replace hE2 := Ex.tr hE2 hx142
          replace hE4 := Ex.tr hE4 hx142
          replace hE16 := Ex.tr hE16 hx142
          have hE143 := hx142
          have hlit144 : RdL w142 3 Br.c (.slice (some ⟨g142, 0, none⟩) 1 1) ([(⟨(setupOf f).og, (setupOf f).lo, (setupOf f).hi⟩ : Br)]) := RdL.of_blk Br.c_len (l := [(⟨(setupOf f).og, (setupOf f).lo, (setupOf f).hi⟩ : Br)]) hb142 (Nat.le_refl _) (by decide)
          refine RG.call rfl rfl rfl rfl rfl rfl rfl en_10 (read_ret (⟨(setupOf f).pl, (setupOf f).og, max n 1048577, (setupOf f).sl, (setupOf f).lo, (setupOf f).hi⟩ : Su) _ [(⟨(setupOf f).og, (setupOf f).lo, (setupOf f).hi⟩ : Br)] _ (hlit144) (by simp)) ?_
          rintro _ w145 ⟨rfl, hx145⟩
          replace hE2 := Ex.tr hE2 hx145
          replace hE4 := Ex.tr hE4 hx145
          replace hE16 := Ex.tr hE16 hx145
          replace hE143 := Ex.tr hE143 hx145
          have hE146 := hx145
          refine RG.vl rfl rfl rfl (Ev.move rfl rfl) ?_
          refine RG.vl rfl rfl rfl (Ev.extract rfl rfl rfl) ?_
          refine RG.vl rfl rfl rfl (Ev.extract rfl rfl rfl) ?_
          refine RG.vl rfl rfl rfl (Ev.assign rfl rfl) ?_
          refine RG.vl rfl rfl rfl (Ev.assign rfl rfl) ?_
          refine RG.done ?_
          refine QW.sub (S' := [(1, _), (6, _), (7, _), (8, _), (9, _), (10, _), (11, _)]) ⟨rfl, rfl, rfl, rfl, rfl, rfl, rfl, trivial⟩ ?_
          refine QW.then_ ?_
          refine CW.seq ?_
          refine CW.region ?_
          refine RG.vl rfl rfl rfl (Ev.ldAgg rfl rfl Try.underlying23 rfl sz_23 rfl ((hbws141.ext hE143).cells)) ?_
          refine RG.vl rfl rfl rfl (Ev.ldAgg rfl rfl Try.underlying48 rfl sz_48 rfl ((hb17.ext hE143).cells)) ?_
          refine RG.buildD (xs := [.tmp 105]) rfl rfl rfl rfl rfl rfl rfl Try.underlying24 inf_48 rfl rfl rfl rfl (fun g147 w147 eg147 hx147 hb147 => ?_)
          replace hE2 := Ex.tr hE2 hx147
          replace hE4 := Ex.tr hE4 hx147
          replace hE16 := Ex.tr hE16 hx147
          replace hE143 := Ex.tr hE143 hx147
          replace hE146 := Ex.tr hE146 hx147
          have hlit148 : RdL w147 3 Br.c (.slice (some ⟨g147, 0, none⟩) 1 1) ([(⟨(setupOf f).og, (setupOf f).lo, (setupOf f).hi⟩ : Br)]) := RdL.of_blk Br.c_len (l := [(⟨(setupOf f).og, (setupOf f).lo, (setupOf f).hi⟩ : Br)]) hb147 (Nat.le_refl _) (by decide)
          refine RG.call rfl rfl rfl rfl rfl rfl rfl en_11 (margin_ret (⟨(setupOf f).pl, (setupOf f).og, max n 1048577, (setupOf f).sl, (setupOf f).lo, (setupOf f).hi⟩ : Su) _ [(⟨(setupOf f).og, (setupOf f).lo, (setupOf f).hi⟩ : Br)] _ (hlit148) (by simp)) ?_
          rintro _ w149 ⟨rfl, hx149⟩
          replace hE2 := Ex.tr hE2 hx149
          replace hE4 := Ex.tr hE4 hx149
          replace hE16 := Ex.tr hE16 hx149
          replace hE143 := Ex.tr hE143 hx149
          replace hE146 := Ex.tr hE146 hx149
          have hE150 := hx149
          refine RG.vl rfl rfl rfl (Ev.move rfl rfl) ?_
          refine RG.vl rfl rfl rfl (Ev.extract rfl rfl rfl) ?_
          refine RG.vl rfl rfl rfl (Ev.extract rfl rfl rfl) ?_
          refine RG.vl rfl rfl rfl (Ev.assign rfl rfl) ?_
          refine RG.vl rfl rfl rfl (Ev.assign rfl rfl) ?_
          refine RG.done ?_
          refine QW.then_ ?_
          refine CW.seq ?_
          refine CW.region ?_
          refine RG.vl rfl rfl rfl (Ev.ldAgg rfl rfl Try.underlying23 rfl sz_23 rfl ((hbws141.ext hE143).cells)) ?_
          refine RG.vl rfl rfl rfl (Ev.move rfl rfl) ?_
          refine RG.call rfl rfl rfl rfl rfl rfl rfl en_18 (draw_ret (⟨(setupOf f).pl, (setupOf f).og, max n 1048577, (setupOf f).sl, (setupOf f).lo, (setupOf f).hi⟩ : Su) _ _ (by rw [read_bad _ _ he]; decide)) ?_
          rintro _ w151 ⟨dr151, rfl, hdr151, hx151⟩
          replace hE2 := Ex.tr hE2 hx151
          replace hE4 := Ex.tr hE4 hx151
          replace hE16 := Ex.tr hE16 hx151
          replace hE143 := Ex.tr hE143 hx151
          replace hE146 := Ex.tr hE146 hx151
          replace hE150 := Ex.tr hE150 hx151
          refine RG.vl rfl rfl rfl (Ev.move rfl rfl) ?_
          refine RG.vl rfl rfl rfl (Ev.extract rfl rfl rfl) ?_
          refine RG.vl rfl rfl rfl (Ev.extract rfl rfl rfl) ?_
          refine RG.vl rfl rfl rfl (Ev.assign rfl rfl) ?_
          refine RG.vl rfl rfl rfl (Ev.assign rfl rfl) ?_
          refine RG.done ?_
          refine QW.sub (S' := [(1, _), (6, _), (7, _), (8, _), (10, _), (11, _), (13, _), (15, _)]) ⟨rfl, rfl, rfl, rfl, rfl, rfl, rfl, rfl, trivial⟩ ?_
          refine QW.then_ ?_
          refine CW.seq ?_
          refine CW.draw [] (.ex) 8 rfl mixed (fun wd152 hxwd152 => ?_)
          replace hE2 := Ex.tr hE2 hxwd152
          replace hE4 := Ex.tr hE4 hxwd152
          replace hE16 := Ex.tr hE16 hxwd152
          replace hE143 := Ex.tr hE143 hxwd152
          replace hE146 := Ex.tr hE146 hxwd152
          replace hE150 := Ex.tr hE150 hxwd152
          have hE153 := hxwd152
          refine AG.take 0 rfl (by kernel_rfl) (by kernel_rfl) rfl rfl rfl (fun wq hq => Ev.ldAgg rfl rfl Try.underlying23 rfl sz_23 rfl (((hbws141.ext hE143).ext hq).cells)) ?_
          refine AG.only 1 rfl (by kernel_rfl) ?_
          refine RG.makeL (m := 401) (enc := Br.c) (⟨0, 0, 0⟩ : Br) rfl rfl rfl rfl rfl rfl (rfl) Try.underlying24 inf_48 Br.c_len rfl rfl (by omega) (by simp only [maxLen]; omega) (fun g155 w155 eg155 hx155 hb155 hmk156 => ?_)
          have hle157 : w.heap.size ≤ g155 := by have := hE2.size; omega
          have hle158 : w1.heap.size ≤ g155 := by have := hE4.size; omega
          have hle159 : w5.heap.size ≤ g155 := by have := hE16.size; omega
          have hle160 : ws141.heap.size ≤ g155 := by have := hE143.size; omega
          have hle161 : w142.heap.size ≤ g155 := by have := hE146.size; omega
          have hle162 : w147.heap.size ≤ g155 := by have := hE150.size; omega
          have hle163 : w151.heap.size ≤ g155 := by have := hE153.size; omega
          have hle164 : wd152.heap.size ≤ g155 := by have := (Ex.rfl_ wd152).size; omega
          have hlt165 : g1 < g155 := by have := Blk.lt (hb1.ext hE4); omega
          have hlt166 : gS < g155 := by have := Blk.lt (hb5.ext hE16); omega
          have hlt167 : gR < g155 := by have := Blk.lt (hb17.ext hE143); omega
          have hlt168 : gB < g155 := by have := Blk.lt (hbws141.ext hE143); omega
          have hlt169 : g142 < g155 := by have := Blk.lt (hb142.ext hE146); omega
          have hlt170 : g147 < g155 := by have := Blk.lt (hb147.ext hE150); omega
          replace hE2 := Ex.tr hE2 hx155
          replace hE4 := Ex.tr hE4 hx155
          replace hE16 := Ex.tr hE16 hx155
          replace hE143 := Ex.tr hE143 hx155
          replace hE146 := Ex.tr hE146 hx155
          replace hE150 := Ex.tr hE150 hx155
          replace hE153 := Ex.tr hE153 hx155
          have hE171 := hx155
          refine RG.done ?_
          refine QW.an (fun _ => hE171) ?_
          refine AG.only 2 rfl (by kernel_rfl) ?_
          refine RG.call rfl rfl rfl rfl rfl rfl rfl en_10 (read_ret (⟨(setupOf f).pl, (setupOf f).og, max n 1048577, (setupOf f).sl, (setupOf f).lo, (setupOf f).hi⟩ : Su) _ (List.replicate 401 ⟨0, 0, 0⟩) _ (hmk156) (by rw [List.length_replicate]; decide)) ?_
          rintro _ w173 ⟨rfl, hx173⟩
          replace hE2 := Ex.tr hE2 hx173
          replace hE4 := Ex.tr hE4 hx173
          replace hE16 := Ex.tr hE16 hx173
          replace hE143 := Ex.tr hE143 hx173
          replace hE146 := Ex.tr hE146 hx173
          replace hE150 := Ex.tr hE150 hx173
          replace hE153 := Ex.tr hE153 hx173
          have hE174 := hx173
          refine RG.done ?_
          refine QW.an (fun _ => hE174) ?_
          refine AG.takeW 3 rfl (by kernel_rfl) (by kernel_rfl) rfl rfl rfl (fun _ => Ev.move rfl rfl) ?_
          refine AG.takeW 4 rfl (by kernel_rfl) (by kernel_rfl) rfl rfl rfl (fun _ => Ev.extract rfl rfl rfl) ?_
          refine AG.takeW 5 rfl (by kernel_rfl) (by kernel_rfl) rfl rfl rfl (fun _ => Ev.extract rfl rfl rfl) ?_
          refine AG.takeW 6 rfl (by kernel_rfl) (by kernel_rfl) rfl rfl rfl (fun _ => Ev.assign rfl rfl) ?_
          refine AG.takeW 7 rfl (by kernel_rfl) (by kernel_rfl) rfl rfl rfl (fun _ => Ev.assign rfl rfl) ?_
          refine AG.done (by kernel_rfl) ?_
          refine QW.then_ ?_
          refine CW.seq ?_
          have hdr : drawErr (⟨(setupOf f).pl, (setupOf f).og, max n 1048577, (setupOf f).sl, (setupOf f).lo, (setupOf f).hi⟩ : Su) (⟨(readOf (⟨(setupOf f).pl, (setupOf f).og, max n 1048577, (setupOf f).sl, (setupOf f).lo, (setupOf f).hi⟩ : Su) [(⟨(setupOf f).og, (setupOf f).lo, (setupOf f).hi⟩ : Br)]).toArray⟩ : ByteArray).data.toList = 2 := by rw [read_bad _ _ he]; exact draw_empty _
          refine CW.region ?_
          refine RG.vl rfl rfl rfl (Ev.move rfl rfl) ?_
          refine RG.vl rfl rfl rfl (Ev.isT (Ev.eqI rfl rfl rfl) (by omega)) ?_
          refine RG.vl rfl rfl rfl (Ev.move rfl rfl) ?_
          refine RG.vl rfl rfl rfl (Ev.move rfl rfl) ?_
          refine RG.vl rfl rfl rfl (Ev.move rfl rfl) ?_
          refine RG.vl rfl rfl rfl (Ev.isT (Ev.eqI rfl rfl rfl) (rfl)) ?_
          refine RG.vl rfl rfl rfl (Ev.pickT rfl rfl rfl) ?_
          refine RG.vl rfl rfl rfl (Ev.move rfl rfl) ?_
          refine RG.vl rfl rfl rfl (Ev.move rfl rfl) ?_
          refine RG.vl rfl rfl rfl (Ev.isT (Ev.eqS rfl rfl rfl) (by rw [read_bad _ _ he])) ?_
          refine RG.vl rfl rfl rfl (Ev.pickT rfl rfl rfl) ?_
          refine RG.vl rfl rfl rfl (Ev.move rfl rfl) ?_
          refine RG.vl rfl rfl rfl (Ev.move rfl rfl) ?_
          refine RG.vl rfl rfl rfl (Ev.rem8 rfl rfl rfl (by omega)) ?_
          refine RG.vl rfl rfl rfl (Ev.isF (Ev.geq rfl rfl rfl) (by omega)) ?_
          refine RG.vl rfl rfl rfl (Ev.move rfl rfl) ?_
          refine RG.vl rfl rfl rfl (Ev.move rfl rfl) ?_
          refine RG.vl rfl rfl rfl (Ev.isT (Ev.eqI rfl rfl rfl) (hdr)) ?_
          refine RG.vl rfl rfl rfl (Ev.move rfl rfl) ?_
          refine RG.vl rfl rfl rfl (Ev.ldAgg rfl rfl Try.underlying23 rfl sz_23 rfl ((hbws141.ext hE143).cells)) ?_
          refine RG.call rfl rfl rfl rfl rfl rfl rfl en_15 (right_no (⟨(setupOf f).pl, (setupOf f).og, max n 1048577, (setupOf f).sl, (setupOf f).lo, (setupOf f).hi⟩ : Su) _ hno) ?_
          rintro _ w175 ⟨rfl, hx175⟩
          replace hE2 := Ex.tr hE2 hx175
          replace hE4 := Ex.tr hE4 hx175
          replace hE16 := Ex.tr hE16 hx175
          replace hE143 := Ex.tr hE143 hx175
          replace hE146 := Ex.tr hE146 hx175
          replace hE150 := Ex.tr hE150 hx175
          replace hE153 := Ex.tr hE153 hx175
          replace hE174 := Ex.tr hE174 hx175
          refine RG.vl rfl rfl rfl (Ev.notT rfl rfl) ?_
          refine RG.vl rfl rfl rfl (Ev.pickT rfl rfl rfl) ?_
          refine RG.vl rfl rfl rfl (Ev.pickF rfl rfl rfl) ?_
          refine RG.vl rfl rfl rfl (Ev.pickT rfl rfl rfl) ?_
          refine RG.vl rfl rfl rfl (Ev.move rfl rfl) ?_
          refine RG.vl rfl rfl rfl (Ev.ldAgg rfl rfl Try.underlying23 rfl sz_23 rfl ((hb5.ext hE16).cells)) ?_
          refine RG.call rfl rfl rfl rfl rfl rfl rfl en_15 (right_yes (setupOf f) _ hok) ?_
          rintro _ w176 ⟨rfl, hx176⟩
          replace hE2 := Ex.tr hE2 hx176
          replace hE4 := Ex.tr hE4 hx176
          replace hE16 := Ex.tr hE16 hx176
          replace hE143 := Ex.tr hE143 hx176
          replace hE146 := Ex.tr hE146 hx176
          replace hE150 := Ex.tr hE150 hx176
          replace hE153 := Ex.tr hE153 hx176
          replace hE174 := Ex.tr hE174 hx176
          refine RG.vl rfl rfl rfl (Ev.pickT rfl rfl rfl) ?_
          refine RG.vl rfl rfl rfl (Ev.move rfl rfl) ?_
          refine RG.vl rfl rfl rfl (Ev.move rfl rfl) ?_
          refine RG.vl rfl rfl rfl (Ev.isT (Ev.eqI rfl rfl rfl) (by rw [err_many])) ?_
          refine RG.vl rfl rfl rfl (Ev.pickT rfl rfl rfl) ?_
          refine RG.vl rfl rfl rfl (Ev.move rfl rfl) ?_
          refine RG.call rfl rfl rfl rfl rfl rfl rfl en_9 (awake_ret _) ?_
          rintro _ w177 ⟨rfl, hx177⟩
          replace hE2 := Ex.tr hE2 hx177
          replace hE4 := Ex.tr hE4 hx177
          replace hE16 := Ex.tr hE16 hx177
          replace hE143 := Ex.tr hE143 hx177
          replace hE146 := Ex.tr hE146 hx177
          replace hE150 := Ex.tr hE150 hx177
          replace hE153 := Ex.tr hE153 hx177
          replace hE174 := Ex.tr hE174 hx177
          refine RG.vl rfl rfl rfl (Ev.pickT rfl rfl rfl) ?_
          refine RG.vl rfl rfl rfl (Ev.assign rfl rfl) ?_
          refine RG.done ?_
          refine QW.sub (S' := [(6, _)]) ⟨rfl, trivial⟩ ?_
          refine QW.then_ ?_
          refine CW.ret ?_
          refine QW.ret1 rfl rfl ?_
          have hB := (Ex.tr hB0 hE2)
          exact ⟨rfl, hB⟩
        · refine CW.seq ?_
          refine CW.region ?_
          refine RG.vl rfl rfl rfl (Ev.eqI rfl rfl rfl) ?_
          refine RG.vl rfl rfl rfl (Ev.assign rfl rfl) ?_
          refine RG.done ?_
          refine QW.then_ ?_
          refine CW.condP rfl (fun hc178 => ?_) (fun hc178 => ?_)
          · refine CW.region ?_
            refine RG.vl rfl rfl rfl (Ev.move rfl rfl) ?_
            refine RG.vl rfl rfl rfl (Ev.fld rfl rfl fld_23_2) ?_
            refine RG.vl rfl rfl rfl (Ev.ldAt rfl rfl Try.underlying3 rfl ((hb5.ext hE16).cells) (rfl)) ?_
            refine RG.vl rfl rfl rfl (Ev.addI rfl rfl rfl (by omega)) ?_
            refine RG.vl rfl rfl rfl (Ev.quoI rfl rfl rfl (by omega)) ?_
            refine RG.vl rfl rfl rfl (Ev.max2 rfl rfl rfl rfl) ?_
            refine RG.vl rfl rfl rfl (Ev.fld rfl rfl fld_23_3) ?_
            refine RG.st (g := gB) (k := 3) rfl rfl rfl rfl rfl sz_3 rfl (hb10.ext hE25) rfl (fun ws179 hwws179 hbws179 => ?_)
            replace hb17 := Blk.far hb17 hwws179 (by omega)
            replace hE2 := Wr.below hE2 hwws179 hle11
            replace hE4 := Wr.below hE4 hwws179 hle12
            replace hE16 := Wr.below hE16 hwws179 hle13
            refine RG.done ?_
            refine QW.sub (S' := [(1, _), (6, _), (7, _), (8, _), (9, _)]) ⟨rfl, rfl, rfl, rfl, rfl, trivial⟩ ?_
            refine QW.blockN ?_
            refine QW.then_ ?_
            refine CW.seq ?_
            have hno : ¬ Okay (⟨(setupOf f).pl, (setupOf f).og, (setupOf f).pi, max n (((setupOf f).pi + 1) / 2), (setupOf f).lo, (setupOf f).hi⟩ : Su) := by intro h; unfold Okay at h; simp only at h; omega
            have he : errOf (⟨(setupOf f).pl, (setupOf f).og, (setupOf f).pi, max n (((setupOf f).pi + 1) / 2), (setupOf f).lo, (setupOf f).hi⟩ : Su) [(⟨(setupOf f).og, (setupOf f).lo, (setupOf f).hi⟩ : Br)] = 2 := err_setup _ _ hno
            refine CW.region ?_
            refine RG.vl rfl rfl rfl (Ev.ldAgg rfl rfl Try.underlying23 rfl sz_23 rfl (hbws179.cells)) ?_
            refine RG.vl rfl rfl rfl (Ev.ldAgg rfl rfl Try.underlying48 rfl sz_48 rfl (hb17.cells)) ?_
            refine RG.buildD (xs := [.tmp 98]) rfl rfl rfl rfl rfl rfl rfl Try.underlying24 inf_48 rfl rfl rfl rfl (fun g180 w180 eg180 hx180 hb180 => ?_)
            replace hE2 := Ex.tr hE2 hx180
            replace hE4 := Ex.tr hE4 hx180
            replace hE16 := Ex.tr hE16 hx180
            have hE181 := hx180
            have hlit182 : RdL w180 3 Br.c (.slice (some ⟨g180, 0, none⟩) 1 1) ([(⟨(setupOf f).og, (setupOf f).lo, (setupOf f).hi⟩ : Br)]) := RdL.of_blk Br.c_len (l := [(⟨(setupOf f).og, (setupOf f).lo, (setupOf f).hi⟩ : Br)]) hb180 (Nat.le_refl _) (by decide)
            refine RG.call rfl rfl rfl rfl rfl rfl rfl en_10 (read_ret (⟨(setupOf f).pl, (setupOf f).og, (setupOf f).pi, max n (((setupOf f).pi + 1) / 2), (setupOf f).lo, (setupOf f).hi⟩ : Su) _ [(⟨(setupOf f).og, (setupOf f).lo, (setupOf f).hi⟩ : Br)] _ (hlit182) (by simp)) ?_
            rintro _ w183 ⟨rfl, hx183⟩
            replace hE2 := Ex.tr hE2 hx183
            replace hE4 := Ex.tr hE4 hx183
            replace hE16 := Ex.tr hE16 hx183
            replace hE181 := Ex.tr hE181 hx183
            have hE184 := hx183
            refine RG.vl rfl rfl rfl (Ev.move rfl rfl) ?_
            refine RG.vl rfl rfl rfl (Ev.extract rfl rfl rfl) ?_
            refine RG.vl rfl rfl rfl (Ev.extract rfl rfl rfl) ?_
            refine RG.vl rfl rfl rfl (Ev.assign rfl rfl) ?_
            refine RG.vl rfl rfl rfl (Ev.assign rfl rfl) ?_
            refine RG.done ?_
            refine QW.then_ ?_
            refine CW.seq ?_
            refine CW.region ?_
            refine RG.vl rfl rfl rfl (Ev.ldAgg rfl rfl Try.underlying23 rfl sz_23 rfl ((hbws179.ext hE181).cells)) ?_
            refine RG.vl rfl rfl rfl (Ev.ldAgg rfl rfl Try.underlying48 rfl sz_48 rfl ((hb17.ext hE181).cells)) ?_
            refine RG.buildD (xs := [.tmp 105]) rfl rfl rfl rfl rfl rfl rfl Try.underlying24 inf_48 rfl rfl rfl rfl (fun g185 w185 eg185 hx185 hb185 => ?_)
            replace hE2 := Ex.tr hE2 hx185
            replace hE4 := Ex.tr hE4 hx185
            replace hE16 := Ex.tr hE16 hx185
            replace hE181 := Ex.tr hE181 hx185
            replace hE184 := Ex.tr hE184 hx185
            have hlit186 : RdL w185 3 Br.c (.slice (some ⟨g185, 0, none⟩) 1 1) ([(⟨(setupOf f).og, (setupOf f).lo, (setupOf f).hi⟩ : Br)]) := RdL.of_blk Br.c_len (l := [(⟨(setupOf f).og, (setupOf f).lo, (setupOf f).hi⟩ : Br)]) hb185 (Nat.le_refl _) (by decide)
            refine RG.call rfl rfl rfl rfl rfl rfl rfl en_11 (margin_ret (⟨(setupOf f).pl, (setupOf f).og, (setupOf f).pi, max n (((setupOf f).pi + 1) / 2), (setupOf f).lo, (setupOf f).hi⟩ : Su) _ [(⟨(setupOf f).og, (setupOf f).lo, (setupOf f).hi⟩ : Br)] _ (hlit186) (by simp)) ?_
            rintro _ w187 ⟨rfl, hx187⟩
            replace hE2 := Ex.tr hE2 hx187
            replace hE4 := Ex.tr hE4 hx187
            replace hE16 := Ex.tr hE16 hx187
            replace hE181 := Ex.tr hE181 hx187
            replace hE184 := Ex.tr hE184 hx187
            have hE188 := hx187
            refine RG.vl rfl rfl rfl (Ev.move rfl rfl) ?_
            refine RG.vl rfl rfl rfl (Ev.extract rfl rfl rfl) ?_
            refine RG.vl rfl rfl rfl (Ev.extract rfl rfl rfl) ?_
            refine RG.vl rfl rfl rfl (Ev.assign rfl rfl) ?_
            refine RG.vl rfl rfl rfl (Ev.assign rfl rfl) ?_
            refine RG.done ?_
            refine QW.sub (S' := [(1, _), (6, _), (7, _), (8, _), (10, _), (11, _), (13, _)]) ⟨rfl, rfl, rfl, rfl, rfl, rfl, rfl, trivial⟩ ?_
            refine QW.then_ ?_
            refine CW.seq ?_
            refine CW.region ?_
            refine RG.vl rfl rfl rfl (Ev.ldAgg rfl rfl Try.underlying23 rfl sz_23 rfl ((hbws179.ext hE181).cells)) ?_
            refine RG.vl rfl rfl rfl (Ev.move rfl rfl) ?_
            refine RG.call rfl rfl rfl rfl rfl rfl rfl en_18 (draw_ret (⟨(setupOf f).pl, (setupOf f).og, (setupOf f).pi, max n (((setupOf f).pi + 1) / 2), (setupOf f).lo, (setupOf f).hi⟩ : Su) _ _ (by rw [read_bad _ _ he]; decide)) ?_
            rintro _ w189 ⟨dr189, rfl, hdr189, hx189⟩
            replace hE2 := Ex.tr hE2 hx189
            replace hE4 := Ex.tr hE4 hx189
            replace hE16 := Ex.tr hE16 hx189
            replace hE181 := Ex.tr hE181 hx189
            replace hE184 := Ex.tr hE184 hx189
            replace hE188 := Ex.tr hE188 hx189
            refine RG.vl rfl rfl rfl (Ev.move rfl rfl) ?_
            refine RG.vl rfl rfl rfl (Ev.extract rfl rfl rfl) ?_
            refine RG.vl rfl rfl rfl (Ev.extract rfl rfl rfl) ?_
            refine RG.vl rfl rfl rfl (Ev.assign rfl rfl) ?_
            refine RG.vl rfl rfl rfl (Ev.assign rfl rfl) ?_
            refine RG.done ?_
            refine QW.then_ ?_
            refine CW.seq ?_
            refine CW.draw [] (.ex) 8 rfl mixed (fun wd190 hxwd190 => ?_)
            replace hE2 := Ex.tr hE2 hxwd190
            replace hE4 := Ex.tr hE4 hxwd190
            replace hE16 := Ex.tr hE16 hxwd190
            replace hE181 := Ex.tr hE181 hxwd190
            replace hE184 := Ex.tr hE184 hxwd190
            replace hE188 := Ex.tr hE188 hxwd190
            have hE191 := hxwd190
            refine AG.take 0 rfl (by kernel_rfl) (by kernel_rfl) rfl rfl rfl (fun wq hq => Ev.ldAgg rfl rfl Try.underlying23 rfl sz_23 rfl (((hbws179.ext hE181).ext hq).cells)) ?_
            refine AG.only 1 rfl (by kernel_rfl) ?_
            refine RG.makeL (m := 401) (enc := Br.c) (⟨0, 0, 0⟩ : Br) rfl rfl rfl rfl rfl rfl (rfl) Try.underlying24 inf_48 Br.c_len rfl rfl (by omega) (by simp only [maxLen]; omega) (fun g193 w193 eg193 hx193 hb193 hmk194 => ?_)
            have hle195 : w.heap.size ≤ g193 := by have := hE2.size; omega
            have hle196 : w1.heap.size ≤ g193 := by have := hE4.size; omega
            have hle197 : w5.heap.size ≤ g193 := by have := hE16.size; omega
            have hle198 : ws179.heap.size ≤ g193 := by have := hE181.size; omega
            have hle199 : w180.heap.size ≤ g193 := by have := hE184.size; omega
            have hle200 : w185.heap.size ≤ g193 := by have := hE188.size; omega
            have hle201 : w189.heap.size ≤ g193 := by have := hE191.size; omega
            have hle202 : wd190.heap.size ≤ g193 := by have := (Ex.rfl_ wd190).size; omega
            have hlt203 : g1 < g193 := by have := Blk.lt (hb1.ext hE4); omega
            have hlt204 : gS < g193 := by have := Blk.lt (hb5.ext hE16); omega
            have hlt205 : gR < g193 := by have := Blk.lt (hb17.ext hE181); omega
            have hlt206 : gB < g193 := by have := Blk.lt (hbws179.ext hE181); omega
            have hlt207 : g180 < g193 := by have := Blk.lt (hb180.ext hE184); omega
            have hlt208 : g185 < g193 := by have := Blk.lt (hb185.ext hE188); omega
            replace hE2 := Ex.tr hE2 hx193
            replace hE4 := Ex.tr hE4 hx193
            replace hE16 := Ex.tr hE16 hx193
            replace hE181 := Ex.tr hE181 hx193
            replace hE184 := Ex.tr hE184 hx193
            replace hE188 := Ex.tr hE188 hx193
            replace hE191 := Ex.tr hE191 hx193
            have hE209 := hx193
            refine RG.done ?_
            refine QW.an (fun _ => hE209) ?_
            refine AG.only 2 rfl (by kernel_rfl) ?_
            refine RG.call rfl rfl rfl rfl rfl rfl rfl en_10 (read_ret (⟨(setupOf f).pl, (setupOf f).og, (setupOf f).pi, max n (((setupOf f).pi + 1) / 2), (setupOf f).lo, (setupOf f).hi⟩ : Su) _ (List.replicate 401 ⟨0, 0, 0⟩) _ (hmk194) (by rw [List.length_replicate]; decide)) ?_
            rintro _ w211 ⟨rfl, hx211⟩
            replace hE2 := Ex.tr hE2 hx211
            replace hE4 := Ex.tr hE4 hx211
            replace hE16 := Ex.tr hE16 hx211
            replace hE181 := Ex.tr hE181 hx211
            replace hE184 := Ex.tr hE184 hx211
            replace hE188 := Ex.tr hE188 hx211
            replace hE191 := Ex.tr hE191 hx211
            have hE212 := hx211
            refine RG.done ?_
            refine QW.an (fun _ => hE212) ?_
            refine AG.takeW 3 rfl (by kernel_rfl) (by kernel_rfl) rfl rfl rfl (fun _ => Ev.move rfl rfl) ?_
            refine AG.takeW 4 rfl (by kernel_rfl) (by kernel_rfl) rfl rfl rfl (fun _ => Ev.extract rfl rfl rfl) ?_
            refine AG.takeW 5 rfl (by kernel_rfl) (by kernel_rfl) rfl rfl rfl (fun _ => Ev.extract rfl rfl rfl) ?_
            refine AG.takeW 6 rfl (by kernel_rfl) (by kernel_rfl) rfl rfl rfl (fun _ => Ev.assign rfl rfl) ?_
            refine AG.takeW 7 rfl (by kernel_rfl) (by kernel_rfl) rfl rfl rfl (fun _ => Ev.assign rfl rfl) ?_
            refine AG.done (by kernel_rfl) ?_
            refine QW.sub (S' := [(1, _), (6, _), (7, _), (8, _), (10, _), (11, _), (13, _), (15, _), (17, _)]) ⟨rfl, rfl, rfl, rfl, rfl, rfl, rfl, rfl, rfl, trivial⟩ ?_
            refine QW.then_ ?_
            refine CW.seq ?_
            have hdr : drawErr (⟨(setupOf f).pl, (setupOf f).og, (setupOf f).pi, max n (((setupOf f).pi + 1) / 2), (setupOf f).lo, (setupOf f).hi⟩ : Su) (⟨(readOf (⟨(setupOf f).pl, (setupOf f).og, (setupOf f).pi, max n (((setupOf f).pi + 1) / 2), (setupOf f).lo, (setupOf f).hi⟩ : Su) [(⟨(setupOf f).og, (setupOf f).lo, (setupOf f).hi⟩ : Br)]).toArray⟩ : ByteArray).data.toList = 2 := by rw [read_bad _ _ he]; exact draw_empty _
            refine CW.region ?_
            refine RG.vl rfl rfl rfl (Ev.move rfl rfl) ?_
            refine RG.vl rfl rfl rfl (Ev.isT (Ev.eqI rfl rfl rfl) (by omega)) ?_
            refine RG.vl rfl rfl rfl (Ev.move rfl rfl) ?_
            refine RG.vl rfl rfl rfl (Ev.move rfl rfl) ?_
            refine RG.vl rfl rfl rfl (Ev.move rfl rfl) ?_
            refine RG.vl rfl rfl rfl (Ev.isT (Ev.eqI rfl rfl rfl) (rfl)) ?_
            refine RG.vl rfl rfl rfl (Ev.pickT rfl rfl rfl) ?_
            refine RG.vl rfl rfl rfl (Ev.move rfl rfl) ?_
            refine RG.vl rfl rfl rfl (Ev.move rfl rfl) ?_
            refine RG.vl rfl rfl rfl (Ev.isT (Ev.eqS rfl rfl rfl) (by rw [read_bad _ _ he])) ?_
            refine RG.vl rfl rfl rfl (Ev.pickT rfl rfl rfl) ?_
            refine RG.vl rfl rfl rfl (Ev.move rfl rfl) ?_
            refine RG.vl rfl rfl rfl (Ev.move rfl rfl) ?_
            refine RG.vl rfl rfl rfl (Ev.rem8 rfl rfl rfl (by omega)) ?_
            refine RG.vl rfl rfl rfl (Ev.isF (Ev.geq rfl rfl rfl) (by omega)) ?_
            refine RG.vl rfl rfl rfl (Ev.move rfl rfl) ?_
            refine RG.vl rfl rfl rfl (Ev.move rfl rfl) ?_
            refine RG.vl rfl rfl rfl (Ev.isT (Ev.eqI rfl rfl rfl) (hdr)) ?_
            refine RG.vl rfl rfl rfl (Ev.move rfl rfl) ?_
            refine RG.vl rfl rfl rfl (Ev.ldAgg rfl rfl Try.underlying23 rfl sz_23 rfl ((hbws179.ext hE181).cells)) ?_
            refine RG.call rfl rfl rfl rfl rfl rfl rfl en_15 (right_no (⟨(setupOf f).pl, (setupOf f).og, (setupOf f).pi, max n (((setupOf f).pi + 1) / 2), (setupOf f).lo, (setupOf f).hi⟩ : Su) _ hno) ?_
            rintro _ w213 ⟨rfl, hx213⟩
            replace hE2 := Ex.tr hE2 hx213
            replace hE4 := Ex.tr hE4 hx213
            replace hE16 := Ex.tr hE16 hx213
            replace hE181 := Ex.tr hE181 hx213
            replace hE184 := Ex.tr hE184 hx213
            replace hE188 := Ex.tr hE188 hx213
            replace hE191 := Ex.tr hE191 hx213
            replace hE212 := Ex.tr hE212 hx213
            refine RG.vl rfl rfl rfl (Ev.notT rfl rfl) ?_
            refine RG.vl rfl rfl rfl (Ev.pickT rfl rfl rfl) ?_
            refine RG.vl rfl rfl rfl (Ev.pickF rfl rfl rfl) ?_
            refine RG.vl rfl rfl rfl (Ev.pickT rfl rfl rfl) ?_
            refine RG.vl rfl rfl rfl (Ev.move rfl rfl) ?_
            refine RG.vl rfl rfl rfl (Ev.ldAgg rfl rfl Try.underlying23 rfl sz_23 rfl ((hb5.ext hE16).cells)) ?_
            refine RG.call rfl rfl rfl rfl rfl rfl rfl en_15 (right_yes (setupOf f) _ hok) ?_
            rintro _ w214 ⟨rfl, hx214⟩
            replace hE2 := Ex.tr hE2 hx214
            replace hE4 := Ex.tr hE4 hx214
            replace hE16 := Ex.tr hE16 hx214
            replace hE181 := Ex.tr hE181 hx214
            replace hE184 := Ex.tr hE184 hx214
            replace hE188 := Ex.tr hE188 hx214
            replace hE191 := Ex.tr hE191 hx214
            replace hE212 := Ex.tr hE212 hx214
            refine RG.vl rfl rfl rfl (Ev.pickT rfl rfl rfl) ?_
            refine RG.vl rfl rfl rfl (Ev.move rfl rfl) ?_
            refine RG.vl rfl rfl rfl (Ev.move rfl rfl) ?_
            refine RG.vl rfl rfl rfl (Ev.isT (Ev.eqI rfl rfl rfl) (by rw [err_many])) ?_
            refine RG.vl rfl rfl rfl (Ev.pickT rfl rfl rfl) ?_
            refine RG.vl rfl rfl rfl (Ev.move rfl rfl) ?_
            refine RG.call rfl rfl rfl rfl rfl rfl rfl en_9 (awake_ret _) ?_
            rintro _ w215 ⟨rfl, hx215⟩
            replace hE2 := Ex.tr hE2 hx215
            replace hE4 := Ex.tr hE4 hx215
            replace hE16 := Ex.tr hE16 hx215
            replace hE181 := Ex.tr hE181 hx215
            replace hE184 := Ex.tr hE184 hx215
            replace hE188 := Ex.tr hE188 hx215
            replace hE191 := Ex.tr hE191 hx215
            replace hE212 := Ex.tr hE212 hx215
            refine RG.vl rfl rfl rfl (Ev.pickT rfl rfl rfl) ?_
            refine RG.vl rfl rfl rfl (Ev.assign rfl rfl) ?_
            refine RG.done ?_
            refine QW.sub (S' := [(6, _)]) ⟨rfl, trivial⟩ ?_
            refine QW.then_ ?_
            refine CW.ret ?_
            refine QW.ret1 rfl rfl ?_
            have hB := (Ex.tr hB0 hE2)
            exact ⟨rfl, hB⟩
          · refine CW.seq ?_
            refine CW.region ?_
            refine RG.vl rfl rfl rfl (Ev.eqI rfl rfl rfl) ?_
            refine RG.vl rfl rfl rfl (Ev.assign rfl rfl) ?_
            refine RG.done ?_
            refine QW.sub (S' := [(1, _), (2, _), (6, _), (7, _), (8, _), (9, _), (29, _), (59, _)]) ⟨rfl, rfl, rfl, rfl, rfl, rfl, rfl, rfl, trivial⟩ ?_
            refine QW.then_ ?_
            refine CW.condP rfl (fun hc216 => ?_) (fun hc216 => ?_)
            · refine CW.region ?_
              refine RG.vl rfl rfl rfl (Ev.move rfl rfl) ?_
              refine RG.vl rfl rfl rfl (Ev.min2 rfl rfl rfl rfl) ?_
              refine RG.vl rfl rfl rfl (Ev.fld rfl rfl fld_23_3) ?_
              refine RG.st (g := gB) (k := 3) rfl rfl rfl rfl rfl sz_3 rfl (hb10.ext hE25) rfl (fun ws217 hwws217 hbws217 => ?_)
              replace hb17 := Blk.far hb17 hwws217 (by omega)
              replace hE2 := Wr.below hE2 hwws217 hle11
              replace hE4 := Wr.below hE4 hwws217 hle12
              replace hE16 := Wr.below hE16 hwws217 hle13
              refine RG.done ?_
              refine QW.blockN ?_
              refine QW.then_ ?_
              refine CW.seq ?_
              have hno : ¬ Okay (⟨(setupOf f).pl, (setupOf f).og, (setupOf f).pi, min n (-1), (setupOf f).lo, (setupOf f).hi⟩ : Su) := by intro h; unfold Okay at h; simp only at h; omega
              have he : errOf (⟨(setupOf f).pl, (setupOf f).og, (setupOf f).pi, min n (-1), (setupOf f).lo, (setupOf f).hi⟩ : Su) [(⟨(setupOf f).og, (setupOf f).lo, (setupOf f).hi⟩ : Br)] = 2 := err_setup _ _ hno
              refine CW.region ?_
              refine RG.vl rfl rfl rfl (Ev.ldAgg rfl rfl Try.underlying23 rfl sz_23 rfl (hbws217.cells)) ?_
              refine RG.vl rfl rfl rfl (Ev.ldAgg rfl rfl Try.underlying48 rfl sz_48 rfl (hb17.cells)) ?_
              refine RG.buildD (xs := [.tmp 98]) rfl rfl rfl rfl rfl rfl rfl Try.underlying24 inf_48 rfl rfl rfl rfl (fun g218 w218 eg218 hx218 hb218 => ?_)
              replace hE2 := Ex.tr hE2 hx218
              replace hE4 := Ex.tr hE4 hx218
              replace hE16 := Ex.tr hE16 hx218
              have hE219 := hx218
              have hlit220 : RdL w218 3 Br.c (.slice (some ⟨g218, 0, none⟩) 1 1) ([(⟨(setupOf f).og, (setupOf f).lo, (setupOf f).hi⟩ : Br)]) := RdL.of_blk Br.c_len (l := [(⟨(setupOf f).og, (setupOf f).lo, (setupOf f).hi⟩ : Br)]) hb218 (Nat.le_refl _) (by decide)
              refine RG.call rfl rfl rfl rfl rfl rfl rfl en_10 (read_ret (⟨(setupOf f).pl, (setupOf f).og, (setupOf f).pi, min n (-1), (setupOf f).lo, (setupOf f).hi⟩ : Su) _ [(⟨(setupOf f).og, (setupOf f).lo, (setupOf f).hi⟩ : Br)] _ (hlit220) (by simp)) ?_
              rintro _ w221 ⟨rfl, hx221⟩
              replace hE2 := Ex.tr hE2 hx221
              replace hE4 := Ex.tr hE4 hx221
              replace hE16 := Ex.tr hE16 hx221
              replace hE219 := Ex.tr hE219 hx221
              have hE222 := hx221
              refine RG.vl rfl rfl rfl (Ev.move rfl rfl) ?_
              refine RG.vl rfl rfl rfl (Ev.extract rfl rfl rfl) ?_
              refine RG.vl rfl rfl rfl (Ev.extract rfl rfl rfl) ?_
              refine RG.vl rfl rfl rfl (Ev.assign rfl rfl) ?_
              refine RG.vl rfl rfl rfl (Ev.assign rfl rfl) ?_
              refine RG.done ?_
              refine QW.then_ ?_
              refine CW.seq ?_
              refine CW.region ?_
              refine RG.vl rfl rfl rfl (Ev.ldAgg rfl rfl Try.underlying23 rfl sz_23 rfl ((hbws217.ext hE219).cells)) ?_
              refine RG.vl rfl rfl rfl (Ev.ldAgg rfl rfl Try.underlying48 rfl sz_48 rfl ((hb17.ext hE219).cells)) ?_
              refine RG.buildD (xs := [.tmp 105]) rfl rfl rfl rfl rfl rfl rfl Try.underlying24 inf_48 rfl rfl rfl rfl (fun g223 w223 eg223 hx223 hb223 => ?_)
              replace hE2 := Ex.tr hE2 hx223
              replace hE4 := Ex.tr hE4 hx223
              replace hE16 := Ex.tr hE16 hx223
              replace hE219 := Ex.tr hE219 hx223
              replace hE222 := Ex.tr hE222 hx223
              have hlit224 : RdL w223 3 Br.c (.slice (some ⟨g223, 0, none⟩) 1 1) ([(⟨(setupOf f).og, (setupOf f).lo, (setupOf f).hi⟩ : Br)]) := RdL.of_blk Br.c_len (l := [(⟨(setupOf f).og, (setupOf f).lo, (setupOf f).hi⟩ : Br)]) hb223 (Nat.le_refl _) (by decide)
              refine RG.call rfl rfl rfl rfl rfl rfl rfl en_11 (margin_ret (⟨(setupOf f).pl, (setupOf f).og, (setupOf f).pi, min n (-1), (setupOf f).lo, (setupOf f).hi⟩ : Su) _ [(⟨(setupOf f).og, (setupOf f).lo, (setupOf f).hi⟩ : Br)] _ (hlit224) (by simp)) ?_
              rintro _ w225 ⟨rfl, hx225⟩
              replace hE2 := Ex.tr hE2 hx225
              replace hE4 := Ex.tr hE4 hx225
              replace hE16 := Ex.tr hE16 hx225
              replace hE219 := Ex.tr hE219 hx225
              replace hE222 := Ex.tr hE222 hx225
              have hE226 := hx225
              refine RG.vl rfl rfl rfl (Ev.move rfl rfl) ?_
              refine RG.vl rfl rfl rfl (Ev.extract rfl rfl rfl) ?_
              refine RG.vl rfl rfl rfl (Ev.extract rfl rfl rfl) ?_
              refine RG.vl rfl rfl rfl (Ev.assign rfl rfl) ?_
              refine RG.vl rfl rfl rfl (Ev.assign rfl rfl) ?_
              refine RG.done ?_
              refine QW.sub (S' := [(1, _), (6, _), (7, _), (8, _), (10, _), (11, _), (13, _)]) ⟨rfl, rfl, rfl, rfl, rfl, rfl, rfl, trivial⟩ ?_
              refine QW.then_ ?_
              refine CW.seq ?_
              refine CW.region ?_
              refine RG.vl rfl rfl rfl (Ev.ldAgg rfl rfl Try.underlying23 rfl sz_23 rfl ((hbws217.ext hE219).cells)) ?_
              refine RG.vl rfl rfl rfl (Ev.move rfl rfl) ?_
              refine RG.call rfl rfl rfl rfl rfl rfl rfl en_18 (draw_ret (⟨(setupOf f).pl, (setupOf f).og, (setupOf f).pi, min n (-1), (setupOf f).lo, (setupOf f).hi⟩ : Su) _ _ (by rw [read_bad _ _ he]; decide)) ?_
              rintro _ w227 ⟨dr227, rfl, hdr227, hx227⟩
              replace hE2 := Ex.tr hE2 hx227
              replace hE4 := Ex.tr hE4 hx227
              replace hE16 := Ex.tr hE16 hx227
              replace hE219 := Ex.tr hE219 hx227
              replace hE222 := Ex.tr hE222 hx227
              replace hE226 := Ex.tr hE226 hx227
              refine RG.vl rfl rfl rfl (Ev.move rfl rfl) ?_
              refine RG.vl rfl rfl rfl (Ev.extract rfl rfl rfl) ?_
              refine RG.vl rfl rfl rfl (Ev.extract rfl rfl rfl) ?_
              refine RG.vl rfl rfl rfl (Ev.assign rfl rfl) ?_
              refine RG.vl rfl rfl rfl (Ev.assign rfl rfl) ?_
              refine RG.done ?_
              refine QW.then_ ?_
              refine CW.seq ?_
              refine CW.draw [] (.ex) 8 rfl mixed (fun wd228 hxwd228 => ?_)
              replace hE2 := Ex.tr hE2 hxwd228
              replace hE4 := Ex.tr hE4 hxwd228
              replace hE16 := Ex.tr hE16 hxwd228
              replace hE219 := Ex.tr hE219 hxwd228
              replace hE222 := Ex.tr hE222 hxwd228
              replace hE226 := Ex.tr hE226 hxwd228
              have hE229 := hxwd228
              refine AG.take 0 rfl (by kernel_rfl) (by kernel_rfl) rfl rfl rfl (fun wq hq => Ev.ldAgg rfl rfl Try.underlying23 rfl sz_23 rfl (((hbws217.ext hE219).ext hq).cells)) ?_
              refine AG.only 1 rfl (by kernel_rfl) ?_
              refine RG.makeL (m := 401) (enc := Br.c) (⟨0, 0, 0⟩ : Br) rfl rfl rfl rfl rfl rfl (rfl) Try.underlying24 inf_48 Br.c_len rfl rfl (by omega) (by simp only [maxLen]; omega) (fun g231 w231 eg231 hx231 hb231 hmk232 => ?_)
              have hle233 : w.heap.size ≤ g231 := by have := hE2.size; omega
              have hle234 : w1.heap.size ≤ g231 := by have := hE4.size; omega
              have hle235 : w5.heap.size ≤ g231 := by have := hE16.size; omega
              have hle236 : ws217.heap.size ≤ g231 := by have := hE219.size; omega
              have hle237 : w218.heap.size ≤ g231 := by have := hE222.size; omega
              have hle238 : w223.heap.size ≤ g231 := by have := hE226.size; omega
              have hle239 : w227.heap.size ≤ g231 := by have := hE229.size; omega
              have hle240 : wd228.heap.size ≤ g231 := by have := (Ex.rfl_ wd228).size; omega
              have hlt241 : g1 < g231 := by have := Blk.lt (hb1.ext hE4); omega
              have hlt242 : gS < g231 := by have := Blk.lt (hb5.ext hE16); omega
              have hlt243 : gR < g231 := by have := Blk.lt (hb17.ext hE219); omega
              have hlt244 : gB < g231 := by have := Blk.lt (hbws217.ext hE219); omega
              have hlt245 : g218 < g231 := by have := Blk.lt (hb218.ext hE222); omega
              have hlt246 : g223 < g231 := by have := Blk.lt (hb223.ext hE226); omega
              replace hE2 := Ex.tr hE2 hx231
              replace hE4 := Ex.tr hE4 hx231
              replace hE16 := Ex.tr hE16 hx231
              replace hE219 := Ex.tr hE219 hx231
              replace hE222 := Ex.tr hE222 hx231
              replace hE226 := Ex.tr hE226 hx231
              replace hE229 := Ex.tr hE229 hx231
              have hE247 := hx231
              refine RG.done ?_
              refine QW.an (fun _ => hE247) ?_
              refine AG.only 2 rfl (by kernel_rfl) ?_
              refine RG.call rfl rfl rfl rfl rfl rfl rfl en_10 (read_ret (⟨(setupOf f).pl, (setupOf f).og, (setupOf f).pi, min n (-1), (setupOf f).lo, (setupOf f).hi⟩ : Su) _ (List.replicate 401 ⟨0, 0, 0⟩) _ (hmk232) (by rw [List.length_replicate]; decide)) ?_
              rintro _ w249 ⟨rfl, hx249⟩
              replace hE2 := Ex.tr hE2 hx249
              replace hE4 := Ex.tr hE4 hx249
              replace hE16 := Ex.tr hE16 hx249
              replace hE219 := Ex.tr hE219 hx249
              replace hE222 := Ex.tr hE222 hx249
              replace hE226 := Ex.tr hE226 hx249
              replace hE229 := Ex.tr hE229 hx249
              have hE250 := hx249
              refine RG.done ?_
              refine QW.an (fun _ => hE250) ?_
              refine AG.takeW 3 rfl (by kernel_rfl) (by kernel_rfl) rfl rfl rfl (fun _ => Ev.move rfl rfl) ?_
              refine AG.takeW 4 rfl (by kernel_rfl) (by kernel_rfl) rfl rfl rfl (fun _ => Ev.extract rfl rfl rfl) ?_
              refine AG.takeW 5 rfl (by kernel_rfl) (by kernel_rfl) rfl rfl rfl (fun _ => Ev.extract rfl rfl rfl) ?_
              refine AG.takeW 6 rfl (by kernel_rfl) (by kernel_rfl) rfl rfl rfl (fun _ => Ev.assign rfl rfl) ?_
              refine AG.takeW 7 rfl (by kernel_rfl) (by kernel_rfl) rfl rfl rfl (fun _ => Ev.assign rfl rfl) ?_
              refine AG.done (by kernel_rfl) ?_
              refine QW.sub (S' := [(1, _), (6, _), (7, _), (8, _), (10, _), (11, _), (13, _), (15, _), (17, _)]) ⟨rfl, rfl, rfl, rfl, rfl, rfl, rfl, rfl, rfl, trivial⟩ ?_
              refine QW.then_ ?_
              refine CW.seq ?_
              have hdr : drawErr (⟨(setupOf f).pl, (setupOf f).og, (setupOf f).pi, min n (-1), (setupOf f).lo, (setupOf f).hi⟩ : Su) (⟨(readOf (⟨(setupOf f).pl, (setupOf f).og, (setupOf f).pi, min n (-1), (setupOf f).lo, (setupOf f).hi⟩ : Su) [(⟨(setupOf f).og, (setupOf f).lo, (setupOf f).hi⟩ : Br)]).toArray⟩ : ByteArray).data.toList = 2 := by rw [read_bad _ _ he]; exact draw_empty _
              refine CW.region ?_
              refine RG.vl rfl rfl rfl (Ev.move rfl rfl) ?_
              refine RG.vl rfl rfl rfl (Ev.isT (Ev.eqI rfl rfl rfl) (by omega)) ?_
              refine RG.vl rfl rfl rfl (Ev.move rfl rfl) ?_
              refine RG.vl rfl rfl rfl (Ev.move rfl rfl) ?_
              refine RG.vl rfl rfl rfl (Ev.move rfl rfl) ?_
              refine RG.vl rfl rfl rfl (Ev.isT (Ev.eqI rfl rfl rfl) (rfl)) ?_
              refine RG.vl rfl rfl rfl (Ev.pickT rfl rfl rfl) ?_
              refine RG.vl rfl rfl rfl (Ev.move rfl rfl) ?_
              refine RG.vl rfl rfl rfl (Ev.move rfl rfl) ?_
              refine RG.vl rfl rfl rfl (Ev.isT (Ev.eqS rfl rfl rfl) (by rw [read_bad _ _ he])) ?_
              refine RG.vl rfl rfl rfl (Ev.pickT rfl rfl rfl) ?_
              refine RG.vl rfl rfl rfl (Ev.move rfl rfl) ?_
              refine RG.vl rfl rfl rfl (Ev.move rfl rfl) ?_
              refine RG.vl rfl rfl rfl (Ev.rem8 rfl rfl rfl (by omega)) ?_
              refine RG.vl rfl rfl rfl (Ev.isF (Ev.geq rfl rfl rfl) (by omega)) ?_
              refine RG.vl rfl rfl rfl (Ev.move rfl rfl) ?_
              refine RG.vl rfl rfl rfl (Ev.move rfl rfl) ?_
              refine RG.vl rfl rfl rfl (Ev.isT (Ev.eqI rfl rfl rfl) (hdr)) ?_
              refine RG.vl rfl rfl rfl (Ev.move rfl rfl) ?_
              refine RG.vl rfl rfl rfl (Ev.ldAgg rfl rfl Try.underlying23 rfl sz_23 rfl ((hbws217.ext hE219).cells)) ?_
              refine RG.call rfl rfl rfl rfl rfl rfl rfl en_15 (right_no (⟨(setupOf f).pl, (setupOf f).og, (setupOf f).pi, min n (-1), (setupOf f).lo, (setupOf f).hi⟩ : Su) _ hno) ?_
              rintro _ w251 ⟨rfl, hx251⟩
              replace hE2 := Ex.tr hE2 hx251
              replace hE4 := Ex.tr hE4 hx251
              replace hE16 := Ex.tr hE16 hx251
              replace hE219 := Ex.tr hE219 hx251
              replace hE222 := Ex.tr hE222 hx251
              replace hE226 := Ex.tr hE226 hx251
              replace hE229 := Ex.tr hE229 hx251
              replace hE250 := Ex.tr hE250 hx251
              refine RG.vl rfl rfl rfl (Ev.notT rfl rfl) ?_
              refine RG.vl rfl rfl rfl (Ev.pickT rfl rfl rfl) ?_
              refine RG.vl rfl rfl rfl (Ev.pickF rfl rfl rfl) ?_
              refine RG.vl rfl rfl rfl (Ev.pickT rfl rfl rfl) ?_
              refine RG.vl rfl rfl rfl (Ev.move rfl rfl) ?_
              refine RG.vl rfl rfl rfl (Ev.ldAgg rfl rfl Try.underlying23 rfl sz_23 rfl ((hb5.ext hE16).cells)) ?_
              refine RG.call rfl rfl rfl rfl rfl rfl rfl en_15 (right_yes (setupOf f) _ hok) ?_
              rintro _ w252 ⟨rfl, hx252⟩
              replace hE2 := Ex.tr hE2 hx252
              replace hE4 := Ex.tr hE4 hx252
              replace hE16 := Ex.tr hE16 hx252
              replace hE219 := Ex.tr hE219 hx252
              replace hE222 := Ex.tr hE222 hx252
              replace hE226 := Ex.tr hE226 hx252
              replace hE229 := Ex.tr hE229 hx252
              replace hE250 := Ex.tr hE250 hx252
              refine RG.vl rfl rfl rfl (Ev.pickT rfl rfl rfl) ?_
              refine RG.vl rfl rfl rfl (Ev.move rfl rfl) ?_
              refine RG.vl rfl rfl rfl (Ev.move rfl rfl) ?_
              refine RG.vl rfl rfl rfl (Ev.isT (Ev.eqI rfl rfl rfl) (by rw [err_many])) ?_
              refine RG.vl rfl rfl rfl (Ev.pickT rfl rfl rfl) ?_
              refine RG.vl rfl rfl rfl (Ev.move rfl rfl) ?_
              refine RG.call rfl rfl rfl rfl rfl rfl rfl en_9 (awake_ret _) ?_
              rintro _ w253 ⟨rfl, hx253⟩
              replace hE2 := Ex.tr hE2 hx253
              replace hE4 := Ex.tr hE4 hx253
              replace hE16 := Ex.tr hE16 hx253
              replace hE219 := Ex.tr hE219 hx253
              replace hE222 := Ex.tr hE222 hx253
              replace hE226 := Ex.tr hE226 hx253
              replace hE229 := Ex.tr hE229 hx253
              replace hE250 := Ex.tr hE250 hx253
              refine RG.vl rfl rfl rfl (Ev.pickT rfl rfl rfl) ?_
              refine RG.vl rfl rfl rfl (Ev.assign rfl rfl) ?_
              refine RG.done ?_
              refine QW.sub (S' := [(6, _)]) ⟨rfl, trivial⟩ ?_
              refine QW.then_ ?_
              refine CW.ret ?_
              refine QW.ret1 rfl rfl ?_
              have hB := (Ex.tr hB0 hE2)
              exact ⟨rfl, hB⟩
            · refine CW.seq ?_
              refine CW.region ?_
              refine RG.vl rfl rfl rfl (Ev.eqI rfl rfl rfl) ?_
              refine RG.vl rfl rfl rfl (Ev.assign rfl rfl) ?_
              refine RG.done ?_
              refine QW.then_ ?_
              refine CW.condP rfl (fun hc254 => ?_) (fun hc254 => ?_)
              · refine CW.region ?_
                refine RG.vl rfl rfl rfl (Ev.move rfl rfl) ?_
                refine RG.vl rfl rfl rfl (Ev.min2 rfl rfl rfl rfl) ?_
                refine RG.vl rfl rfl rfl (Ev.fld rfl rfl fld_23_4) ?_
                refine RG.st (g := gB) (k := 4) rfl rfl rfl rfl rfl sz_3 rfl (hb10.ext hE25) rfl (fun ws255 hwws255 hbws255 => ?_)
                replace hb17 := Blk.far hb17 hwws255 (by omega)
                replace hE2 := Wr.below hE2 hwws255 hle11
                replace hE4 := Wr.below hE4 hwws255 hle12
                replace hE16 := Wr.below hE16 hwws255 hle13
                refine RG.done ?_
                refine QW.blockN ?_
                refine QW.then_ ?_
                refine CW.seq ?_
                have hno : ¬ Okay (⟨(setupOf f).pl, (setupOf f).og, (setupOf f).pi, (setupOf f).sl, min n (-1), (setupOf f).hi⟩ : Su) := by intro h; unfold Okay at h; simp only at h; omega
                have he : errOf (⟨(setupOf f).pl, (setupOf f).og, (setupOf f).pi, (setupOf f).sl, min n (-1), (setupOf f).hi⟩ : Su) [(⟨(setupOf f).og, (setupOf f).lo, (setupOf f).hi⟩ : Br)] = 2 := err_setup _ _ hno
                refine CW.region ?_
                refine RG.vl rfl rfl rfl (Ev.ldAgg rfl rfl Try.underlying23 rfl sz_23 rfl (hbws255.cells)) ?_
                refine RG.vl rfl rfl rfl (Ev.ldAgg rfl rfl Try.underlying48 rfl sz_48 rfl (hb17.cells)) ?_
                refine RG.buildD (xs := [.tmp 98]) rfl rfl rfl rfl rfl rfl rfl Try.underlying24 inf_48 rfl rfl rfl rfl (fun g256 w256 eg256 hx256 hb256 => ?_)
                replace hE2 := Ex.tr hE2 hx256
                replace hE4 := Ex.tr hE4 hx256
                replace hE16 := Ex.tr hE16 hx256
                have hE257 := hx256
                have hlit258 : RdL w256 3 Br.c (.slice (some ⟨g256, 0, none⟩) 1 1) ([(⟨(setupOf f).og, (setupOf f).lo, (setupOf f).hi⟩ : Br)]) := RdL.of_blk Br.c_len (l := [(⟨(setupOf f).og, (setupOf f).lo, (setupOf f).hi⟩ : Br)]) hb256 (Nat.le_refl _) (by decide)
                refine RG.call rfl rfl rfl rfl rfl rfl rfl en_10 (read_ret (⟨(setupOf f).pl, (setupOf f).og, (setupOf f).pi, (setupOf f).sl, min n (-1), (setupOf f).hi⟩ : Su) _ [(⟨(setupOf f).og, (setupOf f).lo, (setupOf f).hi⟩ : Br)] _ (hlit258) (by simp)) ?_
                rintro _ w259 ⟨rfl, hx259⟩
                replace hE2 := Ex.tr hE2 hx259
                replace hE4 := Ex.tr hE4 hx259
                replace hE16 := Ex.tr hE16 hx259
                replace hE257 := Ex.tr hE257 hx259
                have hE260 := hx259
                refine RG.vl rfl rfl rfl (Ev.move rfl rfl) ?_
                refine RG.vl rfl rfl rfl (Ev.extract rfl rfl rfl) ?_
                refine RG.vl rfl rfl rfl (Ev.extract rfl rfl rfl) ?_
                refine RG.vl rfl rfl rfl (Ev.assign rfl rfl) ?_
                refine RG.vl rfl rfl rfl (Ev.assign rfl rfl) ?_
                refine RG.done ?_
                refine QW.sub (S' := [(1, _), (6, _), (7, _), (8, _), (9, _), (10, _), (11, _)]) ⟨rfl, rfl, rfl, rfl, rfl, rfl, rfl, trivial⟩ ?_
                refine QW.then_ ?_
                refine CW.seq ?_
                refine CW.region ?_
                refine RG.vl rfl rfl rfl (Ev.ldAgg rfl rfl Try.underlying23 rfl sz_23 rfl ((hbws255.ext hE257).cells)) ?_
                refine RG.vl rfl rfl rfl (Ev.ldAgg rfl rfl Try.underlying48 rfl sz_48 rfl ((hb17.ext hE257).cells)) ?_
                refine RG.buildD (xs := [.tmp 105]) rfl rfl rfl rfl rfl rfl rfl Try.underlying24 inf_48 rfl rfl rfl rfl (fun g261 w261 eg261 hx261 hb261 => ?_)
                replace hE2 := Ex.tr hE2 hx261
                replace hE4 := Ex.tr hE4 hx261
                replace hE16 := Ex.tr hE16 hx261
                replace hE257 := Ex.tr hE257 hx261
                replace hE260 := Ex.tr hE260 hx261
                have hlit262 : RdL w261 3 Br.c (.slice (some ⟨g261, 0, none⟩) 1 1) ([(⟨(setupOf f).og, (setupOf f).lo, (setupOf f).hi⟩ : Br)]) := RdL.of_blk Br.c_len (l := [(⟨(setupOf f).og, (setupOf f).lo, (setupOf f).hi⟩ : Br)]) hb261 (Nat.le_refl _) (by decide)
                refine RG.call rfl rfl rfl rfl rfl rfl rfl en_11 (margin_ret (⟨(setupOf f).pl, (setupOf f).og, (setupOf f).pi, (setupOf f).sl, min n (-1), (setupOf f).hi⟩ : Su) _ [(⟨(setupOf f).og, (setupOf f).lo, (setupOf f).hi⟩ : Br)] _ (hlit262) (by simp)) ?_
                rintro _ w263 ⟨rfl, hx263⟩
                replace hE2 := Ex.tr hE2 hx263
                replace hE4 := Ex.tr hE4 hx263
                replace hE16 := Ex.tr hE16 hx263
                replace hE257 := Ex.tr hE257 hx263
                replace hE260 := Ex.tr hE260 hx263
                have hE264 := hx263
                refine RG.vl rfl rfl rfl (Ev.move rfl rfl) ?_
                refine RG.vl rfl rfl rfl (Ev.extract rfl rfl rfl) ?_
                refine RG.vl rfl rfl rfl (Ev.extract rfl rfl rfl) ?_
                refine RG.vl rfl rfl rfl (Ev.assign rfl rfl) ?_
                refine RG.vl rfl rfl rfl (Ev.assign rfl rfl) ?_
                refine RG.done ?_
                refine QW.then_ ?_
                refine CW.seq ?_
                refine CW.region ?_
                refine RG.vl rfl rfl rfl (Ev.ldAgg rfl rfl Try.underlying23 rfl sz_23 rfl ((hbws255.ext hE257).cells)) ?_
                refine RG.vl rfl rfl rfl (Ev.move rfl rfl) ?_
                refine RG.call rfl rfl rfl rfl rfl rfl rfl en_18 (draw_ret (⟨(setupOf f).pl, (setupOf f).og, (setupOf f).pi, (setupOf f).sl, min n (-1), (setupOf f).hi⟩ : Su) _ _ (by rw [read_bad _ _ he]; decide)) ?_
                rintro _ w265 ⟨dr265, rfl, hdr265, hx265⟩
                replace hE2 := Ex.tr hE2 hx265
                replace hE4 := Ex.tr hE4 hx265
                replace hE16 := Ex.tr hE16 hx265
                replace hE257 := Ex.tr hE257 hx265
                replace hE260 := Ex.tr hE260 hx265
                replace hE264 := Ex.tr hE264 hx265
                refine RG.vl rfl rfl rfl (Ev.move rfl rfl) ?_
                refine RG.vl rfl rfl rfl (Ev.extract rfl rfl rfl) ?_
                refine RG.vl rfl rfl rfl (Ev.extract rfl rfl rfl) ?_
                refine RG.vl rfl rfl rfl (Ev.assign rfl rfl) ?_
                refine RG.vl rfl rfl rfl (Ev.assign rfl rfl) ?_
                refine RG.done ?_
                refine QW.sub (S' := [(1, _), (6, _), (7, _), (8, _), (10, _), (11, _), (13, _), (15, _)]) ⟨rfl, rfl, rfl, rfl, rfl, rfl, rfl, rfl, trivial⟩ ?_
                refine QW.then_ ?_
                refine CW.seq ?_
                refine CW.draw [] (.ex) 8 rfl mixed (fun wd266 hxwd266 => ?_)
                replace hE2 := Ex.tr hE2 hxwd266
                replace hE4 := Ex.tr hE4 hxwd266
                replace hE16 := Ex.tr hE16 hxwd266
                replace hE257 := Ex.tr hE257 hxwd266
                replace hE260 := Ex.tr hE260 hxwd266
                replace hE264 := Ex.tr hE264 hxwd266
                have hE267 := hxwd266
                refine AG.take 0 rfl (by kernel_rfl) (by kernel_rfl) rfl rfl rfl (fun wq hq => Ev.ldAgg rfl rfl Try.underlying23 rfl sz_23 rfl (((hbws255.ext hE257).ext hq).cells)) ?_
                refine AG.only 1 rfl (by kernel_rfl) ?_
                refine RG.makeL (m := 401) (enc := Br.c) (⟨0, 0, 0⟩ : Br) rfl rfl rfl rfl rfl rfl (rfl) Try.underlying24 inf_48 Br.c_len rfl rfl (by omega) (by simp only [maxLen]; omega) (fun g269 w269 eg269 hx269 hb269 hmk270 => ?_)
                have hle271 : w.heap.size ≤ g269 := by have := hE2.size; omega
                have hle272 : w1.heap.size ≤ g269 := by have := hE4.size; omega
                have hle273 : w5.heap.size ≤ g269 := by have := hE16.size; omega
                have hle274 : ws255.heap.size ≤ g269 := by have := hE257.size; omega
                have hle275 : w256.heap.size ≤ g269 := by have := hE260.size; omega
                have hle276 : w261.heap.size ≤ g269 := by have := hE264.size; omega
                have hle277 : w265.heap.size ≤ g269 := by have := hE267.size; omega
                have hle278 : wd266.heap.size ≤ g269 := by have := (Ex.rfl_ wd266).size; omega
                have hlt279 : g1 < g269 := by have := Blk.lt (hb1.ext hE4); omega
                have hlt280 : gS < g269 := by have := Blk.lt (hb5.ext hE16); omega
                have hlt281 : gR < g269 := by have := Blk.lt (hb17.ext hE257); omega
                have hlt282 : gB < g269 := by have := Blk.lt (hbws255.ext hE257); omega
                have hlt283 : g256 < g269 := by have := Blk.lt (hb256.ext hE260); omega
                have hlt284 : g261 < g269 := by have := Blk.lt (hb261.ext hE264); omega
                replace hE2 := Ex.tr hE2 hx269
                replace hE4 := Ex.tr hE4 hx269
                replace hE16 := Ex.tr hE16 hx269
                replace hE257 := Ex.tr hE257 hx269
                replace hE260 := Ex.tr hE260 hx269
                replace hE264 := Ex.tr hE264 hx269
                replace hE267 := Ex.tr hE267 hx269
                have hE285 := hx269
                refine RG.done ?_
                refine QW.an (fun _ => hE285) ?_
                refine AG.only 2 rfl (by kernel_rfl) ?_
                refine RG.call rfl rfl rfl rfl rfl rfl rfl en_10 (read_ret (⟨(setupOf f).pl, (setupOf f).og, (setupOf f).pi, (setupOf f).sl, min n (-1), (setupOf f).hi⟩ : Su) _ (List.replicate 401 ⟨0, 0, 0⟩) _ (hmk270) (by rw [List.length_replicate]; decide)) ?_
                rintro _ w287 ⟨rfl, hx287⟩
                replace hE2 := Ex.tr hE2 hx287
                replace hE4 := Ex.tr hE4 hx287
                replace hE16 := Ex.tr hE16 hx287
                replace hE257 := Ex.tr hE257 hx287
                replace hE260 := Ex.tr hE260 hx287
                replace hE264 := Ex.tr hE264 hx287
                replace hE267 := Ex.tr hE267 hx287
                have hE288 := hx287
                refine RG.done ?_
                refine QW.an (fun _ => hE288) ?_
                refine AG.takeW 3 rfl (by kernel_rfl) (by kernel_rfl) rfl rfl rfl (fun _ => Ev.move rfl rfl) ?_
                refine AG.takeW 4 rfl (by kernel_rfl) (by kernel_rfl) rfl rfl rfl (fun _ => Ev.extract rfl rfl rfl) ?_
                refine AG.takeW 5 rfl (by kernel_rfl) (by kernel_rfl) rfl rfl rfl (fun _ => Ev.extract rfl rfl rfl) ?_
                refine AG.takeW 6 rfl (by kernel_rfl) (by kernel_rfl) rfl rfl rfl (fun _ => Ev.assign rfl rfl) ?_
                refine AG.takeW 7 rfl (by kernel_rfl) (by kernel_rfl) rfl rfl rfl (fun _ => Ev.assign rfl rfl) ?_
                refine AG.done (by kernel_rfl) ?_
                refine QW.then_ ?_
                refine CW.seq ?_
                have hdr : drawErr (⟨(setupOf f).pl, (setupOf f).og, (setupOf f).pi, (setupOf f).sl, min n (-1), (setupOf f).hi⟩ : Su) (⟨(readOf (⟨(setupOf f).pl, (setupOf f).og, (setupOf f).pi, (setupOf f).sl, min n (-1), (setupOf f).hi⟩ : Su) [(⟨(setupOf f).og, (setupOf f).lo, (setupOf f).hi⟩ : Br)]).toArray⟩ : ByteArray).data.toList = 2 := by rw [read_bad _ _ he]; exact draw_empty _
                refine CW.region ?_
                refine RG.vl rfl rfl rfl (Ev.move rfl rfl) ?_
                refine RG.vl rfl rfl rfl (Ev.isT (Ev.eqI rfl rfl rfl) (by omega)) ?_
                refine RG.vl rfl rfl rfl (Ev.move rfl rfl) ?_
                refine RG.vl rfl rfl rfl (Ev.move rfl rfl) ?_
                refine RG.vl rfl rfl rfl (Ev.move rfl rfl) ?_
                refine RG.vl rfl rfl rfl (Ev.isT (Ev.eqI rfl rfl rfl) (rfl)) ?_
                refine RG.vl rfl rfl rfl (Ev.pickT rfl rfl rfl) ?_
                refine RG.vl rfl rfl rfl (Ev.move rfl rfl) ?_
                refine RG.vl rfl rfl rfl (Ev.move rfl rfl) ?_
                refine RG.vl rfl rfl rfl (Ev.isT (Ev.eqS rfl rfl rfl) (by rw [read_bad _ _ he])) ?_
                refine RG.vl rfl rfl rfl (Ev.pickT rfl rfl rfl) ?_
                refine RG.vl rfl rfl rfl (Ev.move rfl rfl) ?_
                refine RG.vl rfl rfl rfl (Ev.move rfl rfl) ?_
                refine RG.vl rfl rfl rfl (Ev.rem8 rfl rfl rfl (by omega)) ?_
                refine RG.vl rfl rfl rfl (Ev.isF (Ev.geq rfl rfl rfl) (by omega)) ?_
                refine RG.vl rfl rfl rfl (Ev.move rfl rfl) ?_
                refine RG.vl rfl rfl rfl (Ev.move rfl rfl) ?_
                refine RG.vl rfl rfl rfl (Ev.isT (Ev.eqI rfl rfl rfl) (hdr)) ?_
                refine RG.vl rfl rfl rfl (Ev.move rfl rfl) ?_
                refine RG.vl rfl rfl rfl (Ev.ldAgg rfl rfl Try.underlying23 rfl sz_23 rfl ((hbws255.ext hE257).cells)) ?_
                refine RG.call rfl rfl rfl rfl rfl rfl rfl en_15 (right_no (⟨(setupOf f).pl, (setupOf f).og, (setupOf f).pi, (setupOf f).sl, min n (-1), (setupOf f).hi⟩ : Su) _ hno) ?_
                rintro _ w289 ⟨rfl, hx289⟩
                replace hE2 := Ex.tr hE2 hx289
                replace hE4 := Ex.tr hE4 hx289
                replace hE16 := Ex.tr hE16 hx289
                replace hE257 := Ex.tr hE257 hx289
                replace hE260 := Ex.tr hE260 hx289
                replace hE264 := Ex.tr hE264 hx289
                replace hE267 := Ex.tr hE267 hx289
                replace hE288 := Ex.tr hE288 hx289
                refine RG.vl rfl rfl rfl (Ev.notT rfl rfl) ?_
                refine RG.vl rfl rfl rfl (Ev.pickT rfl rfl rfl) ?_
                refine RG.vl rfl rfl rfl (Ev.pickF rfl rfl rfl) ?_
                refine RG.vl rfl rfl rfl (Ev.pickT rfl rfl rfl) ?_
                refine RG.vl rfl rfl rfl (Ev.move rfl rfl) ?_
                refine RG.vl rfl rfl rfl (Ev.ldAgg rfl rfl Try.underlying23 rfl sz_23 rfl ((hb5.ext hE16).cells)) ?_
                refine RG.call rfl rfl rfl rfl rfl rfl rfl en_15 (right_yes (setupOf f) _ hok) ?_
                rintro _ w290 ⟨rfl, hx290⟩
                replace hE2 := Ex.tr hE2 hx290
                replace hE4 := Ex.tr hE4 hx290
                replace hE16 := Ex.tr hE16 hx290
                replace hE257 := Ex.tr hE257 hx290
                replace hE260 := Ex.tr hE260 hx290
                replace hE264 := Ex.tr hE264 hx290
                replace hE267 := Ex.tr hE267 hx290
                replace hE288 := Ex.tr hE288 hx290
                refine RG.vl rfl rfl rfl (Ev.pickT rfl rfl rfl) ?_
                refine RG.vl rfl rfl rfl (Ev.move rfl rfl) ?_
                refine RG.vl rfl rfl rfl (Ev.move rfl rfl) ?_
                refine RG.vl rfl rfl rfl (Ev.isT (Ev.eqI rfl rfl rfl) (by rw [err_many])) ?_
                refine RG.vl rfl rfl rfl (Ev.pickT rfl rfl rfl) ?_
                refine RG.vl rfl rfl rfl (Ev.move rfl rfl) ?_
                refine RG.call rfl rfl rfl rfl rfl rfl rfl en_9 (awake_ret _) ?_
                rintro _ w291 ⟨rfl, hx291⟩
                replace hE2 := Ex.tr hE2 hx291
                replace hE4 := Ex.tr hE4 hx291
                replace hE16 := Ex.tr hE16 hx291
                replace hE257 := Ex.tr hE257 hx291
                replace hE260 := Ex.tr hE260 hx291
                replace hE264 := Ex.tr hE264 hx291
                replace hE267 := Ex.tr hE267 hx291
                replace hE288 := Ex.tr hE288 hx291
                refine RG.vl rfl rfl rfl (Ev.pickT rfl rfl rfl) ?_
                refine RG.vl rfl rfl rfl (Ev.assign rfl rfl) ?_
                refine RG.done ?_
                refine QW.sub (S' := [(6, _)]) ⟨rfl, trivial⟩ ?_
                refine QW.then_ ?_
                refine CW.ret ?_
                refine QW.ret1 rfl rfl ?_
                have hB := (Ex.tr hB0 hE2)
                exact ⟨rfl, hB⟩
              · refine CW.seq ?_
                refine CW.region ?_
                refine RG.vl rfl rfl rfl (Ev.eqI rfl rfl rfl) ?_
                refine RG.vl rfl rfl rfl (Ev.assign rfl rfl) ?_
                refine RG.done ?_
                refine QW.then_ ?_
                refine CW.condP rfl (fun hc292 => ?_) (fun hc292 => ?_)
                · refine CW.region ?_
                  refine RG.vl rfl rfl rfl (Ev.move rfl rfl) ?_
                  refine RG.vl rfl rfl rfl (Ev.fld rfl rfl fld_23_4) ?_
                  refine RG.vl rfl rfl rfl (Ev.ldAt rfl rfl Try.underlying3 rfl ((hb5.ext hE16).cells) (rfl)) ?_
                  refine RG.vl rfl rfl rfl (Ev.min2 rfl rfl rfl rfl) ?_
                  refine RG.vl rfl rfl rfl (Ev.fld rfl rfl fld_23_5) ?_
                  refine RG.st (g := gB) (k := 5) rfl rfl rfl rfl rfl sz_3 rfl (hb10.ext hE25) rfl (fun ws293 hwws293 hbws293 => ?_)
                  replace hb17 := Blk.far hb17 hwws293 (by omega)
                  replace hE2 := Wr.below hE2 hwws293 hle11
                  replace hE4 := Wr.below hE4 hwws293 hle12
                  replace hE16 := Wr.below hE16 hwws293 hle13
                  refine RG.done ?_
                  refine QW.blockN ?_
                  refine QW.then_ ?_
                  refine CW.seq ?_
                  have hno : ¬ Okay (⟨(setupOf f).pl, (setupOf f).og, (setupOf f).pi, (setupOf f).sl, (setupOf f).lo, min n (setupOf f).lo⟩ : Su) := by intro h; unfold Okay at h; simp only at h; omega
                  have he : errOf (⟨(setupOf f).pl, (setupOf f).og, (setupOf f).pi, (setupOf f).sl, (setupOf f).lo, min n (setupOf f).lo⟩ : Su) [(⟨(setupOf f).og, (setupOf f).lo, (setupOf f).hi⟩ : Br)] = 2 := err_setup _ _ hno
                  refine CW.region ?_
                  refine RG.vl rfl rfl rfl (Ev.ldAgg rfl rfl Try.underlying23 rfl sz_23 rfl (hbws293.cells)) ?_
                  refine RG.vl rfl rfl rfl (Ev.ldAgg rfl rfl Try.underlying48 rfl sz_48 rfl (hb17.cells)) ?_
                  refine RG.buildD (xs := [.tmp 98]) rfl rfl rfl rfl rfl rfl rfl Try.underlying24 inf_48 rfl rfl rfl rfl (fun g294 w294 eg294 hx294 hb294 => ?_)
                  replace hE2 := Ex.tr hE2 hx294
                  replace hE4 := Ex.tr hE4 hx294
                  replace hE16 := Ex.tr hE16 hx294
                  have hE295 := hx294
                  have hlit296 : RdL w294 3 Br.c (.slice (some ⟨g294, 0, none⟩) 1 1) ([(⟨(setupOf f).og, (setupOf f).lo, (setupOf f).hi⟩ : Br)]) := RdL.of_blk Br.c_len (l := [(⟨(setupOf f).og, (setupOf f).lo, (setupOf f).hi⟩ : Br)]) hb294 (Nat.le_refl _) (by decide)
                  refine RG.call rfl rfl rfl rfl rfl rfl rfl en_10 (read_ret (⟨(setupOf f).pl, (setupOf f).og, (setupOf f).pi, (setupOf f).sl, (setupOf f).lo, min n (setupOf f).lo⟩ : Su) _ [(⟨(setupOf f).og, (setupOf f).lo, (setupOf f).hi⟩ : Br)] _ (hlit296) (by simp)) ?_
                  rintro _ w297 ⟨rfl, hx297⟩
                  replace hE2 := Ex.tr hE2 hx297
                  replace hE4 := Ex.tr hE4 hx297
                  replace hE16 := Ex.tr hE16 hx297
                  replace hE295 := Ex.tr hE295 hx297
                  have hE298 := hx297
                  refine RG.vl rfl rfl rfl (Ev.move rfl rfl) ?_
                  refine RG.vl rfl rfl rfl (Ev.extract rfl rfl rfl) ?_
                  refine RG.vl rfl rfl rfl (Ev.extract rfl rfl rfl) ?_
                  refine RG.vl rfl rfl rfl (Ev.assign rfl rfl) ?_
                  refine RG.vl rfl rfl rfl (Ev.assign rfl rfl) ?_
                  refine RG.done ?_
                  refine QW.sub (S' := [(1, _), (6, _), (7, _), (8, _), (9, _), (10, _), (11, _)]) ⟨rfl, rfl, rfl, rfl, rfl, rfl, rfl, trivial⟩ ?_
                  refine QW.then_ ?_
                  refine CW.seq ?_
                  refine CW.region ?_
                  refine RG.vl rfl rfl rfl (Ev.ldAgg rfl rfl Try.underlying23 rfl sz_23 rfl ((hbws293.ext hE295).cells)) ?_
                  refine RG.vl rfl rfl rfl (Ev.ldAgg rfl rfl Try.underlying48 rfl sz_48 rfl ((hb17.ext hE295).cells)) ?_
                  refine RG.buildD (xs := [.tmp 105]) rfl rfl rfl rfl rfl rfl rfl Try.underlying24 inf_48 rfl rfl rfl rfl (fun g299 w299 eg299 hx299 hb299 => ?_)
                  replace hE2 := Ex.tr hE2 hx299
                  replace hE4 := Ex.tr hE4 hx299
                  replace hE16 := Ex.tr hE16 hx299
                  replace hE295 := Ex.tr hE295 hx299
                  replace hE298 := Ex.tr hE298 hx299
                  have hlit300 : RdL w299 3 Br.c (.slice (some ⟨g299, 0, none⟩) 1 1) ([(⟨(setupOf f).og, (setupOf f).lo, (setupOf f).hi⟩ : Br)]) := RdL.of_blk Br.c_len (l := [(⟨(setupOf f).og, (setupOf f).lo, (setupOf f).hi⟩ : Br)]) hb299 (Nat.le_refl _) (by decide)
                  refine RG.call rfl rfl rfl rfl rfl rfl rfl en_11 (margin_ret (⟨(setupOf f).pl, (setupOf f).og, (setupOf f).pi, (setupOf f).sl, (setupOf f).lo, min n (setupOf f).lo⟩ : Su) _ [(⟨(setupOf f).og, (setupOf f).lo, (setupOf f).hi⟩ : Br)] _ (hlit300) (by simp)) ?_
                  rintro _ w301 ⟨rfl, hx301⟩
                  replace hE2 := Ex.tr hE2 hx301
                  replace hE4 := Ex.tr hE4 hx301
                  replace hE16 := Ex.tr hE16 hx301
                  replace hE295 := Ex.tr hE295 hx301
                  replace hE298 := Ex.tr hE298 hx301
                  have hE302 := hx301
                  refine RG.vl rfl rfl rfl (Ev.move rfl rfl) ?_
                  refine RG.vl rfl rfl rfl (Ev.extract rfl rfl rfl) ?_
                  refine RG.vl rfl rfl rfl (Ev.extract rfl rfl rfl) ?_
                  refine RG.vl rfl rfl rfl (Ev.assign rfl rfl) ?_
                  refine RG.vl rfl rfl rfl (Ev.assign rfl rfl) ?_
                  refine RG.done ?_
                  refine QW.then_ ?_
                  refine CW.seq ?_
                  refine CW.region ?_
                  refine RG.vl rfl rfl rfl (Ev.ldAgg rfl rfl Try.underlying23 rfl sz_23 rfl ((hbws293.ext hE295).cells)) ?_
                  refine RG.vl rfl rfl rfl (Ev.move rfl rfl) ?_
                  refine RG.call rfl rfl rfl rfl rfl rfl rfl en_18 (draw_ret (⟨(setupOf f).pl, (setupOf f).og, (setupOf f).pi, (setupOf f).sl, (setupOf f).lo, min n (setupOf f).lo⟩ : Su) _ _ (by rw [read_bad _ _ he]; decide)) ?_
                  rintro _ w303 ⟨dr303, rfl, hdr303, hx303⟩
                  replace hE2 := Ex.tr hE2 hx303
                  replace hE4 := Ex.tr hE4 hx303
                  replace hE16 := Ex.tr hE16 hx303
                  replace hE295 := Ex.tr hE295 hx303
                  replace hE298 := Ex.tr hE298 hx303
                  replace hE302 := Ex.tr hE302 hx303
                  refine RG.vl rfl rfl rfl (Ev.move rfl rfl) ?_
                  refine RG.vl rfl rfl rfl (Ev.extract rfl rfl rfl) ?_
                  refine RG.vl rfl rfl rfl (Ev.extract rfl rfl rfl) ?_
                  refine RG.vl rfl rfl rfl (Ev.assign rfl rfl) ?_
                  refine RG.vl rfl rfl rfl (Ev.assign rfl rfl) ?_
                  refine RG.done ?_
                  refine QW.sub (S' := [(1, _), (6, _), (7, _), (8, _), (10, _), (11, _), (13, _), (15, _)]) ⟨rfl, rfl, rfl, rfl, rfl, rfl, rfl, rfl, trivial⟩ ?_
                  refine QW.then_ ?_
                  refine CW.seq ?_
                  refine CW.draw [] (.ex) 8 rfl mixed (fun wd304 hxwd304 => ?_)
                  replace hE2 := Ex.tr hE2 hxwd304
                  replace hE4 := Ex.tr hE4 hxwd304
                  replace hE16 := Ex.tr hE16 hxwd304
                  replace hE295 := Ex.tr hE295 hxwd304
                  replace hE298 := Ex.tr hE298 hxwd304
                  replace hE302 := Ex.tr hE302 hxwd304
                  have hE305 := hxwd304
                  refine AG.take 0 rfl (by kernel_rfl) (by kernel_rfl) rfl rfl rfl (fun wq hq => Ev.ldAgg rfl rfl Try.underlying23 rfl sz_23 rfl (((hbws293.ext hE295).ext hq).cells)) ?_
                  refine AG.only 1 rfl (by kernel_rfl) ?_
                  refine RG.makeL (m := 401) (enc := Br.c) (⟨0, 0, 0⟩ : Br) rfl rfl rfl rfl rfl rfl (rfl) Try.underlying24 inf_48 Br.c_len rfl rfl (by omega) (by simp only [maxLen]; omega) (fun g307 w307 eg307 hx307 hb307 hmk308 => ?_)
                  have hle309 : w.heap.size ≤ g307 := by have := hE2.size; omega
                  have hle310 : w1.heap.size ≤ g307 := by have := hE4.size; omega
                  have hle311 : w5.heap.size ≤ g307 := by have := hE16.size; omega
                  have hle312 : ws293.heap.size ≤ g307 := by have := hE295.size; omega
                  have hle313 : w294.heap.size ≤ g307 := by have := hE298.size; omega
                  have hle314 : w299.heap.size ≤ g307 := by have := hE302.size; omega
                  have hle315 : w303.heap.size ≤ g307 := by have := hE305.size; omega
                  have hle316 : wd304.heap.size ≤ g307 := by have := (Ex.rfl_ wd304).size; omega
                  have hlt317 : g1 < g307 := by have := Blk.lt (hb1.ext hE4); omega
                  have hlt318 : gS < g307 := by have := Blk.lt (hb5.ext hE16); omega
                  have hlt319 : gR < g307 := by have := Blk.lt (hb17.ext hE295); omega
                  have hlt320 : gB < g307 := by have := Blk.lt (hbws293.ext hE295); omega
                  have hlt321 : g294 < g307 := by have := Blk.lt (hb294.ext hE298); omega
                  have hlt322 : g299 < g307 := by have := Blk.lt (hb299.ext hE302); omega
                  replace hE2 := Ex.tr hE2 hx307
                  replace hE4 := Ex.tr hE4 hx307
                  replace hE16 := Ex.tr hE16 hx307
                  replace hE295 := Ex.tr hE295 hx307
                  replace hE298 := Ex.tr hE298 hx307
                  replace hE302 := Ex.tr hE302 hx307
                  replace hE305 := Ex.tr hE305 hx307
                  have hE323 := hx307
                  refine RG.done ?_
                  refine QW.an (fun _ => hE323) ?_
                  refine AG.only 2 rfl (by kernel_rfl) ?_
                  refine RG.call rfl rfl rfl rfl rfl rfl rfl en_10 (read_ret (⟨(setupOf f).pl, (setupOf f).og, (setupOf f).pi, (setupOf f).sl, (setupOf f).lo, min n (setupOf f).lo⟩ : Su) _ (List.replicate 401 ⟨0, 0, 0⟩) _ (hmk308) (by rw [List.length_replicate]; decide)) ?_
                  rintro _ w325 ⟨rfl, hx325⟩
                  replace hE2 := Ex.tr hE2 hx325
                  replace hE4 := Ex.tr hE4 hx325
                  replace hE16 := Ex.tr hE16 hx325
                  replace hE295 := Ex.tr hE295 hx325
                  replace hE298 := Ex.tr hE298 hx325
                  replace hE302 := Ex.tr hE302 hx325
                  replace hE305 := Ex.tr hE305 hx325
                  have hE326 := hx325
                  refine RG.done ?_
                  refine QW.an (fun _ => hE326) ?_
                  refine AG.takeW 3 rfl (by kernel_rfl) (by kernel_rfl) rfl rfl rfl (fun _ => Ev.move rfl rfl) ?_
                  refine AG.takeW 4 rfl (by kernel_rfl) (by kernel_rfl) rfl rfl rfl (fun _ => Ev.extract rfl rfl rfl) ?_
                  refine AG.takeW 5 rfl (by kernel_rfl) (by kernel_rfl) rfl rfl rfl (fun _ => Ev.extract rfl rfl rfl) ?_
                  refine AG.takeW 6 rfl (by kernel_rfl) (by kernel_rfl) rfl rfl rfl (fun _ => Ev.assign rfl rfl) ?_
                  refine AG.takeW 7 rfl (by kernel_rfl) (by kernel_rfl) rfl rfl rfl (fun _ => Ev.assign rfl rfl) ?_
                  refine AG.done (by kernel_rfl) ?_
                  refine QW.then_ ?_
                  refine CW.seq ?_
                  have hdr : drawErr (⟨(setupOf f).pl, (setupOf f).og, (setupOf f).pi, (setupOf f).sl, (setupOf f).lo, min n (setupOf f).lo⟩ : Su) (⟨(readOf (⟨(setupOf f).pl, (setupOf f).og, (setupOf f).pi, (setupOf f).sl, (setupOf f).lo, min n (setupOf f).lo⟩ : Su) [(⟨(setupOf f).og, (setupOf f).lo, (setupOf f).hi⟩ : Br)]).toArray⟩ : ByteArray).data.toList = 2 := by rw [read_bad _ _ he]; exact draw_empty _
                  refine CW.region ?_
                  refine RG.vl rfl rfl rfl (Ev.move rfl rfl) ?_
                  refine RG.vl rfl rfl rfl (Ev.isT (Ev.eqI rfl rfl rfl) (by omega)) ?_
                  refine RG.vl rfl rfl rfl (Ev.move rfl rfl) ?_
                  refine RG.vl rfl rfl rfl (Ev.move rfl rfl) ?_
                  refine RG.vl rfl rfl rfl (Ev.move rfl rfl) ?_
                  refine RG.vl rfl rfl rfl (Ev.isT (Ev.eqI rfl rfl rfl) (rfl)) ?_
                  refine RG.vl rfl rfl rfl (Ev.pickT rfl rfl rfl) ?_
                  refine RG.vl rfl rfl rfl (Ev.move rfl rfl) ?_
                  refine RG.vl rfl rfl rfl (Ev.move rfl rfl) ?_
                  refine RG.vl rfl rfl rfl (Ev.isT (Ev.eqS rfl rfl rfl) (by rw [read_bad _ _ he])) ?_
                  refine RG.vl rfl rfl rfl (Ev.pickT rfl rfl rfl) ?_
                  refine RG.vl rfl rfl rfl (Ev.move rfl rfl) ?_
                  refine RG.vl rfl rfl rfl (Ev.move rfl rfl) ?_
                  refine RG.vl rfl rfl rfl (Ev.rem8 rfl rfl rfl (by omega)) ?_
                  refine RG.vl rfl rfl rfl (Ev.isF (Ev.geq rfl rfl rfl) (by omega)) ?_
                  refine RG.vl rfl rfl rfl (Ev.move rfl rfl) ?_
                  refine RG.vl rfl rfl rfl (Ev.move rfl rfl) ?_
                  refine RG.vl rfl rfl rfl (Ev.isT (Ev.eqI rfl rfl rfl) (hdr)) ?_
                  refine RG.vl rfl rfl rfl (Ev.move rfl rfl) ?_
                  refine RG.vl rfl rfl rfl (Ev.ldAgg rfl rfl Try.underlying23 rfl sz_23 rfl ((hbws293.ext hE295).cells)) ?_
                  refine RG.call rfl rfl rfl rfl rfl rfl rfl en_15 (right_no (⟨(setupOf f).pl, (setupOf f).og, (setupOf f).pi, (setupOf f).sl, (setupOf f).lo, min n (setupOf f).lo⟩ : Su) _ hno) ?_
                  rintro _ w327 ⟨rfl, hx327⟩
                  replace hE2 := Ex.tr hE2 hx327
                  replace hE4 := Ex.tr hE4 hx327
                  replace hE16 := Ex.tr hE16 hx327
                  replace hE295 := Ex.tr hE295 hx327
                  replace hE298 := Ex.tr hE298 hx327
                  replace hE302 := Ex.tr hE302 hx327
                  replace hE305 := Ex.tr hE305 hx327
                  replace hE326 := Ex.tr hE326 hx327
                  refine RG.vl rfl rfl rfl (Ev.notT rfl rfl) ?_
                  refine RG.vl rfl rfl rfl (Ev.pickT rfl rfl rfl) ?_
                  refine RG.vl rfl rfl rfl (Ev.pickF rfl rfl rfl) ?_
                  refine RG.vl rfl rfl rfl (Ev.pickT rfl rfl rfl) ?_
                  refine RG.vl rfl rfl rfl (Ev.move rfl rfl) ?_
                  refine RG.vl rfl rfl rfl (Ev.ldAgg rfl rfl Try.underlying23 rfl sz_23 rfl ((hb5.ext hE16).cells)) ?_
                  refine RG.call rfl rfl rfl rfl rfl rfl rfl en_15 (right_yes (setupOf f) _ hok) ?_
                  rintro _ w328 ⟨rfl, hx328⟩
                  replace hE2 := Ex.tr hE2 hx328
                  replace hE4 := Ex.tr hE4 hx328
                  replace hE16 := Ex.tr hE16 hx328
                  replace hE295 := Ex.tr hE295 hx328
                  replace hE298 := Ex.tr hE298 hx328
                  replace hE302 := Ex.tr hE302 hx328
                  replace hE305 := Ex.tr hE305 hx328
                  replace hE326 := Ex.tr hE326 hx328
                  refine RG.vl rfl rfl rfl (Ev.pickT rfl rfl rfl) ?_
                  refine RG.vl rfl rfl rfl (Ev.move rfl rfl) ?_
                  refine RG.vl rfl rfl rfl (Ev.move rfl rfl) ?_
                  refine RG.vl rfl rfl rfl (Ev.isT (Ev.eqI rfl rfl rfl) (by rw [err_many])) ?_
                  refine RG.vl rfl rfl rfl (Ev.pickT rfl rfl rfl) ?_
                  refine RG.vl rfl rfl rfl (Ev.move rfl rfl) ?_
                  refine RG.call rfl rfl rfl rfl rfl rfl rfl en_9 (awake_ret _) ?_
                  rintro _ w329 ⟨rfl, hx329⟩
                  replace hE2 := Ex.tr hE2 hx329
                  replace hE4 := Ex.tr hE4 hx329
                  replace hE16 := Ex.tr hE16 hx329
                  replace hE295 := Ex.tr hE295 hx329
                  replace hE298 := Ex.tr hE298 hx329
                  replace hE302 := Ex.tr hE302 hx329
                  replace hE305 := Ex.tr hE305 hx329
                  replace hE326 := Ex.tr hE326 hx329
                  refine RG.vl rfl rfl rfl (Ev.pickT rfl rfl rfl) ?_
                  refine RG.vl rfl rfl rfl (Ev.assign rfl rfl) ?_
                  refine RG.done ?_
                  refine QW.sub (S' := [(6, _)]) ⟨rfl, trivial⟩ ?_
                  refine QW.then_ ?_
                  refine CW.ret ?_
                  refine QW.ret1 rfl rfl ?_
                  have hB := (Ex.tr hB0 hE2)
                  exact ⟨rfl, hB⟩
                · refine CW.seq ?_
                  refine CW.region ?_
                  refine RG.vl rfl rfl rfl (Ev.eqI rfl rfl rfl) ?_
                  refine RG.vl rfl rfl rfl (Ev.assign rfl rfl) ?_
                  refine RG.done ?_
                  refine QW.then_ ?_
                  refine CW.condP rfl (fun hc330 => ?_) (fun hc330 => ?_)
                  · refine CW.region ?_
                    refine RG.vl rfl rfl rfl (Ev.move rfl rfl) ?_
                    refine RG.vl rfl rfl rfl (Ev.max2 rfl rfl rfl rfl) ?_
                    refine RG.vl rfl rfl rfl (Ev.fld rfl rfl fld_23_5) ?_
                    refine RG.st (g := gB) (k := 5) rfl rfl rfl rfl rfl sz_3 rfl (hb10.ext hE25) rfl (fun ws331 hwws331 hbws331 => ?_)
                    replace hb17 := Blk.far hb17 hwws331 (by omega)
                    replace hE2 := Wr.below hE2 hwws331 hle11
                    replace hE4 := Wr.below hE4 hwws331 hle12
                    replace hE16 := Wr.below hE16 hwws331 hle13
                    refine RG.done ?_
                    refine QW.blockN ?_
                    refine QW.then_ ?_
                    refine CW.seq ?_
                    have hno : ¬ Okay (⟨(setupOf f).pl, (setupOf f).og, (setupOf f).pi, (setupOf f).sl, (setupOf f).lo, max n 1048577⟩ : Su) := by intro h; unfold Okay at h; simp only at h; omega
                    have he : errOf (⟨(setupOf f).pl, (setupOf f).og, (setupOf f).pi, (setupOf f).sl, (setupOf f).lo, max n 1048577⟩ : Su) [(⟨(setupOf f).og, (setupOf f).lo, (setupOf f).hi⟩ : Br)] = 2 := err_setup _ _ hno
                    refine CW.region ?_
                    refine RG.vl rfl rfl rfl (Ev.ldAgg rfl rfl Try.underlying23 rfl sz_23 rfl (hbws331.cells)) ?_
                    refine RG.vl rfl rfl rfl (Ev.ldAgg rfl rfl Try.underlying48 rfl sz_48 rfl (hb17.cells)) ?_
                    refine RG.buildD (xs := [.tmp 98]) rfl rfl rfl rfl rfl rfl rfl Try.underlying24 inf_48 rfl rfl rfl rfl (fun g332 w332 eg332 hx332 hb332 => ?_)
                    replace hE2 := Ex.tr hE2 hx332
                    replace hE4 := Ex.tr hE4 hx332
                    replace hE16 := Ex.tr hE16 hx332
                    have hE333 := hx332
                    have hlit334 : RdL w332 3 Br.c (.slice (some ⟨g332, 0, none⟩) 1 1) ([(⟨(setupOf f).og, (setupOf f).lo, (setupOf f).hi⟩ : Br)]) := RdL.of_blk Br.c_len (l := [(⟨(setupOf f).og, (setupOf f).lo, (setupOf f).hi⟩ : Br)]) hb332 (Nat.le_refl _) (by decide)
                    refine RG.call rfl rfl rfl rfl rfl rfl rfl en_10 (read_ret (⟨(setupOf f).pl, (setupOf f).og, (setupOf f).pi, (setupOf f).sl, (setupOf f).lo, max n 1048577⟩ : Su) _ [(⟨(setupOf f).og, (setupOf f).lo, (setupOf f).hi⟩ : Br)] _ (hlit334) (by simp)) ?_
                    rintro _ w335 ⟨rfl, hx335⟩
                    replace hE2 := Ex.tr hE2 hx335
                    replace hE4 := Ex.tr hE4 hx335
                    replace hE16 := Ex.tr hE16 hx335
                    replace hE333 := Ex.tr hE333 hx335
                    have hE336 := hx335
                    refine RG.vl rfl rfl rfl (Ev.move rfl rfl) ?_
                    refine RG.vl rfl rfl rfl (Ev.extract rfl rfl rfl) ?_
                    refine RG.vl rfl rfl rfl (Ev.extract rfl rfl rfl) ?_
                    refine RG.vl rfl rfl rfl (Ev.assign rfl rfl) ?_
                    refine RG.vl rfl rfl rfl (Ev.assign rfl rfl) ?_
                    refine RG.done ?_
                    refine QW.sub (S' := [(1, _), (6, _), (7, _), (8, _), (9, _), (10, _), (11, _)]) ⟨rfl, rfl, rfl, rfl, rfl, rfl, rfl, trivial⟩ ?_
                    refine QW.then_ ?_
                    refine CW.seq ?_
                    refine CW.region ?_
                    refine RG.vl rfl rfl rfl (Ev.ldAgg rfl rfl Try.underlying23 rfl sz_23 rfl ((hbws331.ext hE333).cells)) ?_
                    refine RG.vl rfl rfl rfl (Ev.ldAgg rfl rfl Try.underlying48 rfl sz_48 rfl ((hb17.ext hE333).cells)) ?_
                    refine RG.buildD (xs := [.tmp 105]) rfl rfl rfl rfl rfl rfl rfl Try.underlying24 inf_48 rfl rfl rfl rfl (fun g337 w337 eg337 hx337 hb337 => ?_)
                    replace hE2 := Ex.tr hE2 hx337
                    replace hE4 := Ex.tr hE4 hx337
                    replace hE16 := Ex.tr hE16 hx337
                    replace hE333 := Ex.tr hE333 hx337
                    replace hE336 := Ex.tr hE336 hx337
                    have hlit338 : RdL w337 3 Br.c (.slice (some ⟨g337, 0, none⟩) 1 1) ([(⟨(setupOf f).og, (setupOf f).lo, (setupOf f).hi⟩ : Br)]) := RdL.of_blk Br.c_len (l := [(⟨(setupOf f).og, (setupOf f).lo, (setupOf f).hi⟩ : Br)]) hb337 (Nat.le_refl _) (by decide)
                    refine RG.call rfl rfl rfl rfl rfl rfl rfl en_11 (margin_ret (⟨(setupOf f).pl, (setupOf f).og, (setupOf f).pi, (setupOf f).sl, (setupOf f).lo, max n 1048577⟩ : Su) _ [(⟨(setupOf f).og, (setupOf f).lo, (setupOf f).hi⟩ : Br)] _ (hlit338) (by simp)) ?_
                    rintro _ w339 ⟨rfl, hx339⟩
                    replace hE2 := Ex.tr hE2 hx339
                    replace hE4 := Ex.tr hE4 hx339
                    replace hE16 := Ex.tr hE16 hx339
                    replace hE333 := Ex.tr hE333 hx339
                    replace hE336 := Ex.tr hE336 hx339
                    have hE340 := hx339
                    refine RG.vl rfl rfl rfl (Ev.move rfl rfl) ?_
                    refine RG.vl rfl rfl rfl (Ev.extract rfl rfl rfl) ?_
                    refine RG.vl rfl rfl rfl (Ev.extract rfl rfl rfl) ?_
                    refine RG.vl rfl rfl rfl (Ev.assign rfl rfl) ?_
                    refine RG.vl rfl rfl rfl (Ev.assign rfl rfl) ?_
                    refine RG.done ?_
                    refine QW.then_ ?_
                    refine CW.seq ?_
                    refine CW.region ?_
                    refine RG.vl rfl rfl rfl (Ev.ldAgg rfl rfl Try.underlying23 rfl sz_23 rfl ((hbws331.ext hE333).cells)) ?_
                    refine RG.vl rfl rfl rfl (Ev.move rfl rfl) ?_
                    refine RG.call rfl rfl rfl rfl rfl rfl rfl en_18 (draw_ret (⟨(setupOf f).pl, (setupOf f).og, (setupOf f).pi, (setupOf f).sl, (setupOf f).lo, max n 1048577⟩ : Su) _ _ (by rw [read_bad _ _ he]; decide)) ?_
                    rintro _ w341 ⟨dr341, rfl, hdr341, hx341⟩
                    replace hE2 := Ex.tr hE2 hx341
                    replace hE4 := Ex.tr hE4 hx341
                    replace hE16 := Ex.tr hE16 hx341
                    replace hE333 := Ex.tr hE333 hx341
                    replace hE336 := Ex.tr hE336 hx341
                    replace hE340 := Ex.tr hE340 hx341
                    refine RG.vl rfl rfl rfl (Ev.move rfl rfl) ?_
                    refine RG.vl rfl rfl rfl (Ev.extract rfl rfl rfl) ?_
                    refine RG.vl rfl rfl rfl (Ev.extract rfl rfl rfl) ?_
                    refine RG.vl rfl rfl rfl (Ev.assign rfl rfl) ?_
                    refine RG.vl rfl rfl rfl (Ev.assign rfl rfl) ?_
                    refine RG.done ?_
                    refine QW.sub (S' := [(1, _), (6, _), (7, _), (8, _), (10, _), (11, _), (13, _), (15, _)]) ⟨rfl, rfl, rfl, rfl, rfl, rfl, rfl, rfl, trivial⟩ ?_
                    refine QW.then_ ?_
                    refine CW.seq ?_
                    refine CW.draw [] (.ex) 8 rfl mixed (fun wd342 hxwd342 => ?_)
                    replace hE2 := Ex.tr hE2 hxwd342
                    replace hE4 := Ex.tr hE4 hxwd342
                    replace hE16 := Ex.tr hE16 hxwd342
                    replace hE333 := Ex.tr hE333 hxwd342
                    replace hE336 := Ex.tr hE336 hxwd342
                    replace hE340 := Ex.tr hE340 hxwd342
                    have hE343 := hxwd342
                    refine AG.take 0 rfl (by kernel_rfl) (by kernel_rfl) rfl rfl rfl (fun wq hq => Ev.ldAgg rfl rfl Try.underlying23 rfl sz_23 rfl (((hbws331.ext hE333).ext hq).cells)) ?_
                    refine AG.only 1 rfl (by kernel_rfl) ?_
                    refine RG.makeL (m := 401) (enc := Br.c) (⟨0, 0, 0⟩ : Br) rfl rfl rfl rfl rfl rfl (rfl) Try.underlying24 inf_48 Br.c_len rfl rfl (by omega) (by simp only [maxLen]; omega) (fun g345 w345 eg345 hx345 hb345 hmk346 => ?_)
                    have hle347 : w.heap.size ≤ g345 := by have := hE2.size; omega
                    have hle348 : w1.heap.size ≤ g345 := by have := hE4.size; omega
                    have hle349 : w5.heap.size ≤ g345 := by have := hE16.size; omega
                    have hle350 : ws331.heap.size ≤ g345 := by have := hE333.size; omega
                    have hle351 : w332.heap.size ≤ g345 := by have := hE336.size; omega
                    have hle352 : w337.heap.size ≤ g345 := by have := hE340.size; omega
                    have hle353 : w341.heap.size ≤ g345 := by have := hE343.size; omega
                    have hle354 : wd342.heap.size ≤ g345 := by have := (Ex.rfl_ wd342).size; omega
                    have hlt355 : g1 < g345 := by have := Blk.lt (hb1.ext hE4); omega
                    have hlt356 : gS < g345 := by have := Blk.lt (hb5.ext hE16); omega
                    have hlt357 : gR < g345 := by have := Blk.lt (hb17.ext hE333); omega
                    have hlt358 : gB < g345 := by have := Blk.lt (hbws331.ext hE333); omega
                    have hlt359 : g332 < g345 := by have := Blk.lt (hb332.ext hE336); omega
                    have hlt360 : g337 < g345 := by have := Blk.lt (hb337.ext hE340); omega
                    replace hE2 := Ex.tr hE2 hx345
                    replace hE4 := Ex.tr hE4 hx345
                    replace hE16 := Ex.tr hE16 hx345
                    replace hE333 := Ex.tr hE333 hx345
                    replace hE336 := Ex.tr hE336 hx345
                    replace hE340 := Ex.tr hE340 hx345
                    replace hE343 := Ex.tr hE343 hx345
                    have hE361 := hx345
                    refine RG.done ?_
                    refine QW.an (fun _ => hE361) ?_
                    refine AG.only 2 rfl (by kernel_rfl) ?_
                    refine RG.call rfl rfl rfl rfl rfl rfl rfl en_10 (read_ret (⟨(setupOf f).pl, (setupOf f).og, (setupOf f).pi, (setupOf f).sl, (setupOf f).lo, max n 1048577⟩ : Su) _ (List.replicate 401 ⟨0, 0, 0⟩) _ (hmk346) (by rw [List.length_replicate]; decide)) ?_
                    rintro _ w363 ⟨rfl, hx363⟩
                    replace hE2 := Ex.tr hE2 hx363
                    replace hE4 := Ex.tr hE4 hx363
                    replace hE16 := Ex.tr hE16 hx363
                    replace hE333 := Ex.tr hE333 hx363
                    replace hE336 := Ex.tr hE336 hx363
                    replace hE340 := Ex.tr hE340 hx363
                    replace hE343 := Ex.tr hE343 hx363
                    have hE364 := hx363
                    refine RG.done ?_
                    refine QW.an (fun _ => hE364) ?_
                    refine AG.takeW 3 rfl (by kernel_rfl) (by kernel_rfl) rfl rfl rfl (fun _ => Ev.move rfl rfl) ?_
                    refine AG.takeW 4 rfl (by kernel_rfl) (by kernel_rfl) rfl rfl rfl (fun _ => Ev.extract rfl rfl rfl) ?_
                    refine AG.takeW 5 rfl (by kernel_rfl) (by kernel_rfl) rfl rfl rfl (fun _ => Ev.extract rfl rfl rfl) ?_
                    refine AG.takeW 6 rfl (by kernel_rfl) (by kernel_rfl) rfl rfl rfl (fun _ => Ev.assign rfl rfl) ?_
                    refine AG.takeW 7 rfl (by kernel_rfl) (by kernel_rfl) rfl rfl rfl (fun _ => Ev.assign rfl rfl) ?_
                    refine AG.done (by kernel_rfl) ?_
                    refine QW.then_ ?_
                    refine CW.seq ?_
                    have hdr : drawErr (⟨(setupOf f).pl, (setupOf f).og, (setupOf f).pi, (setupOf f).sl, (setupOf f).lo, max n 1048577⟩ : Su) (⟨(readOf (⟨(setupOf f).pl, (setupOf f).og, (setupOf f).pi, (setupOf f).sl, (setupOf f).lo, max n 1048577⟩ : Su) [(⟨(setupOf f).og, (setupOf f).lo, (setupOf f).hi⟩ : Br)]).toArray⟩ : ByteArray).data.toList = 2 := by rw [read_bad _ _ he]; exact draw_empty _
                    refine CW.region ?_
                    refine RG.vl rfl rfl rfl (Ev.move rfl rfl) ?_
                    refine RG.vl rfl rfl rfl (Ev.isT (Ev.eqI rfl rfl rfl) (by omega)) ?_
                    refine RG.vl rfl rfl rfl (Ev.move rfl rfl) ?_
                    refine RG.vl rfl rfl rfl (Ev.move rfl rfl) ?_
                    refine RG.vl rfl rfl rfl (Ev.move rfl rfl) ?_
                    refine RG.vl rfl rfl rfl (Ev.isT (Ev.eqI rfl rfl rfl) (rfl)) ?_
                    refine RG.vl rfl rfl rfl (Ev.pickT rfl rfl rfl) ?_
                    refine RG.vl rfl rfl rfl (Ev.move rfl rfl) ?_
                    refine RG.vl rfl rfl rfl (Ev.move rfl rfl) ?_
                    refine RG.vl rfl rfl rfl (Ev.isT (Ev.eqS rfl rfl rfl) (by rw [read_bad _ _ he])) ?_
                    refine RG.vl rfl rfl rfl (Ev.pickT rfl rfl rfl) ?_
                    refine RG.vl rfl rfl rfl (Ev.move rfl rfl) ?_
                    refine RG.vl rfl rfl rfl (Ev.move rfl rfl) ?_
                    refine RG.vl rfl rfl rfl (Ev.rem8 rfl rfl rfl (by omega)) ?_
                    refine RG.vl rfl rfl rfl (Ev.isF (Ev.geq rfl rfl rfl) (by omega)) ?_
                    refine RG.vl rfl rfl rfl (Ev.move rfl rfl) ?_
                    refine RG.vl rfl rfl rfl (Ev.move rfl rfl) ?_
                    refine RG.vl rfl rfl rfl (Ev.isT (Ev.eqI rfl rfl rfl) (hdr)) ?_
                    refine RG.vl rfl rfl rfl (Ev.move rfl rfl) ?_
                    refine RG.vl rfl rfl rfl (Ev.ldAgg rfl rfl Try.underlying23 rfl sz_23 rfl ((hbws331.ext hE333).cells)) ?_
                    refine RG.call rfl rfl rfl rfl rfl rfl rfl en_15 (right_no (⟨(setupOf f).pl, (setupOf f).og, (setupOf f).pi, (setupOf f).sl, (setupOf f).lo, max n 1048577⟩ : Su) _ hno) ?_
                    rintro _ w365 ⟨rfl, hx365⟩
                    replace hE2 := Ex.tr hE2 hx365
                    replace hE4 := Ex.tr hE4 hx365
                    replace hE16 := Ex.tr hE16 hx365
                    replace hE333 := Ex.tr hE333 hx365
                    replace hE336 := Ex.tr hE336 hx365
                    replace hE340 := Ex.tr hE340 hx365
                    replace hE343 := Ex.tr hE343 hx365
                    replace hE364 := Ex.tr hE364 hx365
                    refine RG.vl rfl rfl rfl (Ev.notT rfl rfl) ?_
                    refine RG.vl rfl rfl rfl (Ev.pickT rfl rfl rfl) ?_
                    refine RG.vl rfl rfl rfl (Ev.pickF rfl rfl rfl) ?_
                    refine RG.vl rfl rfl rfl (Ev.pickT rfl rfl rfl) ?_
                    refine RG.vl rfl rfl rfl (Ev.move rfl rfl) ?_
                    refine RG.vl rfl rfl rfl (Ev.ldAgg rfl rfl Try.underlying23 rfl sz_23 rfl ((hb5.ext hE16).cells)) ?_
                    refine RG.call rfl rfl rfl rfl rfl rfl rfl en_15 (right_yes (setupOf f) _ hok) ?_
                    rintro _ w366 ⟨rfl, hx366⟩
                    replace hE2 := Ex.tr hE2 hx366
                    replace hE4 := Ex.tr hE4 hx366
                    replace hE16 := Ex.tr hE16 hx366
                    replace hE333 := Ex.tr hE333 hx366
                    replace hE336 := Ex.tr hE336 hx366
                    replace hE340 := Ex.tr hE340 hx366
                    replace hE343 := Ex.tr hE343 hx366
                    replace hE364 := Ex.tr hE364 hx366
                    refine RG.vl rfl rfl rfl (Ev.pickT rfl rfl rfl) ?_
                    refine RG.vl rfl rfl rfl (Ev.move rfl rfl) ?_
                    refine RG.vl rfl rfl rfl (Ev.move rfl rfl) ?_
                    refine RG.vl rfl rfl rfl (Ev.isT (Ev.eqI rfl rfl rfl) (by rw [err_many])) ?_
                    refine RG.vl rfl rfl rfl (Ev.pickT rfl rfl rfl) ?_
                    refine RG.vl rfl rfl rfl (Ev.move rfl rfl) ?_
                    refine RG.call rfl rfl rfl rfl rfl rfl rfl en_9 (awake_ret _) ?_
                    rintro _ w367 ⟨rfl, hx367⟩
                    replace hE2 := Ex.tr hE2 hx367
                    replace hE4 := Ex.tr hE4 hx367
                    replace hE16 := Ex.tr hE16 hx367
                    replace hE333 := Ex.tr hE333 hx367
                    replace hE336 := Ex.tr hE336 hx367
                    replace hE340 := Ex.tr hE340 hx367
                    replace hE343 := Ex.tr hE343 hx367
                    replace hE364 := Ex.tr hE364 hx367
                    refine RG.vl rfl rfl rfl (Ev.pickT rfl rfl rfl) ?_
                    refine RG.vl rfl rfl rfl (Ev.assign rfl rfl) ?_
                    refine RG.done ?_
                    refine QW.sub (S' := [(6, _)]) ⟨rfl, trivial⟩ ?_
                    refine QW.then_ ?_
                    refine CW.ret ?_
                    refine QW.ret1 rfl rfl ?_
                    have hB := (Ex.tr hB0 hE2)
                    exact ⟨rfl, hB⟩
                  · refine CW.seq ?_
                    refine CW.region ?_
                    refine RG.vl rfl rfl rfl (Ev.eqI rfl rfl rfl) ?_
                    refine RG.vl rfl rfl rfl (Ev.assign rfl rfl) ?_
                    refine RG.done ?_
                    refine QW.then_ ?_
                    refine CW.condP rfl (fun hc368 => ?_) (fun hc368 => ?_)
                    · refine CW.region ?_
                      refine RG.vl rfl rfl rfl (Ev.move rfl rfl) ?_
                      refine RG.vl rfl rfl rfl (Ev.min2 rfl rfl rfl rfl) ?_
                      refine RG.vl rfl rfl rfl (Ev.fld rfl rfl fld_48_0) ?_
                      refine RG.st (g := gR) (k := 0) rfl rfl rfl rfl rfl sz_3 rfl hb17 rfl (fun ws369 hwws369 hbws369 => ?_)
                      replace hE2 := Wr.below hE2 hwws369 hle18
                      replace hE4 := Wr.below hE4 hwws369 hle19
                      replace hE16 := Wr.below hE16 hwws369 hle20
                      replace hE25 := Wr.below hE25 hwws369 hle21
                      refine RG.done ?_
                      refine QW.blockN ?_
                      refine QW.then_ ?_
                      refine CW.seq ?_
                      have he : errOf (⟨(setupOf f).pl, (setupOf f).og, (setupOf f).pi, (setupOf f).sl, (setupOf f).lo, (setupOf f).hi⟩ : Su) [(⟨min n (-1), (setupOf f).lo, (setupOf f).hi⟩ : Br)] = 2 := err_bar _ _ (by intro h; unfold InB at h; simp only at h; omega)
                      refine CW.region ?_
                      refine RG.vl rfl rfl rfl (Ev.ldAgg rfl rfl Try.underlying23 rfl sz_23 rfl ((hb10.ext hE25).cells)) ?_
                      refine RG.vl rfl rfl rfl (Ev.ldAgg rfl rfl Try.underlying48 rfl sz_48 rfl (hbws369.cells)) ?_
                      refine RG.buildD (xs := [.tmp 98]) rfl rfl rfl rfl rfl rfl rfl Try.underlying24 inf_48 rfl rfl rfl rfl (fun g370 w370 eg370 hx370 hb370 => ?_)
                      replace hE2 := Ex.tr hE2 hx370
                      replace hE4 := Ex.tr hE4 hx370
                      replace hE16 := Ex.tr hE16 hx370
                      replace hE25 := Ex.tr hE25 hx370
                      have hE371 := hx370
                      have hlit372 : RdL w370 3 Br.c (.slice (some ⟨g370, 0, none⟩) 1 1) ([(⟨min n (-1), (setupOf f).lo, (setupOf f).hi⟩ : Br)]) := RdL.of_blk Br.c_len (l := [(⟨min n (-1), (setupOf f).lo, (setupOf f).hi⟩ : Br)]) hb370 (Nat.le_refl _) (by decide)
                      refine RG.call rfl rfl rfl rfl rfl rfl rfl en_10 (read_ret (⟨(setupOf f).pl, (setupOf f).og, (setupOf f).pi, (setupOf f).sl, (setupOf f).lo, (setupOf f).hi⟩ : Su) _ [(⟨min n (-1), (setupOf f).lo, (setupOf f).hi⟩ : Br)] _ (hlit372) (by simp)) ?_
                      rintro _ w373 ⟨rfl, hx373⟩
                      replace hE2 := Ex.tr hE2 hx373
                      replace hE4 := Ex.tr hE4 hx373
                      replace hE16 := Ex.tr hE16 hx373
                      replace hE25 := Ex.tr hE25 hx373
                      replace hE371 := Ex.tr hE371 hx373
                      have hE374 := hx373
                      refine RG.vl rfl rfl rfl (Ev.move rfl rfl) ?_
                      refine RG.vl rfl rfl rfl (Ev.extract rfl rfl rfl) ?_
                      refine RG.vl rfl rfl rfl (Ev.extract rfl rfl rfl) ?_
                      refine RG.vl rfl rfl rfl (Ev.assign rfl rfl) ?_
                      refine RG.vl rfl rfl rfl (Ev.assign rfl rfl) ?_
                      refine RG.done ?_
                      refine QW.sub (S' := [(1, _), (6, _), (7, _), (8, _), (9, _), (10, _), (11, _)]) ⟨rfl, rfl, rfl, rfl, rfl, rfl, rfl, trivial⟩ ?_
                      refine QW.then_ ?_
                      refine CW.seq ?_
                      refine CW.region ?_
                      refine RG.vl rfl rfl rfl (Ev.ldAgg rfl rfl Try.underlying23 rfl sz_23 rfl ((hb10.ext hE25).cells)) ?_
                      refine RG.vl rfl rfl rfl (Ev.ldAgg rfl rfl Try.underlying48 rfl sz_48 rfl ((hbws369.ext hE371).cells)) ?_
                      refine RG.buildD (xs := [.tmp 105]) rfl rfl rfl rfl rfl rfl rfl Try.underlying24 inf_48 rfl rfl rfl rfl (fun g375 w375 eg375 hx375 hb375 => ?_)
                      replace hE2 := Ex.tr hE2 hx375
                      replace hE4 := Ex.tr hE4 hx375
                      replace hE16 := Ex.tr hE16 hx375
                      replace hE25 := Ex.tr hE25 hx375
                      replace hE371 := Ex.tr hE371 hx375
                      replace hE374 := Ex.tr hE374 hx375
                      have hlit376 : RdL w375 3 Br.c (.slice (some ⟨g375, 0, none⟩) 1 1) ([(⟨min n (-1), (setupOf f).lo, (setupOf f).hi⟩ : Br)]) := RdL.of_blk Br.c_len (l := [(⟨min n (-1), (setupOf f).lo, (setupOf f).hi⟩ : Br)]) hb375 (Nat.le_refl _) (by decide)
                      refine RG.call rfl rfl rfl rfl rfl rfl rfl en_11 (margin_ret (⟨(setupOf f).pl, (setupOf f).og, (setupOf f).pi, (setupOf f).sl, (setupOf f).lo, (setupOf f).hi⟩ : Su) _ [(⟨min n (-1), (setupOf f).lo, (setupOf f).hi⟩ : Br)] _ (hlit376) (by simp)) ?_
                      rintro _ w377 ⟨rfl, hx377⟩
                      replace hE2 := Ex.tr hE2 hx377
                      replace hE4 := Ex.tr hE4 hx377
                      replace hE16 := Ex.tr hE16 hx377
                      replace hE25 := Ex.tr hE25 hx377
                      replace hE371 := Ex.tr hE371 hx377
                      replace hE374 := Ex.tr hE374 hx377
                      have hE378 := hx377
                      refine RG.vl rfl rfl rfl (Ev.move rfl rfl) ?_
                      refine RG.vl rfl rfl rfl (Ev.extract rfl rfl rfl) ?_
                      refine RG.vl rfl rfl rfl (Ev.extract rfl rfl rfl) ?_
                      refine RG.vl rfl rfl rfl (Ev.assign rfl rfl) ?_
                      refine RG.vl rfl rfl rfl (Ev.assign rfl rfl) ?_
                      refine RG.done ?_
                      refine QW.then_ ?_
                      refine CW.seq ?_
                      refine CW.region ?_
                      refine RG.vl rfl rfl rfl (Ev.ldAgg rfl rfl Try.underlying23 rfl sz_23 rfl ((hb10.ext hE25).cells)) ?_
                      refine RG.vl rfl rfl rfl (Ev.move rfl rfl) ?_
                      refine RG.call rfl rfl rfl rfl rfl rfl rfl en_18 (draw_ret (⟨(setupOf f).pl, (setupOf f).og, (setupOf f).pi, (setupOf f).sl, (setupOf f).lo, (setupOf f).hi⟩ : Su) _ _ (by rw [read_bad _ _ he]; decide)) ?_
                      rintro _ w379 ⟨dr379, rfl, hdr379, hx379⟩
                      replace hE2 := Ex.tr hE2 hx379
                      replace hE4 := Ex.tr hE4 hx379
                      replace hE16 := Ex.tr hE16 hx379
                      replace hE25 := Ex.tr hE25 hx379
                      replace hE371 := Ex.tr hE371 hx379
                      replace hE374 := Ex.tr hE374 hx379
                      replace hE378 := Ex.tr hE378 hx379
                      refine RG.vl rfl rfl rfl (Ev.move rfl rfl) ?_
                      refine RG.vl rfl rfl rfl (Ev.extract rfl rfl rfl) ?_
                      refine RG.vl rfl rfl rfl (Ev.extract rfl rfl rfl) ?_
                      refine RG.vl rfl rfl rfl (Ev.assign rfl rfl) ?_
                      refine RG.vl rfl rfl rfl (Ev.assign rfl rfl) ?_
                      refine RG.done ?_
                      refine QW.sub (S' := [(1, _), (6, _), (7, _), (8, _), (10, _), (11, _), (13, _), (15, _)]) ⟨rfl, rfl, rfl, rfl, rfl, rfl, rfl, rfl, trivial⟩ ?_
                      refine QW.then_ ?_
                      refine CW.seq ?_
                      refine CW.draw [] (.ex) 8 rfl mixed (fun wd380 hxwd380 => ?_)
                      replace hE2 := Ex.tr hE2 hxwd380
                      replace hE4 := Ex.tr hE4 hxwd380
                      replace hE16 := Ex.tr hE16 hxwd380
                      replace hE25 := Ex.tr hE25 hxwd380
                      replace hE371 := Ex.tr hE371 hxwd380
                      replace hE374 := Ex.tr hE374 hxwd380
                      replace hE378 := Ex.tr hE378 hxwd380
                      have hE381 := hxwd380
                      refine AG.take 0 rfl (by kernel_rfl) (by kernel_rfl) rfl rfl rfl (fun wq hq => Ev.ldAgg rfl rfl Try.underlying23 rfl sz_23 rfl (((hb10.ext hE25).ext hq).cells)) ?_
                      refine AG.only 1 rfl (by kernel_rfl) ?_
                      refine RG.makeL (m := 401) (enc := Br.c) (⟨0, 0, 0⟩ : Br) rfl rfl rfl rfl rfl rfl (rfl) Try.underlying24 inf_48 Br.c_len rfl rfl (by omega) (by simp only [maxLen]; omega) (fun g383 w383 eg383 hx383 hb383 hmk384 => ?_)
                      have hle385 : w.heap.size ≤ g383 := by have := hE2.size; omega
                      have hle386 : w1.heap.size ≤ g383 := by have := hE4.size; omega
                      have hle387 : w5.heap.size ≤ g383 := by have := hE16.size; omega
                      have hle388 : w10.heap.size ≤ g383 := by have := hE25.size; omega
                      have hle389 : ws369.heap.size ≤ g383 := by have := hE371.size; omega
                      have hle390 : w370.heap.size ≤ g383 := by have := hE374.size; omega
                      have hle391 : w375.heap.size ≤ g383 := by have := hE378.size; omega
                      have hle392 : w379.heap.size ≤ g383 := by have := hE381.size; omega
                      have hle393 : wd380.heap.size ≤ g383 := by have := (Ex.rfl_ wd380).size; omega
                      have hlt394 : g1 < g383 := by have := Blk.lt (hb1.ext hE4); omega
                      have hlt395 : gS < g383 := by have := Blk.lt (hb5.ext hE16); omega
                      have hlt396 : gB < g383 := by have := Blk.lt (hb10.ext hE25); omega
                      have hlt397 : gR < g383 := by have := Blk.lt (hbws369.ext hE371); omega
                      have hlt398 : g370 < g383 := by have := Blk.lt (hb370.ext hE374); omega
                      have hlt399 : g375 < g383 := by have := Blk.lt (hb375.ext hE378); omega
                      replace hE2 := Ex.tr hE2 hx383
                      replace hE4 := Ex.tr hE4 hx383
                      replace hE16 := Ex.tr hE16 hx383
                      replace hE25 := Ex.tr hE25 hx383
                      replace hE371 := Ex.tr hE371 hx383
                      replace hE374 := Ex.tr hE374 hx383
                      replace hE378 := Ex.tr hE378 hx383
                      replace hE381 := Ex.tr hE381 hx383
                      have hE400 := hx383
                      refine RG.done ?_
                      refine QW.an (fun _ => hE400) ?_
                      refine AG.only 2 rfl (by kernel_rfl) ?_
                      refine RG.call rfl rfl rfl rfl rfl rfl rfl en_10 (read_ret (⟨(setupOf f).pl, (setupOf f).og, (setupOf f).pi, (setupOf f).sl, (setupOf f).lo, (setupOf f).hi⟩ : Su) _ (List.replicate 401 ⟨0, 0, 0⟩) _ (hmk384) (by rw [List.length_replicate]; decide)) ?_
                      rintro _ w402 ⟨rfl, hx402⟩
                      replace hE2 := Ex.tr hE2 hx402
                      replace hE4 := Ex.tr hE4 hx402
                      replace hE16 := Ex.tr hE16 hx402
                      replace hE25 := Ex.tr hE25 hx402
                      replace hE371 := Ex.tr hE371 hx402
                      replace hE374 := Ex.tr hE374 hx402
                      replace hE378 := Ex.tr hE378 hx402
                      replace hE381 := Ex.tr hE381 hx402
                      have hE403 := hx402
                      refine RG.done ?_
                      refine QW.an (fun _ => hE403) ?_
                      refine AG.takeW 3 rfl (by kernel_rfl) (by kernel_rfl) rfl rfl rfl (fun _ => Ev.move rfl rfl) ?_
                      refine AG.takeW 4 rfl (by kernel_rfl) (by kernel_rfl) rfl rfl rfl (fun _ => Ev.extract rfl rfl rfl) ?_
                      refine AG.takeW 5 rfl (by kernel_rfl) (by kernel_rfl) rfl rfl rfl (fun _ => Ev.extract rfl rfl rfl) ?_
                      refine AG.takeW 6 rfl (by kernel_rfl) (by kernel_rfl) rfl rfl rfl (fun _ => Ev.assign rfl rfl) ?_
                      refine AG.takeW 7 rfl (by kernel_rfl) (by kernel_rfl) rfl rfl rfl (fun _ => Ev.assign rfl rfl) ?_
                      refine AG.done (by kernel_rfl) ?_
                      refine QW.then_ ?_
                      refine CW.seq ?_
                      have hdr : drawErr (⟨(setupOf f).pl, (setupOf f).og, (setupOf f).pi, (setupOf f).sl, (setupOf f).lo, (setupOf f).hi⟩ : Su) (⟨(readOf (⟨(setupOf f).pl, (setupOf f).og, (setupOf f).pi, (setupOf f).sl, (setupOf f).lo, (setupOf f).hi⟩ : Su) [(⟨min n (-1), (setupOf f).lo, (setupOf f).hi⟩ : Br)]).toArray⟩ : ByteArray).data.toList = 2 := by rw [read_bad _ _ he]; exact draw_empty _
                      refine CW.region ?_
                      refine RG.vl rfl rfl rfl (Ev.move rfl rfl) ?_
                      refine RG.vl rfl rfl rfl (Ev.isT (Ev.eqI rfl rfl rfl) (by omega)) ?_
                      refine RG.vl rfl rfl rfl (Ev.move rfl rfl) ?_
                      refine RG.vl rfl rfl rfl (Ev.move rfl rfl) ?_
                      refine RG.vl rfl rfl rfl (Ev.move rfl rfl) ?_
                      refine RG.vl rfl rfl rfl (Ev.isT (Ev.eqI rfl rfl rfl) (rfl)) ?_
                      refine RG.vl rfl rfl rfl (Ev.pickT rfl rfl rfl) ?_
                      refine RG.vl rfl rfl rfl (Ev.move rfl rfl) ?_
                      refine RG.vl rfl rfl rfl (Ev.move rfl rfl) ?_
                      refine RG.vl rfl rfl rfl (Ev.isT (Ev.eqS rfl rfl rfl) (by rw [read_bad _ _ he])) ?_
                      refine RG.vl rfl rfl rfl (Ev.pickT rfl rfl rfl) ?_
                      refine RG.vl rfl rfl rfl (Ev.move rfl rfl) ?_
                      refine RG.vl rfl rfl rfl (Ev.move rfl rfl) ?_
                      refine RG.vl rfl rfl rfl (Ev.rem8 rfl rfl rfl (by omega)) ?_
                      refine RG.vl rfl rfl rfl (Ev.isT (Ev.geq rfl rfl rfl) (by omega)) ?_
                      refine RG.vl rfl rfl rfl (Ev.move rfl rfl) ?_
                      refine RG.pass rfl rfl rfl ?_
                      refine RG.pass rfl rfl rfl ?_
                      refine RG.pass rfl rfl rfl ?_
                      refine RG.pass rfl rfl rfl ?_
                      refine RG.pass rfl rfl rfl ?_
                      refine RG.pass rfl rfl rfl ?_
                      refine RG.pass rfl rfl rfl ?_
                      refine RG.vl rfl rfl rfl (Ev.pickT rfl rfl rfl) ?_
                      refine RG.vl rfl rfl rfl (Ev.pickT rfl rfl rfl) ?_
                      refine RG.vl rfl rfl rfl (Ev.move rfl rfl) ?_
                      refine RG.vl rfl rfl rfl (Ev.ldAgg rfl rfl Try.underlying23 rfl sz_23 rfl ((hb5.ext hE16).cells)) ?_
                      refine RG.call rfl rfl rfl rfl rfl rfl rfl en_15 (right_yes (setupOf f) _ hok) ?_
                      rintro _ w404 ⟨rfl, hx404⟩
                      replace hE2 := Ex.tr hE2 hx404
                      replace hE4 := Ex.tr hE4 hx404
                      replace hE16 := Ex.tr hE16 hx404
                      replace hE25 := Ex.tr hE25 hx404
                      replace hE371 := Ex.tr hE371 hx404
                      replace hE374 := Ex.tr hE374 hx404
                      replace hE378 := Ex.tr hE378 hx404
                      replace hE381 := Ex.tr hE381 hx404
                      replace hE403 := Ex.tr hE403 hx404
                      refine RG.vl rfl rfl rfl (Ev.pickT rfl rfl rfl) ?_
                      refine RG.vl rfl rfl rfl (Ev.move rfl rfl) ?_
                      refine RG.vl rfl rfl rfl (Ev.move rfl rfl) ?_
                      refine RG.vl rfl rfl rfl (Ev.isT (Ev.eqI rfl rfl rfl) (by rw [err_many])) ?_
                      refine RG.vl rfl rfl rfl (Ev.pickT rfl rfl rfl) ?_
                      refine RG.vl rfl rfl rfl (Ev.move rfl rfl) ?_
                      refine RG.call rfl rfl rfl rfl rfl rfl rfl en_9 (awake_ret _) ?_
                      rintro _ w405 ⟨rfl, hx405⟩
                      replace hE2 := Ex.tr hE2 hx405
                      replace hE4 := Ex.tr hE4 hx405
                      replace hE16 := Ex.tr hE16 hx405
                      replace hE25 := Ex.tr hE25 hx405
                      replace hE371 := Ex.tr hE371 hx405
                      replace hE374 := Ex.tr hE374 hx405
                      replace hE378 := Ex.tr hE378 hx405
                      replace hE381 := Ex.tr hE381 hx405
                      replace hE403 := Ex.tr hE403 hx405
                      refine RG.vl rfl rfl rfl (Ev.pickT rfl rfl rfl) ?_
                      refine RG.vl rfl rfl rfl (Ev.assign rfl rfl) ?_
                      refine RG.done ?_
                      refine QW.sub (S' := [(6, _)]) ⟨rfl, trivial⟩ ?_
                      refine QW.then_ ?_
                      refine CW.ret ?_
                      refine QW.ret1 rfl rfl ?_
                      have hB := (Ex.tr hB0 hE2)
                      exact ⟨rfl, hB⟩
                    · refine CW.seq ?_
                      refine CW.region ?_
                      refine RG.vl rfl rfl rfl (Ev.eqI rfl rfl rfl) ?_
                      refine RG.vl rfl rfl rfl (Ev.assign rfl rfl) ?_
                      refine RG.done ?_
                      refine QW.then_ ?_
                      refine CW.condP rfl (fun hc406 => ?_) (fun hc406 => ?_)
                      · refine CW.region ?_
                        refine RG.vl rfl rfl rfl (Ev.move rfl rfl) ?_
                        refine RG.vl rfl rfl rfl (Ev.max2 rfl rfl rfl rfl) ?_
                        refine RG.vl rfl rfl rfl (Ev.fld rfl rfl fld_48_1) ?_
                        refine RG.st (g := gR) (k := 1) rfl rfl rfl rfl rfl sz_3 rfl hb17 rfl (fun ws407 hwws407 hbws407 => ?_)
                        replace hE2 := Wr.below hE2 hwws407 hle18
                        replace hE4 := Wr.below hE4 hwws407 hle19
                        replace hE16 := Wr.below hE16 hwws407 hle20
                        replace hE25 := Wr.below hE25 hwws407 hle21
                        refine RG.done ?_
                        refine QW.blockN ?_
                        refine QW.then_ ?_
                        refine CW.seq ?_
                        have he : errOf (⟨(setupOf f).pl, (setupOf f).og, (setupOf f).pi, (setupOf f).sl, (setupOf f).lo, (setupOf f).hi⟩ : Su) [(⟨(setupOf f).og, max n 1048577, (setupOf f).hi⟩ : Br)] = 2 := err_bar _ _ (by intro h; unfold InB at h; simp only at h; omega)
                        refine CW.region ?_
                        refine RG.vl rfl rfl rfl (Ev.ldAgg rfl rfl Try.underlying23 rfl sz_23 rfl ((hb10.ext hE25).cells)) ?_
                        refine RG.vl rfl rfl rfl (Ev.ldAgg rfl rfl Try.underlying48 rfl sz_48 rfl (hbws407.cells)) ?_
                        refine RG.buildD (xs := [.tmp 98]) rfl rfl rfl rfl rfl rfl rfl Try.underlying24 inf_48 rfl rfl rfl rfl (fun g408 w408 eg408 hx408 hb408 => ?_)
                        replace hE2 := Ex.tr hE2 hx408
                        replace hE4 := Ex.tr hE4 hx408
                        replace hE16 := Ex.tr hE16 hx408
                        replace hE25 := Ex.tr hE25 hx408
                        have hE409 := hx408
                        have hlit410 : RdL w408 3 Br.c (.slice (some ⟨g408, 0, none⟩) 1 1) ([(⟨(setupOf f).og, max n 1048577, (setupOf f).hi⟩ : Br)]) := RdL.of_blk Br.c_len (l := [(⟨(setupOf f).og, max n 1048577, (setupOf f).hi⟩ : Br)]) hb408 (Nat.le_refl _) (by decide)
                        refine RG.call rfl rfl rfl rfl rfl rfl rfl en_10 (read_ret (⟨(setupOf f).pl, (setupOf f).og, (setupOf f).pi, (setupOf f).sl, (setupOf f).lo, (setupOf f).hi⟩ : Su) _ [(⟨(setupOf f).og, max n 1048577, (setupOf f).hi⟩ : Br)] _ (hlit410) (by simp)) ?_
                        rintro _ w411 ⟨rfl, hx411⟩
                        replace hE2 := Ex.tr hE2 hx411
                        replace hE4 := Ex.tr hE4 hx411
                        replace hE16 := Ex.tr hE16 hx411
                        replace hE25 := Ex.tr hE25 hx411
                        replace hE409 := Ex.tr hE409 hx411
                        have hE412 := hx411
                        refine RG.vl rfl rfl rfl (Ev.move rfl rfl) ?_
                        refine RG.vl rfl rfl rfl (Ev.extract rfl rfl rfl) ?_
                        refine RG.vl rfl rfl rfl (Ev.extract rfl rfl rfl) ?_
                        refine RG.vl rfl rfl rfl (Ev.assign rfl rfl) ?_
                        refine RG.vl rfl rfl rfl (Ev.assign rfl rfl) ?_
                        refine RG.done ?_
                        refine QW.sub (S' := [(1, _), (6, _), (7, _), (8, _), (9, _), (10, _), (11, _)]) ⟨rfl, rfl, rfl, rfl, rfl, rfl, rfl, trivial⟩ ?_
                        refine QW.then_ ?_
                        refine CW.seq ?_
                        refine CW.region ?_
                        refine RG.vl rfl rfl rfl (Ev.ldAgg rfl rfl Try.underlying23 rfl sz_23 rfl ((hb10.ext hE25).cells)) ?_
                        refine RG.vl rfl rfl rfl (Ev.ldAgg rfl rfl Try.underlying48 rfl sz_48 rfl ((hbws407.ext hE409).cells)) ?_
                        refine RG.buildD (xs := [.tmp 105]) rfl rfl rfl rfl rfl rfl rfl Try.underlying24 inf_48 rfl rfl rfl rfl (fun g413 w413 eg413 hx413 hb413 => ?_)
                        replace hE2 := Ex.tr hE2 hx413
                        replace hE4 := Ex.tr hE4 hx413
                        replace hE16 := Ex.tr hE16 hx413
                        replace hE25 := Ex.tr hE25 hx413
                        replace hE409 := Ex.tr hE409 hx413
                        replace hE412 := Ex.tr hE412 hx413
                        have hlit414 : RdL w413 3 Br.c (.slice (some ⟨g413, 0, none⟩) 1 1) ([(⟨(setupOf f).og, max n 1048577, (setupOf f).hi⟩ : Br)]) := RdL.of_blk Br.c_len (l := [(⟨(setupOf f).og, max n 1048577, (setupOf f).hi⟩ : Br)]) hb413 (Nat.le_refl _) (by decide)
                        refine RG.call rfl rfl rfl rfl rfl rfl rfl en_11 (margin_ret (⟨(setupOf f).pl, (setupOf f).og, (setupOf f).pi, (setupOf f).sl, (setupOf f).lo, (setupOf f).hi⟩ : Su) _ [(⟨(setupOf f).og, max n 1048577, (setupOf f).hi⟩ : Br)] _ (hlit414) (by simp)) ?_
                        rintro _ w415 ⟨rfl, hx415⟩
                        replace hE2 := Ex.tr hE2 hx415
                        replace hE4 := Ex.tr hE4 hx415
                        replace hE16 := Ex.tr hE16 hx415
                        replace hE25 := Ex.tr hE25 hx415
                        replace hE409 := Ex.tr hE409 hx415
                        replace hE412 := Ex.tr hE412 hx415
                        have hE416 := hx415
                        refine RG.vl rfl rfl rfl (Ev.move rfl rfl) ?_
                        refine RG.vl rfl rfl rfl (Ev.extract rfl rfl rfl) ?_
                        refine RG.vl rfl rfl rfl (Ev.extract rfl rfl rfl) ?_
                        refine RG.vl rfl rfl rfl (Ev.assign rfl rfl) ?_
                        refine RG.vl rfl rfl rfl (Ev.assign rfl rfl) ?_
                        refine RG.done ?_
                        refine QW.then_ ?_
                        refine CW.seq ?_
                        refine CW.region ?_
                        refine RG.vl rfl rfl rfl (Ev.ldAgg rfl rfl Try.underlying23 rfl sz_23 rfl ((hb10.ext hE25).cells)) ?_
                        refine RG.vl rfl rfl rfl (Ev.move rfl rfl) ?_
                        refine RG.call rfl rfl rfl rfl rfl rfl rfl en_18 (draw_ret (⟨(setupOf f).pl, (setupOf f).og, (setupOf f).pi, (setupOf f).sl, (setupOf f).lo, (setupOf f).hi⟩ : Su) _ _ (by rw [read_bad _ _ he]; decide)) ?_
                        rintro _ w417 ⟨dr417, rfl, hdr417, hx417⟩
                        replace hE2 := Ex.tr hE2 hx417
                        replace hE4 := Ex.tr hE4 hx417
                        replace hE16 := Ex.tr hE16 hx417
                        replace hE25 := Ex.tr hE25 hx417
                        replace hE409 := Ex.tr hE409 hx417
                        replace hE412 := Ex.tr hE412 hx417
                        replace hE416 := Ex.tr hE416 hx417
                        refine RG.vl rfl rfl rfl (Ev.move rfl rfl) ?_
                        refine RG.vl rfl rfl rfl (Ev.extract rfl rfl rfl) ?_
                        refine RG.vl rfl rfl rfl (Ev.extract rfl rfl rfl) ?_
                        refine RG.vl rfl rfl rfl (Ev.assign rfl rfl) ?_
                        refine RG.vl rfl rfl rfl (Ev.assign rfl rfl) ?_
                        refine RG.done ?_
                        refine QW.sub (S' := [(1, _), (6, _), (7, _), (8, _), (10, _), (11, _), (13, _), (15, _)]) ⟨rfl, rfl, rfl, rfl, rfl, rfl, rfl, rfl, trivial⟩ ?_
                        refine QW.then_ ?_
                        refine CW.seq ?_
                        refine CW.draw [] (.ex) 8 rfl mixed (fun wd418 hxwd418 => ?_)
                        replace hE2 := Ex.tr hE2 hxwd418
                        replace hE4 := Ex.tr hE4 hxwd418
                        replace hE16 := Ex.tr hE16 hxwd418
                        replace hE25 := Ex.tr hE25 hxwd418
                        replace hE409 := Ex.tr hE409 hxwd418
                        replace hE412 := Ex.tr hE412 hxwd418
                        replace hE416 := Ex.tr hE416 hxwd418
                        have hE419 := hxwd418
                        refine AG.take 0 rfl (by kernel_rfl) (by kernel_rfl) rfl rfl rfl (fun wq hq => Ev.ldAgg rfl rfl Try.underlying23 rfl sz_23 rfl (((hb10.ext hE25).ext hq).cells)) ?_
                        refine AG.only 1 rfl (by kernel_rfl) ?_
                        refine RG.makeL (m := 401) (enc := Br.c) (⟨0, 0, 0⟩ : Br) rfl rfl rfl rfl rfl rfl (rfl) Try.underlying24 inf_48 Br.c_len rfl rfl (by omega) (by simp only [maxLen]; omega) (fun g421 w421 eg421 hx421 hb421 hmk422 => ?_)
                        have hle423 : w.heap.size ≤ g421 := by have := hE2.size; omega
                        have hle424 : w1.heap.size ≤ g421 := by have := hE4.size; omega
                        have hle425 : w5.heap.size ≤ g421 := by have := hE16.size; omega
                        have hle426 : w10.heap.size ≤ g421 := by have := hE25.size; omega
                        have hle427 : ws407.heap.size ≤ g421 := by have := hE409.size; omega
                        have hle428 : w408.heap.size ≤ g421 := by have := hE412.size; omega
                        have hle429 : w413.heap.size ≤ g421 := by have := hE416.size; omega
                        have hle430 : w417.heap.size ≤ g421 := by have := hE419.size; omega
                        have hle431 : wd418.heap.size ≤ g421 := by have := (Ex.rfl_ wd418).size; omega
                        have hlt432 : g1 < g421 := by have := Blk.lt (hb1.ext hE4); omega
                        have hlt433 : gS < g421 := by have := Blk.lt (hb5.ext hE16); omega
                        have hlt434 : gB < g421 := by have := Blk.lt (hb10.ext hE25); omega
                        have hlt435 : gR < g421 := by have := Blk.lt (hbws407.ext hE409); omega
                        have hlt436 : g408 < g421 := by have := Blk.lt (hb408.ext hE412); omega
                        have hlt437 : g413 < g421 := by have := Blk.lt (hb413.ext hE416); omega
                        replace hE2 := Ex.tr hE2 hx421
                        replace hE4 := Ex.tr hE4 hx421
                        replace hE16 := Ex.tr hE16 hx421
                        replace hE25 := Ex.tr hE25 hx421
                        replace hE409 := Ex.tr hE409 hx421
                        replace hE412 := Ex.tr hE412 hx421
                        replace hE416 := Ex.tr hE416 hx421
                        replace hE419 := Ex.tr hE419 hx421
                        have hE438 := hx421
                        refine RG.done ?_
                        refine QW.an (fun _ => hE438) ?_
                        refine AG.only 2 rfl (by kernel_rfl) ?_
                        refine RG.call rfl rfl rfl rfl rfl rfl rfl en_10 (read_ret (⟨(setupOf f).pl, (setupOf f).og, (setupOf f).pi, (setupOf f).sl, (setupOf f).lo, (setupOf f).hi⟩ : Su) _ (List.replicate 401 ⟨0, 0, 0⟩) _ (hmk422) (by rw [List.length_replicate]; decide)) ?_
                        rintro _ w440 ⟨rfl, hx440⟩
                        replace hE2 := Ex.tr hE2 hx440
                        replace hE4 := Ex.tr hE4 hx440
                        replace hE16 := Ex.tr hE16 hx440
                        replace hE25 := Ex.tr hE25 hx440
                        replace hE409 := Ex.tr hE409 hx440
                        replace hE412 := Ex.tr hE412 hx440
                        replace hE416 := Ex.tr hE416 hx440
                        replace hE419 := Ex.tr hE419 hx440
                        have hE441 := hx440
                        refine RG.done ?_
                        refine QW.an (fun _ => hE441) ?_
                        refine AG.takeW 3 rfl (by kernel_rfl) (by kernel_rfl) rfl rfl rfl (fun _ => Ev.move rfl rfl) ?_
                        refine AG.takeW 4 rfl (by kernel_rfl) (by kernel_rfl) rfl rfl rfl (fun _ => Ev.extract rfl rfl rfl) ?_
                        refine AG.takeW 5 rfl (by kernel_rfl) (by kernel_rfl) rfl rfl rfl (fun _ => Ev.extract rfl rfl rfl) ?_
                        refine AG.takeW 6 rfl (by kernel_rfl) (by kernel_rfl) rfl rfl rfl (fun _ => Ev.assign rfl rfl) ?_
                        refine AG.takeW 7 rfl (by kernel_rfl) (by kernel_rfl) rfl rfl rfl (fun _ => Ev.assign rfl rfl) ?_
                        refine AG.done (by kernel_rfl) ?_
                        refine QW.then_ ?_
                        refine CW.seq ?_
                        have hdr : drawErr (⟨(setupOf f).pl, (setupOf f).og, (setupOf f).pi, (setupOf f).sl, (setupOf f).lo, (setupOf f).hi⟩ : Su) (⟨(readOf (⟨(setupOf f).pl, (setupOf f).og, (setupOf f).pi, (setupOf f).sl, (setupOf f).lo, (setupOf f).hi⟩ : Su) [(⟨(setupOf f).og, max n 1048577, (setupOf f).hi⟩ : Br)]).toArray⟩ : ByteArray).data.toList = 2 := by rw [read_bad _ _ he]; exact draw_empty _
                        refine CW.region ?_
                        refine RG.vl rfl rfl rfl (Ev.move rfl rfl) ?_
                        refine RG.vl rfl rfl rfl (Ev.isT (Ev.eqI rfl rfl rfl) (by omega)) ?_
                        refine RG.vl rfl rfl rfl (Ev.move rfl rfl) ?_
                        refine RG.vl rfl rfl rfl (Ev.move rfl rfl) ?_
                        refine RG.vl rfl rfl rfl (Ev.move rfl rfl) ?_
                        refine RG.vl rfl rfl rfl (Ev.isT (Ev.eqI rfl rfl rfl) (rfl)) ?_
                        refine RG.vl rfl rfl rfl (Ev.pickT rfl rfl rfl) ?_
                        refine RG.vl rfl rfl rfl (Ev.move rfl rfl) ?_
                        refine RG.vl rfl rfl rfl (Ev.move rfl rfl) ?_
                        refine RG.vl rfl rfl rfl (Ev.isT (Ev.eqS rfl rfl rfl) (by rw [read_bad _ _ he])) ?_
                        refine RG.vl rfl rfl rfl (Ev.pickT rfl rfl rfl) ?_
                        refine RG.vl rfl rfl rfl (Ev.move rfl rfl) ?_
                        refine RG.vl rfl rfl rfl (Ev.move rfl rfl) ?_
                        refine RG.vl rfl rfl rfl (Ev.rem8 rfl rfl rfl (by omega)) ?_
                        refine RG.vl rfl rfl rfl (Ev.isT (Ev.geq rfl rfl rfl) (by omega)) ?_
                        refine RG.vl rfl rfl rfl (Ev.move rfl rfl) ?_
                        refine RG.pass rfl rfl rfl ?_
                        refine RG.pass rfl rfl rfl ?_
                        refine RG.pass rfl rfl rfl ?_
                        refine RG.pass rfl rfl rfl ?_
                        refine RG.pass rfl rfl rfl ?_
                        refine RG.pass rfl rfl rfl ?_
                        refine RG.pass rfl rfl rfl ?_
                        refine RG.vl rfl rfl rfl (Ev.pickT rfl rfl rfl) ?_
                        refine RG.vl rfl rfl rfl (Ev.pickT rfl rfl rfl) ?_
                        refine RG.vl rfl rfl rfl (Ev.move rfl rfl) ?_
                        refine RG.vl rfl rfl rfl (Ev.ldAgg rfl rfl Try.underlying23 rfl sz_23 rfl ((hb5.ext hE16).cells)) ?_
                        refine RG.call rfl rfl rfl rfl rfl rfl rfl en_15 (right_yes (setupOf f) _ hok) ?_
                        rintro _ w442 ⟨rfl, hx442⟩
                        replace hE2 := Ex.tr hE2 hx442
                        replace hE4 := Ex.tr hE4 hx442
                        replace hE16 := Ex.tr hE16 hx442
                        replace hE25 := Ex.tr hE25 hx442
                        replace hE409 := Ex.tr hE409 hx442
                        replace hE412 := Ex.tr hE412 hx442
                        replace hE416 := Ex.tr hE416 hx442
                        replace hE419 := Ex.tr hE419 hx442
                        replace hE441 := Ex.tr hE441 hx442
                        refine RG.vl rfl rfl rfl (Ev.pickT rfl rfl rfl) ?_
                        refine RG.vl rfl rfl rfl (Ev.move rfl rfl) ?_
                        refine RG.vl rfl rfl rfl (Ev.move rfl rfl) ?_
                        refine RG.vl rfl rfl rfl (Ev.isT (Ev.eqI rfl rfl rfl) (by rw [err_many])) ?_
                        refine RG.vl rfl rfl rfl (Ev.pickT rfl rfl rfl) ?_
                        refine RG.vl rfl rfl rfl (Ev.move rfl rfl) ?_
                        refine RG.call rfl rfl rfl rfl rfl rfl rfl en_9 (awake_ret _) ?_
                        rintro _ w443 ⟨rfl, hx443⟩
                        replace hE2 := Ex.tr hE2 hx443
                        replace hE4 := Ex.tr hE4 hx443
                        replace hE16 := Ex.tr hE16 hx443
                        replace hE25 := Ex.tr hE25 hx443
                        replace hE409 := Ex.tr hE409 hx443
                        replace hE412 := Ex.tr hE412 hx443
                        replace hE416 := Ex.tr hE416 hx443
                        replace hE419 := Ex.tr hE419 hx443
                        replace hE441 := Ex.tr hE441 hx443
                        refine RG.vl rfl rfl rfl (Ev.pickT rfl rfl rfl) ?_
                        refine RG.vl rfl rfl rfl (Ev.assign rfl rfl) ?_
                        refine RG.done ?_
                        refine QW.sub (S' := [(6, _)]) ⟨rfl, trivial⟩ ?_
                        refine QW.then_ ?_
                        refine CW.ret ?_
                        refine QW.ret1 rfl rfl ?_
                        have hB := (Ex.tr hB0 hE2)
                        exact ⟨rfl, hB⟩
                      · refine CW.seq ?_
                        refine CW.region ?_
                        refine RG.vl rfl rfl rfl (Ev.eqI rfl rfl rfl) ?_
                        refine RG.vl rfl rfl rfl (Ev.assign rfl rfl) ?_
                        refine RG.done ?_
                        refine QW.then_ ?_
                        refine CW.condP rfl (fun hc444 => ?_) (fun hc444 => ?_)
                        · refine CW.region ?_
                          refine RG.vl rfl rfl rfl (Ev.move rfl rfl) ?_
                          refine RG.vl rfl rfl rfl (Ev.min2 rfl rfl rfl rfl) ?_
                          refine RG.vl rfl rfl rfl (Ev.fld rfl rfl fld_48_2) ?_
                          refine RG.st (g := gR) (k := 2) rfl rfl rfl rfl rfl sz_3 rfl hb17 rfl (fun ws445 hwws445 hbws445 => ?_)
                          replace hE2 := Wr.below hE2 hwws445 hle18
                          replace hE4 := Wr.below hE4 hwws445 hle19
                          replace hE16 := Wr.below hE16 hwws445 hle20
                          replace hE25 := Wr.below hE25 hwws445 hle21
                          refine RG.done ?_
                          refine QW.sub (S' := [(1, _), (6, _), (7, _), (8, _), (9, _)]) ⟨rfl, rfl, rfl, rfl, rfl, trivial⟩ ?_
                          refine QW.blockN ?_
                          refine QW.then_ ?_
                          refine CW.seq ?_
                          have he : errOf (⟨(setupOf f).pl, (setupOf f).og, (setupOf f).pi, (setupOf f).sl, (setupOf f).lo, (setupOf f).hi⟩ : Su) [(⟨(setupOf f).og, (setupOf f).lo, min n (-1)⟩ : Br)] = 2 := err_bar _ _ (by intro h; unfold InB at h; simp only at h; omega)
                          refine CW.region ?_
                          refine RG.vl rfl rfl rfl (Ev.ldAgg rfl rfl Try.underlying23 rfl sz_23 rfl ((hb10.ext hE25).cells)) ?_
                          refine RG.vl rfl rfl rfl (Ev.ldAgg rfl rfl Try.underlying48 rfl sz_48 rfl (hbws445.cells)) ?_
                          refine RG.buildD (xs := [.tmp 98]) rfl rfl rfl rfl rfl rfl rfl Try.underlying24 inf_48 rfl rfl rfl rfl (fun g446 w446 eg446 hx446 hb446 => ?_)
                          replace hE2 := Ex.tr hE2 hx446
                          replace hE4 := Ex.tr hE4 hx446
                          replace hE16 := Ex.tr hE16 hx446
                          replace hE25 := Ex.tr hE25 hx446
                          have hE447 := hx446
                          have hlit448 : RdL w446 3 Br.c (.slice (some ⟨g446, 0, none⟩) 1 1) ([(⟨(setupOf f).og, (setupOf f).lo, min n (-1)⟩ : Br)]) := RdL.of_blk Br.c_len (l := [(⟨(setupOf f).og, (setupOf f).lo, min n (-1)⟩ : Br)]) hb446 (Nat.le_refl _) (by decide)
                          refine RG.call rfl rfl rfl rfl rfl rfl rfl en_10 (read_ret (⟨(setupOf f).pl, (setupOf f).og, (setupOf f).pi, (setupOf f).sl, (setupOf f).lo, (setupOf f).hi⟩ : Su) _ [(⟨(setupOf f).og, (setupOf f).lo, min n (-1)⟩ : Br)] _ (hlit448) (by simp)) ?_
                          rintro _ w449 ⟨rfl, hx449⟩
                          replace hE2 := Ex.tr hE2 hx449
                          replace hE4 := Ex.tr hE4 hx449
                          replace hE16 := Ex.tr hE16 hx449
                          replace hE25 := Ex.tr hE25 hx449
                          replace hE447 := Ex.tr hE447 hx449
                          have hE450 := hx449
                          refine RG.vl rfl rfl rfl (Ev.move rfl rfl) ?_
                          refine RG.vl rfl rfl rfl (Ev.extract rfl rfl rfl) ?_
                          refine RG.vl rfl rfl rfl (Ev.extract rfl rfl rfl) ?_
                          refine RG.vl rfl rfl rfl (Ev.assign rfl rfl) ?_
                          refine RG.vl rfl rfl rfl (Ev.assign rfl rfl) ?_
                          refine RG.done ?_
                          refine QW.then_ ?_
                          refine CW.seq ?_
                          refine CW.region ?_
                          refine RG.vl rfl rfl rfl (Ev.ldAgg rfl rfl Try.underlying23 rfl sz_23 rfl ((hb10.ext hE25).cells)) ?_
                          refine RG.vl rfl rfl rfl (Ev.ldAgg rfl rfl Try.underlying48 rfl sz_48 rfl ((hbws445.ext hE447).cells)) ?_
                          refine RG.buildD (xs := [.tmp 105]) rfl rfl rfl rfl rfl rfl rfl Try.underlying24 inf_48 rfl rfl rfl rfl (fun g451 w451 eg451 hx451 hb451 => ?_)
                          replace hE2 := Ex.tr hE2 hx451
                          replace hE4 := Ex.tr hE4 hx451
                          replace hE16 := Ex.tr hE16 hx451
                          replace hE25 := Ex.tr hE25 hx451
                          replace hE447 := Ex.tr hE447 hx451
                          replace hE450 := Ex.tr hE450 hx451
                          have hlit452 : RdL w451 3 Br.c (.slice (some ⟨g451, 0, none⟩) 1 1) ([(⟨(setupOf f).og, (setupOf f).lo, min n (-1)⟩ : Br)]) := RdL.of_blk Br.c_len (l := [(⟨(setupOf f).og, (setupOf f).lo, min n (-1)⟩ : Br)]) hb451 (Nat.le_refl _) (by decide)
                          refine RG.call rfl rfl rfl rfl rfl rfl rfl en_11 (margin_ret (⟨(setupOf f).pl, (setupOf f).og, (setupOf f).pi, (setupOf f).sl, (setupOf f).lo, (setupOf f).hi⟩ : Su) _ [(⟨(setupOf f).og, (setupOf f).lo, min n (-1)⟩ : Br)] _ (hlit452) (by simp)) ?_
                          rintro _ w453 ⟨rfl, hx453⟩
                          replace hE2 := Ex.tr hE2 hx453
                          replace hE4 := Ex.tr hE4 hx453
                          replace hE16 := Ex.tr hE16 hx453
                          replace hE25 := Ex.tr hE25 hx453
                          replace hE447 := Ex.tr hE447 hx453
                          replace hE450 := Ex.tr hE450 hx453
                          have hE454 := hx453
                          refine RG.vl rfl rfl rfl (Ev.move rfl rfl) ?_
                          refine RG.vl rfl rfl rfl (Ev.extract rfl rfl rfl) ?_
                          refine RG.vl rfl rfl rfl (Ev.extract rfl rfl rfl) ?_
                          refine RG.vl rfl rfl rfl (Ev.assign rfl rfl) ?_
                          refine RG.vl rfl rfl rfl (Ev.assign rfl rfl) ?_
                          refine RG.done ?_
                          refine QW.sub (S' := [(1, _), (6, _), (7, _), (8, _), (10, _), (11, _), (13, _)]) ⟨rfl, rfl, rfl, rfl, rfl, rfl, rfl, trivial⟩ ?_
                          refine QW.then_ ?_
                          refine CW.seq ?_
                          refine CW.region ?_
                          refine RG.vl rfl rfl rfl (Ev.ldAgg rfl rfl Try.underlying23 rfl sz_23 rfl ((hb10.ext hE25).cells)) ?_
                          refine RG.vl rfl rfl rfl (Ev.move rfl rfl) ?_
                          refine RG.call rfl rfl rfl rfl rfl rfl rfl en_18 (draw_ret (⟨(setupOf f).pl, (setupOf f).og, (setupOf f).pi, (setupOf f).sl, (setupOf f).lo, (setupOf f).hi⟩ : Su) _ _ (by rw [read_bad _ _ he]; decide)) ?_
                          rintro _ w455 ⟨dr455, rfl, hdr455, hx455⟩
                          replace hE2 := Ex.tr hE2 hx455
                          replace hE4 := Ex.tr hE4 hx455
                          replace hE16 := Ex.tr hE16 hx455
                          replace hE25 := Ex.tr hE25 hx455
                          replace hE447 := Ex.tr hE447 hx455
                          replace hE450 := Ex.tr hE450 hx455
                          replace hE454 := Ex.tr hE454 hx455
                          refine RG.vl rfl rfl rfl (Ev.move rfl rfl) ?_
                          refine RG.vl rfl rfl rfl (Ev.extract rfl rfl rfl) ?_
                          refine RG.vl rfl rfl rfl (Ev.extract rfl rfl rfl) ?_
                          refine RG.vl rfl rfl rfl (Ev.assign rfl rfl) ?_
                          refine RG.vl rfl rfl rfl (Ev.assign rfl rfl) ?_
                          refine RG.done ?_
                          refine QW.then_ ?_
                          refine CW.seq ?_
                          refine CW.draw [] (.ex) 8 rfl mixed (fun wd456 hxwd456 => ?_)
                          replace hE2 := Ex.tr hE2 hxwd456
                          replace hE4 := Ex.tr hE4 hxwd456
                          replace hE16 := Ex.tr hE16 hxwd456
                          replace hE25 := Ex.tr hE25 hxwd456
                          replace hE447 := Ex.tr hE447 hxwd456
                          replace hE450 := Ex.tr hE450 hxwd456
                          replace hE454 := Ex.tr hE454 hxwd456
                          have hE457 := hxwd456
                          refine AG.take 0 rfl (by kernel_rfl) (by kernel_rfl) rfl rfl rfl (fun wq hq => Ev.ldAgg rfl rfl Try.underlying23 rfl sz_23 rfl (((hb10.ext hE25).ext hq).cells)) ?_
                          refine AG.only 1 rfl (by kernel_rfl) ?_
                          refine RG.makeL (m := 401) (enc := Br.c) (⟨0, 0, 0⟩ : Br) rfl rfl rfl rfl rfl rfl (rfl) Try.underlying24 inf_48 Br.c_len rfl rfl (by omega) (by simp only [maxLen]; omega) (fun g459 w459 eg459 hx459 hb459 hmk460 => ?_)
                          have hle461 : w.heap.size ≤ g459 := by have := hE2.size; omega
                          have hle462 : w1.heap.size ≤ g459 := by have := hE4.size; omega
                          have hle463 : w5.heap.size ≤ g459 := by have := hE16.size; omega
                          have hle464 : w10.heap.size ≤ g459 := by have := hE25.size; omega
                          have hle465 : ws445.heap.size ≤ g459 := by have := hE447.size; omega
                          have hle466 : w446.heap.size ≤ g459 := by have := hE450.size; omega
                          have hle467 : w451.heap.size ≤ g459 := by have := hE454.size; omega
                          have hle468 : w455.heap.size ≤ g459 := by have := hE457.size; omega
                          have hle469 : wd456.heap.size ≤ g459 := by have := (Ex.rfl_ wd456).size; omega
                          have hlt470 : g1 < g459 := by have := Blk.lt (hb1.ext hE4); omega
                          have hlt471 : gS < g459 := by have := Blk.lt (hb5.ext hE16); omega
                          have hlt472 : gB < g459 := by have := Blk.lt (hb10.ext hE25); omega
                          have hlt473 : gR < g459 := by have := Blk.lt (hbws445.ext hE447); omega
                          have hlt474 : g446 < g459 := by have := Blk.lt (hb446.ext hE450); omega
                          have hlt475 : g451 < g459 := by have := Blk.lt (hb451.ext hE454); omega
                          replace hE2 := Ex.tr hE2 hx459
                          replace hE4 := Ex.tr hE4 hx459
                          replace hE16 := Ex.tr hE16 hx459
                          replace hE25 := Ex.tr hE25 hx459
                          replace hE447 := Ex.tr hE447 hx459
                          replace hE450 := Ex.tr hE450 hx459
                          replace hE454 := Ex.tr hE454 hx459
                          replace hE457 := Ex.tr hE457 hx459
                          have hE476 := hx459
                          refine RG.done ?_
                          refine QW.an (fun _ => hE476) ?_
                          refine AG.only 2 rfl (by kernel_rfl) ?_
                          refine RG.call rfl rfl rfl rfl rfl rfl rfl en_10 (read_ret (⟨(setupOf f).pl, (setupOf f).og, (setupOf f).pi, (setupOf f).sl, (setupOf f).lo, (setupOf f).hi⟩ : Su) _ (List.replicate 401 ⟨0, 0, 0⟩) _ (hmk460) (by rw [List.length_replicate]; decide)) ?_
                          rintro _ w478 ⟨rfl, hx478⟩
                          replace hE2 := Ex.tr hE2 hx478
                          replace hE4 := Ex.tr hE4 hx478
                          replace hE16 := Ex.tr hE16 hx478
                          replace hE25 := Ex.tr hE25 hx478
                          replace hE447 := Ex.tr hE447 hx478
                          replace hE450 := Ex.tr hE450 hx478
                          replace hE454 := Ex.tr hE454 hx478
                          replace hE457 := Ex.tr hE457 hx478
                          have hE479 := hx478
                          refine RG.done ?_
                          refine QW.an (fun _ => hE479) ?_
                          refine AG.takeW 3 rfl (by kernel_rfl) (by kernel_rfl) rfl rfl rfl (fun _ => Ev.move rfl rfl) ?_
                          refine AG.takeW 4 rfl (by kernel_rfl) (by kernel_rfl) rfl rfl rfl (fun _ => Ev.extract rfl rfl rfl) ?_
                          refine AG.takeW 5 rfl (by kernel_rfl) (by kernel_rfl) rfl rfl rfl (fun _ => Ev.extract rfl rfl rfl) ?_
                          refine AG.takeW 6 rfl (by kernel_rfl) (by kernel_rfl) rfl rfl rfl (fun _ => Ev.assign rfl rfl) ?_
                          refine AG.takeW 7 rfl (by kernel_rfl) (by kernel_rfl) rfl rfl rfl (fun _ => Ev.assign rfl rfl) ?_
                          refine AG.done (by kernel_rfl) ?_
                          refine QW.sub (S' := [(1, _), (6, _), (7, _), (8, _), (10, _), (11, _), (13, _), (15, _), (17, _)]) ⟨rfl, rfl, rfl, rfl, rfl, rfl, rfl, rfl, rfl, trivial⟩ ?_
                          refine QW.then_ ?_
                          refine CW.seq ?_
                          have hdr : drawErr (⟨(setupOf f).pl, (setupOf f).og, (setupOf f).pi, (setupOf f).sl, (setupOf f).lo, (setupOf f).hi⟩ : Su) (⟨(readOf (⟨(setupOf f).pl, (setupOf f).og, (setupOf f).pi, (setupOf f).sl, (setupOf f).lo, (setupOf f).hi⟩ : Su) [(⟨(setupOf f).og, (setupOf f).lo, min n (-1)⟩ : Br)]).toArray⟩ : ByteArray).data.toList = 2 := by rw [read_bad _ _ he]; exact draw_empty _
                          refine CW.region ?_
                          refine RG.vl rfl rfl rfl (Ev.move rfl rfl) ?_
                          refine RG.vl rfl rfl rfl (Ev.isT (Ev.eqI rfl rfl rfl) (by omega)) ?_
                          refine RG.vl rfl rfl rfl (Ev.move rfl rfl) ?_
                          refine RG.vl rfl rfl rfl (Ev.move rfl rfl) ?_
                          refine RG.vl rfl rfl rfl (Ev.move rfl rfl) ?_
                          refine RG.vl rfl rfl rfl (Ev.isT (Ev.eqI rfl rfl rfl) (rfl)) ?_
                          refine RG.vl rfl rfl rfl (Ev.pickT rfl rfl rfl) ?_
                          refine RG.vl rfl rfl rfl (Ev.move rfl rfl) ?_
                          refine RG.vl rfl rfl rfl (Ev.move rfl rfl) ?_
                          refine RG.vl rfl rfl rfl (Ev.isT (Ev.eqS rfl rfl rfl) (by rw [read_bad _ _ he])) ?_
                          refine RG.vl rfl rfl rfl (Ev.pickT rfl rfl rfl) ?_
                          refine RG.vl rfl rfl rfl (Ev.move rfl rfl) ?_
                          refine RG.vl rfl rfl rfl (Ev.move rfl rfl) ?_
                          refine RG.vl rfl rfl rfl (Ev.rem8 rfl rfl rfl (by omega)) ?_
                          refine RG.vl rfl rfl rfl (Ev.isT (Ev.geq rfl rfl rfl) (by omega)) ?_
                          refine RG.vl rfl rfl rfl (Ev.move rfl rfl) ?_
                          refine RG.pass rfl rfl rfl ?_
                          refine RG.pass rfl rfl rfl ?_
                          refine RG.pass rfl rfl rfl ?_
                          refine RG.pass rfl rfl rfl ?_
                          refine RG.pass rfl rfl rfl ?_
                          refine RG.pass rfl rfl rfl ?_
                          refine RG.pass rfl rfl rfl ?_
                          refine RG.vl rfl rfl rfl (Ev.pickT rfl rfl rfl) ?_
                          refine RG.vl rfl rfl rfl (Ev.pickT rfl rfl rfl) ?_
                          refine RG.vl rfl rfl rfl (Ev.move rfl rfl) ?_
                          refine RG.vl rfl rfl rfl (Ev.ldAgg rfl rfl Try.underlying23 rfl sz_23 rfl ((hb5.ext hE16).cells)) ?_
                          refine RG.call rfl rfl rfl rfl rfl rfl rfl en_15 (right_yes (setupOf f) _ hok) ?_
                          rintro _ w480 ⟨rfl, hx480⟩
                          replace hE2 := Ex.tr hE2 hx480
                          replace hE4 := Ex.tr hE4 hx480
                          replace hE16 := Ex.tr hE16 hx480
                          replace hE25 := Ex.tr hE25 hx480
                          replace hE447 := Ex.tr hE447 hx480
                          replace hE450 := Ex.tr hE450 hx480
                          replace hE454 := Ex.tr hE454 hx480
                          replace hE457 := Ex.tr hE457 hx480
                          replace hE479 := Ex.tr hE479 hx480
                          refine RG.vl rfl rfl rfl (Ev.pickT rfl rfl rfl) ?_
                          refine RG.vl rfl rfl rfl (Ev.move rfl rfl) ?_
                          refine RG.vl rfl rfl rfl (Ev.move rfl rfl) ?_
                          refine RG.vl rfl rfl rfl (Ev.isT (Ev.eqI rfl rfl rfl) (by rw [err_many])) ?_
                          refine RG.vl rfl rfl rfl (Ev.pickT rfl rfl rfl) ?_
                          refine RG.vl rfl rfl rfl (Ev.move rfl rfl) ?_
                          refine RG.call rfl rfl rfl rfl rfl rfl rfl en_9 (awake_ret _) ?_
                          rintro _ w481 ⟨rfl, hx481⟩
                          replace hE2 := Ex.tr hE2 hx481
                          replace hE4 := Ex.tr hE4 hx481
                          replace hE16 := Ex.tr hE16 hx481
                          replace hE25 := Ex.tr hE25 hx481
                          replace hE447 := Ex.tr hE447 hx481
                          replace hE450 := Ex.tr hE450 hx481
                          replace hE454 := Ex.tr hE454 hx481
                          replace hE457 := Ex.tr hE457 hx481
                          replace hE479 := Ex.tr hE479 hx481
                          refine RG.vl rfl rfl rfl (Ev.pickT rfl rfl rfl) ?_
                          refine RG.vl rfl rfl rfl (Ev.assign rfl rfl) ?_
                          refine RG.done ?_
                          refine QW.sub (S' := [(6, _)]) ⟨rfl, trivial⟩ ?_
                          refine QW.then_ ?_
                          refine CW.ret ?_
                          refine QW.ret1 rfl rfl ?_
                          have hB := (Ex.tr hB0 hE2)
                          exact ⟨rfl, hB⟩
                        · refine CW.skip ?_
                          refine QW.blockN ?_
                          refine QW.then_ ?_
                          refine CW.seq ?_
                          exfalso; omega

end Go.Proofs.Ytnecppiamecemaa
