/- Walks (HL). Written by program. -/
import Derived.Test.YtnecppiamecemaaT
import Derived.Test.YtnecppiamecemaaHX
namespace Go.Proofs.Ytnecppiamecemaa
open Go.RowKit
set_option maxRecDepth 100000 in
set_option maxHeartbeats 4000000 in
theorem heightMissing_ret (f : Fm) (u : Value) (l : List UInt8) (y : Int) (w : World) (hf : f.Ok) (hl : RdL w 1 encB u l) (hy : 0 ≤ y ∧ y ≤ 255) :
    Ret Try.prog 6 [f.v, u, .int .u8 y] w (fun v w' => v = .bool true ∧ Ex w w') := by
  have hok := setup_okay f hf
  have hsm := setup_small f hf
  have hset := fun w => setup_ret f w hf
  generalize setupOf f = s at hok hsm hset
  obtain ⟨s1, s2, s3, s4, s5⟩ := hsm
  obtain ⟨a1, a2, a3, a4, a5, a6, a7, a8, a9, a10, a11⟩ := id hok
  have hB0 : Ex w w := Ex.rfl_ _
  refine Ret.of Try.func6 rfl Try.ntmps6 rfl ?_
  refine CW.seq ?_
  refine CW.region ?_
  refine RG.box rfl rfl rfl rfl rfl (fun g1 w1 eg1 hx1 hb1 => ?_)
  have hE2 := hx1
  refine RG.vl rfl rfl rfl (Ev.assign rfl rfl) ?_
  refine RG.done ?_
  refine QW.then_ ?_
  refine CW.seq ?_
  refine CW.region ?_
  refine RG.vl rfl rfl rfl (Ev.ldAgg rfl rfl Try.underlying51 rfl sz_51 rfl (hb1.cells)) ?_
  refine RG.call rfl rfl rfl rfl rfl rfl rfl en_20 (hset _) ?_
  rintro _ w3 ⟨rfl, hx3⟩
  replace hE2 := Ex.tr hE2 hx3
  have hE4 := hx3
  refine RG.local_ rfl rfl rfl rfl (fun _ => rfl) rfl rfl (fun _ => rfl) inf_23 rfl rfl rfl (fun gS w5 egS hx5 hb5 => ?_)
  have hle6 : w.heap.size ≤ gS := by have := hE2.size; omega
  have hle7 : w1.heap.size ≤ gS := by have := hE4.size; omega
  have hle8 : w3.heap.size ≤ gS := by have := (Ex.rfl_ w3).size; omega
  have hlt9 : g1 < gS := by have := Blk.lt (hb1.ext hE4); omega
  replace hE2 := Ex.tr hE2 hx5
  replace hE4 := Ex.tr hE4 hx5
  refine RG.done ?_
  refine QW.then_ ?_
  refine CW.seq ?_
  refine CW.region ?_
  refine RG.vl rfl rfl rfl (Ev.ldAgg rfl rfl Try.underlying23 rfl sz_23 rfl (hb5.cells)) ?_
  refine RG.vl rfl rfl rfl (Ev.move rfl rfl) ?_
  refine RG.call rfl rfl rfl rfl rfl rfl rfl en_21 (text_any s _ l _ hok ((hl.ext hE2))) ?_
  rintro _ w10 ⟨T, rfl, hT1, hT2, hx10⟩
  replace hE2 := Ex.tr hE2 hx10
  replace hE4 := Ex.tr hE4 hx10
  have hE11 := hx10
  refine RG.vl rfl rfl rfl (Ev.assign rfl rfl) ?_
  refine RG.done ?_
  refine QW.then_ ?_
  refine CW.seq ?_
  refine CW.region ?_
  refine RG.vl rfl rfl rfl (Ev.ldAgg rfl rfl Try.underlying23 rfl sz_23 rfl ((hb5.ext hE11).cells)) ?_
  refine RG.vl rfl rfl rfl (Ev.move rfl rfl) ?_
  refine RG.call rfl rfl rfl rfl rfl rfl rfl en_18 (draw_any s T _ hok (by omega) hT1 hT2) ?_
  rintro _ w12 ⟨ud, bs, rfl, hbs, hR, hbl, hmk, hx12⟩
  replace hE2 := Ex.tr hE2 hx12
  replace hE4 := Ex.tr hE4 hx12
  replace hE11 := Ex.tr hE11 hx12
  refine RG.vl rfl rfl rfl (Ev.move rfl rfl) ?_
  refine RG.vl rfl rfl rfl (Ev.extract rfl rfl rfl) ?_
  refine RG.vl rfl rfl rfl (Ev.extract rfl rfl rfl) ?_
  refine RG.vl rfl rfl rfl (Ev.assign rfl rfl) ?_
  refine RG.vl rfl rfl rfl (Ev.assign rfl rfl) ?_
  refine RG.done ?_
  refine QW.sub (S' := [(2, _), (6, _), (7, _), (8, _), (9, _), (10, _)]) ⟨rfl, rfl, rfl, rfl, rfl, rfl, trivial⟩ ?_
  refine QW.then_ ?_
  refine CW.seq ?_
  refine CW.seq ?_
  refine CW.region ?_
  refine RG.vl rfl rfl rfl (Ev.move rfl rfl) ?_
  refine RG.vl rfl rfl rfl (Ev.isF (Ev.neI rfl rfl rfl) (fun h => h rfl)) ?_
  refine RG.done ?_
  refine QW.then_ ?_
  refine CW.condF rfl ?_
  refine CW.skip ?_
  refine QW.then_ ?_
  refine CW.seq ?_
  refine CW.seq ?_
  refine CW.region ?_
  refine RG.vl rfl rfl rfl (Ev.move rfl rfl) ?_
  refine RG.vl rfl rfl rfl (Ev.lenL rfl rfl rfl Try.underlying24 (hbs)) ?_
  refine RG.vl rfl rfl rfl (Ev.eqI rfl rfl rfl) ?_
  refine RG.done ?_
  refine QW.then_ ?_
  refine CW.condP rfl (fun hc13 => ?_) (fun hc13 => ?_)
  · refine CW.seq ?_
    refine CW.region ?_
    refine RG.call rfl rfl rfl rfl rfl rfl rfl en_9 (awake_ret _) ?_
    rintro _ w14 ⟨rfl, hx14⟩
    replace hE2 := Ex.tr hE2 hx14
    replace hE4 := Ex.tr hE4 hx14
    replace hE11 := Ex.tr hE11 hx14
    have hE15 := hx14
    refine RG.vl rfl rfl rfl (Ev.assign rfl rfl) ?_
    refine RG.done ?_
    refine QW.then_ ?_
    refine CW.ret ?_
    refine QW.thenRet ?_
    refine QW.ret1 rfl rfl ?_
    have hB := (Ex.tr hB0 hE2)
    exact ⟨rfl, hB⟩
  · refine CW.skip ?_
    refine QW.then_ ?_
    refine CW.seq ?_
    have hm0 := Int.emod_nonneg y (show (bs.length : Int) ≠ 0 by omega)
    have hm1 := Int.emod_lt_of_pos y (show (0 : Int) < (bs.length : Int) by omega)
    obtain ⟨k, hk⟩ : ∃ k : Nat, y % (bs.length : Int) = (k : Int) := ⟨(y % (bs.length : Int)).toNat, by omega⟩
    obtain ⟨b0, hb⟩ : ∃ b0, bs[k]? = some b0 := ⟨_, List.getElem?_eq_getElem (by omega)⟩
    obtain ⟨j, c, hjc, hc63, hokc, rfl⟩ := hmk k b0 hb
    have hjT : j < T.length := (List.getElem?_eq_some_iff.1 hjc).1
    have hpj := mkb_plc s c j hok (by omega)
    have hkp := kpi s j hok (by omega) (by omega)
    have hkq := kpi s s.pl hok (by omega) (by omega)
    have hpo : (mkb s c j).po = s.og + (j : Int) * s.pi := rfl
    have hne : ∀ x ∈ bs, letter s x ≠ 63 := fun x hx => by
      obtain ⟨i, hi⟩ := List.mem_iff_getElem?.1 hx
      obtain ⟨j', c', h1, h2, h3, rfl⟩ := hmk i x hi
      rw [mkb_letter s c' j' hok h3 h2]; exact h2
    have hl1 : ((bs.take k).drop 0).length = k := by rw [List.length_drop, List.length_take]; omega
    have hl2 : ((bs.take bs.length).drop (k + 1)).length = bs.length - (k + 1) := by rw [List.length_drop, List.length_take]; omega
    have hnil : ([] : List Br).length = 0 := rfl
    have hl3 : ([] ++ (bs.take k).drop 0).length = k := hl1
    have hl4 : ([] ++ bs).length = bs.length := rfl
    have hl5 : ([] ++ less bs k).length = (less bs k).length := rfl
    have hless : [] ++ (bs.take k).drop 0 ++ (bs.take bs.length).drop (k + 1) = less bs k := by rw [List.take_length]; rfl
    have hll : (less bs k).length ≤ bs.length := (less_sub bs k).length_le
    obtain ⟨he1, ht1⟩ := miss_less s bs T k j _ hok hR hb hpj hjT
    have he2 := miss_dup s bs T k _ hok hR (by omega) hb
    have he3 := miss_moved s bs T k _ hok hR hb
    refine CW.region ?_
    refine RG.vl rfl rfl rfl (Ev.move rfl rfl) ?_
    refine RG.vl rfl rfl rfl (Ev.to64 rfl rfl Try.underlying5 Try.underlying3 (by omega)) ?_
    refine RG.vl rfl rfl rfl (Ev.move rfl rfl) ?_
    refine RG.vl rfl rfl rfl (Ev.lenL rfl rfl rfl Try.underlying24 (hbs)) ?_
    refine RG.vl rfl rfl rfl ((Ev.remI rfl rfl rfl (by omega)).conv (congrArg (Value.int .i64) hk)) ?_
    refine RG.vl rfl rfl rfl (Ev.assign rfl rfl) ?_
    refine RG.done ?_
    refine QW.then_ ?_
    refine CW.seq ?_
    refine CW.draw [] (.ex) 12 rfl mixed (fun wd16 hxwd16 => ?_)
    replace hE2 := Ex.tr hE2 hxwd16
    replace hE4 := Ex.tr hE4 hxwd16
    replace hE11 := Ex.tr hE11 hxwd16
    have hE17 := hxwd16
    refine AG.takeW 0 rfl (by kernel_rfl) (by kernel_rfl) rfl rfl rfl (fun _ => Ev.move rfl rfl) ?_
    refine AG.takeW 1 rfl (by kernel_rfl) (by kernel_rfl) rfl rfl rfl (fun _ => Ev.move rfl rfl) ?_
    refine AG.idxL _ 2 rfl (by kernel_rfl) (by kernel_rfl) rfl rfl rfl rfl rfl rfl Try.underlying24 sz_48 ((hbs.ext hE17)) (hb) (fun p18 hp18b hp18 => ?_)
    refine AG.takeW 3 rfl (by kernel_rfl) (by kernel_rfl) rfl rfl rfl (fun _ => Ev.fld rfl rfl fld_48_0) ?_
    refine AG.take 4 rfl (by kernel_rfl) (by kernel_rfl) rfl rfl rfl (fun wq hq => Ev.ldAt rfl rfl Try.underlying3 rfl (hp18.ext hq hp18b) (rfl)) ?_
    refine AG.takeW 5 rfl (by kernel_rfl) (by kernel_rfl) rfl rfl rfl (fun _ => Ev.fld rfl rfl fld_23_1) ?_
    refine AG.take 6 rfl (by kernel_rfl) (by kernel_rfl) rfl rfl rfl (fun wq hq => Ev.ldAt rfl rfl Try.underlying3 rfl (((hb5.ext hE11).ext hq).cells) (rfl)) ?_
    refine AG.takeW 7 rfl (by kernel_rfl) (by kernel_rfl) rfl rfl rfl (fun _ => Ev.subI rfl rfl rfl (by omega)) ?_
    refine AG.takeW 8 rfl (by kernel_rfl) (by kernel_rfl) rfl rfl rfl (fun _ => Ev.fld rfl rfl fld_23_2) ?_
    refine AG.take 9 rfl (by kernel_rfl) (by kernel_rfl) rfl rfl rfl (fun wq hq => Ev.ldAt rfl rfl Try.underlying3 rfl (((hb5.ext hE11).ext hq).cells) (rfl)) ?_
    refine AG.takeW 10 rfl (by kernel_rfl) (by kernel_rfl) rfl rfl rfl (fun _ => (Ev.quoI rfl rfl rfl (by omega)).conv (congrArg (Value.int .i64) (mkb_at s c j hok))) ?_
    refine AG.takeW 11 rfl (by kernel_rfl) (by kernel_rfl) rfl rfl rfl (fun _ => Ev.assign rfl rfl) ?_
    refine AG.done (by kernel_rfl) ?_
    refine QW.sub (S' := [(6, _), (7, _), (8, _), (9, _), (11, _), (12, _)]) ⟨rfl, rfl, rfl, rfl, rfl, rfl, trivial⟩ ?_
    refine QW.then_ ?_
    refine CW.seq ?_
    replace hl := (hl.ext hE2)
    replace hb1 := (hb1.ext hE4)
    replace hb5 := (hb5.ext hE11)
    replace hbs := (hbs.ext hE17)
    have hR19 := (Ex.tr hB0 hE2)
    refine CW.draw [] (.low wd16.heap.size) 11 rfl mixed (fun wd20 hxwd20 => ?_)
    have hE21 := hxwd20
    refine AG.takeW 1 rfl (by kernel_rfl) (by kernel_rfl) rfl rfl rfl (fun _ => Ev.move rfl rfl) ?_
    refine AG.takeW 2 rfl (by kernel_rfl) (by kernel_rfl) rfl rfl rfl (fun _ => Ev.move rfl rfl) ?_
    refine AG.sliceL (L := 0) (H := k) _ 3 rfl (by kernel_rfl) (by kernel_rfl) rfl rfl rfl rfl rfl Try.underlying24 sz_48 (hbs) (.inl ⟨rfl, rfl⟩) (.inr ⟨_, _, _, rfl, rfl, by omega⟩) (by omega) (by omega) (fun v22 hrv22 => ?_)
    refine AG.takeW 5 rfl (by kernel_rfl) (by kernel_rfl) rfl rfl rfl (fun _ => Ev.move rfl rfl) ?_
    refine AG.takeW 6 rfl (by kernel_rfl) (by kernel_rfl) rfl rfl rfl (fun _ => Ev.move rfl rfl) ?_
    refine AG.takeW 7 rfl (by kernel_rfl) (by kernel_rfl) rfl rfl rfl (fun _ => Ev.addI rfl rfl rfl (by omega)) ?_
    refine AG.sliceL (L := k + 1) (H := bs.length) _ 8 rfl (by kernel_rfl) (by kernel_rfl) rfl rfl rfl rfl rfl Try.underlying24 sz_48 (hbs) (.inr ⟨_, _, _, rfl, rfl, by omega⟩) (.inl ⟨rfl, rfl⟩) (by omega) (by omega) (fun v23 hrv23 => ?_)
    refine AG.only 0 rfl (by kernel_rfl) ?_
    replace hl := (hl.ext hE21)
    replace hb1 := (hb1.ext hE21)
    replace hb5 := (hb5.ext hE21)
    replace hbs := (hbs.ext hE21)
    replace hp18 := (hp18.ext hE21 hp18b)
    replace hp18b := (Nat.lt_of_lt_of_le hp18b hE21.size)
    replace hrv22 := (hrv22.ext hE21)
    replace hrv23 := (hrv23.ext hE21)
    have hR25 := (Ex.tr hR19 hE21)
    have hR26 := hE21
    refine RG.build0 rfl rfl rfl rfl rfl Try.underlying24 sz_48 (fun g27 w27 eg27 hx27 hb27 => ?_)
    have hown28 := own_blk (B := wd20.heap.size) (m := 0) (sz := 3) hb27 (Nat.le_of_eq eg27.symm) (Nat.zero_le _) (by simp)
    replace hown28 := own_empty (enc := Br.c) hown28
    have hE29 := hx27
    refine RG.done ?_
    refine QW.an (fun _ => Rr.of_ex hE29) ?_
    refine AG.only 4 rfl (by kernel_rfl) ?_
    refine RG.appLL rfl rfl rfl rfl rfl rfl rfl Try.underlying24 inf_48 rfl rfl Br.c_len (fun _ => rfl) hown28 (hrv22.ext hE29) (by simp only [maxLen]; omega) (by omega) (hE29.size) (fun v31 wa32 hown33 hgr34 hat35 => ?_)
    replace hE29 := own_block hown28 hE29 hgr34 (Nat.le_refl _) hE29.size
    refine RG.done ?_
    refine QW.an (fun _ => Rr.low_own hown28 hgr34 (by have := hR26.size; omega)) ?_
    refine AG.only 9 rfl (by kernel_rfl) ?_
    refine RG.appLL rfl rfl rfl rfl rfl rfl rfl Try.underlying24 inf_48 rfl rfl Br.c_len (fun _ => rfl) hown33 (hrv23.ext hE29) (by simp only [maxLen]; omega) (by omega) (hE29.size) (fun v37 wa38 hown39 hgr40 hat41 => ?_)
    replace hE29 := own_block hown33 hE29 hgr40 (Nat.le_refl _) hE29.size
    refine RG.done ?_
    refine QW.an (fun _ => Rr.low_own hown33 hgr40 (by have := hR26.size; omega)) ?_
    refine AG.takeW 10 rfl (by kernel_rfl) (by kernel_rfl) rfl rfl rfl (fun _ => Ev.assign rfl rfl) ?_
    refine AG.done (by kernel_rfl) ?_
    refine QW.then_ ?_
    refine CW.seq ?_
    rw [hless] at hown39
    refine CW.region ?_
    refine RG.vl rfl rfl rfl (Ev.ldAgg rfl rfl Try.underlying23 rfl sz_23 rfl ((hb5.ext hE29).cells)) ?_
    refine RG.vl rfl rfl rfl (Ev.move rfl rfl) ?_
    refine RG.call rfl rfl rfl rfl rfl rfl rfl en_10 (read_is s _ (less bs k) _ ((RdL.of_own Br.c_len hown39)) (by omega) he1 ht1) ?_
    rintro _ w42 ⟨rfl, hx42⟩
    replace hE29 := Ex.tr hE29 hx42
    have hE43 := hx42
    refine RG.vl rfl rfl rfl (Ev.move rfl rfl) ?_
    refine RG.vl rfl rfl rfl (Ev.extract rfl rfl rfl) ?_
    refine RG.vl rfl rfl rfl (Ev.extract rfl rfl rfl) ?_
    refine RG.vl rfl rfl rfl (Ev.assign rfl rfl) ?_
    refine RG.vl rfl rfl rfl (Ev.assign rfl rfl) ?_
    refine RG.done ?_
    refine QW.sub (S' := [(6, _), (7, _), (8, _), (9, _), (11, _), (12, _), (13, _), (14, _), (15, _)]) ⟨rfl, rfl, rfl, rfl, rfl, rfl, rfl, rfl, rfl, trivial⟩ ?_
    refine QW.then_ ?_
    refine CW.seq ?_
    replace hl := (hl.ext hE29)
    replace hb1 := (hb1.ext hE29)
    replace hb5 := (hb5.ext hE29)
    replace hbs := (hbs.ext hE29)
    replace hp18 := (hp18.ext hE29 hp18b)
    replace hp18b := (Nat.lt_of_lt_of_le hp18b hE29.size)
    replace hrv22 := (hrv22.ext hE29)
    replace hrv23 := (hrv23.ext hE29)
    replace hown39 := (own_ext hown39 hE43)
    have hR44 := (Ex.tr hR25 hE29)
    have hR45 := (Ex.tr hR26 hE29)
    have hR46 := hE29
    refine CW.draw [] (.low w42.heap.size) 16 rfl mixed (fun wd47 hxwd47 => ?_)
    have hE48 := hxwd47
    refine AG.take 0 rfl (by kernel_rfl) (by kernel_rfl) rfl rfl rfl (fun wq hq => Ev.ldAgg rfl rfl Try.underlying23 rfl sz_23 rfl ((Blk.low (hb5.ext hE48) hq (Blk.lt hb5)).cells)) ?_
    refine AG.takeW 2 rfl (by kernel_rfl) (by kernel_rfl) rfl rfl rfl (fun _ => Ev.move rfl rfl) ?_
    refine AG.takeW 4 rfl (by kernel_rfl) (by kernel_rfl) rfl rfl rfl (fun _ => Ev.move rfl rfl) ?_
    refine AG.takeW 5 rfl (by kernel_rfl) (by kernel_rfl) rfl rfl rfl (fun _ => Ev.move rfl rfl) ?_
    refine AG.idxL _ 6 rfl (by kernel_rfl) (by kernel_rfl) rfl rfl rfl rfl rfl rfl Try.underlying24 sz_48 (hbs) (hb) (fun p49 hp49b hp49 => ?_)
    refine AG.take 7 rfl (by kernel_rfl) (by kernel_rfl) rfl rfl rfl (fun wq hq => Ev.ldAgg rfl rfl Try.underlying48 rfl sz_48 rfl (Cells.low (hp49.ext hE48 hp49b) hq (Nat.lt_of_lt_of_le hp49b hE48.size) hp49b)) ?_
    refine AG.two 1 8 rfl rfl (by kernel_rfl) ?_ ?_
    · replace hl := (hl.ext hE48)
      replace hb1 := (hb1.ext hE48)
      replace hb5 := (hb5.ext hE48)
      replace hbs := (hbs.ext hE48)
      replace hp18 := (hp18.ext hE48 hp18b)
      replace hp18b := (Nat.lt_of_lt_of_le hp18b hE48.size)
      replace hrv22 := (hrv22.ext hE48)
      replace hrv23 := (hrv23.ext hE48)
      replace hown39 := (own_ext hown39 hE48)
      replace hp49 := (hp49.ext hE48 hp49b)
      replace hp49b := (Nat.lt_of_lt_of_le hp49b hE48.size)
      have hR51 := (Ex.tr hR44 hE48)
      have hR52 := (Ex.tr hR45 hE48)
      have hR53 := (Ex.tr hR46 hE48)
      have hR54 := hE48
      refine RG.build0 rfl rfl rfl rfl rfl Try.underlying24 sz_48 (fun g55 w55 eg55 hx55 hb55 => ?_)
      have hown56 := own_blk (B := wd47.heap.size) (m := 0) (sz := 3) hb55 (Nat.le_of_eq eg55.symm) (Nat.zero_le _) (by simp)
      replace hown56 := own_empty (enc := Br.c) hown56
      have hE57 := hx55
      refine RG.done ?_
      refine QW.an (fun _ => Rr.of_ex hE57) ?_
      refine AG.two 3 8 rfl rfl (by kernel_rfl) ?_ ?_
      · refine RG.appLL rfl rfl rfl rfl rfl rfl rfl Try.underlying24 inf_48 rfl rfl Br.c_len (fun _ => rfl) hown56 (hbs.ext hE57) (by simp only [maxLen]; omega) (by omega) (hE57.size) (fun v59 wa60 hown61 hgr62 hat63 => ?_)
        replace hE57 := own_block hown56 hE57 hgr62 (Nat.le_refl _) hE57.size
        refine RG.done ?_
        refine QW.an (fun _ => Rr.low_own hown56 hgr62 (by have := hR54.size; omega)) ?_
        refine AG.only 8 rfl (by kernel_rfl) ?_
        refine RG.buildD (xs := [.tmp 82]) rfl rfl rfl rfl rfl rfl rfl Try.underlying24 inf_48 rfl rfl rfl rfl (fun g65 w65 eg65 hx65 hb65 => ?_)
        have hsep66 := own_new (own_ext hown39 hE57) eg65
        have hsep67 := own_new hown61 eg65
        replace hE57 := Ex.tr hE57 hx65
        have hE68 := hx65
        refine RG.done ?_
        refine QW.an (fun _ => Rr.of_ex hE68) ?_
        refine AG.only 9 rfl (by kernel_rfl) ?_
        refine RG.appLL rfl rfl rfl rfl rfl rfl rfl Try.underlying24 inf_48 rfl rfl Br.c_len (fun _ => rfl) (own_ext hown61 hE68) (RdL.of_blk Br.c_len (l := [mkb s c j]) hb65 (Nat.le_refl _) (by decide)) (by show _ + 1 ≤ maxLen; simp only [maxLen]; omega) (by show (_ + 1) * _ ≤ _; omega) (hE57.size) (fun v70 wa71 hown72 hgr73 hat74 => ?_)
        have hb75 := Blk.grown hb65 hgr73 hsep67.symm
        have hsep76 := sep_app hat74 hsep67 (Blk.lt hb65)
        replace hE57 := own_block (own_ext hown61 hE68) hE57 hgr73 (Nat.le_refl _) hE57.size
        refine RG.done ?_
        refine QW.an (fun _ => Rr.low_own (own_ext hown61 hE68) hgr73 (by have := hR54.size; omega)) ?_
        refine AG.only 10 rfl (by kernel_rfl) ?_
        refine RG.call rfl rfl rfl rfl rfl rfl rfl en_10 (read_err s _ _ _ ((RdL.of_own Br.c_len hown72)) (by rw [List.length_append, List.length_append]; simp; omega) he2) ?_
        rintro _ w78 ⟨rfl, hx78⟩
        replace hE57 := Ex.tr hE57 hx78
        have hE79 := hx78
        refine RG.done ?_
        refine QW.an (fun _ => Rr.of_ex hE79) ?_
        refine AG.takeW 11 rfl (by kernel_rfl) (by kernel_rfl) rfl rfl rfl (fun _ => Ev.move rfl rfl) ?_
        refine AG.takeW 12 rfl (by kernel_rfl) (by kernel_rfl) rfl rfl rfl (fun _ => Ev.extract rfl rfl rfl) ?_
        refine AG.takeW 13 rfl (by kernel_rfl) (by kernel_rfl) rfl rfl rfl (fun _ => Ev.extract rfl rfl rfl) ?_
        refine AG.takeW 14 rfl (by kernel_rfl) (by kernel_rfl) rfl rfl rfl (fun _ => Ev.assign rfl rfl) ?_
        refine AG.takeW 15 rfl (by kernel_rfl) (by kernel_rfl) rfl rfl rfl (fun _ => Ev.assign rfl rfl) ?_
        refine AG.done (by kernel_rfl) ?_
        refine QW.sub (S' := [(6, _), (7, _), (8, _), (9, _), (11, _), (12, _), (13, _), (14, _), (15, _), (17, _)]) ⟨rfl, rfl, rfl, rfl, rfl, rfl, rfl, rfl, rfl, rfl, trivial⟩ ?_
        refine QW.then_ ?_
        refine CW.seq ?_
        refine CW.region ?_
        replace hl := (hl.ext hE57)
        replace hb1 := (hb1.ext hE57)
        replace hb5 := (hb5.ext hE57)
        replace hbs := (hbs.ext hE57)
        replace hp18 := (hp18.ext hE57 hp18b)
        replace hp18b := (Nat.lt_of_lt_of_le hp18b hE57.size)
        replace hrv22 := (hrv22.ext hE57)
        replace hrv23 := (hrv23.ext hE57)
        replace hown39 := (own_ext hown39 hE57)
        replace hp49 := (hp49.ext hE57 hp49b)
        replace hp49b := (Nat.lt_of_lt_of_le hp49b hE57.size)
        replace hb75 := (hb75.ext hE79)
        replace hown72 := (own_ext hown72 hE79)
        have hR80 := (Ex.tr hR51 hE57)
        have hR81 := (Ex.tr hR52 hE57)
        have hR82 := (Ex.tr hR53 hE57)
        have hR83 := (Ex.tr hR54 hE57)
        have hR84 := hE57
        refine RG.build0 rfl rfl rfl rfl rfl Try.underlying24 sz_48 (fun g85 w85 eg85 hx85 hb85 => ?_)
        have hown86 := own_blk (B := w78.heap.size) (m := 0) (sz := 3) hb85 (Nat.le_of_eq eg85.symm) (Nat.zero_le _) (by simp)
        replace hown86 := own_empty (enc := Br.c) hown86
        have hE87 := hx85
        refine RG.vl rfl rfl rfl (Ev.move rfl rfl) ?_
        refine RG.appLL rfl rfl rfl rfl rfl rfl rfl Try.underlying24 inf_48 rfl rfl Br.c_len (fun _ => rfl) hown86 (hbs.ext hE87) (by simp only [maxLen]; omega) (by omega) (hE87.size) (fun v88 wa89 hown90 hgr91 hat92 => ?_)
        replace hE87 := own_block hown86 hE87 hgr91 (Nat.le_refl _) hE87.size
        refine RG.vl rfl rfl rfl (Ev.assign rfl rfl) ?_
        refine RG.done ?_
        refine QW.then_ ?_
        refine CW.seq ?_
        refine CW.region ?_
        refine RG.vl rfl rfl rfl (Ev.move rfl rfl) ?_
        refine RG.vl rfl rfl rfl (Ev.move rfl rfl) ?_
        refine RG.vl rfl rfl rfl (Ev.fld rfl rfl fld_23_1) ?_
        refine RG.vl rfl rfl rfl (Ev.ldAt rfl rfl Try.underlying3 rfl ((hb5.ext hE87).cells) (rfl)) ?_
        refine RG.vl rfl rfl rfl (Ev.fld rfl rfl fld_23_0) ?_
        refine RG.vl rfl rfl rfl (Ev.ldAt rfl rfl Try.underlying3 rfl ((hb5.ext hE87).cells) (rfl)) ?_
        refine RG.vl rfl rfl rfl (Ev.fld rfl rfl fld_23_2) ?_
        refine RG.vl rfl rfl rfl (Ev.ldAt rfl rfl Try.underlying3 rfl ((hb5.ext hE87).cells) (rfl)) ?_
        refine RG.vl rfl rfl rfl (Ev.mulI rfl rfl rfl (by omega)) ?_
        refine RG.vl rfl rfl rfl (Ev.addI rfl rfl rfl (by omega)) ?_
        obtain ⟨g93, cg93, rfl, hBg93, hltg93⟩ := own_at hown90 (by omega)
        refine RG.vl rfl rfl rfl (Ev.idxN rfl rfl rfl Try.underlying24 sz_48 (by omega)) ?_
        refine RG.vl rfl rfl rfl (Ev.fld rfl rfl fld_48_0) ?_
        refine RG.stO2 rfl rfl rfl rfl rfl sz_3 rfl hown90 (by omega) (fun ws94 hwws94 hown95 => ?_)
        replace hown95 := own_set Br.c_len ⟨s.og + s.pl * s.pi, (mkb s c j).up, (mkb s c j).dn⟩ k 0 (by decide) hb rfl hown95
        replace hE87 := Wr.below hE87 hwws94 hBg93
        refine RG.done ?_
        refine QW.sub (S' := [(6, _), (7, _), (8, _), (9, _), (11, _), (12, _), (13, _), (14, _), (15, _), (17, _), (18, _)]) ⟨rfl, rfl, rfl, rfl, rfl, rfl, rfl, rfl, rfl, rfl, rfl, trivial⟩ ?_
        refine QW.then_ ?_
        refine CW.seq ?_
        refine CW.region ?_
        refine RG.vl rfl rfl rfl (Ev.ldAgg rfl rfl Try.underlying23 rfl sz_23 rfl ((hb5.ext hE87).cells)) ?_
        refine RG.vl rfl rfl rfl (Ev.move rfl rfl) ?_
        refine RG.call rfl rfl rfl rfl rfl rfl rfl en_10 (read_err s _ _ _ ((RdL.of_own Br.c_len hown95)) (by rw [List.length_set]; omega) he3) ?_
        rintro _ w96 ⟨rfl, hx96⟩
        replace hE87 := Ex.tr hE87 hx96
        have hE97 := hx96
        refine RG.vl rfl rfl rfl (Ev.move rfl rfl) ?_
        refine RG.vl rfl rfl rfl (Ev.extract rfl rfl rfl) ?_
        refine RG.vl rfl rfl rfl (Ev.extract rfl rfl rfl) ?_
        refine RG.vl rfl rfl rfl (Ev.assign rfl rfl) ?_
        refine RG.vl rfl rfl rfl (Ev.assign rfl rfl) ?_
        refine RG.done ?_
        refine QW.then_ ?_
        refine CW.seq ?_
        refine CW.region ?_
        replace hl := (hl.ext hE87)
        replace hb1 := (hb1.ext hE87)
        replace hb5 := (hb5.ext hE87)
        replace hbs := (hbs.ext hE87)
        replace hp18 := (hp18.ext hE87 hp18b)
        replace hp18b := (Nat.lt_of_lt_of_le hp18b hE87.size)
        replace hrv22 := (hrv22.ext hE87)
        replace hrv23 := (hrv23.ext hE87)
        replace hown39 := (own_ext hown39 hE87)
        replace hp49 := (hp49.ext hE87 hp49b)
        replace hp49b := (Nat.lt_of_lt_of_le hp49b hE87.size)
        replace hb75 := (hb75.ext hE87)
        replace hown72 := (own_ext hown72 hE87)
        replace hown95 := (own_ext hown95 hE97)
        have hR98 := (Ex.tr hR80 hE87)
        have hR99 := (Ex.tr hR81 hE87)
        have hR100 := (Ex.tr hR82 hE87)
        have hR101 := (Ex.tr hR83 hE87)
        have hR102 := (Ex.tr hR84 hE87)
        have hR103 := hE87
        refine RG.build0 rfl rfl rfl rfl rfl Try.underlying24 sz_48 (fun g104 w104 eg104 hx104 hb104 => ?_)
        have hown105 := own_blk (B := w96.heap.size) (m := 0) (sz := 3) hb104 (Nat.le_of_eq eg104.symm) (Nat.zero_le _) (by simp)
        replace hown105 := own_empty (enc := Br.c) hown105
        have hE106 := hx104
        refine RG.vl rfl rfl rfl (Ev.move rfl rfl) ?_
        refine RG.appLL rfl rfl rfl rfl rfl rfl rfl Try.underlying24 inf_48 rfl rfl Br.c_len (fun _ => rfl) hown105 (RdL.of_own Br.c_len (own_ext hown39 hE106)) (by simp only [maxLen]; omega) (by omega) (hE106.size) (fun v107 wa108 hown109 hgr110 hat111 => ?_)
        replace hE106 := own_block hown105 hE106 hgr110 (Nat.le_refl _) hE106.size
        refine RG.vl rfl rfl rfl (Ev.assign rfl rfl) ?_
        refine RG.done ?_
        refine QW.then_ ?_
        refine CW.seq ?_
        refine CW.draw [] (.low w96.heap.size) 18 rfl mixed (fun wd112 hxwd112 => ?_)
        replace hE106 := Ex.tr hE106 hxwd112
        have hE113 := hxwd112
        refine AG.takeW 0 rfl (by kernel_rfl) (by kernel_rfl) rfl rfl rfl (fun _ => Ev.move rfl rfl) ?_
        refine AG.takeW 1 rfl (by kernel_rfl) (by kernel_rfl) rfl rfl rfl (fun _ => Ev.move rfl rfl) ?_
        refine AG.takeW 2 rfl (by kernel_rfl) (by kernel_rfl) rfl rfl rfl (fun _ => Ev.move rfl rfl) ?_
        refine AG.idxL _ 3 rfl (by kernel_rfl) (by kernel_rfl) rfl rfl rfl rfl rfl rfl Try.underlying24 sz_48 (hbs) (hb) (fun p114 hp114b hp114 => ?_)
        refine AG.takeW 4 rfl (by kernel_rfl) (by kernel_rfl) rfl rfl rfl (fun _ => Ev.fld rfl rfl fld_48_0) ?_
        refine AG.take 5 rfl (by kernel_rfl) (by kernel_rfl) rfl rfl rfl (fun wq hq => Ev.ldAt rfl rfl Try.underlying3 rfl (Cells.low (hp114.ext hE106 hp114b) hq (Nat.lt_of_lt_of_le hp114b hE106.size) hp114b) (rfl)) ?_
        refine AG.takeW 6 rfl (by kernel_rfl) (by kernel_rfl) rfl rfl rfl (fun _ => Ev.fld rfl rfl fld_23_3) ?_
        refine AG.take 7 rfl (by kernel_rfl) (by kernel_rfl) rfl rfl rfl (fun wq hq => Ev.ldAt rfl rfl Try.underlying3 rfl ((Blk.low (hb5.ext hE106) hq (Blk.lt hb5)).cells) (rfl)) ?_
        refine AG.takeW 8 rfl (by kernel_rfl) (by kernel_rfl) rfl rfl rfl (fun _ => Ev.addI rfl rfl rfl (by omega)) ?_
        refine AG.takeW 9 rfl (by kernel_rfl) (by kernel_rfl) rfl rfl rfl (fun _ => Ev.addI rfl rfl rfl (by omega)) ?_
        refine AG.takeW 10 rfl (by kernel_rfl) (by kernel_rfl) rfl rfl rfl (fun _ => Ev.fld rfl rfl fld_23_4) ?_
        refine AG.take 11 rfl (by kernel_rfl) (by kernel_rfl) rfl rfl rfl (fun wq hq => Ev.ldAt rfl rfl Try.underlying3 rfl ((Blk.low (hb5.ext hE106) hq (Blk.lt hb5)).cells) (rfl)) ?_
        refine AG.takeW 12 rfl (by kernel_rfl) (by kernel_rfl) rfl rfl rfl (fun _ => Ev.fld rfl rfl fld_23_4) ?_
        refine AG.take 13 rfl (by kernel_rfl) (by kernel_rfl) rfl rfl rfl (fun wq hq => Ev.ldAt rfl rfl Try.underlying3 rfl ((Blk.low (hb5.ext hE106) hq (Blk.lt hb5)).cells) (rfl)) ?_
        refine AG.takeW 14 rfl (by kernel_rfl) (by kernel_rfl) rfl rfl rfl (fun _ => Ev.build1 rfl rfl rfl inf_48 rfl rfl (by kernel_rfl) rfl) ?_
        refine AG.only 15 rfl (by kernel_rfl) ?_
        refine RG.buildD (xs := [.tmp 126]) rfl rfl rfl rfl rfl rfl rfl Try.underlying24 inf_48 rfl rfl rfl rfl (fun g116 w116 eg116 hx116 hb116 => ?_)
        have hsep117 := own_new (own_ext hown39 hE106) eg116
        have hsep118 := own_new (own_ext hown72 hE106) eg116
        have hsep119 := own_new (own_ext hown95 hE106) eg116
        have hsep120 := own_new (own_ext hown109 hE113) eg116
        replace hE106 := Ex.tr hE106 hx116
        replace hE113 := Ex.tr hE113 hx116
        have hE121 := hx116
        refine RG.done ?_
        refine QW.an (fun _ => Rr.of_ex hE121) ?_
        refine AG.only 16 rfl (by kernel_rfl) ?_
        refine RG.appLL rfl rfl rfl rfl rfl rfl rfl Try.underlying24 inf_48 rfl rfl Br.c_len (fun _ => rfl) (own_ext hown109 hE113) (RdL.of_blk Br.c_len (l := [btw s (mkb s c j)]) hb116 (Nat.le_refl _) (by decide)) (by show _ + 1 ≤ maxLen; simp only [maxLen]; omega) (by show (_ + 1) * _ ≤ _; omega) (hE106.size) (fun v123 wa124 hown125 hgr126 hat127 => ?_)
        have hb128 := Blk.grown hb116 hgr126 hsep120.symm
        have hsep129 := sep_app hat127 hsep120 (Blk.lt hb116)
        replace hE106 := own_block (own_ext hown109 hE113) hE106 hgr126 (Nat.le_refl _) hE106.size
        refine RG.done ?_
        refine QW.an (fun _ => Rr.low_own (own_ext hown109 hE113) hgr126 (Nat.le_refl _)) ?_
        refine AG.takeW 17 rfl (by kernel_rfl) (by kernel_rfl) rfl rfl rfl (fun _ => Ev.assign rfl rfl) ?_
        refine AG.done (by kernel_rfl) ?_
        refine QW.sub (S' := [(6, _), (7, _), (8, _), (12, _), (14, _), (15, _), (17, _), (20, _), (21, _)]) ⟨rfl, rfl, rfl, rfl, rfl, rfl, rfl, rfl, rfl, trivial⟩ ?_
        refine QW.then_ ?_
        refine CW.seq ?_
        by_cases hnx : 2 * s.sl + 1 = s.pi ∧ (j : Int) + 1 < s.pl ∧ T[j + 1]? = some 63
        · obtain ⟨n1, n2, n3⟩ := hnx
          obtain ⟨he4, ht4⟩ := miss_next s bs T k j c hok hR (by omega) hb (by omega) n1 n2 n3 hne
          have n4 : j + 1 < T.length := (List.getElem?_eq_some_iff.1 n3).1
          have n5 : T[j + 1] = 63 := by rw [List.getElem?_eq_getElem n4] at n3; injection n3
          refine CW.region ?_
          refine RG.vl rfl rfl rfl (Ev.ldAgg rfl rfl Try.underlying23 rfl sz_23 rfl ((hb5.ext hE106).cells)) ?_
          refine RG.vl rfl rfl rfl (Ev.move rfl rfl) ?_
          refine RG.call rfl rfl rfl rfl rfl rfl rfl en_10 (read_is s _ (less bs k ++ [btw s (mkb s c j)]) _ ((RdL.of_own Br.c_len hown125)) (by rw [List.length_append, List.length_singleton]; omega) he4 ht4) ?_
          rintro _ w130 ⟨rfl, hx130⟩
          replace hE106 := Ex.tr hE106 hx130
          have hE131 := hx130
          refine RG.vl rfl rfl rfl (Ev.move rfl rfl) ?_
          refine RG.vl rfl rfl rfl (Ev.extract rfl rfl rfl) ?_
          refine RG.vl rfl rfl rfl (Ev.extract rfl rfl rfl) ?_
          refine RG.vl rfl rfl rfl (Ev.assign rfl rfl) ?_
          refine RG.vl rfl rfl rfl (Ev.assign rfl rfl) ?_
          refine RG.done ?_
          refine QW.then_ ?_
          refine CW.seq ?_
          refine CW.region ?_
          refine RG.vl rfl rfl rfl (Ev.move rfl rfl) ?_
          refine RG.vl rfl rfl rfl (Ev.isF (Ev.eqI rfl rfl rfl) (by decide)) ?_
          refine RG.vl rfl rfl rfl (Ev.assign rfl rfl) ?_
          refine RG.done ?_
          refine QW.then_ ?_
          refine CW.seq ?_
          refine CW.seq ?_
          refine CW.region ?_
          refine RG.vl rfl rfl rfl (Ev.fld rfl rfl fld_23_3) ?_
          refine RG.vl rfl rfl rfl (Ev.ldAt rfl rfl Try.underlying3 rfl ((hb5.ext hE106).cells) (rfl)) ?_
          refine RG.vl rfl rfl rfl (Ev.mulI rfl rfl rfl (by omega)) ?_
          refine RG.vl rfl rfl rfl (Ev.addI rfl rfl rfl (by omega)) ?_
          refine RG.vl rfl rfl rfl (Ev.fld rfl rfl fld_23_2) ?_
          refine RG.vl rfl rfl rfl (Ev.ldAt rfl rfl Try.underlying3 rfl ((hb5.ext hE106).cells) (rfl)) ?_
          refine RG.vl rfl rfl rfl (Ev.isT (Ev.eqI rfl rfl rfl) (by omega)) ?_
          refine RG.vl rfl rfl rfl (Ev.move rfl rfl) ?_
          refine RG.vl rfl rfl rfl (Ev.move rfl rfl) ?_
          refine RG.vl rfl rfl rfl (Ev.addI rfl rfl rfl (by omega)) ?_
          refine RG.vl rfl rfl rfl (Ev.fld rfl rfl fld_23_0) ?_
          refine RG.vl rfl rfl rfl (Ev.ldAt rfl rfl Try.underlying3 rfl ((hb5.ext hE106).cells) (rfl)) ?_
          refine RG.vl rfl rfl rfl (Ev.isT (Ev.lss rfl rfl rfl) (by omega)) ?_
          refine RG.vl rfl rfl rfl (Ev.pickT rfl rfl rfl) ?_
          refine RG.vl rfl rfl rfl (Ev.move rfl rfl) ?_
          refine RG.vl rfl rfl rfl (Ev.move rfl rfl) ?_
          refine RG.vl rfl rfl rfl (Ev.move rfl rfl) ?_
          refine RG.vl rfl rfl rfl (Ev.addI rfl rfl rfl (by omega)) ?_
          refine RG.vl rfl rfl rfl (Ev.byteAt rfl rfl rfl Try.underlying9 (by omega) (byte_next (by omega))) ?_
          refine RG.vl rfl rfl rfl (Ev.isT (Ev.eqI rfl rfl rfl) (by rw [n5]; rfl)) ?_
          refine RG.vl rfl rfl rfl (Ev.pickT rfl rfl rfl) ?_
          refine RG.done ?_
          refine QW.sub (S' := [(6, _), (8, _), (12, _), (14, _), (15, _), (17, _), (20, _), (22, _), (23, _), (24, _), (157, _)]) ⟨rfl, rfl, rfl, rfl, rfl, rfl, rfl, rfl, rfl, rfl, rfl, trivial⟩ ?_
          refine QW.then_ ?_
          refine CW.condT rfl ?_
          refine CW.draw [] (.ex) 16 rfl mixed (fun wd132 hxwd132 => ?_)
          replace hE106 := Ex.tr hE106 hxwd132
          replace hE131 := Ex.tr hE131 hxwd132
          refine AG.takeW 0 rfl (by kernel_rfl) (by kernel_rfl) rfl rfl rfl (fun _ => Ev.move rfl rfl) ?_
          refine AG.takeW 1 rfl (by kernel_rfl) (by kernel_rfl) rfl rfl rfl (fun _ => Ev.isT (Ev.eqI rfl rfl rfl) (rfl)) ?_
          refine AG.takeW 2 rfl (by kernel_rfl) (by kernel_rfl) rfl rfl rfl (fun _ => Ev.move rfl rfl) ?_
          refine AG.takeW 3 rfl (by kernel_rfl) (by kernel_rfl) rfl rfl rfl (fun _ => Ev.move rfl rfl) ?_
          refine AG.takeW 4 rfl (by kernel_rfl) (by kernel_rfl) rfl rfl rfl (fun _ => Ev.move rfl rfl) ?_
          refine AG.takeW 5 rfl (by kernel_rfl) (by kernel_rfl) rfl rfl rfl (fun _ => Ev.move rfl rfl) ?_
          refine AG.takeW 6 rfl (by kernel_rfl) (by kernel_rfl) rfl rfl rfl (fun _ => (Ev.cutStr (i := 0) (j := j) rfl rfl Try.underlying9 rfl rfl (by omega) (by rw [size_bytes]; omega)).conv (congrArg Value.string (bx_cut T 0 j))) ?_
          refine AG.takeW 7 rfl (by kernel_rfl) (by kernel_rfl) rfl rfl rfl (fun _ => (Ev.cat rfl rfl rfl (by rw [size_bytes, size_bytes, List.length_drop, List.length_take]; show _ + 2 ≤ _; omega)).conv (congrArg Value.string (bx_cat _ [63, 84]))) ?_
          refine AG.takeW 8 rfl (by kernel_rfl) (by kernel_rfl) rfl rfl rfl (fun _ => Ev.move rfl rfl) ?_
          refine AG.takeW 9 rfl (by kernel_rfl) (by kernel_rfl) rfl rfl rfl (fun _ => Ev.move rfl rfl) ?_
          refine AG.takeW 10 rfl (by kernel_rfl) (by kernel_rfl) rfl rfl rfl (fun _ => Ev.addI rfl rfl rfl (by omega)) ?_
          refine AG.takeW 11 rfl (by kernel_rfl) (by kernel_rfl) rfl rfl rfl (fun _ => (Ev.cutStr (i := j + 2) (j := T.length) rfl rfl Try.underlying9 rfl rfl (by omega) (by rw [size_bytes]; exact Nat.le_refl _)).conv (congrArg Value.string (bx_cut T (j + 2) T.length))) ?_
          refine AG.takeW 12 rfl (by kernel_rfl) (by kernel_rfl) rfl rfl rfl (fun _ => (Ev.cat rfl rfl rfl (by rw [size_bytes, size_bytes, List.length_append, List.length_drop, List.length_take, List.length_drop, List.length_take]; show _ + 2 + _ ≤ _; omega)).conv (congrArg Value.string (bx_cat _ _))) ?_
          refine AG.takeW 13 rfl (by kernel_rfl) (by kernel_rfl) rfl rfl rfl (fun _ => Ev.isT (Ev.eqS rfl rfl rfl) (by rw [List.take_length]; rfl)) ?_
          refine AG.takeW 14 rfl (by kernel_rfl) (by kernel_rfl) rfl rfl rfl (fun _ => Ev.pickT rfl rfl rfl) ?_
          refine AG.takeW 15 rfl (by kernel_rfl) (by kernel_rfl) rfl rfl rfl (fun _ => Ev.assign rfl rfl) ?_
          refine AG.done (by kernel_rfl) ?_
          refine QW.sub (S' := [(6, _), (8, _), (12, _), (14, _), (15, _), (17, _), (20, _), (24, _)]) ⟨rfl, rfl, rfl, rfl, rfl, rfl, rfl, rfl, trivial⟩ ?_
          refine QW.then_ ?_
          refine CW.seq ?_
          refine CW.draw [] (.ex) 30 rfl mixed (fun wd133 hxwd133 => ?_)
          replace hE106 := Ex.tr hE106 hxwd133
          replace hE131 := Ex.tr hE131 hxwd133
          refine AG.takeW 0 rfl (by kernel_rfl) (by kernel_rfl) rfl rfl rfl (fun _ => Ev.move rfl rfl) ?_
          refine AG.takeW 1 rfl (by kernel_rfl) (by kernel_rfl) rfl rfl rfl (fun _ => Ev.isT (Ev.eqI rfl rfl rfl) (rfl)) ?_
          refine AG.takeW 2 rfl (by kernel_rfl) (by kernel_rfl) rfl rfl rfl (fun _ => Ev.move rfl rfl) ?_
          refine AG.takeW 3 rfl (by kernel_rfl) (by kernel_rfl) rfl rfl rfl (fun _ => Ev.move rfl rfl) ?_
          refine AG.takeW 4 rfl (by kernel_rfl) (by kernel_rfl) rfl rfl rfl (fun _ => Ev.move rfl rfl) ?_
          refine AG.takeW 5 rfl (by kernel_rfl) (by kernel_rfl) rfl rfl rfl (fun _ => Ev.move rfl rfl) ?_
          refine AG.takeW 6 rfl (by kernel_rfl) (by kernel_rfl) rfl rfl rfl (fun _ => (Ev.cutStr (i := 0) (j := j) rfl rfl Try.underlying9 rfl rfl (by omega) (by rw [size_bytes]; omega)).conv (congrArg Value.string (bx_cut T 0 j))) ?_
          refine AG.takeW 7 rfl (by kernel_rfl) (by kernel_rfl) rfl rfl rfl (fun _ => (Ev.cat rfl rfl rfl (by rw [size_bytes, size_bytes, List.length_drop, List.length_take]; show _ + 1 ≤ _; omega)).conv (congrArg Value.string (bx_cat _ [63]))) ?_
          refine AG.takeW 8 rfl (by kernel_rfl) (by kernel_rfl) rfl rfl rfl (fun _ => Ev.move rfl rfl) ?_
          refine AG.takeW 9 rfl (by kernel_rfl) (by kernel_rfl) rfl rfl rfl (fun _ => Ev.move rfl rfl) ?_
          refine AG.takeW 10 rfl (by kernel_rfl) (by kernel_rfl) rfl rfl rfl (fun _ => Ev.addI rfl rfl rfl (by omega)) ?_
          refine AG.takeW 11 rfl (by kernel_rfl) (by kernel_rfl) rfl rfl rfl (fun _ => (Ev.cutStr (i := j + 1) (j := T.length) rfl rfl Try.underlying9 rfl rfl (by omega) (by rw [size_bytes]; exact Nat.le_refl _)).conv (congrArg Value.string (bx_cut T (j + 1) T.length))) ?_
          refine AG.takeW 12 rfl (by kernel_rfl) (by kernel_rfl) rfl rfl rfl (fun _ => (Ev.cat rfl rfl rfl (by rw [size_bytes, size_bytes, List.length_append, List.length_drop, List.length_take, List.length_drop, List.length_take]; show _ + 1 + _ ≤ _; omega)).conv (congrArg Value.string (bx_cat _ _))) ?_
          refine AG.takeW 13 rfl (by kernel_rfl) (by kernel_rfl) rfl rfl rfl (fun _ => Ev.isT (Ev.eqS rfl rfl rfl) (by rw [List.take_length]; rfl)) ?_
          refine AG.takeW 14 rfl (by kernel_rfl) (by kernel_rfl) rfl rfl rfl (fun _ => Ev.pickT rfl rfl rfl) ?_
          refine AG.takeW 15 rfl (by kernel_rfl) (by kernel_rfl) rfl rfl rfl (fun _ => Ev.move rfl rfl) ?_
          refine AG.takeW 16 rfl (by kernel_rfl) (by kernel_rfl) rfl rfl rfl (fun _ => Ev.move rfl rfl) ?_
          refine AG.takeW 17 rfl (by kernel_rfl) (by kernel_rfl) rfl rfl rfl (fun _ => Ev.isT (Ev.eqI rfl rfl rfl) (rfl)) ?_
          refine AG.takeW 18 rfl (by kernel_rfl) (by kernel_rfl) rfl rfl rfl (fun _ => Ev.pickT rfl rfl rfl) ?_
          refine AG.takeW 19 rfl (by kernel_rfl) (by kernel_rfl) rfl rfl rfl (fun _ => Ev.move rfl rfl) ?_
          refine AG.takeW 20 rfl (by kernel_rfl) (by kernel_rfl) rfl rfl rfl (fun _ => Ev.move rfl rfl) ?_
          refine AG.takeW 21 rfl (by kernel_rfl) (by kernel_rfl) rfl rfl rfl (fun _ => Ev.isT (Ev.eqI rfl rfl rfl) (rfl)) ?_
          refine AG.takeW 22 rfl (by kernel_rfl) (by kernel_rfl) rfl rfl rfl (fun _ => Ev.pickT rfl rfl rfl) ?_
          refine AG.takeW 23 rfl (by kernel_rfl) (by kernel_rfl) rfl rfl rfl (fun _ => Ev.move rfl rfl) ?_
          refine AG.takeW 24 rfl (by kernel_rfl) (by kernel_rfl) rfl rfl rfl (fun _ => Ev.move rfl rfl) ?_
          refine AG.takeW 25 rfl (by kernel_rfl) (by kernel_rfl) rfl rfl rfl (fun _ => Ev.pickT rfl rfl rfl) ?_
          refine AG.takeW 26 rfl (by kernel_rfl) (by kernel_rfl) rfl rfl rfl (fun _ => Ev.move rfl rfl) ?_
          refine AG.only 27 rfl (by kernel_rfl) ?_
          refine RG.call rfl rfl rfl rfl rfl rfl rfl en_9 (awake_ret _) ?_
          rintro _ w135 ⟨rfl, hx135⟩
          replace hE106 := Ex.tr hE106 hx135
          replace hE131 := Ex.tr hE131 hx135
          have hE136 := hx135
          refine RG.done ?_
          refine QW.an (fun _ => hE136) ?_
          refine AG.takeW 28 rfl (by kernel_rfl) (by kernel_rfl) rfl rfl rfl (fun _ => Ev.pickT rfl rfl rfl) ?_
          refine AG.takeW 29 rfl (by kernel_rfl) (by kernel_rfl) rfl rfl rfl (fun _ => Ev.assign rfl rfl) ?_
          refine AG.done (by kernel_rfl) ?_
          refine QW.sub (S' := [(6, _)]) ⟨rfl, trivial⟩ ?_
          refine QW.then_ ?_
          refine CW.ret ?_
          refine QW.ret1 rfl rfl ?_
          have hB := (Ex.tr hR98 hE106)
          exact ⟨rfl, hB⟩
        · have he4 := miss_far s bs T k j c hok hR (by omega) hb (by omega) (by omega) hnx
          refine CW.region ?_
          refine RG.vl rfl rfl rfl (Ev.ldAgg rfl rfl Try.underlying23 rfl sz_23 rfl ((hb5.ext hE106).cells)) ?_
          refine RG.vl rfl rfl rfl (Ev.move rfl rfl) ?_
          refine RG.call rfl rfl rfl rfl rfl rfl rfl en_10 (read_is s _ (less bs k ++ [btw s (mkb s c j)]) _ ((RdL.of_own Br.c_len hown125)) (by rw [List.length_append, List.length_singleton]; omega) he4 rfl) ?_
          rintro _ w137 ⟨rfl, hx137⟩
          replace hE106 := Ex.tr hE106 hx137
          have hE138 := hx137
          refine RG.vl rfl rfl rfl (Ev.move rfl rfl) ?_
          refine RG.vl rfl rfl rfl (Ev.extract rfl rfl rfl) ?_
          refine RG.vl rfl rfl rfl (Ev.extract rfl rfl rfl) ?_
          refine RG.vl rfl rfl rfl (Ev.assign rfl rfl) ?_
          refine RG.vl rfl rfl rfl (Ev.assign rfl rfl) ?_
          refine RG.done ?_
          refine QW.then_ ?_
          refine CW.seq ?_
          refine CW.region ?_
          refine RG.vl rfl rfl rfl (Ev.move rfl rfl) ?_
          refine RG.vl rfl rfl rfl (Ev.isT (Ev.eqI rfl rfl rfl) (rfl)) ?_
          refine RG.vl rfl rfl rfl (Ev.assign rfl rfl) ?_
          refine RG.done ?_
          refine QW.then_ ?_
          refine CW.seq ?_
          refine CW.seq ?_
          refine CW.region ?_
          refine RG.vl rfl rfl rfl (Ev.fld rfl rfl fld_23_3) ?_
          refine RG.vl rfl rfl rfl (Ev.ldAt rfl rfl Try.underlying3 rfl ((hb5.ext hE106).cells) (rfl)) ?_
          refine RG.vl rfl rfl rfl (Ev.mulI rfl rfl rfl (by omega)) ?_
          refine RG.vl rfl rfl rfl (Ev.addI rfl rfl rfl (by omega)) ?_
          refine RG.vl rfl rfl rfl (Ev.fld rfl rfl fld_23_2) ?_
          refine RG.vl rfl rfl rfl (Ev.ldAt rfl rfl Try.underlying3 rfl ((hb5.ext hE106).cells) (rfl)) ?_
          refine RG.vl rfl rfl rfl (Ev.eqI rfl rfl rfl) ?_
          refine RG.vl rfl rfl rfl (Ev.move rfl rfl) ?_
          refine RG.split (d := 144) rfl (fun hg139 => ?_) (fun hg139 => ?_)
          · refine RG.vl rfl rfl rfl (Ev.move rfl rfl) ?_
            refine RG.vl rfl rfl rfl (Ev.addI rfl rfl rfl (by omega)) ?_
            refine RG.vl rfl rfl rfl (Ev.fld rfl rfl fld_23_0) ?_
            refine RG.vl rfl rfl rfl (Ev.ldAt rfl rfl Try.underlying3 rfl ((hb5.ext hE106).cells) (rfl)) ?_
            refine RG.vl rfl rfl rfl (Ev.lss rfl rfl rfl) ?_
            refine RG.vl rfl rfl rfl (Ev.pickT rfl rfl rfl) ?_
            refine RG.vl rfl rfl rfl (Ev.move rfl rfl) ?_
            refine RG.split (d := 151) rfl (fun hg140 => ?_) (fun hg140 => ?_)
            · refine RG.vl rfl rfl rfl (Ev.move rfl rfl) ?_
              refine RG.vl rfl rfl rfl (Ev.move rfl rfl) ?_
              refine RG.vl rfl rfl rfl (Ev.addI rfl rfl rfl (by omega)) ?_
              refine RG.vl rfl rfl rfl (Ev.byteAt rfl rfl rfl Try.underlying9 (by omega) (byte_next (by omega))) ?_
              refine RG.vl rfl rfl rfl (Ev.eqI rfl rfl rfl) ?_
              refine RG.vl rfl rfl rfl (Ev.pickT rfl rfl rfl) ?_
              refine RG.done ?_
              refine QW.sub (S' := [(6, _), (8, _), (12, _), (14, _), (15, _), (17, _), (20, _), (22, _), (23, _), (24, _), (157, _)]) ⟨rfl, rfl, rfl, rfl, rfl, rfl, rfl, rfl, rfl, rfl, rfl, trivial⟩ ?_
              refine QW.then_ ?_
              refine CW.condP rfl (fun hc141 => ?_) (fun hc141 => ?_)
              · exact absurd ⟨by omega, by omega, by rw [List.getElem?_eq_getElem (show j + 1 < T.length by omega)]; congr 1; exact byte_eq (d := 63) (by assumption)⟩ hnx
              · refine CW.skip ?_
                refine QW.then_ ?_
                refine CW.seq ?_
                refine CW.draw [] (.ex) 30 rfl mixed (fun wd142 hxwd142 => ?_)
                replace hE106 := Ex.tr hE106 hxwd142
                replace hE138 := Ex.tr hE138 hxwd142
                refine AG.takeW 0 rfl (by kernel_rfl) (by kernel_rfl) rfl rfl rfl (fun _ => Ev.move rfl rfl) ?_
                refine AG.takeW 1 rfl (by kernel_rfl) (by kernel_rfl) rfl rfl rfl (fun _ => Ev.isT (Ev.eqI rfl rfl rfl) (rfl)) ?_
                refine AG.takeW 2 rfl (by kernel_rfl) (by kernel_rfl) rfl rfl rfl (fun _ => Ev.move rfl rfl) ?_
                refine AG.takeW 3 rfl (by kernel_rfl) (by kernel_rfl) rfl rfl rfl (fun _ => Ev.move rfl rfl) ?_
                refine AG.takeW 4 rfl (by kernel_rfl) (by kernel_rfl) rfl rfl rfl (fun _ => Ev.move rfl rfl) ?_
                refine AG.takeW 5 rfl (by kernel_rfl) (by kernel_rfl) rfl rfl rfl (fun _ => Ev.move rfl rfl) ?_
                refine AG.takeW 6 rfl (by kernel_rfl) (by kernel_rfl) rfl rfl rfl (fun _ => (Ev.cutStr (i := 0) (j := j) rfl rfl Try.underlying9 rfl rfl (by omega) (by rw [size_bytes]; omega)).conv (congrArg Value.string (bx_cut T 0 j))) ?_
                refine AG.takeW 7 rfl (by kernel_rfl) (by kernel_rfl) rfl rfl rfl (fun _ => (Ev.cat rfl rfl rfl (by rw [size_bytes, size_bytes, List.length_drop, List.length_take]; show _ + 1 ≤ _; omega)).conv (congrArg Value.string (bx_cat _ [63]))) ?_
                refine AG.takeW 8 rfl (by kernel_rfl) (by kernel_rfl) rfl rfl rfl (fun _ => Ev.move rfl rfl) ?_
                refine AG.takeW 9 rfl (by kernel_rfl) (by kernel_rfl) rfl rfl rfl (fun _ => Ev.move rfl rfl) ?_
                refine AG.takeW 10 rfl (by kernel_rfl) (by kernel_rfl) rfl rfl rfl (fun _ => Ev.addI rfl rfl rfl (by omega)) ?_
                refine AG.takeW 11 rfl (by kernel_rfl) (by kernel_rfl) rfl rfl rfl (fun _ => (Ev.cutStr (i := j + 1) (j := T.length) rfl rfl Try.underlying9 rfl rfl (by omega) (by rw [size_bytes]; exact Nat.le_refl _)).conv (congrArg Value.string (bx_cut T (j + 1) T.length))) ?_
                refine AG.takeW 12 rfl (by kernel_rfl) (by kernel_rfl) rfl rfl rfl (fun _ => (Ev.cat rfl rfl rfl (by rw [size_bytes, size_bytes, List.length_append, List.length_drop, List.length_take, List.length_drop, List.length_take]; show _ + 1 + _ ≤ _; omega)).conv (congrArg Value.string (bx_cat _ _))) ?_
                refine AG.takeW 13 rfl (by kernel_rfl) (by kernel_rfl) rfl rfl rfl (fun _ => Ev.isT (Ev.eqS rfl rfl rfl) (by rw [List.take_length]; rfl)) ?_
                refine AG.takeW 14 rfl (by kernel_rfl) (by kernel_rfl) rfl rfl rfl (fun _ => Ev.pickT rfl rfl rfl) ?_
                refine AG.takeW 15 rfl (by kernel_rfl) (by kernel_rfl) rfl rfl rfl (fun _ => Ev.move rfl rfl) ?_
                refine AG.takeW 16 rfl (by kernel_rfl) (by kernel_rfl) rfl rfl rfl (fun _ => Ev.move rfl rfl) ?_
                refine AG.takeW 17 rfl (by kernel_rfl) (by kernel_rfl) rfl rfl rfl (fun _ => Ev.isT (Ev.eqI rfl rfl rfl) (rfl)) ?_
                refine AG.takeW 18 rfl (by kernel_rfl) (by kernel_rfl) rfl rfl rfl (fun _ => Ev.pickT rfl rfl rfl) ?_
                refine AG.takeW 19 rfl (by kernel_rfl) (by kernel_rfl) rfl rfl rfl (fun _ => Ev.move rfl rfl) ?_
                refine AG.takeW 20 rfl (by kernel_rfl) (by kernel_rfl) rfl rfl rfl (fun _ => Ev.move rfl rfl) ?_
                refine AG.takeW 21 rfl (by kernel_rfl) (by kernel_rfl) rfl rfl rfl (fun _ => Ev.isT (Ev.eqI rfl rfl rfl) (rfl)) ?_
                refine AG.takeW 22 rfl (by kernel_rfl) (by kernel_rfl) rfl rfl rfl (fun _ => Ev.pickT rfl rfl rfl) ?_
                refine AG.takeW 23 rfl (by kernel_rfl) (by kernel_rfl) rfl rfl rfl (fun _ => Ev.move rfl rfl) ?_
                refine AG.takeW 24 rfl (by kernel_rfl) (by kernel_rfl) rfl rfl rfl (fun _ => Ev.move rfl rfl) ?_
                refine AG.takeW 25 rfl (by kernel_rfl) (by kernel_rfl) rfl rfl rfl (fun _ => Ev.pickT rfl rfl rfl) ?_
                refine AG.takeW 26 rfl (by kernel_rfl) (by kernel_rfl) rfl rfl rfl (fun _ => Ev.move rfl rfl) ?_
                refine AG.only 27 rfl (by kernel_rfl) ?_
                refine RG.call rfl rfl rfl rfl rfl rfl rfl en_9 (awake_ret _) ?_
                rintro _ w144 ⟨rfl, hx144⟩
                replace hE106 := Ex.tr hE106 hx144
                replace hE138 := Ex.tr hE138 hx144
                have hE145 := hx144
                refine RG.done ?_
                refine QW.an (fun _ => hE145) ?_
                refine AG.takeW 28 rfl (by kernel_rfl) (by kernel_rfl) rfl rfl rfl (fun _ => Ev.pickT rfl rfl rfl) ?_
                refine AG.takeW 29 rfl (by kernel_rfl) (by kernel_rfl) rfl rfl rfl (fun _ => Ev.assign rfl rfl) ?_
                refine AG.done (by kernel_rfl) ?_
                refine QW.sub (S' := [(6, _)]) ⟨rfl, trivial⟩ ?_
                refine QW.then_ ?_
                refine CW.ret ?_
                refine QW.ret1 rfl rfl ?_
                have hB := (Ex.tr hR98 hE106)
                exact ⟨rfl, hB⟩
            · refine RG.pass rfl rfl rfl ?_
              refine RG.pass rfl rfl rfl ?_
              refine RG.pass rfl rfl rfl ?_
              refine RG.pass rfl rfl rfl ?_
              refine RG.pass rfl rfl rfl ?_
              refine RG.vl rfl rfl rfl (Ev.pickF rfl rfl rfl) ?_
              refine RG.done ?_
              refine QW.sub (S' := [(6, _), (8, _), (12, _), (14, _), (15, _), (17, _), (20, _), (22, _), (23, _), (24, _), (157, _)]) ⟨rfl, rfl, rfl, rfl, rfl, rfl, rfl, rfl, rfl, rfl, rfl, trivial⟩ ?_
              refine QW.then_ ?_
              refine CW.condF rfl ?_
              refine CW.skip ?_
              refine QW.then_ ?_
              refine CW.seq ?_
              refine CW.draw [] (.ex) 30 rfl mixed (fun wd146 hxwd146 => ?_)
              replace hE106 := Ex.tr hE106 hxwd146
              replace hE138 := Ex.tr hE138 hxwd146
              refine AG.takeW 0 rfl (by kernel_rfl) (by kernel_rfl) rfl rfl rfl (fun _ => Ev.move rfl rfl) ?_
              refine AG.takeW 1 rfl (by kernel_rfl) (by kernel_rfl) rfl rfl rfl (fun _ => Ev.isT (Ev.eqI rfl rfl rfl) (rfl)) ?_
              refine AG.takeW 2 rfl (by kernel_rfl) (by kernel_rfl) rfl rfl rfl (fun _ => Ev.move rfl rfl) ?_
              refine AG.takeW 3 rfl (by kernel_rfl) (by kernel_rfl) rfl rfl rfl (fun _ => Ev.move rfl rfl) ?_
              refine AG.takeW 4 rfl (by kernel_rfl) (by kernel_rfl) rfl rfl rfl (fun _ => Ev.move rfl rfl) ?_
              refine AG.takeW 5 rfl (by kernel_rfl) (by kernel_rfl) rfl rfl rfl (fun _ => Ev.move rfl rfl) ?_
              refine AG.takeW 6 rfl (by kernel_rfl) (by kernel_rfl) rfl rfl rfl (fun _ => (Ev.cutStr (i := 0) (j := j) rfl rfl Try.underlying9 rfl rfl (by omega) (by rw [size_bytes]; omega)).conv (congrArg Value.string (bx_cut T 0 j))) ?_
              refine AG.takeW 7 rfl (by kernel_rfl) (by kernel_rfl) rfl rfl rfl (fun _ => (Ev.cat rfl rfl rfl (by rw [size_bytes, size_bytes, List.length_drop, List.length_take]; show _ + 1 ≤ _; omega)).conv (congrArg Value.string (bx_cat _ [63]))) ?_
              refine AG.takeW 8 rfl (by kernel_rfl) (by kernel_rfl) rfl rfl rfl (fun _ => Ev.move rfl rfl) ?_
              refine AG.takeW 9 rfl (by kernel_rfl) (by kernel_rfl) rfl rfl rfl (fun _ => Ev.move rfl rfl) ?_
              refine AG.takeW 10 rfl (by kernel_rfl) (by kernel_rfl) rfl rfl rfl (fun _ => Ev.addI rfl rfl rfl (by omega)) ?_
              refine AG.takeW 11 rfl (by kernel_rfl) (by kernel_rfl) rfl rfl rfl (fun _ => (Ev.cutStr (i := j + 1) (j := T.length) rfl rfl Try.underlying9 rfl rfl (by omega) (by rw [size_bytes]; exact Nat.le_refl _)).conv (congrArg Value.string (bx_cut T (j + 1) T.length))) ?_
              refine AG.takeW 12 rfl (by kernel_rfl) (by kernel_rfl) rfl rfl rfl (fun _ => (Ev.cat rfl rfl rfl (by rw [size_bytes, size_bytes, List.length_append, List.length_drop, List.length_take, List.length_drop, List.length_take]; show _ + 1 + _ ≤ _; omega)).conv (congrArg Value.string (bx_cat _ _))) ?_
              refine AG.takeW 13 rfl (by kernel_rfl) (by kernel_rfl) rfl rfl rfl (fun _ => Ev.isT (Ev.eqS rfl rfl rfl) (by rw [List.take_length]; rfl)) ?_
              refine AG.takeW 14 rfl (by kernel_rfl) (by kernel_rfl) rfl rfl rfl (fun _ => Ev.pickT rfl rfl rfl) ?_
              refine AG.takeW 15 rfl (by kernel_rfl) (by kernel_rfl) rfl rfl rfl (fun _ => Ev.move rfl rfl) ?_
              refine AG.takeW 16 rfl (by kernel_rfl) (by kernel_rfl) rfl rfl rfl (fun _ => Ev.move rfl rfl) ?_
              refine AG.takeW 17 rfl (by kernel_rfl) (by kernel_rfl) rfl rfl rfl (fun _ => Ev.isT (Ev.eqI rfl rfl rfl) (rfl)) ?_
              refine AG.takeW 18 rfl (by kernel_rfl) (by kernel_rfl) rfl rfl rfl (fun _ => Ev.pickT rfl rfl rfl) ?_
              refine AG.takeW 19 rfl (by kernel_rfl) (by kernel_rfl) rfl rfl rfl (fun _ => Ev.move rfl rfl) ?_
              refine AG.takeW 20 rfl (by kernel_rfl) (by kernel_rfl) rfl rfl rfl (fun _ => Ev.move rfl rfl) ?_
              refine AG.takeW 21 rfl (by kernel_rfl) (by kernel_rfl) rfl rfl rfl (fun _ => Ev.isT (Ev.eqI rfl rfl rfl) (rfl)) ?_
              refine AG.takeW 22 rfl (by kernel_rfl) (by kernel_rfl) rfl rfl rfl (fun _ => Ev.pickT rfl rfl rfl) ?_
              refine AG.takeW 23 rfl (by kernel_rfl) (by kernel_rfl) rfl rfl rfl (fun _ => Ev.move rfl rfl) ?_
              refine AG.takeW 24 rfl (by kernel_rfl) (by kernel_rfl) rfl rfl rfl (fun _ => Ev.move rfl rfl) ?_
              refine AG.takeW 25 rfl (by kernel_rfl) (by kernel_rfl) rfl rfl rfl (fun _ => Ev.pickT rfl rfl rfl) ?_
              refine AG.takeW 26 rfl (by kernel_rfl) (by kernel_rfl) rfl rfl rfl (fun _ => Ev.move rfl rfl) ?_
              refine AG.only 27 rfl (by kernel_rfl) ?_
              refine RG.call rfl rfl rfl rfl rfl rfl rfl en_9 (awake_ret _) ?_
              rintro _ w148 ⟨rfl, hx148⟩
              replace hE106 := Ex.tr hE106 hx148
              replace hE138 := Ex.tr hE138 hx148
              have hE149 := hx148
              refine RG.done ?_
              refine QW.an (fun _ => hE149) ?_
              refine AG.takeW 28 rfl (by kernel_rfl) (by kernel_rfl) rfl rfl rfl (fun _ => Ev.pickT rfl rfl rfl) ?_
              refine AG.takeW 29 rfl (by kernel_rfl) (by kernel_rfl) rfl rfl rfl (fun _ => Ev.assign rfl rfl) ?_
              refine AG.done (by kernel_rfl) ?_
              refine QW.sub (S' := [(6, _)]) ⟨rfl, trivial⟩ ?_
              refine QW.then_ ?_
              refine CW.ret ?_
              refine QW.ret1 rfl rfl ?_
              have hB := (Ex.tr hR98 hE106)
              exact ⟨rfl, hB⟩
          · refine RG.pass rfl rfl rfl ?_
            refine RG.pass rfl rfl rfl ?_
            refine RG.pass rfl rfl rfl ?_
            refine RG.pass rfl rfl rfl ?_
            refine RG.pass rfl rfl rfl ?_
            refine RG.vl rfl rfl rfl (Ev.pickF rfl rfl rfl) ?_
            refine RG.vl rfl rfl rfl (Ev.move rfl rfl) ?_
            refine RG.pass rfl rfl rfl ?_
            refine RG.pass rfl rfl rfl ?_
            refine RG.pass rfl rfl rfl ?_
            refine RG.pass rfl rfl rfl ?_
            refine RG.pass rfl rfl rfl ?_
            refine RG.vl rfl rfl rfl (Ev.pickF rfl rfl rfl) ?_
            refine RG.done ?_
            refine QW.sub (S' := [(6, _), (8, _), (12, _), (14, _), (15, _), (17, _), (20, _), (22, _), (23, _), (24, _), (157, _)]) ⟨rfl, rfl, rfl, rfl, rfl, rfl, rfl, rfl, rfl, rfl, rfl, trivial⟩ ?_
            refine QW.then_ ?_
            refine CW.condF rfl ?_
            refine CW.skip ?_
            refine QW.then_ ?_
            refine CW.seq ?_
            refine CW.draw [] (.ex) 30 rfl mixed (fun wd150 hxwd150 => ?_)
            replace hE106 := Ex.tr hE106 hxwd150
            replace hE138 := Ex.tr hE138 hxwd150
            refine AG.takeW 0 rfl (by kernel_rfl) (by kernel_rfl) rfl rfl rfl (fun _ => Ev.move rfl rfl) ?_
            refine AG.takeW 1 rfl (by kernel_rfl) (by kernel_rfl) rfl rfl rfl (fun _ => Ev.isT (Ev.eqI rfl rfl rfl) (rfl)) ?_
            refine AG.takeW 2 rfl (by kernel_rfl) (by kernel_rfl) rfl rfl rfl (fun _ => Ev.move rfl rfl) ?_
            refine AG.takeW 3 rfl (by kernel_rfl) (by kernel_rfl) rfl rfl rfl (fun _ => Ev.move rfl rfl) ?_
            refine AG.takeW 4 rfl (by kernel_rfl) (by kernel_rfl) rfl rfl rfl (fun _ => Ev.move rfl rfl) ?_
            refine AG.takeW 5 rfl (by kernel_rfl) (by kernel_rfl) rfl rfl rfl (fun _ => Ev.move rfl rfl) ?_
            refine AG.takeW 6 rfl (by kernel_rfl) (by kernel_rfl) rfl rfl rfl (fun _ => (Ev.cutStr (i := 0) (j := j) rfl rfl Try.underlying9 rfl rfl (by omega) (by rw [size_bytes]; omega)).conv (congrArg Value.string (bx_cut T 0 j))) ?_
            refine AG.takeW 7 rfl (by kernel_rfl) (by kernel_rfl) rfl rfl rfl (fun _ => (Ev.cat rfl rfl rfl (by rw [size_bytes, size_bytes, List.length_drop, List.length_take]; show _ + 1 ≤ _; omega)).conv (congrArg Value.string (bx_cat _ [63]))) ?_
            refine AG.takeW 8 rfl (by kernel_rfl) (by kernel_rfl) rfl rfl rfl (fun _ => Ev.move rfl rfl) ?_
            refine AG.takeW 9 rfl (by kernel_rfl) (by kernel_rfl) rfl rfl rfl (fun _ => Ev.move rfl rfl) ?_
            refine AG.takeW 10 rfl (by kernel_rfl) (by kernel_rfl) rfl rfl rfl (fun _ => Ev.addI rfl rfl rfl (by omega)) ?_
            refine AG.takeW 11 rfl (by kernel_rfl) (by kernel_rfl) rfl rfl rfl (fun _ => (Ev.cutStr (i := j + 1) (j := T.length) rfl rfl Try.underlying9 rfl rfl (by omega) (by rw [size_bytes]; exact Nat.le_refl _)).conv (congrArg Value.string (bx_cut T (j + 1) T.length))) ?_
            refine AG.takeW 12 rfl (by kernel_rfl) (by kernel_rfl) rfl rfl rfl (fun _ => (Ev.cat rfl rfl rfl (by rw [size_bytes, size_bytes, List.length_append, List.length_drop, List.length_take, List.length_drop, List.length_take]; show _ + 1 + _ ≤ _; omega)).conv (congrArg Value.string (bx_cat _ _))) ?_
            refine AG.takeW 13 rfl (by kernel_rfl) (by kernel_rfl) rfl rfl rfl (fun _ => Ev.isT (Ev.eqS rfl rfl rfl) (by rw [List.take_length]; rfl)) ?_
            refine AG.takeW 14 rfl (by kernel_rfl) (by kernel_rfl) rfl rfl rfl (fun _ => Ev.pickT rfl rfl rfl) ?_
            refine AG.takeW 15 rfl (by kernel_rfl) (by kernel_rfl) rfl rfl rfl (fun _ => Ev.move rfl rfl) ?_
            refine AG.takeW 16 rfl (by kernel_rfl) (by kernel_rfl) rfl rfl rfl (fun _ => Ev.move rfl rfl) ?_
            refine AG.takeW 17 rfl (by kernel_rfl) (by kernel_rfl) rfl rfl rfl (fun _ => Ev.isT (Ev.eqI rfl rfl rfl) (rfl)) ?_
            refine AG.takeW 18 rfl (by kernel_rfl) (by kernel_rfl) rfl rfl rfl (fun _ => Ev.pickT rfl rfl rfl) ?_
            refine AG.takeW 19 rfl (by kernel_rfl) (by kernel_rfl) rfl rfl rfl (fun _ => Ev.move rfl rfl) ?_
            refine AG.takeW 20 rfl (by kernel_rfl) (by kernel_rfl) rfl rfl rfl (fun _ => Ev.move rfl rfl) ?_
            refine AG.takeW 21 rfl (by kernel_rfl) (by kernel_rfl) rfl rfl rfl (fun _ => Ev.isT (Ev.eqI rfl rfl rfl) (rfl)) ?_
            refine AG.takeW 22 rfl (by kernel_rfl) (by kernel_rfl) rfl rfl rfl (fun _ => Ev.pickT rfl rfl rfl) ?_
            refine AG.takeW 23 rfl (by kernel_rfl) (by kernel_rfl) rfl rfl rfl (fun _ => Ev.move rfl rfl) ?_
            refine AG.takeW 24 rfl (by kernel_rfl) (by kernel_rfl) rfl rfl rfl (fun _ => Ev.move rfl rfl) ?_
            refine AG.takeW 25 rfl (by kernel_rfl) (by kernel_rfl) rfl rfl rfl (fun _ => Ev.pickT rfl rfl rfl) ?_
            refine AG.takeW 26 rfl (by kernel_rfl) (by kernel_rfl) rfl rfl rfl (fun _ => Ev.move rfl rfl) ?_
            refine AG.only 27 rfl (by kernel_rfl) ?_
            refine RG.call rfl rfl rfl rfl rfl rfl rfl en_9 (awake_ret _) ?_
            rintro _ w152 ⟨rfl, hx152⟩
            replace hE106 := Ex.tr hE106 hx152
            replace hE138 := Ex.tr hE138 hx152
            have hE153 := hx152
            refine RG.done ?_
            refine QW.an (fun _ => hE153) ?_
            refine AG.takeW 28 rfl (by kernel_rfl) (by kernel_rfl) rfl rfl rfl (fun _ => Ev.pickT rfl rfl rfl) ?_
            refine AG.takeW 29 rfl (by kernel_rfl) (by kernel_rfl) rfl rfl rfl (fun _ => Ev.assign rfl rfl) ?_
            refine AG.done (by kernel_rfl) ?_
            refine QW.sub (S' := [(6, _)]) ⟨rfl, trivial⟩ ?_
            refine QW.then_ ?_
            refine CW.ret ?_
            refine QW.ret1 rfl rfl ?_
            have hB := (Ex.tr hR98 hE106)
            exact ⟨rfl, hB⟩
      · refine RG.buildD (xs := [.tmp 82]) rfl rfl rfl rfl rfl rfl rfl Try.underlying24 inf_48 rfl rfl rfl rfl (fun g155 w155 eg155 hx155 hb155 => ?_)
        have hsep156 := own_new (own_ext hown39 hE57) eg155
        have hsep157 := own_new hown56 eg155
        replace hE57 := Ex.tr hE57 hx155
        have hE158 := hx155
        refine RG.done ?_
        refine QW.an (fun _ => Rr.of_ex hE158) ?_
        refine AG.only 3 rfl (by kernel_rfl) ?_
        refine RG.appLL rfl rfl rfl rfl rfl rfl rfl Try.underlying24 inf_48 rfl rfl Br.c_len (fun _ => rfl) (own_ext hown56 hE158) (hbs.ext hE57) (by simp only [maxLen]; omega) (by omega) (hE57.size) (fun v160 wa161 hown162 hgr163 hat164 => ?_)
        have hb165 := Blk.grown hb155 hgr163 hsep157.symm
        have hsep166 := sep_app hat164 hsep157 (Blk.lt hb155)
        replace hE57 := own_block (own_ext hown56 hE158) hE57 hgr163 (Nat.le_refl _) hE57.size
        refine RG.done ?_
        refine QW.an (fun _ => Rr.low_own (own_ext hown56 hE158) hgr163 (by have := hR54.size; omega)) ?_
        refine AG.only 9 rfl (by kernel_rfl) ?_
        refine RG.appLL rfl rfl rfl rfl rfl rfl rfl Try.underlying24 inf_48 rfl rfl Br.c_len (fun _ => rfl) hown162 (RdL.of_blk Br.c_len (l := [mkb s c j]) hb165 (Nat.le_refl _) (by decide)) (by show _ + 1 ≤ maxLen; simp only [maxLen]; omega) (by show (_ + 1) * _ ≤ _; omega) (hE57.size) (fun v168 wa169 hown170 hgr171 hat172 => ?_)
        have hb173 := Blk.grown hb165 hgr171 hsep166.symm
        have hsep174 := sep_app hat172 hsep166 (Blk.lt hb165)
        replace hE57 := own_block hown162 hE57 hgr171 (Nat.le_refl _) hE57.size
        refine RG.done ?_
        refine QW.an (fun _ => Rr.low_own hown162 hgr171 (by have := hR54.size; omega)) ?_
        refine AG.only 10 rfl (by kernel_rfl) ?_
        refine RG.call rfl rfl rfl rfl rfl rfl rfl en_10 (read_err s _ _ _ ((RdL.of_own Br.c_len hown170)) (by rw [List.length_append, List.length_append]; simp; omega) he2) ?_
        rintro _ w176 ⟨rfl, hx176⟩
        replace hE57 := Ex.tr hE57 hx176
        have hE177 := hx176
        refine RG.done ?_
        refine QW.an (fun _ => Rr.of_ex hE177) ?_
        refine AG.takeW 11 rfl (by kernel_rfl) (by kernel_rfl) rfl rfl rfl (fun _ => Ev.move rfl rfl) ?_
        refine AG.takeW 12 rfl (by kernel_rfl) (by kernel_rfl) rfl rfl rfl (fun _ => Ev.extract rfl rfl rfl) ?_
        refine AG.takeW 13 rfl (by kernel_rfl) (by kernel_rfl) rfl rfl rfl (fun _ => Ev.extract rfl rfl rfl) ?_
        refine AG.takeW 14 rfl (by kernel_rfl) (by kernel_rfl) rfl rfl rfl (fun _ => Ev.assign rfl rfl) ?_
        refine AG.takeW 15 rfl (by kernel_rfl) (by kernel_rfl) rfl rfl rfl (fun _ => Ev.assign rfl rfl) ?_
        refine AG.done (by kernel_rfl) ?_
        refine QW.sub (S' := [(6, _), (7, _), (8, _), (9, _), (11, _), (12, _), (13, _), (14, _), (15, _), (17, _)]) ⟨rfl, rfl, rfl, rfl, rfl, rfl, rfl, rfl, rfl, rfl, trivial⟩ ?_
        refine QW.then_ ?_
        refine CW.seq ?_
        refine CW.region ?_
        replace hl := (hl.ext hE57)
        replace hb1 := (hb1.ext hE57)
        replace hb5 := (hb5.ext hE57)
        replace hbs := (hbs.ext hE57)
        replace hp18 := (hp18.ext hE57 hp18b)
        replace hp18b := (Nat.lt_of_lt_of_le hp18b hE57.size)
        replace hrv22 := (hrv22.ext hE57)
        replace hrv23 := (hrv23.ext hE57)
        replace hown39 := (own_ext hown39 hE57)
        replace hp49 := (hp49.ext hE57 hp49b)
        replace hp49b := (Nat.lt_of_lt_of_le hp49b hE57.size)
        replace hb173 := (hb173.ext hE177)
        replace hown170 := (own_ext hown170 hE177)
        have hR178 := (Ex.tr hR51 hE57)
        have hR179 := (Ex.tr hR52 hE57)
        have hR180 := (Ex.tr hR53 hE57)
        have hR181 := (Ex.tr hR54 hE57)
        have hR182 := hE57
        refine RG.build0 rfl rfl rfl rfl rfl Try.underlying24 sz_48 (fun g183 w183 eg183 hx183 hb183 => ?_)
        have hown184 := own_blk (B := w176.heap.size) (m := 0) (sz := 3) hb183 (Nat.le_of_eq eg183.symm) (Nat.zero_le _) (by simp)
        replace hown184 := own_empty (enc := Br.c) hown184
        have hE185 := hx183
        refine RG.vl rfl rfl rfl (Ev.move rfl rfl) ?_
        refine RG.appLL rfl rfl rfl rfl rfl rfl rfl Try.underlying24 inf_48 rfl rfl Br.c_len (fun _ => rfl) hown184 (hbs.ext hE185) (by simp only [maxLen]; omega) (by omega) (hE185.size) (fun v186 wa187 hown188 hgr189 hat190 => ?_)
        replace hE185 := own_block hown184 hE185 hgr189 (Nat.le_refl _) hE185.size
        refine RG.vl rfl rfl rfl (Ev.assign rfl rfl) ?_
        refine RG.done ?_
        refine QW.then_ ?_
        refine CW.seq ?_
        refine CW.region ?_
        refine RG.vl rfl rfl rfl (Ev.move rfl rfl) ?_
        refine RG.vl rfl rfl rfl (Ev.move rfl rfl) ?_
        refine RG.vl rfl rfl rfl (Ev.fld rfl rfl fld_23_1) ?_
        refine RG.vl rfl rfl rfl (Ev.ldAt rfl rfl Try.underlying3 rfl ((hb5.ext hE185).cells) (rfl)) ?_
        refine RG.vl rfl rfl rfl (Ev.fld rfl rfl fld_23_0) ?_
        refine RG.vl rfl rfl rfl (Ev.ldAt rfl rfl Try.underlying3 rfl ((hb5.ext hE185).cells) (rfl)) ?_
        refine RG.vl rfl rfl rfl (Ev.fld rfl rfl fld_23_2) ?_
        refine RG.vl rfl rfl rfl (Ev.ldAt rfl rfl Try.underlying3 rfl ((hb5.ext hE185).cells) (rfl)) ?_
        refine RG.vl rfl rfl rfl (Ev.mulI rfl rfl rfl (by omega)) ?_
        refine RG.vl rfl rfl rfl (Ev.addI rfl rfl rfl (by omega)) ?_
        obtain ⟨g191, cg191, rfl, hBg191, hltg191⟩ := own_at hown188 (by omega)
        refine RG.vl rfl rfl rfl (Ev.idxN rfl rfl rfl Try.underlying24 sz_48 (by omega)) ?_
        refine RG.vl rfl rfl rfl (Ev.fld rfl rfl fld_48_0) ?_
        refine RG.stO2 rfl rfl rfl rfl rfl sz_3 rfl hown188 (by omega) (fun ws192 hwws192 hown193 => ?_)
        replace hown193 := own_set Br.c_len ⟨s.og + s.pl * s.pi, (mkb s c j).up, (mkb s c j).dn⟩ k 0 (by decide) hb rfl hown193
        replace hE185 := Wr.below hE185 hwws192 hBg191
        refine RG.done ?_
        refine QW.sub (S' := [(6, _), (7, _), (8, _), (9, _), (11, _), (12, _), (13, _), (14, _), (15, _), (17, _), (18, _)]) ⟨rfl, rfl, rfl, rfl, rfl, rfl, rfl, rfl, rfl, rfl, rfl, trivial⟩ ?_
        refine QW.then_ ?_
        refine CW.seq ?_
        refine CW.region ?_
        refine RG.vl rfl rfl rfl (Ev.ldAgg rfl rfl Try.underlying23 rfl sz_23 rfl ((hb5.ext hE185).cells)) ?_
        refine RG.vl rfl rfl rfl (Ev.move rfl rfl) ?_
        refine RG.call rfl rfl rfl rfl rfl rfl rfl en_10 (read_err s _ _ _ ((RdL.of_own Br.c_len hown193)) (by rw [List.length_set]; omega) he3) ?_
        rintro _ w194 ⟨rfl, hx194⟩
        replace hE185 := Ex.tr hE185 hx194
        have hE195 := hx194
        refine RG.vl rfl rfl rfl (Ev.move rfl rfl) ?_
        refine RG.vl rfl rfl rfl (Ev.extract rfl rfl rfl) ?_
        refine RG.vl rfl rfl rfl (Ev.extract rfl rfl rfl) ?_
        refine RG.vl rfl rfl rfl (Ev.assign rfl rfl) ?_
        refine RG.vl rfl rfl rfl (Ev.assign rfl rfl) ?_
        refine RG.done ?_
        refine QW.then_ ?_
        refine CW.seq ?_
        refine CW.region ?_
        replace hl := (hl.ext hE185)
        replace hb1 := (hb1.ext hE185)
        replace hb5 := (hb5.ext hE185)
        replace hbs := (hbs.ext hE185)
        replace hp18 := (hp18.ext hE185 hp18b)
        replace hp18b := (Nat.lt_of_lt_of_le hp18b hE185.size)
        replace hrv22 := (hrv22.ext hE185)
        replace hrv23 := (hrv23.ext hE185)
        replace hown39 := (own_ext hown39 hE185)
        replace hp49 := (hp49.ext hE185 hp49b)
        replace hp49b := (Nat.lt_of_lt_of_le hp49b hE185.size)
        replace hb173 := (hb173.ext hE185)
        replace hown170 := (own_ext hown170 hE185)
        replace hown193 := (own_ext hown193 hE195)
        have hR196 := (Ex.tr hR178 hE185)
        have hR197 := (Ex.tr hR179 hE185)
        have hR198 := (Ex.tr hR180 hE185)
        have hR199 := (Ex.tr hR181 hE185)
        have hR200 := (Ex.tr hR182 hE185)
        have hR201 := hE185
        refine RG.build0 rfl rfl rfl rfl rfl Try.underlying24 sz_48 (fun g202 w202 eg202 hx202 hb202 => ?_)
        have hown203 := own_blk (B := w194.heap.size) (m := 0) (sz := 3) hb202 (Nat.le_of_eq eg202.symm) (Nat.zero_le _) (by simp)
        replace hown203 := own_empty (enc := Br.c) hown203
        have hE204 := hx202
        refine RG.vl rfl rfl rfl (Ev.move rfl rfl) ?_
        refine RG.appLL rfl rfl rfl rfl rfl rfl rfl Try.underlying24 inf_48 rfl rfl Br.c_len (fun _ => rfl) hown203 (RdL.of_own Br.c_len (own_ext hown39 hE204)) (by simp only [maxLen]; omega) (by omega) (hE204.size) (fun v205 wa206 hown207 hgr208 hat209 => ?_)
        replace hE204 := own_block hown203 hE204 hgr208 (Nat.le_refl _) hE204.size
        refine RG.vl rfl rfl rfl (Ev.assign rfl rfl) ?_
        refine RG.done ?_
        refine QW.then_ ?_
        refine CW.seq ?_
        refine CW.draw [] (.low w194.heap.size) 18 rfl mixed (fun wd210 hxwd210 => ?_)
        replace hE204 := Ex.tr hE204 hxwd210
        have hE211 := hxwd210
        refine AG.takeW 0 rfl (by kernel_rfl) (by kernel_rfl) rfl rfl rfl (fun _ => Ev.move rfl rfl) ?_
        refine AG.takeW 1 rfl (by kernel_rfl) (by kernel_rfl) rfl rfl rfl (fun _ => Ev.move rfl rfl) ?_
        refine AG.takeW 2 rfl (by kernel_rfl) (by kernel_rfl) rfl rfl rfl (fun _ => Ev.move rfl rfl) ?_
        refine AG.idxL _ 3 rfl (by kernel_rfl) (by kernel_rfl) rfl rfl rfl rfl rfl rfl Try.underlying24 sz_48 (hbs) (hb) (fun p212 hp212b hp212 => ?_)
        refine AG.takeW 4 rfl (by kernel_rfl) (by kernel_rfl) rfl rfl rfl (fun _ => Ev.fld rfl rfl fld_48_0) ?_
        refine AG.take 5 rfl (by kernel_rfl) (by kernel_rfl) rfl rfl rfl (fun wq hq => Ev.ldAt rfl rfl Try.underlying3 rfl (Cells.low (hp212.ext hE204 hp212b) hq (Nat.lt_of_lt_of_le hp212b hE204.size) hp212b) (rfl)) ?_
        refine AG.takeW 6 rfl (by kernel_rfl) (by kernel_rfl) rfl rfl rfl (fun _ => Ev.fld rfl rfl fld_23_3) ?_
        refine AG.take 7 rfl (by kernel_rfl) (by kernel_rfl) rfl rfl rfl (fun wq hq => Ev.ldAt rfl rfl Try.underlying3 rfl ((Blk.low (hb5.ext hE204) hq (Blk.lt hb5)).cells) (rfl)) ?_
        refine AG.takeW 8 rfl (by kernel_rfl) (by kernel_rfl) rfl rfl rfl (fun _ => Ev.addI rfl rfl rfl (by omega)) ?_
        refine AG.takeW 9 rfl (by kernel_rfl) (by kernel_rfl) rfl rfl rfl (fun _ => Ev.addI rfl rfl rfl (by omega)) ?_
        refine AG.takeW 10 rfl (by kernel_rfl) (by kernel_rfl) rfl rfl rfl (fun _ => Ev.fld rfl rfl fld_23_4) ?_
        refine AG.take 11 rfl (by kernel_rfl) (by kernel_rfl) rfl rfl rfl (fun wq hq => Ev.ldAt rfl rfl Try.underlying3 rfl ((Blk.low (hb5.ext hE204) hq (Blk.lt hb5)).cells) (rfl)) ?_
        refine AG.takeW 12 rfl (by kernel_rfl) (by kernel_rfl) rfl rfl rfl (fun _ => Ev.fld rfl rfl fld_23_4) ?_
        refine AG.take 13 rfl (by kernel_rfl) (by kernel_rfl) rfl rfl rfl (fun wq hq => Ev.ldAt rfl rfl Try.underlying3 rfl ((Blk.low (hb5.ext hE204) hq (Blk.lt hb5)).cells) (rfl)) ?_
        refine AG.takeW 14 rfl (by kernel_rfl) (by kernel_rfl) rfl rfl rfl (fun _ => Ev.build1 rfl rfl rfl inf_48 rfl rfl (by kernel_rfl) rfl) ?_
        refine AG.only 15 rfl (by kernel_rfl) ?_
        refine RG.buildD (xs := [.tmp 126]) rfl rfl rfl rfl rfl rfl rfl Try.underlying24 inf_48 rfl rfl rfl rfl (fun g214 w214 eg214 hx214 hb214 => ?_)
        have hsep215 := own_new (own_ext hown39 hE204) eg214
        have hsep216 := own_new (own_ext hown170 hE204) eg214
        have hsep217 := own_new (own_ext hown193 hE204) eg214
        have hsep218 := own_new (own_ext hown207 hE211) eg214
        replace hE204 := Ex.tr hE204 hx214
        replace hE211 := Ex.tr hE211 hx214
        have hE219 := hx214
        refine RG.done ?_
        refine QW.an (fun _ => Rr.of_ex hE219) ?_
        refine AG.only 16 rfl (by kernel_rfl) ?_
        refine RG.appLL rfl rfl rfl rfl rfl rfl rfl Try.underlying24 inf_48 rfl rfl Br.c_len (fun _ => rfl) (own_ext hown207 hE211) (RdL.of_blk Br.c_len (l := [btw s (mkb s c j)]) hb214 (Nat.le_refl _) (by decide)) (by show _ + 1 ≤ maxLen; simp only [maxLen]; omega) (by show (_ + 1) * _ ≤ _; omega) (hE204.size) (fun v221 wa222 hown223 hgr224 hat225 => ?_)
        have hb226 := Blk.grown hb214 hgr224 hsep218.symm
        have hsep227 := sep_app hat225 hsep218 (Blk.lt hb214)
        replace hE204 := own_block (own_ext hown207 hE211) hE204 hgr224 (Nat.le_refl _) hE204.size
        refine RG.done ?_
        refine QW.an (fun _ => Rr.low_own (own_ext hown207 hE211) hgr224 (Nat.le_refl _)) ?_
        refine AG.takeW 17 rfl (by kernel_rfl) (by kernel_rfl) rfl rfl rfl (fun _ => Ev.assign rfl rfl) ?_
        refine AG.done (by kernel_rfl) ?_
        refine QW.sub (S' := [(6, _), (7, _), (8, _), (12, _), (14, _), (15, _), (17, _), (20, _), (21, _)]) ⟨rfl, rfl, rfl, rfl, rfl, rfl, rfl, rfl, rfl, trivial⟩ ?_
        refine QW.then_ ?_
        refine CW.seq ?_
        by_cases hnx : 2 * s.sl + 1 = s.pi ∧ (j : Int) + 1 < s.pl ∧ T[j + 1]? = some 63
        · obtain ⟨n1, n2, n3⟩ := hnx
          obtain ⟨he4, ht4⟩ := miss_next s bs T k j c hok hR (by omega) hb (by omega) n1 n2 n3 hne
          have n4 : j + 1 < T.length := (List.getElem?_eq_some_iff.1 n3).1
          have n5 : T[j + 1] = 63 := by rw [List.getElem?_eq_getElem n4] at n3; injection n3
          refine CW.region ?_
          refine RG.vl rfl rfl rfl (Ev.ldAgg rfl rfl Try.underlying23 rfl sz_23 rfl ((hb5.ext hE204).cells)) ?_
          refine RG.vl rfl rfl rfl (Ev.move rfl rfl) ?_
          refine RG.call rfl rfl rfl rfl rfl rfl rfl en_10 (read_is s _ (less bs k ++ [btw s (mkb s c j)]) _ ((RdL.of_own Br.c_len hown223)) (by rw [List.length_append, List.length_singleton]; omega) he4 ht4) ?_
          rintro _ w228 ⟨rfl, hx228⟩
          replace hE204 := Ex.tr hE204 hx228
          have hE229 := hx228
          refine RG.vl rfl rfl rfl (Ev.move rfl rfl) ?_
          refine RG.vl rfl rfl rfl (Ev.extract rfl rfl rfl) ?_
          refine RG.vl rfl rfl rfl (Ev.extract rfl rfl rfl) ?_
          refine RG.vl rfl rfl rfl (Ev.assign rfl rfl) ?_
          refine RG.vl rfl rfl rfl (Ev.assign rfl rfl) ?_
          refine RG.done ?_
          refine QW.then_ ?_
          refine CW.seq ?_
          refine CW.region ?_
          refine RG.vl rfl rfl rfl (Ev.move rfl rfl) ?_
          refine RG.vl rfl rfl rfl (Ev.isF (Ev.eqI rfl rfl rfl) (by decide)) ?_
          refine RG.vl rfl rfl rfl (Ev.assign rfl rfl) ?_
          refine RG.done ?_
          refine QW.then_ ?_
          refine CW.seq ?_
          refine CW.seq ?_
          refine CW.region ?_
          refine RG.vl rfl rfl rfl (Ev.fld rfl rfl fld_23_3) ?_
          refine RG.vl rfl rfl rfl (Ev.ldAt rfl rfl Try.underlying3 rfl ((hb5.ext hE204).cells) (rfl)) ?_
          refine RG.vl rfl rfl rfl (Ev.mulI rfl rfl rfl (by omega)) ?_
          refine RG.vl rfl rfl rfl (Ev.addI rfl rfl rfl (by omega)) ?_
          refine RG.vl rfl rfl rfl (Ev.fld rfl rfl fld_23_2) ?_
          refine RG.vl rfl rfl rfl (Ev.ldAt rfl rfl Try.underlying3 rfl ((hb5.ext hE204).cells) (rfl)) ?_
          refine RG.vl rfl rfl rfl (Ev.isT (Ev.eqI rfl rfl rfl) (by omega)) ?_
          refine RG.vl rfl rfl rfl (Ev.move rfl rfl) ?_
          refine RG.vl rfl rfl rfl (Ev.move rfl rfl) ?_
          refine RG.vl rfl rfl rfl (Ev.addI rfl rfl rfl (by omega)) ?_
          refine RG.vl rfl rfl rfl (Ev.fld rfl rfl fld_23_0) ?_
          refine RG.vl rfl rfl rfl (Ev.ldAt rfl rfl Try.underlying3 rfl ((hb5.ext hE204).cells) (rfl)) ?_
          refine RG.vl rfl rfl rfl (Ev.isT (Ev.lss rfl rfl rfl) (by omega)) ?_
          refine RG.vl rfl rfl rfl (Ev.pickT rfl rfl rfl) ?_
          refine RG.vl rfl rfl rfl (Ev.move rfl rfl) ?_
          refine RG.vl rfl rfl rfl (Ev.move rfl rfl) ?_
          refine RG.vl rfl rfl rfl (Ev.move rfl rfl) ?_
          refine RG.vl rfl rfl rfl (Ev.addI rfl rfl rfl (by omega)) ?_
          refine RG.vl rfl rfl rfl (Ev.byteAt rfl rfl rfl Try.underlying9 (by omega) (byte_next (by omega))) ?_
          refine RG.vl rfl rfl rfl (Ev.isT (Ev.eqI rfl rfl rfl) (by rw [n5]; rfl)) ?_
          refine RG.vl rfl rfl rfl (Ev.pickT rfl rfl rfl) ?_
          refine RG.done ?_
          refine QW.sub (S' := [(6, _), (8, _), (12, _), (14, _), (15, _), (17, _), (20, _), (22, _), (23, _), (24, _), (157, _)]) ⟨rfl, rfl, rfl, rfl, rfl, rfl, rfl, rfl, rfl, rfl, rfl, trivial⟩ ?_
          refine QW.then_ ?_
          refine CW.condT rfl ?_
          refine CW.draw [] (.ex) 16 rfl mixed (fun wd230 hxwd230 => ?_)
          replace hE204 := Ex.tr hE204 hxwd230
          replace hE229 := Ex.tr hE229 hxwd230
          refine AG.takeW 0 rfl (by kernel_rfl) (by kernel_rfl) rfl rfl rfl (fun _ => Ev.move rfl rfl) ?_
          refine AG.takeW 1 rfl (by kernel_rfl) (by kernel_rfl) rfl rfl rfl (fun _ => Ev.isT (Ev.eqI rfl rfl rfl) (rfl)) ?_
          refine AG.takeW 2 rfl (by kernel_rfl) (by kernel_rfl) rfl rfl rfl (fun _ => Ev.move rfl rfl) ?_
          refine AG.takeW 3 rfl (by kernel_rfl) (by kernel_rfl) rfl rfl rfl (fun _ => Ev.move rfl rfl) ?_
          refine AG.takeW 4 rfl (by kernel_rfl) (by kernel_rfl) rfl rfl rfl (fun _ => Ev.move rfl rfl) ?_
          refine AG.takeW 5 rfl (by kernel_rfl) (by kernel_rfl) rfl rfl rfl (fun _ => Ev.move rfl rfl) ?_
          refine AG.takeW 6 rfl (by kernel_rfl) (by kernel_rfl) rfl rfl rfl (fun _ => (Ev.cutStr (i := 0) (j := j) rfl rfl Try.underlying9 rfl rfl (by omega) (by rw [size_bytes]; omega)).conv (congrArg Value.string (bx_cut T 0 j))) ?_
          refine AG.takeW 7 rfl (by kernel_rfl) (by kernel_rfl) rfl rfl rfl (fun _ => (Ev.cat rfl rfl rfl (by rw [size_bytes, size_bytes, List.length_drop, List.length_take]; show _ + 2 ≤ _; omega)).conv (congrArg Value.string (bx_cat _ [63, 84]))) ?_
          refine AG.takeW 8 rfl (by kernel_rfl) (by kernel_rfl) rfl rfl rfl (fun _ => Ev.move rfl rfl) ?_
          refine AG.takeW 9 rfl (by kernel_rfl) (by kernel_rfl) rfl rfl rfl (fun _ => Ev.move rfl rfl) ?_
          refine AG.takeW 10 rfl (by kernel_rfl) (by kernel_rfl) rfl rfl rfl (fun _ => Ev.addI rfl rfl rfl (by omega)) ?_
          refine AG.takeW 11 rfl (by kernel_rfl) (by kernel_rfl) rfl rfl rfl (fun _ => (Ev.cutStr (i := j + 2) (j := T.length) rfl rfl Try.underlying9 rfl rfl (by omega) (by rw [size_bytes]; exact Nat.le_refl _)).conv (congrArg Value.string (bx_cut T (j + 2) T.length))) ?_
          refine AG.takeW 12 rfl (by kernel_rfl) (by kernel_rfl) rfl rfl rfl (fun _ => (Ev.cat rfl rfl rfl (by rw [size_bytes, size_bytes, List.length_append, List.length_drop, List.length_take, List.length_drop, List.length_take]; show _ + 2 + _ ≤ _; omega)).conv (congrArg Value.string (bx_cat _ _))) ?_
          refine AG.takeW 13 rfl (by kernel_rfl) (by kernel_rfl) rfl rfl rfl (fun _ => Ev.isT (Ev.eqS rfl rfl rfl) (by rw [List.take_length]; rfl)) ?_
          refine AG.takeW 14 rfl (by kernel_rfl) (by kernel_rfl) rfl rfl rfl (fun _ => Ev.pickT rfl rfl rfl) ?_
          refine AG.takeW 15 rfl (by kernel_rfl) (by kernel_rfl) rfl rfl rfl (fun _ => Ev.assign rfl rfl) ?_
          refine AG.done (by kernel_rfl) ?_
          refine QW.sub (S' := [(6, _), (8, _), (12, _), (14, _), (15, _), (17, _), (20, _), (24, _)]) ⟨rfl, rfl, rfl, rfl, rfl, rfl, rfl, rfl, trivial⟩ ?_
          refine QW.then_ ?_
          refine CW.seq ?_
          refine CW.draw [] (.ex) 30 rfl mixed (fun wd231 hxwd231 => ?_)
          replace hE204 := Ex.tr hE204 hxwd231
          replace hE229 := Ex.tr hE229 hxwd231
          refine AG.takeW 0 rfl (by kernel_rfl) (by kernel_rfl) rfl rfl rfl (fun _ => Ev.move rfl rfl) ?_
          refine AG.takeW 1 rfl (by kernel_rfl) (by kernel_rfl) rfl rfl rfl (fun _ => Ev.isT (Ev.eqI rfl rfl rfl) (rfl)) ?_
          refine AG.takeW 2 rfl (by kernel_rfl) (by kernel_rfl) rfl rfl rfl (fun _ => Ev.move rfl rfl) ?_
          refine AG.takeW 3 rfl (by kernel_rfl) (by kernel_rfl) rfl rfl rfl (fun _ => Ev.move rfl rfl) ?_
          refine AG.takeW 4 rfl (by kernel_rfl) (by kernel_rfl) rfl rfl rfl (fun _ => Ev.move rfl rfl) ?_
          refine AG.takeW 5 rfl (by kernel_rfl) (by kernel_rfl) rfl rfl rfl (fun _ => Ev.move rfl rfl) ?_
          refine AG.takeW 6 rfl (by kernel_rfl) (by kernel_rfl) rfl rfl rfl (fun _ => (Ev.cutStr (i := 0) (j := j) rfl rfl Try.underlying9 rfl rfl (by omega) (by rw [size_bytes]; omega)).conv (congrArg Value.string (bx_cut T 0 j))) ?_
          refine AG.takeW 7 rfl (by kernel_rfl) (by kernel_rfl) rfl rfl rfl (fun _ => (Ev.cat rfl rfl rfl (by rw [size_bytes, size_bytes, List.length_drop, List.length_take]; show _ + 1 ≤ _; omega)).conv (congrArg Value.string (bx_cat _ [63]))) ?_
          refine AG.takeW 8 rfl (by kernel_rfl) (by kernel_rfl) rfl rfl rfl (fun _ => Ev.move rfl rfl) ?_
          refine AG.takeW 9 rfl (by kernel_rfl) (by kernel_rfl) rfl rfl rfl (fun _ => Ev.move rfl rfl) ?_
          refine AG.takeW 10 rfl (by kernel_rfl) (by kernel_rfl) rfl rfl rfl (fun _ => Ev.addI rfl rfl rfl (by omega)) ?_
          refine AG.takeW 11 rfl (by kernel_rfl) (by kernel_rfl) rfl rfl rfl (fun _ => (Ev.cutStr (i := j + 1) (j := T.length) rfl rfl Try.underlying9 rfl rfl (by omega) (by rw [size_bytes]; exact Nat.le_refl _)).conv (congrArg Value.string (bx_cut T (j + 1) T.length))) ?_
          refine AG.takeW 12 rfl (by kernel_rfl) (by kernel_rfl) rfl rfl rfl (fun _ => (Ev.cat rfl rfl rfl (by rw [size_bytes, size_bytes, List.length_append, List.length_drop, List.length_take, List.length_drop, List.length_take]; show _ + 1 + _ ≤ _; omega)).conv (congrArg Value.string (bx_cat _ _))) ?_
          refine AG.takeW 13 rfl (by kernel_rfl) (by kernel_rfl) rfl rfl rfl (fun _ => Ev.isT (Ev.eqS rfl rfl rfl) (by rw [List.take_length]; rfl)) ?_
          refine AG.takeW 14 rfl (by kernel_rfl) (by kernel_rfl) rfl rfl rfl (fun _ => Ev.pickT rfl rfl rfl) ?_
          refine AG.takeW 15 rfl (by kernel_rfl) (by kernel_rfl) rfl rfl rfl (fun _ => Ev.move rfl rfl) ?_
          refine AG.takeW 16 rfl (by kernel_rfl) (by kernel_rfl) rfl rfl rfl (fun _ => Ev.move rfl rfl) ?_
          refine AG.takeW 17 rfl (by kernel_rfl) (by kernel_rfl) rfl rfl rfl (fun _ => Ev.isT (Ev.eqI rfl rfl rfl) (rfl)) ?_
          refine AG.takeW 18 rfl (by kernel_rfl) (by kernel_rfl) rfl rfl rfl (fun _ => Ev.pickT rfl rfl rfl) ?_
          refine AG.takeW 19 rfl (by kernel_rfl) (by kernel_rfl) rfl rfl rfl (fun _ => Ev.move rfl rfl) ?_
          refine AG.takeW 20 rfl (by kernel_rfl) (by kernel_rfl) rfl rfl rfl (fun _ => Ev.move rfl rfl) ?_
          refine AG.takeW 21 rfl (by kernel_rfl) (by kernel_rfl) rfl rfl rfl (fun _ => Ev.isT (Ev.eqI rfl rfl rfl) (rfl)) ?_
          refine AG.takeW 22 rfl (by kernel_rfl) (by kernel_rfl) rfl rfl rfl (fun _ => Ev.pickT rfl rfl rfl) ?_
          refine AG.takeW 23 rfl (by kernel_rfl) (by kernel_rfl) rfl rfl rfl (fun _ => Ev.move rfl rfl) ?_
          refine AG.takeW 24 rfl (by kernel_rfl) (by kernel_rfl) rfl rfl rfl (fun _ => Ev.move rfl rfl) ?_
          refine AG.takeW 25 rfl (by kernel_rfl) (by kernel_rfl) rfl rfl rfl (fun _ => Ev.pickT rfl rfl rfl) ?_
          refine AG.takeW 26 rfl (by kernel_rfl) (by kernel_rfl) rfl rfl rfl (fun _ => Ev.move rfl rfl) ?_
          refine AG.only 27 rfl (by kernel_rfl) ?_
          refine RG.call rfl rfl rfl rfl rfl rfl rfl en_9 (awake_ret _) ?_
          rintro _ w233 ⟨rfl, hx233⟩
          replace hE204 := Ex.tr hE204 hx233
          replace hE229 := Ex.tr hE229 hx233
          have hE234 := hx233
          refine RG.done ?_
          refine QW.an (fun _ => hE234) ?_
          refine AG.takeW 28 rfl (by kernel_rfl) (by kernel_rfl) rfl rfl rfl (fun _ => Ev.pickT rfl rfl rfl) ?_
          refine AG.takeW 29 rfl (by kernel_rfl) (by kernel_rfl) rfl rfl rfl (fun _ => Ev.assign rfl rfl) ?_
          refine AG.done (by kernel_rfl) ?_
          refine QW.sub (S' := [(6, _)]) ⟨rfl, trivial⟩ ?_
          refine QW.then_ ?_
          refine CW.ret ?_
          refine QW.ret1 rfl rfl ?_
          have hB := (Ex.tr hR196 hE204)
          exact ⟨rfl, hB⟩
        · have he4 := miss_far s bs T k j c hok hR (by omega) hb (by omega) (by omega) hnx
          refine CW.region ?_
          refine RG.vl rfl rfl rfl (Ev.ldAgg rfl rfl Try.underlying23 rfl sz_23 rfl ((hb5.ext hE204).cells)) ?_
          refine RG.vl rfl rfl rfl (Ev.move rfl rfl) ?_
          refine RG.call rfl rfl rfl rfl rfl rfl rfl en_10 (read_is s _ (less bs k ++ [btw s (mkb s c j)]) _ ((RdL.of_own Br.c_len hown223)) (by rw [List.length_append, List.length_singleton]; omega) he4 rfl) ?_
          rintro _ w235 ⟨rfl, hx235⟩
          replace hE204 := Ex.tr hE204 hx235
          have hE236 := hx235
          refine RG.vl rfl rfl rfl (Ev.move rfl rfl) ?_
          refine RG.vl rfl rfl rfl (Ev.extract rfl rfl rfl) ?_
          refine RG.vl rfl rfl rfl (Ev.extract rfl rfl rfl) ?_
          refine RG.vl rfl rfl rfl (Ev.assign rfl rfl) ?_
          refine RG.vl rfl rfl rfl (Ev.assign rfl rfl) ?_
          refine RG.done ?_
          refine QW.then_ ?_
          refine CW.seq ?_
          refine CW.region ?_
          refine RG.vl rfl rfl rfl (Ev.move rfl rfl) ?_
          refine RG.vl rfl rfl rfl (Ev.isT (Ev.eqI rfl rfl rfl) (rfl)) ?_
          refine RG.vl rfl rfl rfl (Ev.assign rfl rfl) ?_
          refine RG.done ?_
          refine QW.then_ ?_
          refine CW.seq ?_
          refine CW.seq ?_
          refine CW.region ?_
          refine RG.vl rfl rfl rfl (Ev.fld rfl rfl fld_23_3) ?_
          refine RG.vl rfl rfl rfl (Ev.ldAt rfl rfl Try.underlying3 rfl ((hb5.ext hE204).cells) (rfl)) ?_
          refine RG.vl rfl rfl rfl (Ev.mulI rfl rfl rfl (by omega)) ?_
          refine RG.vl rfl rfl rfl (Ev.addI rfl rfl rfl (by omega)) ?_
          refine RG.vl rfl rfl rfl (Ev.fld rfl rfl fld_23_2) ?_
          refine RG.vl rfl rfl rfl (Ev.ldAt rfl rfl Try.underlying3 rfl ((hb5.ext hE204).cells) (rfl)) ?_
          refine RG.vl rfl rfl rfl (Ev.eqI rfl rfl rfl) ?_
          refine RG.vl rfl rfl rfl (Ev.move rfl rfl) ?_
          refine RG.split (d := 144) rfl (fun hg237 => ?_) (fun hg237 => ?_)
          · refine RG.vl rfl rfl rfl (Ev.move rfl rfl) ?_
            refine RG.vl rfl rfl rfl (Ev.addI rfl rfl rfl (by omega)) ?_
            refine RG.vl rfl rfl rfl (Ev.fld rfl rfl fld_23_0) ?_
            refine RG.vl rfl rfl rfl (Ev.ldAt rfl rfl Try.underlying3 rfl ((hb5.ext hE204).cells) (rfl)) ?_
            refine RG.vl rfl rfl rfl (Ev.lss rfl rfl rfl) ?_
            refine RG.vl rfl rfl rfl (Ev.pickT rfl rfl rfl) ?_
            refine RG.vl rfl rfl rfl (Ev.move rfl rfl) ?_
            refine RG.split (d := 151) rfl (fun hg238 => ?_) (fun hg238 => ?_)
            · refine RG.vl rfl rfl rfl (Ev.move rfl rfl) ?_
              refine RG.vl rfl rfl rfl (Ev.move rfl rfl) ?_
              refine RG.vl rfl rfl rfl (Ev.addI rfl rfl rfl (by omega)) ?_
              refine RG.vl rfl rfl rfl (Ev.byteAt rfl rfl rfl Try.underlying9 (by omega) (byte_next (by omega))) ?_
              refine RG.vl rfl rfl rfl (Ev.eqI rfl rfl rfl) ?_
              refine RG.vl rfl rfl rfl (Ev.pickT rfl rfl rfl) ?_
              refine RG.done ?_
              refine QW.sub (S' := [(6, _), (8, _), (12, _), (14, _), (15, _), (17, _), (20, _), (22, _), (23, _), (24, _), (157, _)]) ⟨rfl, rfl, rfl, rfl, rfl, rfl, rfl, rfl, rfl, rfl, rfl, trivial⟩ ?_
              refine QW.then_ ?_
              refine CW.condP rfl (fun hc239 => ?_) (fun hc239 => ?_)
              · exact absurd ⟨by omega, by omega, by rw [List.getElem?_eq_getElem (show j + 1 < T.length by omega)]; congr 1; exact byte_eq (d := 63) (by assumption)⟩ hnx
              · refine CW.skip ?_
                refine QW.then_ ?_
                refine CW.seq ?_
                refine CW.draw [] (.ex) 30 rfl mixed (fun wd240 hxwd240 => ?_)
                replace hE204 := Ex.tr hE204 hxwd240
                replace hE236 := Ex.tr hE236 hxwd240
                refine AG.takeW 0 rfl (by kernel_rfl) (by kernel_rfl) rfl rfl rfl (fun _ => Ev.move rfl rfl) ?_
                refine AG.takeW 1 rfl (by kernel_rfl) (by kernel_rfl) rfl rfl rfl (fun _ => Ev.isT (Ev.eqI rfl rfl rfl) (rfl)) ?_
                refine AG.takeW 2 rfl (by kernel_rfl) (by kernel_rfl) rfl rfl rfl (fun _ => Ev.move rfl rfl) ?_
                refine AG.takeW 3 rfl (by kernel_rfl) (by kernel_rfl) rfl rfl rfl (fun _ => Ev.move rfl rfl) ?_
                refine AG.takeW 4 rfl (by kernel_rfl) (by kernel_rfl) rfl rfl rfl (fun _ => Ev.move rfl rfl) ?_
                refine AG.takeW 5 rfl (by kernel_rfl) (by kernel_rfl) rfl rfl rfl (fun _ => Ev.move rfl rfl) ?_
                refine AG.takeW 6 rfl (by kernel_rfl) (by kernel_rfl) rfl rfl rfl (fun _ => (Ev.cutStr (i := 0) (j := j) rfl rfl Try.underlying9 rfl rfl (by omega) (by rw [size_bytes]; omega)).conv (congrArg Value.string (bx_cut T 0 j))) ?_
                refine AG.takeW 7 rfl (by kernel_rfl) (by kernel_rfl) rfl rfl rfl (fun _ => (Ev.cat rfl rfl rfl (by rw [size_bytes, size_bytes, List.length_drop, List.length_take]; show _ + 1 ≤ _; omega)).conv (congrArg Value.string (bx_cat _ [63]))) ?_
                refine AG.takeW 8 rfl (by kernel_rfl) (by kernel_rfl) rfl rfl rfl (fun _ => Ev.move rfl rfl) ?_
                refine AG.takeW 9 rfl (by kernel_rfl) (by kernel_rfl) rfl rfl rfl (fun _ => Ev.move rfl rfl) ?_
                refine AG.takeW 10 rfl (by kernel_rfl) (by kernel_rfl) rfl rfl rfl (fun _ => Ev.addI rfl rfl rfl (by omega)) ?_
                refine AG.takeW 11 rfl (by kernel_rfl) (by kernel_rfl) rfl rfl rfl (fun _ => (Ev.cutStr (i := j + 1) (j := T.length) rfl rfl Try.underlying9 rfl rfl (by omega) (by rw [size_bytes]; exact Nat.le_refl _)).conv (congrArg Value.string (bx_cut T (j + 1) T.length))) ?_
                refine AG.takeW 12 rfl (by kernel_rfl) (by kernel_rfl) rfl rfl rfl (fun _ => (Ev.cat rfl rfl rfl (by rw [size_bytes, size_bytes, List.length_append, List.length_drop, List.length_take, List.length_drop, List.length_take]; show _ + 1 + _ ≤ _; omega)).conv (congrArg Value.string (bx_cat _ _))) ?_
                refine AG.takeW 13 rfl (by kernel_rfl) (by kernel_rfl) rfl rfl rfl (fun _ => Ev.isT (Ev.eqS rfl rfl rfl) (by rw [List.take_length]; rfl)) ?_
                refine AG.takeW 14 rfl (by kernel_rfl) (by kernel_rfl) rfl rfl rfl (fun _ => Ev.pickT rfl rfl rfl) ?_
                refine AG.takeW 15 rfl (by kernel_rfl) (by kernel_rfl) rfl rfl rfl (fun _ => Ev.move rfl rfl) ?_
                refine AG.takeW 16 rfl (by kernel_rfl) (by kernel_rfl) rfl rfl rfl (fun _ => Ev.move rfl rfl) ?_
                refine AG.takeW 17 rfl (by kernel_rfl) (by kernel_rfl) rfl rfl rfl (fun _ => Ev.isT (Ev.eqI rfl rfl rfl) (rfl)) ?_
                refine AG.takeW 18 rfl (by kernel_rfl) (by kernel_rfl) rfl rfl rfl (fun _ => Ev.pickT rfl rfl rfl) ?_
                refine AG.takeW 19 rfl (by kernel_rfl) (by kernel_rfl) rfl rfl rfl (fun _ => Ev.move rfl rfl) ?_
                refine AG.takeW 20 rfl (by kernel_rfl) (by kernel_rfl) rfl rfl rfl (fun _ => Ev.move rfl rfl) ?_
                refine AG.takeW 21 rfl (by kernel_rfl) (by kernel_rfl) rfl rfl rfl (fun _ => Ev.isT (Ev.eqI rfl rfl rfl) (rfl)) ?_
                refine AG.takeW 22 rfl (by kernel_rfl) (by kernel_rfl) rfl rfl rfl (fun _ => Ev.pickT rfl rfl rfl) ?_
                refine AG.takeW 23 rfl (by kernel_rfl) (by kernel_rfl) rfl rfl rfl (fun _ => Ev.move rfl rfl) ?_
                refine AG.takeW 24 rfl (by kernel_rfl) (by kernel_rfl) rfl rfl rfl (fun _ => Ev.move rfl rfl) ?_
                refine AG.takeW 25 rfl (by kernel_rfl) (by kernel_rfl) rfl rfl rfl (fun _ => Ev.pickT rfl rfl rfl) ?_
                refine AG.takeW 26 rfl (by kernel_rfl) (by kernel_rfl) rfl rfl rfl (fun _ => Ev.move rfl rfl) ?_
                refine AG.only 27 rfl (by kernel_rfl) ?_
                refine RG.call rfl rfl rfl rfl rfl rfl rfl en_9 (awake_ret _) ?_
                rintro _ w242 ⟨rfl, hx242⟩
                replace hE204 := Ex.tr hE204 hx242
                replace hE236 := Ex.tr hE236 hx242
                have hE243 := hx242
                refine RG.done ?_
                refine QW.an (fun _ => hE243) ?_
                refine AG.takeW 28 rfl (by kernel_rfl) (by kernel_rfl) rfl rfl rfl (fun _ => Ev.pickT rfl rfl rfl) ?_
                refine AG.takeW 29 rfl (by kernel_rfl) (by kernel_rfl) rfl rfl rfl (fun _ => Ev.assign rfl rfl) ?_
                refine AG.done (by kernel_rfl) ?_
                refine QW.sub (S' := [(6, _)]) ⟨rfl, trivial⟩ ?_
                refine QW.then_ ?_
                refine CW.ret ?_
                refine QW.ret1 rfl rfl ?_
                have hB := (Ex.tr hR196 hE204)
                exact ⟨rfl, hB⟩
            · refine RG.pass rfl rfl rfl ?_
              refine RG.pass rfl rfl rfl ?_
              refine RG.pass rfl rfl rfl ?_
              refine RG.pass rfl rfl rfl ?_
              refine RG.pass rfl rfl rfl ?_
              refine RG.vl rfl rfl rfl (Ev.pickF rfl rfl rfl) ?_
              refine RG.done ?_
              refine QW.sub (S' := [(6, _), (8, _), (12, _), (14, _), (15, _), (17, _), (20, _), (22, _), (23, _), (24, _), (157, _)]) ⟨rfl, rfl, rfl, rfl, rfl, rfl, rfl, rfl, rfl, rfl, rfl, trivial⟩ ?_
              refine QW.then_ ?_
              refine CW.condF rfl ?_
              refine CW.skip ?_
              refine QW.then_ ?_
              refine CW.seq ?_
              refine CW.draw [] (.ex) 30 rfl mixed (fun wd244 hxwd244 => ?_)
              replace hE204 := Ex.tr hE204 hxwd244
              replace hE236 := Ex.tr hE236 hxwd244
              refine AG.takeW 0 rfl (by kernel_rfl) (by kernel_rfl) rfl rfl rfl (fun _ => Ev.move rfl rfl) ?_
              refine AG.takeW 1 rfl (by kernel_rfl) (by kernel_rfl) rfl rfl rfl (fun _ => Ev.isT (Ev.eqI rfl rfl rfl) (rfl)) ?_
              refine AG.takeW 2 rfl (by kernel_rfl) (by kernel_rfl) rfl rfl rfl (fun _ => Ev.move rfl rfl) ?_
              refine AG.takeW 3 rfl (by kernel_rfl) (by kernel_rfl) rfl rfl rfl (fun _ => Ev.move rfl rfl) ?_
              refine AG.takeW 4 rfl (by kernel_rfl) (by kernel_rfl) rfl rfl rfl (fun _ => Ev.move rfl rfl) ?_
              refine AG.takeW 5 rfl (by kernel_rfl) (by kernel_rfl) rfl rfl rfl (fun _ => Ev.move rfl rfl) ?_
              refine AG.takeW 6 rfl (by kernel_rfl) (by kernel_rfl) rfl rfl rfl (fun _ => (Ev.cutStr (i := 0) (j := j) rfl rfl Try.underlying9 rfl rfl (by omega) (by rw [size_bytes]; omega)).conv (congrArg Value.string (bx_cut T 0 j))) ?_
              refine AG.takeW 7 rfl (by kernel_rfl) (by kernel_rfl) rfl rfl rfl (fun _ => (Ev.cat rfl rfl rfl (by rw [size_bytes, size_bytes, List.length_drop, List.length_take]; show _ + 1 ≤ _; omega)).conv (congrArg Value.string (bx_cat _ [63]))) ?_
              refine AG.takeW 8 rfl (by kernel_rfl) (by kernel_rfl) rfl rfl rfl (fun _ => Ev.move rfl rfl) ?_
              refine AG.takeW 9 rfl (by kernel_rfl) (by kernel_rfl) rfl rfl rfl (fun _ => Ev.move rfl rfl) ?_
              refine AG.takeW 10 rfl (by kernel_rfl) (by kernel_rfl) rfl rfl rfl (fun _ => Ev.addI rfl rfl rfl (by omega)) ?_
              refine AG.takeW 11 rfl (by kernel_rfl) (by kernel_rfl) rfl rfl rfl (fun _ => (Ev.cutStr (i := j + 1) (j := T.length) rfl rfl Try.underlying9 rfl rfl (by omega) (by rw [size_bytes]; exact Nat.le_refl _)).conv (congrArg Value.string (bx_cut T (j + 1) T.length))) ?_
              refine AG.takeW 12 rfl (by kernel_rfl) (by kernel_rfl) rfl rfl rfl (fun _ => (Ev.cat rfl rfl rfl (by rw [size_bytes, size_bytes, List.length_append, List.length_drop, List.length_take, List.length_drop, List.length_take]; show _ + 1 + _ ≤ _; omega)).conv (congrArg Value.string (bx_cat _ _))) ?_
              refine AG.takeW 13 rfl (by kernel_rfl) (by kernel_rfl) rfl rfl rfl (fun _ => Ev.isT (Ev.eqS rfl rfl rfl) (by rw [List.take_length]; rfl)) ?_
              refine AG.takeW 14 rfl (by kernel_rfl) (by kernel_rfl) rfl rfl rfl (fun _ => Ev.pickT rfl rfl rfl) ?_
              refine AG.takeW 15 rfl (by kernel_rfl) (by kernel_rfl) rfl rfl rfl (fun _ => Ev.move rfl rfl) ?_
              refine AG.takeW 16 rfl (by kernel_rfl) (by kernel_rfl) rfl rfl rfl (fun _ => Ev.move rfl rfl) ?_
              refine AG.takeW 17 rfl (by kernel_rfl) (by kernel_rfl) rfl rfl rfl (fun _ => Ev.isT (Ev.eqI rfl rfl rfl) (rfl)) ?_
              refine AG.takeW 18 rfl (by kernel_rfl) (by kernel_rfl) rfl rfl rfl (fun _ => Ev.pickT rfl rfl rfl) ?_
              refine AG.takeW 19 rfl (by kernel_rfl) (by kernel_rfl) rfl rfl rfl (fun _ => Ev.move rfl rfl) ?_
              refine AG.takeW 20 rfl (by kernel_rfl) (by kernel_rfl) rfl rfl rfl (fun _ => Ev.move rfl rfl) ?_
              refine AG.takeW 21 rfl (by kernel_rfl) (by kernel_rfl) rfl rfl rfl (fun _ => Ev.isT (Ev.eqI rfl rfl rfl) (rfl)) ?_
              refine AG.takeW 22 rfl (by kernel_rfl) (by kernel_rfl) rfl rfl rfl (fun _ => Ev.pickT rfl rfl rfl) ?_
              refine AG.takeW 23 rfl (by kernel_rfl) (by kernel_rfl) rfl rfl rfl (fun _ => Ev.move rfl rfl) ?_
              refine AG.takeW 24 rfl (by kernel_rfl) (by kernel_rfl) rfl rfl rfl (fun _ => Ev.move rfl rfl) ?_
              refine AG.takeW 25 rfl (by kernel_rfl) (by kernel_rfl) rfl rfl rfl (fun _ => Ev.pickT rfl rfl rfl) ?_
              refine AG.takeW 26 rfl (by kernel_rfl) (by kernel_rfl) rfl rfl rfl (fun _ => Ev.move rfl rfl) ?_
              refine AG.only 27 rfl (by kernel_rfl) ?_
              refine RG.call rfl rfl rfl rfl rfl rfl rfl en_9 (awake_ret _) ?_
              rintro _ w246 ⟨rfl, hx246⟩
              replace hE204 := Ex.tr hE204 hx246
              replace hE236 := Ex.tr hE236 hx246
              have hE247 := hx246
              refine RG.done ?_
              refine QW.an (fun _ => hE247) ?_
              refine AG.takeW 28 rfl (by kernel_rfl) (by kernel_rfl) rfl rfl rfl (fun _ => Ev.pickT rfl rfl rfl) ?_
              refine AG.takeW 29 rfl (by kernel_rfl) (by kernel_rfl) rfl rfl rfl (fun _ => Ev.assign rfl rfl) ?_
              refine AG.done (by kernel_rfl) ?_
              refine QW.sub (S' := [(6, _)]) ⟨rfl, trivial⟩ ?_
              refine QW.then_ ?_
              refine CW.ret ?_
              refine QW.ret1 rfl rfl ?_
              have hB := (Ex.tr hR196 hE204)
              exact ⟨rfl, hB⟩
          · refine RG.pass rfl rfl rfl ?_
            refine RG.pass rfl rfl rfl ?_
            refine RG.pass rfl rfl rfl ?_
            refine RG.pass rfl rfl rfl ?_
            refine RG.pass rfl rfl rfl ?_
            refine RG.vl rfl rfl rfl (Ev.pickF rfl rfl rfl) ?_
            refine RG.vl rfl rfl rfl (Ev.move rfl rfl) ?_
            refine RG.pass rfl rfl rfl ?_
            refine RG.pass rfl rfl rfl ?_
            refine RG.pass rfl rfl rfl ?_
            refine RG.pass rfl rfl rfl ?_
            refine RG.pass rfl rfl rfl ?_
            refine RG.vl rfl rfl rfl (Ev.pickF rfl rfl rfl) ?_
            refine RG.done ?_
            refine QW.sub (S' := [(6, _), (8, _), (12, _), (14, _), (15, _), (17, _), (20, _), (22, _), (23, _), (24, _), (157, _)]) ⟨rfl, rfl, rfl, rfl, rfl, rfl, rfl, rfl, rfl, rfl, rfl, trivial⟩ ?_
            refine QW.then_ ?_
            refine CW.condF rfl ?_
            refine CW.skip ?_
            refine QW.then_ ?_
            refine CW.seq ?_
            refine CW.draw [] (.ex) 30 rfl mixed (fun wd248 hxwd248 => ?_)
            replace hE204 := Ex.tr hE204 hxwd248
            replace hE236 := Ex.tr hE236 hxwd248
            refine AG.takeW 0 rfl (by kernel_rfl) (by kernel_rfl) rfl rfl rfl (fun _ => Ev.move rfl rfl) ?_
            refine AG.takeW 1 rfl (by kernel_rfl) (by kernel_rfl) rfl rfl rfl (fun _ => Ev.isT (Ev.eqI rfl rfl rfl) (rfl)) ?_
            refine AG.takeW 2 rfl (by kernel_rfl) (by kernel_rfl) rfl rfl rfl (fun _ => Ev.move rfl rfl) ?_
            refine AG.takeW 3 rfl (by kernel_rfl) (by kernel_rfl) rfl rfl rfl (fun _ => Ev.move rfl rfl) ?_
            refine AG.takeW 4 rfl (by kernel_rfl) (by kernel_rfl) rfl rfl rfl (fun _ => Ev.move rfl rfl) ?_
            refine AG.takeW 5 rfl (by kernel_rfl) (by kernel_rfl) rfl rfl rfl (fun _ => Ev.move rfl rfl) ?_
            refine AG.takeW 6 rfl (by kernel_rfl) (by kernel_rfl) rfl rfl rfl (fun _ => (Ev.cutStr (i := 0) (j := j) rfl rfl Try.underlying9 rfl rfl (by omega) (by rw [size_bytes]; omega)).conv (congrArg Value.string (bx_cut T 0 j))) ?_
            refine AG.takeW 7 rfl (by kernel_rfl) (by kernel_rfl) rfl rfl rfl (fun _ => (Ev.cat rfl rfl rfl (by rw [size_bytes, size_bytes, List.length_drop, List.length_take]; show _ + 1 ≤ _; omega)).conv (congrArg Value.string (bx_cat _ [63]))) ?_
            refine AG.takeW 8 rfl (by kernel_rfl) (by kernel_rfl) rfl rfl rfl (fun _ => Ev.move rfl rfl) ?_
            refine AG.takeW 9 rfl (by kernel_rfl) (by kernel_rfl) rfl rfl rfl (fun _ => Ev.move rfl rfl) ?_
            refine AG.takeW 10 rfl (by kernel_rfl) (by kernel_rfl) rfl rfl rfl (fun _ => Ev.addI rfl rfl rfl (by omega)) ?_
            refine AG.takeW 11 rfl (by kernel_rfl) (by kernel_rfl) rfl rfl rfl (fun _ => (Ev.cutStr (i := j + 1) (j := T.length) rfl rfl Try.underlying9 rfl rfl (by omega) (by rw [size_bytes]; exact Nat.le_refl _)).conv (congrArg Value.string (bx_cut T (j + 1) T.length))) ?_
            refine AG.takeW 12 rfl (by kernel_rfl) (by kernel_rfl) rfl rfl rfl (fun _ => (Ev.cat rfl rfl rfl (by rw [size_bytes, size_bytes, List.length_append, List.length_drop, List.length_take, List.length_drop, List.length_take]; show _ + 1 + _ ≤ _; omega)).conv (congrArg Value.string (bx_cat _ _))) ?_
            refine AG.takeW 13 rfl (by kernel_rfl) (by kernel_rfl) rfl rfl rfl (fun _ => Ev.isT (Ev.eqS rfl rfl rfl) (by rw [List.take_length]; rfl)) ?_
            refine AG.takeW 14 rfl (by kernel_rfl) (by kernel_rfl) rfl rfl rfl (fun _ => Ev.pickT rfl rfl rfl) ?_
            refine AG.takeW 15 rfl (by kernel_rfl) (by kernel_rfl) rfl rfl rfl (fun _ => Ev.move rfl rfl) ?_
            refine AG.takeW 16 rfl (by kernel_rfl) (by kernel_rfl) rfl rfl rfl (fun _ => Ev.move rfl rfl) ?_
            refine AG.takeW 17 rfl (by kernel_rfl) (by kernel_rfl) rfl rfl rfl (fun _ => Ev.isT (Ev.eqI rfl rfl rfl) (rfl)) ?_
            refine AG.takeW 18 rfl (by kernel_rfl) (by kernel_rfl) rfl rfl rfl (fun _ => Ev.pickT rfl rfl rfl) ?_
            refine AG.takeW 19 rfl (by kernel_rfl) (by kernel_rfl) rfl rfl rfl (fun _ => Ev.move rfl rfl) ?_
            refine AG.takeW 20 rfl (by kernel_rfl) (by kernel_rfl) rfl rfl rfl (fun _ => Ev.move rfl rfl) ?_
            refine AG.takeW 21 rfl (by kernel_rfl) (by kernel_rfl) rfl rfl rfl (fun _ => Ev.isT (Ev.eqI rfl rfl rfl) (rfl)) ?_
            refine AG.takeW 22 rfl (by kernel_rfl) (by kernel_rfl) rfl rfl rfl (fun _ => Ev.pickT rfl rfl rfl) ?_
            refine AG.takeW 23 rfl (by kernel_rfl) (by kernel_rfl) rfl rfl rfl (fun _ => Ev.move rfl rfl) ?_
            refine AG.takeW 24 rfl (by kernel_rfl) (by kernel_rfl) rfl rfl rfl (fun _ => Ev.move rfl rfl) ?_
            refine AG.takeW 25 rfl (by kernel_rfl) (by kernel_rfl) rfl rfl rfl (fun _ => Ev.pickT rfl rfl rfl) ?_
            refine AG.takeW 26 rfl (by kernel_rfl) (by kernel_rfl) rfl rfl rfl (fun _ => Ev.move rfl rfl) ?_
            refine AG.only 27 rfl (by kernel_rfl) ?_
            refine RG.call rfl rfl rfl rfl rfl rfl rfl en_9 (awake_ret _) ?_
            rintro _ w250 ⟨rfl, hx250⟩
            replace hE204 := Ex.tr hE204 hx250
            replace hE236 := Ex.tr hE236 hx250
            have hE251 := hx250
            refine RG.done ?_
            refine QW.an (fun _ => hE251) ?_
            refine AG.takeW 28 rfl (by kernel_rfl) (by kernel_rfl) rfl rfl rfl (fun _ => Ev.pickT rfl rfl rfl) ?_
            refine AG.takeW 29 rfl (by kernel_rfl) (by kernel_rfl) rfl rfl rfl (fun _ => Ev.assign rfl rfl) ?_
            refine AG.done (by kernel_rfl) ?_
            refine QW.sub (S' := [(6, _)]) ⟨rfl, trivial⟩ ?_
            refine QW.then_ ?_
            refine CW.ret ?_
            refine QW.ret1 rfl rfl ?_
            have hB := (Ex.tr hR196 hE204)
            exact ⟨rfl, hB⟩
    · refine RG.buildD (xs := [.tmp 82]) rfl rfl rfl rfl rfl rfl rfl Try.underlying24 inf_48 rfl rfl rfl rfl (fun g253 w253 eg253 hx253 hb253 => ?_)
      have hsep254 := own_new (own_ext hown39 hE48) eg253
      replace hE48 := Ex.tr hE48 hx253
      have hE255 := hx253
      refine RG.done ?_
      refine QW.an (fun _ => Rr.of_ex hE255) ?_
      refine AG.only 1 rfl (by kernel_rfl) ?_
      replace hl := (hl.ext hE48)
      replace hb1 := (hb1.ext hE48)
      replace hb5 := (hb5.ext hE48)
      replace hbs := (hbs.ext hE48)
      replace hp18 := (hp18.ext hE48 hp18b)
      replace hp18b := (Nat.lt_of_lt_of_le hp18b hE48.size)
      replace hrv22 := (hrv22.ext hE48)
      replace hrv23 := (hrv23.ext hE48)
      replace hown39 := (own_ext hown39 hE48)
      replace hp49 := (hp49.ext hE48 hp49b)
      replace hp49b := (Nat.lt_of_lt_of_le hp49b hE48.size)
      have hR257 := (Ex.tr hR44 hE48)
      have hR258 := (Ex.tr hR45 hE48)
      have hR259 := (Ex.tr hR46 hE48)
      have hR260 := hE48
      refine RG.build0 rfl rfl rfl rfl rfl Try.underlying24 sz_48 (fun g261 w261 eg261 hx261 hb261 => ?_)
      have hown262 := own_blk (B := w253.heap.size) (m := 0) (sz := 3) hb261 (Nat.le_of_eq eg261.symm) (Nat.zero_le _) (by simp)
      replace hown262 := own_empty (enc := Br.c) hown262
      have hE263 := hx261
      refine RG.done ?_
      refine QW.an (fun _ => Rr.of_ex hE263) ?_
      refine AG.only 3 rfl (by kernel_rfl) ?_
      refine RG.appLL rfl rfl rfl rfl rfl rfl rfl Try.underlying24 inf_48 rfl rfl Br.c_len (fun _ => rfl) hown262 (hbs.ext hE263) (by simp only [maxLen]; omega) (by omega) (hE263.size) (fun v265 wa266 hown267 hgr268 hat269 => ?_)
      replace hE263 := own_block hown262 hE263 hgr268 (Nat.le_refl _) hE263.size
      refine RG.done ?_
      refine QW.an (fun _ => Rr.low_own hown262 hgr268 (by have := hR260.size; omega)) ?_
      refine AG.only 9 rfl (by kernel_rfl) ?_
      refine RG.appLL rfl rfl rfl rfl rfl rfl rfl Try.underlying24 inf_48 rfl rfl Br.c_len (fun _ => rfl) hown267 (RdL.of_blk Br.c_len (l := [mkb s c j]) (hb253.ext hE263) (Nat.le_refl _) (by decide)) (by show _ + 1 ≤ maxLen; simp only [maxLen]; omega) (by show (_ + 1) * _ ≤ _; omega) (hE263.size) (fun v271 wa272 hown273 hgr274 hat275 => ?_)
      replace hE263 := own_block hown267 hE263 hgr274 (Nat.le_refl _) hE263.size
      refine RG.done ?_
      refine QW.an (fun _ => Rr.low_own hown267 hgr274 (by have := hR260.size; omega)) ?_
      refine AG.only 10 rfl (by kernel_rfl) ?_
      refine RG.call rfl rfl rfl rfl rfl rfl rfl en_10 (read_err s _ _ _ ((RdL.of_own Br.c_len hown273)) (by rw [List.length_append, List.length_append]; simp; omega) he2) ?_
      rintro _ w277 ⟨rfl, hx277⟩
      replace hE263 := Ex.tr hE263 hx277
      have hE278 := hx277
      refine RG.done ?_
      refine QW.an (fun _ => Rr.of_ex hE278) ?_
      refine AG.takeW 11 rfl (by kernel_rfl) (by kernel_rfl) rfl rfl rfl (fun _ => Ev.move rfl rfl) ?_
      refine AG.takeW 12 rfl (by kernel_rfl) (by kernel_rfl) rfl rfl rfl (fun _ => Ev.extract rfl rfl rfl) ?_
      refine AG.takeW 13 rfl (by kernel_rfl) (by kernel_rfl) rfl rfl rfl (fun _ => Ev.extract rfl rfl rfl) ?_
      refine AG.takeW 14 rfl (by kernel_rfl) (by kernel_rfl) rfl rfl rfl (fun _ => Ev.assign rfl rfl) ?_
      refine AG.takeW 15 rfl (by kernel_rfl) (by kernel_rfl) rfl rfl rfl (fun _ => Ev.assign rfl rfl) ?_
      refine AG.done (by kernel_rfl) ?_
      refine QW.sub (S' := [(6, _), (7, _), (8, _), (9, _), (11, _), (12, _), (13, _), (14, _), (15, _), (17, _)]) ⟨rfl, rfl, rfl, rfl, rfl, rfl, rfl, rfl, rfl, rfl, trivial⟩ ?_
      refine QW.then_ ?_
      refine CW.seq ?_
      refine CW.region ?_
      replace hl := (hl.ext hE263)
      replace hb1 := (hb1.ext hE263)
      replace hb5 := (hb5.ext hE263)
      replace hbs := (hbs.ext hE263)
      replace hp18 := (hp18.ext hE263 hp18b)
      replace hp18b := (Nat.lt_of_lt_of_le hp18b hE263.size)
      replace hrv22 := (hrv22.ext hE263)
      replace hrv23 := (hrv23.ext hE263)
      replace hown39 := (own_ext hown39 hE263)
      replace hp49 := (hp49.ext hE263 hp49b)
      replace hp49b := (Nat.lt_of_lt_of_le hp49b hE263.size)
      replace hb253 := (hb253.ext hE263)
      replace hown273 := (own_ext hown273 hE278)
      have hR279 := (Ex.tr hR257 hE263)
      have hR280 := (Ex.tr hR258 hE263)
      have hR281 := (Ex.tr hR259 hE263)
      have hR282 := (Ex.tr hR260 hE263)
      have hR283 := hE263
      refine RG.build0 rfl rfl rfl rfl rfl Try.underlying24 sz_48 (fun g284 w284 eg284 hx284 hb284 => ?_)
      have hown285 := own_blk (B := w277.heap.size) (m := 0) (sz := 3) hb284 (Nat.le_of_eq eg284.symm) (Nat.zero_le _) (by simp)
      replace hown285 := own_empty (enc := Br.c) hown285
      have hE286 := hx284
      refine RG.vl rfl rfl rfl (Ev.move rfl rfl) ?_
      refine RG.appLL rfl rfl rfl rfl rfl rfl rfl Try.underlying24 inf_48 rfl rfl Br.c_len (fun _ => rfl) hown285 (hbs.ext hE286) (by simp only [maxLen]; omega) (by omega) (hE286.size) (fun v287 wa288 hown289 hgr290 hat291 => ?_)
      replace hE286 := own_block hown285 hE286 hgr290 (Nat.le_refl _) hE286.size
      refine RG.vl rfl rfl rfl (Ev.assign rfl rfl) ?_
      refine RG.done ?_
      refine QW.then_ ?_
      refine CW.seq ?_
      refine CW.region ?_
      refine RG.vl rfl rfl rfl (Ev.move rfl rfl) ?_
      refine RG.vl rfl rfl rfl (Ev.move rfl rfl) ?_
      refine RG.vl rfl rfl rfl (Ev.fld rfl rfl fld_23_1) ?_
      refine RG.vl rfl rfl rfl (Ev.ldAt rfl rfl Try.underlying3 rfl ((hb5.ext hE286).cells) (rfl)) ?_
      refine RG.vl rfl rfl rfl (Ev.fld rfl rfl fld_23_0) ?_
      refine RG.vl rfl rfl rfl (Ev.ldAt rfl rfl Try.underlying3 rfl ((hb5.ext hE286).cells) (rfl)) ?_
      refine RG.vl rfl rfl rfl (Ev.fld rfl rfl fld_23_2) ?_
      refine RG.vl rfl rfl rfl (Ev.ldAt rfl rfl Try.underlying3 rfl ((hb5.ext hE286).cells) (rfl)) ?_
      refine RG.vl rfl rfl rfl (Ev.mulI rfl rfl rfl (by omega)) ?_
      refine RG.vl rfl rfl rfl (Ev.addI rfl rfl rfl (by omega)) ?_
      obtain ⟨g292, cg292, rfl, hBg292, hltg292⟩ := own_at hown289 (by omega)
      refine RG.vl rfl rfl rfl (Ev.idxN rfl rfl rfl Try.underlying24 sz_48 (by omega)) ?_
      refine RG.vl rfl rfl rfl (Ev.fld rfl rfl fld_48_0) ?_
      refine RG.stO2 rfl rfl rfl rfl rfl sz_3 rfl hown289 (by omega) (fun ws293 hwws293 hown294 => ?_)
      replace hown294 := own_set Br.c_len ⟨s.og + s.pl * s.pi, (mkb s c j).up, (mkb s c j).dn⟩ k 0 (by decide) hb rfl hown294
      replace hE286 := Wr.below hE286 hwws293 hBg292
      refine RG.done ?_
      refine QW.sub (S' := [(6, _), (7, _), (8, _), (9, _), (11, _), (12, _), (13, _), (14, _), (15, _), (17, _), (18, _)]) ⟨rfl, rfl, rfl, rfl, rfl, rfl, rfl, rfl, rfl, rfl, rfl, trivial⟩ ?_
      refine QW.then_ ?_
      refine CW.seq ?_
      refine CW.region ?_
      refine RG.vl rfl rfl rfl (Ev.ldAgg rfl rfl Try.underlying23 rfl sz_23 rfl ((hb5.ext hE286).cells)) ?_
      refine RG.vl rfl rfl rfl (Ev.move rfl rfl) ?_
      refine RG.call rfl rfl rfl rfl rfl rfl rfl en_10 (read_err s _ _ _ ((RdL.of_own Br.c_len hown294)) (by rw [List.length_set]; omega) he3) ?_
      rintro _ w295 ⟨rfl, hx295⟩
      replace hE286 := Ex.tr hE286 hx295
      have hE296 := hx295
      refine RG.vl rfl rfl rfl (Ev.move rfl rfl) ?_
      refine RG.vl rfl rfl rfl (Ev.extract rfl rfl rfl) ?_
      refine RG.vl rfl rfl rfl (Ev.extract rfl rfl rfl) ?_
      refine RG.vl rfl rfl rfl (Ev.assign rfl rfl) ?_
      refine RG.vl rfl rfl rfl (Ev.assign rfl rfl) ?_
      refine RG.done ?_
      refine QW.then_ ?_
      refine CW.seq ?_
      refine CW.region ?_
      replace hl := (hl.ext hE286)
      replace hb1 := (hb1.ext hE286)
      replace hb5 := (hb5.ext hE286)
      replace hbs := (hbs.ext hE286)
      replace hp18 := (hp18.ext hE286 hp18b)
      replace hp18b := (Nat.lt_of_lt_of_le hp18b hE286.size)
      replace hrv22 := (hrv22.ext hE286)
      replace hrv23 := (hrv23.ext hE286)
      replace hown39 := (own_ext hown39 hE286)
      replace hp49 := (hp49.ext hE286 hp49b)
      replace hp49b := (Nat.lt_of_lt_of_le hp49b hE286.size)
      replace hb253 := (hb253.ext hE286)
      replace hown273 := (own_ext hown273 hE286)
      replace hown294 := (own_ext hown294 hE296)
      have hR297 := (Ex.tr hR279 hE286)
      have hR298 := (Ex.tr hR280 hE286)
      have hR299 := (Ex.tr hR281 hE286)
      have hR300 := (Ex.tr hR282 hE286)
      have hR301 := (Ex.tr hR283 hE286)
      have hR302 := hE286
      refine RG.build0 rfl rfl rfl rfl rfl Try.underlying24 sz_48 (fun g303 w303 eg303 hx303 hb303 => ?_)
      have hown304 := own_blk (B := w295.heap.size) (m := 0) (sz := 3) hb303 (Nat.le_of_eq eg303.symm) (Nat.zero_le _) (by simp)
      replace hown304 := own_empty (enc := Br.c) hown304
      have hE305 := hx303
      refine RG.vl rfl rfl rfl (Ev.move rfl rfl) ?_
      refine RG.appLL rfl rfl rfl rfl rfl rfl rfl Try.underlying24 inf_48 rfl rfl Br.c_len (fun _ => rfl) hown304 (RdL.of_own Br.c_len (own_ext hown39 hE305)) (by simp only [maxLen]; omega) (by omega) (hE305.size) (fun v306 wa307 hown308 hgr309 hat310 => ?_)
      replace hE305 := own_block hown304 hE305 hgr309 (Nat.le_refl _) hE305.size
      refine RG.vl rfl rfl rfl (Ev.assign rfl rfl) ?_
      refine RG.done ?_
      refine QW.then_ ?_
      refine CW.seq ?_
      refine CW.draw [] (.low w295.heap.size) 18 rfl mixed (fun wd311 hxwd311 => ?_)
      replace hE305 := Ex.tr hE305 hxwd311
      have hE312 := hxwd311
      refine AG.takeW 0 rfl (by kernel_rfl) (by kernel_rfl) rfl rfl rfl (fun _ => Ev.move rfl rfl) ?_
      refine AG.takeW 1 rfl (by kernel_rfl) (by kernel_rfl) rfl rfl rfl (fun _ => Ev.move rfl rfl) ?_
      refine AG.takeW 2 rfl (by kernel_rfl) (by kernel_rfl) rfl rfl rfl (fun _ => Ev.move rfl rfl) ?_
      refine AG.idxL _ 3 rfl (by kernel_rfl) (by kernel_rfl) rfl rfl rfl rfl rfl rfl Try.underlying24 sz_48 (hbs) (hb) (fun p313 hp313b hp313 => ?_)
      refine AG.takeW 4 rfl (by kernel_rfl) (by kernel_rfl) rfl rfl rfl (fun _ => Ev.fld rfl rfl fld_48_0) ?_
      refine AG.take 5 rfl (by kernel_rfl) (by kernel_rfl) rfl rfl rfl (fun wq hq => Ev.ldAt rfl rfl Try.underlying3 rfl (Cells.low (hp313.ext hE305 hp313b) hq (Nat.lt_of_lt_of_le hp313b hE305.size) hp313b) (rfl)) ?_
      refine AG.takeW 6 rfl (by kernel_rfl) (by kernel_rfl) rfl rfl rfl (fun _ => Ev.fld rfl rfl fld_23_3) ?_
      refine AG.take 7 rfl (by kernel_rfl) (by kernel_rfl) rfl rfl rfl (fun wq hq => Ev.ldAt rfl rfl Try.underlying3 rfl ((Blk.low (hb5.ext hE305) hq (Blk.lt hb5)).cells) (rfl)) ?_
      refine AG.takeW 8 rfl (by kernel_rfl) (by kernel_rfl) rfl rfl rfl (fun _ => Ev.addI rfl rfl rfl (by omega)) ?_
      refine AG.takeW 9 rfl (by kernel_rfl) (by kernel_rfl) rfl rfl rfl (fun _ => Ev.addI rfl rfl rfl (by omega)) ?_
      refine AG.takeW 10 rfl (by kernel_rfl) (by kernel_rfl) rfl rfl rfl (fun _ => Ev.fld rfl rfl fld_23_4) ?_
      refine AG.take 11 rfl (by kernel_rfl) (by kernel_rfl) rfl rfl rfl (fun wq hq => Ev.ldAt rfl rfl Try.underlying3 rfl ((Blk.low (hb5.ext hE305) hq (Blk.lt hb5)).cells) (rfl)) ?_
      refine AG.takeW 12 rfl (by kernel_rfl) (by kernel_rfl) rfl rfl rfl (fun _ => Ev.fld rfl rfl fld_23_4) ?_
      refine AG.take 13 rfl (by kernel_rfl) (by kernel_rfl) rfl rfl rfl (fun wq hq => Ev.ldAt rfl rfl Try.underlying3 rfl ((Blk.low (hb5.ext hE305) hq (Blk.lt hb5)).cells) (rfl)) ?_
      refine AG.takeW 14 rfl (by kernel_rfl) (by kernel_rfl) rfl rfl rfl (fun _ => Ev.build1 rfl rfl rfl inf_48 rfl rfl (by kernel_rfl) rfl) ?_
      refine AG.only 15 rfl (by kernel_rfl) ?_
      refine RG.buildD (xs := [.tmp 126]) rfl rfl rfl rfl rfl rfl rfl Try.underlying24 inf_48 rfl rfl rfl rfl (fun g315 w315 eg315 hx315 hb315 => ?_)
      have hsep316 := own_new (own_ext hown39 hE305) eg315
      have hsep317 := own_new (own_ext hown273 hE305) eg315
      have hsep318 := own_new (own_ext hown294 hE305) eg315
      have hsep319 := own_new (own_ext hown308 hE312) eg315
      replace hE305 := Ex.tr hE305 hx315
      replace hE312 := Ex.tr hE312 hx315
      have hE320 := hx315
      refine RG.done ?_
      refine QW.an (fun _ => Rr.of_ex hE320) ?_
      refine AG.only 16 rfl (by kernel_rfl) ?_
      refine RG.appLL rfl rfl rfl rfl rfl rfl rfl Try.underlying24 inf_48 rfl rfl Br.c_len (fun _ => rfl) (own_ext hown308 hE312) (RdL.of_blk Br.c_len (l := [btw s (mkb s c j)]) hb315 (Nat.le_refl _) (by decide)) (by show _ + 1 ≤ maxLen; simp only [maxLen]; omega) (by show (_ + 1) * _ ≤ _; omega) (hE305.size) (fun v322 wa323 hown324 hgr325 hat326 => ?_)
      have hb327 := Blk.grown hb315 hgr325 hsep319.symm
      have hsep328 := sep_app hat326 hsep319 (Blk.lt hb315)
      replace hE305 := own_block (own_ext hown308 hE312) hE305 hgr325 (Nat.le_refl _) hE305.size
      refine RG.done ?_
      refine QW.an (fun _ => Rr.low_own (own_ext hown308 hE312) hgr325 (Nat.le_refl _)) ?_
      refine AG.takeW 17 rfl (by kernel_rfl) (by kernel_rfl) rfl rfl rfl (fun _ => Ev.assign rfl rfl) ?_
      refine AG.done (by kernel_rfl) ?_
      refine QW.sub (S' := [(6, _), (7, _), (8, _), (12, _), (14, _), (15, _), (17, _), (20, _), (21, _)]) ⟨rfl, rfl, rfl, rfl, rfl, rfl, rfl, rfl, rfl, trivial⟩ ?_
      refine QW.then_ ?_
      refine CW.seq ?_
      by_cases hnx : 2 * s.sl + 1 = s.pi ∧ (j : Int) + 1 < s.pl ∧ T[j + 1]? = some 63
      · obtain ⟨n1, n2, n3⟩ := hnx
        obtain ⟨he4, ht4⟩ := miss_next s bs T k j c hok hR (by omega) hb (by omega) n1 n2 n3 hne
        have n4 : j + 1 < T.length := (List.getElem?_eq_some_iff.1 n3).1
        have n5 : T[j + 1] = 63 := by rw [List.getElem?_eq_getElem n4] at n3; injection n3
        refine CW.region ?_
        refine RG.vl rfl rfl rfl (Ev.ldAgg rfl rfl Try.underlying23 rfl sz_23 rfl ((hb5.ext hE305).cells)) ?_
        refine RG.vl rfl rfl rfl (Ev.move rfl rfl) ?_
        refine RG.call rfl rfl rfl rfl rfl rfl rfl en_10 (read_is s _ (less bs k ++ [btw s (mkb s c j)]) _ ((RdL.of_own Br.c_len hown324)) (by rw [List.length_append, List.length_singleton]; omega) he4 ht4) ?_
        rintro _ w329 ⟨rfl, hx329⟩
        replace hE305 := Ex.tr hE305 hx329
        have hE330 := hx329
        refine RG.vl rfl rfl rfl (Ev.move rfl rfl) ?_
        refine RG.vl rfl rfl rfl (Ev.extract rfl rfl rfl) ?_
        refine RG.vl rfl rfl rfl (Ev.extract rfl rfl rfl) ?_
        refine RG.vl rfl rfl rfl (Ev.assign rfl rfl) ?_
        refine RG.vl rfl rfl rfl (Ev.assign rfl rfl) ?_
        refine RG.done ?_
        refine QW.then_ ?_
        refine CW.seq ?_
        refine CW.region ?_
        refine RG.vl rfl rfl rfl (Ev.move rfl rfl) ?_
        refine RG.vl rfl rfl rfl (Ev.isF (Ev.eqI rfl rfl rfl) (by decide)) ?_
        refine RG.vl rfl rfl rfl (Ev.assign rfl rfl) ?_
        refine RG.done ?_
        refine QW.then_ ?_
        refine CW.seq ?_
        refine CW.seq ?_
        refine CW.region ?_
        refine RG.vl rfl rfl rfl (Ev.fld rfl rfl fld_23_3) ?_
        refine RG.vl rfl rfl rfl (Ev.ldAt rfl rfl Try.underlying3 rfl ((hb5.ext hE305).cells) (rfl)) ?_
        refine RG.vl rfl rfl rfl (Ev.mulI rfl rfl rfl (by omega)) ?_
        refine RG.vl rfl rfl rfl (Ev.addI rfl rfl rfl (by omega)) ?_
        refine RG.vl rfl rfl rfl (Ev.fld rfl rfl fld_23_2) ?_
        refine RG.vl rfl rfl rfl (Ev.ldAt rfl rfl Try.underlying3 rfl ((hb5.ext hE305).cells) (rfl)) ?_
        refine RG.vl rfl rfl rfl (Ev.isT (Ev.eqI rfl rfl rfl) (by omega)) ?_
        refine RG.vl rfl rfl rfl (Ev.move rfl rfl) ?_
        refine RG.vl rfl rfl rfl (Ev.move rfl rfl) ?_
        refine RG.vl rfl rfl rfl (Ev.addI rfl rfl rfl (by omega)) ?_
        refine RG.vl rfl rfl rfl (Ev.fld rfl rfl fld_23_0) ?_
        refine RG.vl rfl rfl rfl (Ev.ldAt rfl rfl Try.underlying3 rfl ((hb5.ext hE305).cells) (rfl)) ?_
        refine RG.vl rfl rfl rfl (Ev.isT (Ev.lss rfl rfl rfl) (by omega)) ?_
        refine RG.vl rfl rfl rfl (Ev.pickT rfl rfl rfl) ?_
        refine RG.vl rfl rfl rfl (Ev.move rfl rfl) ?_
        refine RG.vl rfl rfl rfl (Ev.move rfl rfl) ?_
        refine RG.vl rfl rfl rfl (Ev.move rfl rfl) ?_
        refine RG.vl rfl rfl rfl (Ev.addI rfl rfl rfl (by omega)) ?_
        refine RG.vl rfl rfl rfl (Ev.byteAt rfl rfl rfl Try.underlying9 (by omega) (byte_next (by omega))) ?_
        refine RG.vl rfl rfl rfl (Ev.isT (Ev.eqI rfl rfl rfl) (by rw [n5]; rfl)) ?_
        refine RG.vl rfl rfl rfl (Ev.pickT rfl rfl rfl) ?_
        refine RG.done ?_
        refine QW.sub (S' := [(6, _), (8, _), (12, _), (14, _), (15, _), (17, _), (20, _), (22, _), (23, _), (24, _), (157, _)]) ⟨rfl, rfl, rfl, rfl, rfl, rfl, rfl, rfl, rfl, rfl, rfl, trivial⟩ ?_
        refine QW.then_ ?_
        refine CW.condT rfl ?_
        refine CW.draw [] (.ex) 16 rfl mixed (fun wd331 hxwd331 => ?_)
        replace hE305 := Ex.tr hE305 hxwd331
        replace hE330 := Ex.tr hE330 hxwd331
        refine AG.takeW 0 rfl (by kernel_rfl) (by kernel_rfl) rfl rfl rfl (fun _ => Ev.move rfl rfl) ?_
        refine AG.takeW 1 rfl (by kernel_rfl) (by kernel_rfl) rfl rfl rfl (fun _ => Ev.isT (Ev.eqI rfl rfl rfl) (rfl)) ?_
        refine AG.takeW 2 rfl (by kernel_rfl) (by kernel_rfl) rfl rfl rfl (fun _ => Ev.move rfl rfl) ?_
        refine AG.takeW 3 rfl (by kernel_rfl) (by kernel_rfl) rfl rfl rfl (fun _ => Ev.move rfl rfl) ?_
        refine AG.takeW 4 rfl (by kernel_rfl) (by kernel_rfl) rfl rfl rfl (fun _ => Ev.move rfl rfl) ?_
        refine AG.takeW 5 rfl (by kernel_rfl) (by kernel_rfl) rfl rfl rfl (fun _ => Ev.move rfl rfl) ?_
        refine AG.takeW 6 rfl (by kernel_rfl) (by kernel_rfl) rfl rfl rfl (fun _ => (Ev.cutStr (i := 0) (j := j) rfl rfl Try.underlying9 rfl rfl (by omega) (by rw [size_bytes]; omega)).conv (congrArg Value.string (bx_cut T 0 j))) ?_
        refine AG.takeW 7 rfl (by kernel_rfl) (by kernel_rfl) rfl rfl rfl (fun _ => (Ev.cat rfl rfl rfl (by rw [size_bytes, size_bytes, List.length_drop, List.length_take]; show _ + 2 ≤ _; omega)).conv (congrArg Value.string (bx_cat _ [63, 84]))) ?_
        refine AG.takeW 8 rfl (by kernel_rfl) (by kernel_rfl) rfl rfl rfl (fun _ => Ev.move rfl rfl) ?_
        refine AG.takeW 9 rfl (by kernel_rfl) (by kernel_rfl) rfl rfl rfl (fun _ => Ev.move rfl rfl) ?_
        refine AG.takeW 10 rfl (by kernel_rfl) (by kernel_rfl) rfl rfl rfl (fun _ => Ev.addI rfl rfl rfl (by omega)) ?_
        refine AG.takeW 11 rfl (by kernel_rfl) (by kernel_rfl) rfl rfl rfl (fun _ => (Ev.cutStr (i := j + 2) (j := T.length) rfl rfl Try.underlying9 rfl rfl (by omega) (by rw [size_bytes]; exact Nat.le_refl _)).conv (congrArg Value.string (bx_cut T (j + 2) T.length))) ?_
        refine AG.takeW 12 rfl (by kernel_rfl) (by kernel_rfl) rfl rfl rfl (fun _ => (Ev.cat rfl rfl rfl (by rw [size_bytes, size_bytes, List.length_append, List.length_drop, List.length_take, List.length_drop, List.length_take]; show _ + 2 + _ ≤ _; omega)).conv (congrArg Value.string (bx_cat _ _))) ?_
        refine AG.takeW 13 rfl (by kernel_rfl) (by kernel_rfl) rfl rfl rfl (fun _ => Ev.isT (Ev.eqS rfl rfl rfl) (by rw [List.take_length]; rfl)) ?_
        refine AG.takeW 14 rfl (by kernel_rfl) (by kernel_rfl) rfl rfl rfl (fun _ => Ev.pickT rfl rfl rfl) ?_
        refine AG.takeW 15 rfl (by kernel_rfl) (by kernel_rfl) rfl rfl rfl (fun _ => Ev.assign rfl rfl) ?_
        refine AG.done (by kernel_rfl) ?_
        refine QW.sub (S' := [(6, _), (8, _), (12, _), (14, _), (15, _), (17, _), (20, _), (24, _)]) ⟨rfl, rfl, rfl, rfl, rfl, rfl, rfl, rfl, trivial⟩ ?_
        refine QW.then_ ?_
        refine CW.seq ?_
        refine CW.draw [] (.ex) 30 rfl mixed (fun wd332 hxwd332 => ?_)
        replace hE305 := Ex.tr hE305 hxwd332
        replace hE330 := Ex.tr hE330 hxwd332
        refine AG.takeW 0 rfl (by kernel_rfl) (by kernel_rfl) rfl rfl rfl (fun _ => Ev.move rfl rfl) ?_
        refine AG.takeW 1 rfl (by kernel_rfl) (by kernel_rfl) rfl rfl rfl (fun _ => Ev.isT (Ev.eqI rfl rfl rfl) (rfl)) ?_
        refine AG.takeW 2 rfl (by kernel_rfl) (by kernel_rfl) rfl rfl rfl (fun _ => Ev.move rfl rfl) ?_
        refine AG.takeW 3 rfl (by kernel_rfl) (by kernel_rfl) rfl rfl rfl (fun _ => Ev.move rfl rfl) ?_
        refine AG.takeW 4 rfl (by kernel_rfl) (by kernel_rfl) rfl rfl rfl (fun _ => Ev.move rfl rfl) ?_
        refine AG.takeW 5 rfl (by kernel_rfl) (by kernel_rfl) rfl rfl rfl (fun _ => Ev.move rfl rfl) ?_
        refine AG.takeW 6 rfl (by kernel_rfl) (by kernel_rfl) rfl rfl rfl (fun _ => (Ev.cutStr (i := 0) (j := j) rfl rfl Try.underlying9 rfl rfl (by omega) (by rw [size_bytes]; omega)).conv (congrArg Value.string (bx_cut T 0 j))) ?_
        refine AG.takeW 7 rfl (by kernel_rfl) (by kernel_rfl) rfl rfl rfl (fun _ => (Ev.cat rfl rfl rfl (by rw [size_bytes, size_bytes, List.length_drop, List.length_take]; show _ + 1 ≤ _; omega)).conv (congrArg Value.string (bx_cat _ [63]))) ?_
        refine AG.takeW 8 rfl (by kernel_rfl) (by kernel_rfl) rfl rfl rfl (fun _ => Ev.move rfl rfl) ?_
        refine AG.takeW 9 rfl (by kernel_rfl) (by kernel_rfl) rfl rfl rfl (fun _ => Ev.move rfl rfl) ?_
        refine AG.takeW 10 rfl (by kernel_rfl) (by kernel_rfl) rfl rfl rfl (fun _ => Ev.addI rfl rfl rfl (by omega)) ?_
        refine AG.takeW 11 rfl (by kernel_rfl) (by kernel_rfl) rfl rfl rfl (fun _ => (Ev.cutStr (i := j + 1) (j := T.length) rfl rfl Try.underlying9 rfl rfl (by omega) (by rw [size_bytes]; exact Nat.le_refl _)).conv (congrArg Value.string (bx_cut T (j + 1) T.length))) ?_
        refine AG.takeW 12 rfl (by kernel_rfl) (by kernel_rfl) rfl rfl rfl (fun _ => (Ev.cat rfl rfl rfl (by rw [size_bytes, size_bytes, List.length_append, List.length_drop, List.length_take, List.length_drop, List.length_take]; show _ + 1 + _ ≤ _; omega)).conv (congrArg Value.string (bx_cat _ _))) ?_
        refine AG.takeW 13 rfl (by kernel_rfl) (by kernel_rfl) rfl rfl rfl (fun _ => Ev.isT (Ev.eqS rfl rfl rfl) (by rw [List.take_length]; rfl)) ?_
        refine AG.takeW 14 rfl (by kernel_rfl) (by kernel_rfl) rfl rfl rfl (fun _ => Ev.pickT rfl rfl rfl) ?_
        refine AG.takeW 15 rfl (by kernel_rfl) (by kernel_rfl) rfl rfl rfl (fun _ => Ev.move rfl rfl) ?_
        refine AG.takeW 16 rfl (by kernel_rfl) (by kernel_rfl) rfl rfl rfl (fun _ => Ev.move rfl rfl) ?_
        refine AG.takeW 17 rfl (by kernel_rfl) (by kernel_rfl) rfl rfl rfl (fun _ => Ev.isT (Ev.eqI rfl rfl rfl) (rfl)) ?_
        refine AG.takeW 18 rfl (by kernel_rfl) (by kernel_rfl) rfl rfl rfl (fun _ => Ev.pickT rfl rfl rfl) ?_
        refine AG.takeW 19 rfl (by kernel_rfl) (by kernel_rfl) rfl rfl rfl (fun _ => Ev.move rfl rfl) ?_
        refine AG.takeW 20 rfl (by kernel_rfl) (by kernel_rfl) rfl rfl rfl (fun _ => Ev.move rfl rfl) ?_
        refine AG.takeW 21 rfl (by kernel_rfl) (by kernel_rfl) rfl rfl rfl (fun _ => Ev.isT (Ev.eqI rfl rfl rfl) (rfl)) ?_
        refine AG.takeW 22 rfl (by kernel_rfl) (by kernel_rfl) rfl rfl rfl (fun _ => Ev.pickT rfl rfl rfl) ?_
        refine AG.takeW 23 rfl (by kernel_rfl) (by kernel_rfl) rfl rfl rfl (fun _ => Ev.move rfl rfl) ?_
        refine AG.takeW 24 rfl (by kernel_rfl) (by kernel_rfl) rfl rfl rfl (fun _ => Ev.move rfl rfl) ?_
        refine AG.takeW 25 rfl (by kernel_rfl) (by kernel_rfl) rfl rfl rfl (fun _ => Ev.pickT rfl rfl rfl) ?_
        refine AG.takeW 26 rfl (by kernel_rfl) (by kernel_rfl) rfl rfl rfl (fun _ => Ev.move rfl rfl) ?_
        refine AG.only 27 rfl (by kernel_rfl) ?_
        refine RG.call rfl rfl rfl rfl rfl rfl rfl en_9 (awake_ret _) ?_
        rintro _ w334 ⟨rfl, hx334⟩
        replace hE305 := Ex.tr hE305 hx334
        replace hE330 := Ex.tr hE330 hx334
        have hE335 := hx334
        refine RG.done ?_
        refine QW.an (fun _ => hE335) ?_
        refine AG.takeW 28 rfl (by kernel_rfl) (by kernel_rfl) rfl rfl rfl (fun _ => Ev.pickT rfl rfl rfl) ?_
        refine AG.takeW 29 rfl (by kernel_rfl) (by kernel_rfl) rfl rfl rfl (fun _ => Ev.assign rfl rfl) ?_
        refine AG.done (by kernel_rfl) ?_
        refine QW.sub (S' := [(6, _)]) ⟨rfl, trivial⟩ ?_
        refine QW.then_ ?_
        refine CW.ret ?_
        refine QW.ret1 rfl rfl ?_
        have hB := (Ex.tr hR297 hE305)
        exact ⟨rfl, hB⟩
      · have he4 := miss_far s bs T k j c hok hR (by omega) hb (by omega) (by omega) hnx
        refine CW.region ?_
        refine RG.vl rfl rfl rfl (Ev.ldAgg rfl rfl Try.underlying23 rfl sz_23 rfl ((hb5.ext hE305).cells)) ?_
        refine RG.vl rfl rfl rfl (Ev.move rfl rfl) ?_
        refine RG.call rfl rfl rfl rfl rfl rfl rfl en_10 (read_is s _ (less bs k ++ [btw s (mkb s c j)]) _ ((RdL.of_own Br.c_len hown324)) (by rw [List.length_append, List.length_singleton]; omega) he4 rfl) ?_
        rintro _ w336 ⟨rfl, hx336⟩
        replace hE305 := Ex.tr hE305 hx336
        have hE337 := hx336
        refine RG.vl rfl rfl rfl (Ev.move rfl rfl) ?_
        refine RG.vl rfl rfl rfl (Ev.extract rfl rfl rfl) ?_
        refine RG.vl rfl rfl rfl (Ev.extract rfl rfl rfl) ?_
        refine RG.vl rfl rfl rfl (Ev.assign rfl rfl) ?_
        refine RG.vl rfl rfl rfl (Ev.assign rfl rfl) ?_
        refine RG.done ?_
        refine QW.then_ ?_
        refine CW.seq ?_
        refine CW.region ?_
        refine RG.vl rfl rfl rfl (Ev.move rfl rfl) ?_
        refine RG.vl rfl rfl rfl (Ev.isT (Ev.eqI rfl rfl rfl) (rfl)) ?_
        refine RG.vl rfl rfl rfl (Ev.assign rfl rfl) ?_
        refine RG.done ?_
        refine QW.then_ ?_
        refine CW.seq ?_
        refine CW.seq ?_
        refine CW.region ?_
        refine RG.vl rfl rfl rfl (Ev.fld rfl rfl fld_23_3) ?_
        refine RG.vl rfl rfl rfl (Ev.ldAt rfl rfl Try.underlying3 rfl ((hb5.ext hE305).cells) (rfl)) ?_
        refine RG.vl rfl rfl rfl (Ev.mulI rfl rfl rfl (by omega)) ?_
        refine RG.vl rfl rfl rfl (Ev.addI rfl rfl rfl (by omega)) ?_
        refine RG.vl rfl rfl rfl (Ev.fld rfl rfl fld_23_2) ?_
        refine RG.vl rfl rfl rfl (Ev.ldAt rfl rfl Try.underlying3 rfl ((hb5.ext hE305).cells) (rfl)) ?_
        refine RG.vl rfl rfl rfl (Ev.eqI rfl rfl rfl) ?_
        refine RG.vl rfl rfl rfl (Ev.move rfl rfl) ?_
        refine RG.split (d := 144) rfl (fun hg338 => ?_) (fun hg338 => ?_)
        · refine RG.vl rfl rfl rfl (Ev.move rfl rfl) ?_
          refine RG.vl rfl rfl rfl (Ev.addI rfl rfl rfl (by omega)) ?_
          refine RG.vl rfl rfl rfl (Ev.fld rfl rfl fld_23_0) ?_
          refine RG.vl rfl rfl rfl (Ev.ldAt rfl rfl Try.underlying3 rfl ((hb5.ext hE305).cells) (rfl)) ?_
          refine RG.vl rfl rfl rfl (Ev.lss rfl rfl rfl) ?_
          refine RG.vl rfl rfl rfl (Ev.pickT rfl rfl rfl) ?_
          refine RG.vl rfl rfl rfl (Ev.move rfl rfl) ?_
          refine RG.split (d := 151) rfl (fun hg339 => ?_) (fun hg339 => ?_)
          · refine RG.vl rfl rfl rfl (Ev.move rfl rfl) ?_
            refine RG.vl rfl rfl rfl (Ev.move rfl rfl) ?_
            refine RG.vl rfl rfl rfl (Ev.addI rfl rfl rfl (by omega)) ?_
            refine RG.vl rfl rfl rfl (Ev.byteAt rfl rfl rfl Try.underlying9 (by omega) (byte_next (by omega))) ?_
            refine RG.vl rfl rfl rfl (Ev.eqI rfl rfl rfl) ?_
            refine RG.vl rfl rfl rfl (Ev.pickT rfl rfl rfl) ?_
            refine RG.done ?_
            refine QW.sub (S' := [(6, _), (8, _), (12, _), (14, _), (15, _), (17, _), (20, _), (22, _), (23, _), (24, _), (157, _)]) ⟨rfl, rfl, rfl, rfl, rfl, rfl, rfl, rfl, rfl, rfl, rfl, trivial⟩ ?_
            refine QW.then_ ?_
            refine CW.condP rfl (fun hc340 => ?_) (fun hc340 => ?_)
            · exact absurd ⟨by omega, by omega, by rw [List.getElem?_eq_getElem (show j + 1 < T.length by omega)]; congr 1; exact byte_eq (d := 63) (by assumption)⟩ hnx
            · refine CW.skip ?_
              refine QW.then_ ?_
              refine CW.seq ?_
              refine CW.draw [] (.ex) 30 rfl mixed (fun wd341 hxwd341 => ?_)
              replace hE305 := Ex.tr hE305 hxwd341
              replace hE337 := Ex.tr hE337 hxwd341
              refine AG.takeW 0 rfl (by kernel_rfl) (by kernel_rfl) rfl rfl rfl (fun _ => Ev.move rfl rfl) ?_
              refine AG.takeW 1 rfl (by kernel_rfl) (by kernel_rfl) rfl rfl rfl (fun _ => Ev.isT (Ev.eqI rfl rfl rfl) (rfl)) ?_
              refine AG.takeW 2 rfl (by kernel_rfl) (by kernel_rfl) rfl rfl rfl (fun _ => Ev.move rfl rfl) ?_
              refine AG.takeW 3 rfl (by kernel_rfl) (by kernel_rfl) rfl rfl rfl (fun _ => Ev.move rfl rfl) ?_
              refine AG.takeW 4 rfl (by kernel_rfl) (by kernel_rfl) rfl rfl rfl (fun _ => Ev.move rfl rfl) ?_
              refine AG.takeW 5 rfl (by kernel_rfl) (by kernel_rfl) rfl rfl rfl (fun _ => Ev.move rfl rfl) ?_
              refine AG.takeW 6 rfl (by kernel_rfl) (by kernel_rfl) rfl rfl rfl (fun _ => (Ev.cutStr (i := 0) (j := j) rfl rfl Try.underlying9 rfl rfl (by omega) (by rw [size_bytes]; omega)).conv (congrArg Value.string (bx_cut T 0 j))) ?_
              refine AG.takeW 7 rfl (by kernel_rfl) (by kernel_rfl) rfl rfl rfl (fun _ => (Ev.cat rfl rfl rfl (by rw [size_bytes, size_bytes, List.length_drop, List.length_take]; show _ + 1 ≤ _; omega)).conv (congrArg Value.string (bx_cat _ [63]))) ?_
              refine AG.takeW 8 rfl (by kernel_rfl) (by kernel_rfl) rfl rfl rfl (fun _ => Ev.move rfl rfl) ?_
              refine AG.takeW 9 rfl (by kernel_rfl) (by kernel_rfl) rfl rfl rfl (fun _ => Ev.move rfl rfl) ?_
              refine AG.takeW 10 rfl (by kernel_rfl) (by kernel_rfl) rfl rfl rfl (fun _ => Ev.addI rfl rfl rfl (by omega)) ?_
              refine AG.takeW 11 rfl (by kernel_rfl) (by kernel_rfl) rfl rfl rfl (fun _ => (Ev.cutStr (i := j + 1) (j := T.length) rfl rfl Try.underlying9 rfl rfl (by omega) (by rw [size_bytes]; exact Nat.le_refl _)).conv (congrArg Value.string (bx_cut T (j + 1) T.length))) ?_
              refine AG.takeW 12 rfl (by kernel_rfl) (by kernel_rfl) rfl rfl rfl (fun _ => (Ev.cat rfl rfl rfl (by rw [size_bytes, size_bytes, List.length_append, List.length_drop, List.length_take, List.length_drop, List.length_take]; show _ + 1 + _ ≤ _; omega)).conv (congrArg Value.string (bx_cat _ _))) ?_
              refine AG.takeW 13 rfl (by kernel_rfl) (by kernel_rfl) rfl rfl rfl (fun _ => Ev.isT (Ev.eqS rfl rfl rfl) (by rw [List.take_length]; rfl)) ?_
              refine AG.takeW 14 rfl (by kernel_rfl) (by kernel_rfl) rfl rfl rfl (fun _ => Ev.pickT rfl rfl rfl) ?_
              refine AG.takeW 15 rfl (by kernel_rfl) (by kernel_rfl) rfl rfl rfl (fun _ => Ev.move rfl rfl) ?_
              refine AG.takeW 16 rfl (by kernel_rfl) (by kernel_rfl) rfl rfl rfl (fun _ => Ev.move rfl rfl) ?_
              refine AG.takeW 17 rfl (by kernel_rfl) (by kernel_rfl) rfl rfl rfl (fun _ => Ev.isT (Ev.eqI rfl rfl rfl) (rfl)) ?_
              refine AG.takeW 18 rfl (by kernel_rfl) (by kernel_rfl) rfl rfl rfl (fun _ => Ev.pickT rfl rfl rfl) ?_
              refine AG.takeW 19 rfl (by kernel_rfl) (by kernel_rfl) rfl rfl rfl (fun _ => Ev.move rfl rfl) ?_
              refine AG.takeW 20 rfl (by kernel_rfl) (by kernel_rfl) rfl rfl rfl (fun _ => Ev.move rfl rfl) ?_
              refine AG.takeW 21 rfl (by kernel_rfl) (by kernel_rfl) rfl rfl rfl (fun _ => Ev.isT (Ev.eqI rfl rfl rfl) (rfl)) ?_
              refine AG.takeW 22 rfl (by kernel_rfl) (by kernel_rfl) rfl rfl rfl (fun _ => Ev.pickT rfl rfl rfl) ?_
              refine AG.takeW 23 rfl (by kernel_rfl) (by kernel_rfl) rfl rfl rfl (fun _ => Ev.move rfl rfl) ?_
              refine AG.takeW 24 rfl (by kernel_rfl) (by kernel_rfl) rfl rfl rfl (fun _ => Ev.move rfl rfl) ?_
              refine AG.takeW 25 rfl (by kernel_rfl) (by kernel_rfl) rfl rfl rfl (fun _ => Ev.pickT rfl rfl rfl) ?_
              refine AG.takeW 26 rfl (by kernel_rfl) (by kernel_rfl) rfl rfl rfl (fun _ => Ev.move rfl rfl) ?_
              refine AG.only 27 rfl (by kernel_rfl) ?_
              refine RG.call rfl rfl rfl rfl rfl rfl rfl en_9 (awake_ret _) ?_
              rintro _ w343 ⟨rfl, hx343⟩
              replace hE305 := Ex.tr hE305 hx343
              replace hE337 := Ex.tr hE337 hx343
              have hE344 := hx343
              refine RG.done ?_
              refine QW.an (fun _ => hE344) ?_
              refine AG.takeW 28 rfl (by kernel_rfl) (by kernel_rfl) rfl rfl rfl (fun _ => Ev.pickT rfl rfl rfl) ?_
              refine AG.takeW 29 rfl (by kernel_rfl) (by kernel_rfl) rfl rfl rfl (fun _ => Ev.assign rfl rfl) ?_
              refine AG.done (by kernel_rfl) ?_
              refine QW.sub (S' := [(6, _)]) ⟨rfl, trivial⟩ ?_
              refine QW.then_ ?_
              refine CW.ret ?_
              refine QW.ret1 rfl rfl ?_
              have hB := (Ex.tr hR297 hE305)
              exact ⟨rfl, hB⟩
          · refine RG.pass rfl rfl rfl ?_
            refine RG.pass rfl rfl rfl ?_
            refine RG.pass rfl rfl rfl ?_
            refine RG.pass rfl rfl rfl ?_
            refine RG.pass rfl rfl rfl ?_
            refine RG.vl rfl rfl rfl (Ev.pickF rfl rfl rfl) ?_
            refine RG.done ?_
            refine QW.sub (S' := [(6, _), (8, _), (12, _), (14, _), (15, _), (17, _), (20, _), (22, _), (23, _), (24, _), (157, _)]) ⟨rfl, rfl, rfl, rfl, rfl, rfl, rfl, rfl, rfl, rfl, rfl, trivial⟩ ?_
            refine QW.then_ ?_
            refine CW.condF rfl ?_
            refine CW.skip ?_
            refine QW.then_ ?_
            refine CW.seq ?_
            refine CW.draw [] (.ex) 30 rfl mixed (fun wd345 hxwd345 => ?_)
            replace hE305 := Ex.tr hE305 hxwd345
            replace hE337 := Ex.tr hE337 hxwd345
            refine AG.takeW 0 rfl (by kernel_rfl) (by kernel_rfl) rfl rfl rfl (fun _ => Ev.move rfl rfl) ?_
            refine AG.takeW 1 rfl (by kernel_rfl) (by kernel_rfl) rfl rfl rfl (fun _ => Ev.isT (Ev.eqI rfl rfl rfl) (rfl)) ?_
            refine AG.takeW 2 rfl (by kernel_rfl) (by kernel_rfl) rfl rfl rfl (fun _ => Ev.move rfl rfl) ?_
            refine AG.takeW 3 rfl (by kernel_rfl) (by kernel_rfl) rfl rfl rfl (fun _ => Ev.move rfl rfl) ?_
            refine AG.takeW 4 rfl (by kernel_rfl) (by kernel_rfl) rfl rfl rfl (fun _ => Ev.move rfl rfl) ?_
            refine AG.takeW 5 rfl (by kernel_rfl) (by kernel_rfl) rfl rfl rfl (fun _ => Ev.move rfl rfl) ?_
            refine AG.takeW 6 rfl (by kernel_rfl) (by kernel_rfl) rfl rfl rfl (fun _ => (Ev.cutStr (i := 0) (j := j) rfl rfl Try.underlying9 rfl rfl (by omega) (by rw [size_bytes]; omega)).conv (congrArg Value.string (bx_cut T 0 j))) ?_
            refine AG.takeW 7 rfl (by kernel_rfl) (by kernel_rfl) rfl rfl rfl (fun _ => (Ev.cat rfl rfl rfl (by rw [size_bytes, size_bytes, List.length_drop, List.length_take]; show _ + 1 ≤ _; omega)).conv (congrArg Value.string (bx_cat _ [63]))) ?_
            refine AG.takeW 8 rfl (by kernel_rfl) (by kernel_rfl) rfl rfl rfl (fun _ => Ev.move rfl rfl) ?_
            refine AG.takeW 9 rfl (by kernel_rfl) (by kernel_rfl) rfl rfl rfl (fun _ => Ev.move rfl rfl) ?_
            refine AG.takeW 10 rfl (by kernel_rfl) (by kernel_rfl) rfl rfl rfl (fun _ => Ev.addI rfl rfl rfl (by omega)) ?_
            refine AG.takeW 11 rfl (by kernel_rfl) (by kernel_rfl) rfl rfl rfl (fun _ => (Ev.cutStr (i := j + 1) (j := T.length) rfl rfl Try.underlying9 rfl rfl (by omega) (by rw [size_bytes]; exact Nat.le_refl _)).conv (congrArg Value.string (bx_cut T (j + 1) T.length))) ?_
            refine AG.takeW 12 rfl (by kernel_rfl) (by kernel_rfl) rfl rfl rfl (fun _ => (Ev.cat rfl rfl rfl (by rw [size_bytes, size_bytes, List.length_append, List.length_drop, List.length_take, List.length_drop, List.length_take]; show _ + 1 + _ ≤ _; omega)).conv (congrArg Value.string (bx_cat _ _))) ?_
            refine AG.takeW 13 rfl (by kernel_rfl) (by kernel_rfl) rfl rfl rfl (fun _ => Ev.isT (Ev.eqS rfl rfl rfl) (by rw [List.take_length]; rfl)) ?_
            refine AG.takeW 14 rfl (by kernel_rfl) (by kernel_rfl) rfl rfl rfl (fun _ => Ev.pickT rfl rfl rfl) ?_
            refine AG.takeW 15 rfl (by kernel_rfl) (by kernel_rfl) rfl rfl rfl (fun _ => Ev.move rfl rfl) ?_
            refine AG.takeW 16 rfl (by kernel_rfl) (by kernel_rfl) rfl rfl rfl (fun _ => Ev.move rfl rfl) ?_
            refine AG.takeW 17 rfl (by kernel_rfl) (by kernel_rfl) rfl rfl rfl (fun _ => Ev.isT (Ev.eqI rfl rfl rfl) (rfl)) ?_
            refine AG.takeW 18 rfl (by kernel_rfl) (by kernel_rfl) rfl rfl rfl (fun _ => Ev.pickT rfl rfl rfl) ?_
            refine AG.takeW 19 rfl (by kernel_rfl) (by kernel_rfl) rfl rfl rfl (fun _ => Ev.move rfl rfl) ?_
            refine AG.takeW 20 rfl (by kernel_rfl) (by kernel_rfl) rfl rfl rfl (fun _ => Ev.move rfl rfl) ?_
            refine AG.takeW 21 rfl (by kernel_rfl) (by kernel_rfl) rfl rfl rfl (fun _ => Ev.isT (Ev.eqI rfl rfl rfl) (rfl)) ?_
            refine AG.takeW 22 rfl (by kernel_rfl) (by kernel_rfl) rfl rfl rfl (fun _ => Ev.pickT rfl rfl rfl) ?_
            refine AG.takeW 23 rfl (by kernel_rfl) (by kernel_rfl) rfl rfl rfl (fun _ => Ev.move rfl rfl) ?_
            refine AG.takeW 24 rfl (by kernel_rfl) (by kernel_rfl) rfl rfl rfl (fun _ => Ev.move rfl rfl) ?_
            refine AG.takeW 25 rfl (by kernel_rfl) (by kernel_rfl) rfl rfl rfl (fun _ => Ev.pickT rfl rfl rfl) ?_
            refine AG.takeW 26 rfl (by kernel_rfl) (by kernel_rfl) rfl rfl rfl (fun _ => Ev.move rfl rfl) ?_
            refine AG.only 27 rfl (by kernel_rfl) ?_
            refine RG.call rfl rfl rfl rfl rfl rfl rfl en_9 (awake_ret _) ?_
            rintro _ w347 ⟨rfl, hx347⟩
            replace hE305 := Ex.tr hE305 hx347
            replace hE337 := Ex.tr hE337 hx347
            have hE348 := hx347
            refine RG.done ?_
            refine QW.an (fun _ => hE348) ?_
            refine AG.takeW 28 rfl (by kernel_rfl) (by kernel_rfl) rfl rfl rfl (fun _ => Ev.pickT rfl rfl rfl) ?_
            refine AG.takeW 29 rfl (by kernel_rfl) (by kernel_rfl) rfl rfl rfl (fun _ => Ev.assign rfl rfl) ?_
            refine AG.done (by kernel_rfl) ?_
            refine QW.sub (S' := [(6, _)]) ⟨rfl, trivial⟩ ?_
            refine QW.then_ ?_
            refine CW.ret ?_
            refine QW.ret1 rfl rfl ?_
            have hB := (Ex.tr hR297 hE305)
            exact ⟨rfl, hB⟩
        · refine RG.pass rfl rfl rfl ?_
          refine RG.pass rfl rfl rfl ?_
          refine RG.pass rfl rfl rfl ?_
          refine RG.pass rfl rfl rfl ?_
          refine RG.pass rfl rfl rfl ?_
          refine RG.vl rfl rfl rfl (Ev.pickF rfl rfl rfl) ?_
          refine RG.vl rfl rfl rfl (Ev.move rfl rfl) ?_
          refine RG.pass rfl rfl rfl ?_
          refine RG.pass rfl rfl rfl ?_
          refine RG.pass rfl rfl rfl ?_
          refine RG.pass rfl rfl rfl ?_
          refine RG.pass rfl rfl rfl ?_
          refine RG.vl rfl rfl rfl (Ev.pickF rfl rfl rfl) ?_
          refine RG.done ?_
          refine QW.sub (S' := [(6, _), (8, _), (12, _), (14, _), (15, _), (17, _), (20, _), (22, _), (23, _), (24, _), (157, _)]) ⟨rfl, rfl, rfl, rfl, rfl, rfl, rfl, rfl, rfl, rfl, rfl, trivial⟩ ?_
          refine QW.then_ ?_
          refine CW.condF rfl ?_
          refine CW.skip ?_
          refine QW.then_ ?_
          refine CW.seq ?_
          refine CW.draw [] (.ex) 30 rfl mixed (fun wd349 hxwd349 => ?_)
          replace hE305 := Ex.tr hE305 hxwd349
          replace hE337 := Ex.tr hE337 hxwd349
          refine AG.takeW 0 rfl (by kernel_rfl) (by kernel_rfl) rfl rfl rfl (fun _ => Ev.move rfl rfl) ?_
          refine AG.takeW 1 rfl (by kernel_rfl) (by kernel_rfl) rfl rfl rfl (fun _ => Ev.isT (Ev.eqI rfl rfl rfl) (rfl)) ?_
          refine AG.takeW 2 rfl (by kernel_rfl) (by kernel_rfl) rfl rfl rfl (fun _ => Ev.move rfl rfl) ?_
          refine AG.takeW 3 rfl (by kernel_rfl) (by kernel_rfl) rfl rfl rfl (fun _ => Ev.move rfl rfl) ?_
          refine AG.takeW 4 rfl (by kernel_rfl) (by kernel_rfl) rfl rfl rfl (fun _ => Ev.move rfl rfl) ?_
          refine AG.takeW 5 rfl (by kernel_rfl) (by kernel_rfl) rfl rfl rfl (fun _ => Ev.move rfl rfl) ?_
          refine AG.takeW 6 rfl (by kernel_rfl) (by kernel_rfl) rfl rfl rfl (fun _ => (Ev.cutStr (i := 0) (j := j) rfl rfl Try.underlying9 rfl rfl (by omega) (by rw [size_bytes]; omega)).conv (congrArg Value.string (bx_cut T 0 j))) ?_
          refine AG.takeW 7 rfl (by kernel_rfl) (by kernel_rfl) rfl rfl rfl (fun _ => (Ev.cat rfl rfl rfl (by rw [size_bytes, size_bytes, List.length_drop, List.length_take]; show _ + 1 ≤ _; omega)).conv (congrArg Value.string (bx_cat _ [63]))) ?_
          refine AG.takeW 8 rfl (by kernel_rfl) (by kernel_rfl) rfl rfl rfl (fun _ => Ev.move rfl rfl) ?_
          refine AG.takeW 9 rfl (by kernel_rfl) (by kernel_rfl) rfl rfl rfl (fun _ => Ev.move rfl rfl) ?_
          refine AG.takeW 10 rfl (by kernel_rfl) (by kernel_rfl) rfl rfl rfl (fun _ => Ev.addI rfl rfl rfl (by omega)) ?_
          refine AG.takeW 11 rfl (by kernel_rfl) (by kernel_rfl) rfl rfl rfl (fun _ => (Ev.cutStr (i := j + 1) (j := T.length) rfl rfl Try.underlying9 rfl rfl (by omega) (by rw [size_bytes]; exact Nat.le_refl _)).conv (congrArg Value.string (bx_cut T (j + 1) T.length))) ?_
          refine AG.takeW 12 rfl (by kernel_rfl) (by kernel_rfl) rfl rfl rfl (fun _ => (Ev.cat rfl rfl rfl (by rw [size_bytes, size_bytes, List.length_append, List.length_drop, List.length_take, List.length_drop, List.length_take]; show _ + 1 + _ ≤ _; omega)).conv (congrArg Value.string (bx_cat _ _))) ?_
          refine AG.takeW 13 rfl (by kernel_rfl) (by kernel_rfl) rfl rfl rfl (fun _ => Ev.isT (Ev.eqS rfl rfl rfl) (by rw [List.take_length]; rfl)) ?_
          refine AG.takeW 14 rfl (by kernel_rfl) (by kernel_rfl) rfl rfl rfl (fun _ => Ev.pickT rfl rfl rfl) ?_
          refine AG.takeW 15 rfl (by kernel_rfl) (by kernel_rfl) rfl rfl rfl (fun _ => Ev.move rfl rfl) ?_
          refine AG.takeW 16 rfl (by kernel_rfl) (by kernel_rfl) rfl rfl rfl (fun _ => Ev.move rfl rfl) ?_
          refine AG.takeW 17 rfl (by kernel_rfl) (by kernel_rfl) rfl rfl rfl (fun _ => Ev.isT (Ev.eqI rfl rfl rfl) (rfl)) ?_
          refine AG.takeW 18 rfl (by kernel_rfl) (by kernel_rfl) rfl rfl rfl (fun _ => Ev.pickT rfl rfl rfl) ?_
          refine AG.takeW 19 rfl (by kernel_rfl) (by kernel_rfl) rfl rfl rfl (fun _ => Ev.move rfl rfl) ?_
          refine AG.takeW 20 rfl (by kernel_rfl) (by kernel_rfl) rfl rfl rfl (fun _ => Ev.move rfl rfl) ?_
          refine AG.takeW 21 rfl (by kernel_rfl) (by kernel_rfl) rfl rfl rfl (fun _ => Ev.isT (Ev.eqI rfl rfl rfl) (rfl)) ?_
          refine AG.takeW 22 rfl (by kernel_rfl) (by kernel_rfl) rfl rfl rfl (fun _ => Ev.pickT rfl rfl rfl) ?_
          refine AG.takeW 23 rfl (by kernel_rfl) (by kernel_rfl) rfl rfl rfl (fun _ => Ev.move rfl rfl) ?_
          refine AG.takeW 24 rfl (by kernel_rfl) (by kernel_rfl) rfl rfl rfl (fun _ => Ev.move rfl rfl) ?_
          refine AG.takeW 25 rfl (by kernel_rfl) (by kernel_rfl) rfl rfl rfl (fun _ => Ev.pickT rfl rfl rfl) ?_
          refine AG.takeW 26 rfl (by kernel_rfl) (by kernel_rfl) rfl rfl rfl (fun _ => Ev.move rfl rfl) ?_
          refine AG.only 27 rfl (by kernel_rfl) ?_
          refine RG.call rfl rfl rfl rfl rfl rfl rfl en_9 (awake_ret _) ?_
          rintro _ w351 ⟨rfl, hx351⟩
          replace hE305 := Ex.tr hE305 hx351
          replace hE337 := Ex.tr hE337 hx351
          have hE352 := hx351
          refine RG.done ?_
          refine QW.an (fun _ => hE352) ?_
          refine AG.takeW 28 rfl (by kernel_rfl) (by kernel_rfl) rfl rfl rfl (fun _ => Ev.pickT rfl rfl rfl) ?_
          refine AG.takeW 29 rfl (by kernel_rfl) (by kernel_rfl) rfl rfl rfl (fun _ => Ev.assign rfl rfl) ?_
          refine AG.done (by kernel_rfl) ?_
          refine QW.sub (S' := [(6, _)]) ⟨rfl, trivial⟩ ?_
          refine QW.then_ ?_
          refine CW.ret ?_
          refine QW.ret1 rfl rfl ?_
          have hB := (Ex.tr hR297 hE305)
          exact ⟨rfl, hB⟩

end Go.Proofs.Ytnecppiamecemaa
