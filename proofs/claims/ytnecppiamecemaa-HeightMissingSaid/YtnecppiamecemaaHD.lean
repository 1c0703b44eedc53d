/- Chapter 21: walks (HD). Written by program. -/
import Derived.Test.YtnecppiamecemaaT
import Derived.Test.YtnecppiamecemaaHC
namespace Go.Proofs.Ytnecppiamecemaa
open Go.RowKit
set_option maxRecDepth 100000 in
set_option maxHeartbeats 1000000 in
theorem rdraw_ret (s : Su) (t : ByteArray) (w : World) (hlen : t.size ≤ 1000) :
    Ret Try.prog 19 [s.v, .string t] w (fun v w' => ∃ u, v = .tuple #[u, .int .i64 (drawErr s t.data.toList)] ∧ RdL w' 3 Br.c u (drawOf s t.data.toList) ∧ Ex w w') := by
  have hB0 : Ex w w := Ex.rfl_ _
  refine Ret.of Try.func19 rfl Try.ntmps19 rfl ?_
  refine CW.seq ?_
  refine CW.region ?_
  refine RG.box rfl rfl rfl rfl rfl (fun g1 w1 eg1 hx1 hb1 => ?_)
  have hE2 := hx1
  refine RG.vl rfl rfl rfl (Ev.assign rfl rfl) ?_
  refine RG.vl rfl rfl rfl (Ev.assign rfl rfl) ?_
  refine RG.done ?_
  refine QW.then_ ?_
  refine CW.seq ?_
  refine CW.seq ?_
  refine CW.region ?_
  refine RG.vl rfl rfl rfl (Ev.ldAgg rfl rfl Try.underlying31 rfl sz_31 rfl (hb1.cells)) ?_
  refine RG.call rfl rfl rfl rfl rfl rfl rfl en_16 (rright_ret _ _) ?_
  rintro _ w3 ⟨rfl, hx3⟩
  replace hE2 := Ex.tr hE2 hx3
  have hE4 := hx3
  refine RG.vl rfl rfl rfl (Ev.notP rfl rfl) ?_
  refine RG.vl rfl rfl rfl (Ev.move rfl rfl) ?_
  refine RG.split (d := 12) rfl (fun hg5 => ?_) (fun hg5 => ?_)
  · refine RG.pass rfl rfl rfl ?_
    refine RG.pass rfl rfl rfl ?_
    refine RG.pass rfl rfl rfl ?_
    refine RG.pass rfl rfl rfl ?_
    refine RG.pass rfl rfl rfl ?_
    refine RG.vl rfl rfl rfl (Ev.pickT rfl rfl rfl) ?_
    refine RG.done ?_
    refine QW.then_ ?_
    refine CW.condT rfl ?_
    refine CW.seq ?_
    refine CW.region ?_
    refine RG.vl rfl rfl rfl (Ev.assign rfl rfl) ?_
    refine RG.vl rfl rfl rfl (Ev.assign rfl rfl) ?_
    refine RG.done ?_
    refine QW.sub (S' := [(1, _), (2, _), (4, _), (5, _)]) ⟨rfl, rfl, rfl, rfl, trivial⟩ ?_
    refine QW.then_ ?_
    refine CW.ret ?_
    refine QW.thenRet ?_
    refine QW.ret2 rfl rfl rfl ?_
    have hB := (Ex.tr hB0 hE2)
    obtain ⟨e1, e2⟩ := drawErr_bad s t.data.toList (by rintro ⟨h1, h2, _⟩; first | exact absurd h1 (by assumption) | (rw [Array.length_toList] at h2; exact absurd (show (t.size : Int) = s.pl from h2) (by assumption)))
    exact ⟨_, by rw [e1], by rw [e2]; exact RdL.nil_ _, hB⟩
  · refine RG.vl rfl rfl rfl (Ev.move rfl rfl) ?_
    refine RG.vl rfl rfl rfl (Ev.lenStr rfl rfl rfl Try.underlying9) ?_
    refine RG.vl rfl rfl rfl (Ev.fld rfl rfl fld_31_0) ?_
    refine RG.vl rfl rfl rfl (Ev.ldAt rfl rfl Try.underlying3 rfl ((hb1.ext hE4).cells) (rfl)) ?_
    refine RG.vl rfl rfl rfl (Ev.neI rfl rfl rfl) ?_
    refine RG.vl rfl rfl rfl (Ev.pickF rfl rfl rfl) ?_
    refine RG.done ?_
    refine QW.then_ ?_
    refine CW.condP rfl (fun hc6 => ?_) (fun hc6 => ?_)
    · refine CW.seq ?_
      refine CW.region ?_
      refine RG.vl rfl rfl rfl (Ev.assign rfl rfl) ?_
      refine RG.vl rfl rfl rfl (Ev.assign rfl rfl) ?_
      refine RG.done ?_
      refine QW.sub (S' := [(1, _), (2, _), (4, _), (5, _)]) ⟨rfl, rfl, rfl, rfl, trivial⟩ ?_
      refine QW.then_ ?_
      refine CW.ret ?_
      refine QW.thenRet ?_
      refine QW.ret2 rfl rfl rfl ?_
      have hB := (Ex.tr hB0 hE2)
      obtain ⟨e1, e2⟩ := drawErr_bad s t.data.toList (by rintro ⟨h1, h2, _⟩; first | exact absurd h1 (by assumption) | (rw [Array.length_toList] at h2; exact absurd (show (t.size : Int) = s.pl from h2) (by assumption)))
      exact ⟨_, by rw [e1], by rw [e2]; exact RdL.nil_ _, hB⟩
    · refine CW.skip ?_
      refine QW.then_ ?_
      refine CW.seq ?_
      have hs : Okay s := Decidable.not_not.1 (by assumption)
      obtain ⟨a1, a2, a3, a4, a5, a6, a7, a8, a9, a10, a11⟩ := id hs
      refine CW.region ?_
      refine RG.vl rfl rfl rfl (Ev.assign rfl rfl) ?_
      refine RG.done ?_
      refine QW.sub (S' := [(1, _), (2, _), (4, _), (5, _), (6, _)]) ⟨rfl, rfl, rfl, rfl, rfl, trivial⟩ ?_
      refine QW.then_ ?_
      refine CW.seq ?_
      refine CW.seq ?_
      refine CW.region ?_
      refine RG.vl rfl rfl rfl (Ev.assign rfl rfl) ?_
      refine RG.done ?_
      refine QW.then_ ?_
      refine CW.block ?_
      replace hb1 := (hb1.ext hE4)
      have hR7 := (Ex.tr hB0 hE2)
      refine CW.loop2 [(1, _), (2, _)] ⟨rfl, rfl, trivial⟩ (fun (k : Nat) (u : Value) => [(7, .int .i64 k), (6, u)]) (fun k u w' => (k ≤ t.size ∧ w'.ownsRow w3.heap.size 47 3 u (drawL s (t.data.toList.take k) 0).length ((drawL s (t.data.toList.take k) 0).flatMap Br.c) ∧ (t.data.toList.take k).all okLetter = true) ∧ Ex w3 w') (fun k u => t.size - k) (0) (.slice none 0 0) ⟨rfl, rfl, trivial⟩ ⟨⟨Nat.zero_le _, own_nil _ _ _ _, rfl⟩, (Ex.rfl_ _)⟩ ?_
      rintro k u wl8 ⟨⟨hkl, hown, hall⟩, hxwl8⟩
      refine CW.sub (S' := [(7, _), (6, _), (1, _), (2, _)]) ⟨rfl, rfl, rfl, rfl, trivial⟩ ?_
      refine CW.seq ?_
      refine CW.seq ?_
      refine CW.region ?_
      refine RG.vl rfl rfl rfl (Ev.move rfl rfl) ?_
      refine RG.vl rfl rfl rfl (Ev.move rfl rfl) ?_
      refine RG.vl rfl rfl rfl (Ev.lenStr rfl rfl rfl Try.underlying9) ?_
      refine RG.vl rfl rfl rfl (Ev.lss rfl rfl rfl) ?_
      refine RG.done ?_
      refine QW.then_ ?_
      refine CW.condP rfl (fun hc9 => ?_) (fun hc9 => ?_)
      · refine CW.skip ?_
        refine QW.then_ ?_
        refine CW.seq ?_
        refine CW.block ?_
        refine CW.seq ?_
        have hkt : k < t.data.toList.length := by rw [Array.length_toList]; exact (show k < t.size by omega)
        obtain ⟨c, hc⟩ : ∃ c, t.data.toList[k]? = some c := ⟨_, List.getElem?_eq_getElem hkt⟩
        have hlz : t.data.toList.length = t.size := Array.length_toList
        have hkp := kpi s k hs (by omega) (by omega)
        have hdl := drawL_len s (t.data.toList.take k) 0
        rw [List.length_take] at hdl
        refine CW.region ?_
        refine RG.vl rfl rfl rfl (Ev.fld rfl rfl fld_31_1) ?_
        refine RG.vl rfl rfl rfl (Ev.ldAt rfl rfl Try.underlying3 rfl ((hb1.ext hxwl8).cells) (rfl)) ?_
        refine RG.vl rfl rfl rfl (Ev.move rfl rfl) ?_
        refine RG.vl rfl rfl rfl (Ev.fld rfl rfl fld_31_2) ?_
        refine RG.vl rfl rfl rfl (Ev.ldAt rfl rfl Try.underlying3 rfl ((hb1.ext hxwl8).cells) (rfl)) ?_
        refine RG.vl rfl rfl rfl (Ev.mulI rfl rfl rfl (by omega)) ?_
        refine RG.vl rfl rfl rfl (Ev.addI rfl rfl rfl (by omega)) ?_
        refine RG.vl rfl rfl rfl (Ev.fld rfl rfl fld_31_4) ?_
        refine RG.vl rfl rfl rfl (Ev.ldAt rfl rfl Try.underlying3 rfl ((hb1.ext hxwl8).cells) (rfl)) ?_
        refine RG.vl rfl rfl rfl (Ev.fld rfl rfl fld_31_4) ?_
        refine RG.vl rfl rfl rfl (Ev.ldAt rfl rfl Try.underlying3 rfl ((hb1.ext hxwl8).cells) (rfl)) ?_
        refine RG.vl rfl rfl rfl (Ev.build1 rfl rfl rfl inf_47 rfl rfl (by kernel_rfl) rfl) ?_
        refine RG.local_ rfl rfl rfl rfl (fun _ => rfl) rfl rfl (fun _ => rfl) inf_47 rfl rfl rfl (fun g10 w10 eg10 hx10 hb10 => ?_)
        have hle11 : w3.heap.size ≤ g10 := by have := hxwl8.size; omega
        have hle12 : wl8.heap.size ≤ g10 := by have := (Ex.rfl_ wl8).size; omega
        have hlt13 : g1 < g10 := by have := Blk.lt (hb1.ext hxwl8); omega
        replace hxwl8 := Ex.tr hxwl8 hx10
        have hE14 := hx10
        refine RG.done ?_
        refine QW.sub (S' := [(1, _), (2, _), (6, _), (7, _), (8, _)]) ⟨rfl, rfl, rfl, rfl, rfl, trivial⟩ ?_
        refine QW.then_ ?_
        refine CW.seq ?_
        refine CW.seq ?_
        refine CW.region ?_
        refine RG.vl rfl rfl rfl (Ev.move rfl rfl) ?_
        refine RG.vl rfl rfl rfl (Ev.move rfl rfl) ?_
        refine RG.vl rfl rfl rfl (Ev.byteAt rfl rfl rfl Try.underlying9 (by omega) (hc)) ?_
        refine RG.done ?_
        refine QW.then_ ?_
        refine CW.block ?_
        refine CW.seq ?_
        refine CW.region ?_
        refine RG.vl rfl rfl rfl (Ev.eqI rfl rfl rfl) ?_
        refine RG.vl rfl rfl rfl (Ev.assign rfl rfl) ?_
        refine RG.done ?_
        refine QW.then_ ?_
        refine CW.condP rfl (fun hc15 => ?_) (fun hc15 => ?_)
        · refine CW.region ?_
          refine RG.vl rfl rfl rfl (Ev.fld rfl rfl fld_31_5) ?_
          refine RG.vl rfl rfl rfl (Ev.ldAt rfl rfl Try.underlying3 rfl ((hb1.ext hxwl8).cells) (rfl)) ?_
          refine RG.vl rfl rfl rfl (Ev.fld rfl rfl fld_47_1) ?_
          refine RG.st (g := g10) (k := 1) rfl rfl rfl rfl rfl sz_3 rfl hb10 rfl (fun ws16 hwws16 hbws16 => ?_)
          replace hxwl8 := Wr.below hxwl8 hwws16 hle11
          replace hE14 := Wr.below hE14 hwws16 hle12
          refine RG.done ?_
          refine QW.blockN ?_
          refine QW.then_ ?_
          refine CW.seq ?_
          refine CW.region ?_
          refine RG.vl rfl rfl rfl (Ev.move rfl rfl) ?_
          refine RG.vl rfl rfl rfl (Ev.move rfl rfl) ?_
          refine RG.vl rfl rfl rfl (Ev.byteAt rfl rfl rfl Try.underlying9 (by omega) (hc)) ?_
          refine RG.vl rfl rfl rfl (Ev.isT (Ev.neI rfl rfl rfl) (by omega)) ?_
          refine RG.done ?_
          refine QW.then_ ?_
          refine CW.condT rfl ?_
          refine CW.region ?_
          refine RG.vl rfl rfl rfl (Ev.move rfl rfl) ?_
          refine RG.vl rfl rfl rfl (Ev.ldAgg rfl rfl Try.underlying47 rfl sz_47 rfl (hbws16.cells)) ?_
          refine RG.buildD (xs := [.tmp 66]) rfl rfl rfl rfl rfl rfl rfl Try.underlying34 inf_47 rfl rfl rfl rfl (fun g17 w17 eg17 hx17 hb17 => ?_)
          have hsep18 := own_new (own_ext hown hE14) eg17
          replace hxwl8 := Ex.tr hxwl8 hx17
          replace hE14 := Ex.tr hE14 hx17
          have hE19 := hx17
          refine RG.app rfl rfl rfl rfl rfl rfl rfl Try.underlying34 inf_47 rfl rfl (own_ext hown hE14) rfl (fun _ => ⟨_, rfl, hb17.cells⟩) rfl (by simp only [maxLen]; omega) (by omega) (hxwl8.size) (fun v20 wa21 hown22 hgr23 hat24 => ?_)
          have hb25 := Blk.grown hb17 hgr23 hsep18.symm
          have hsep26 := sep_app hat24 hsep18 (Blk.lt hb17)
          replace hxwl8 := own_block (own_ext hown hE14) hxwl8 hgr23 (Nat.le_refl _) hxwl8.size
          refine RG.vl rfl rfl rfl (Ev.assign rfl rfl) ?_
          refine RG.done ?_
          refine QW.sub (S' := [(1, _), (2, _), (6, _), (7, _)]) ⟨rfl, rfl, rfl, rfl, trivial⟩ ?_
          refine QW.blockN ?_
          refine QW.then_ ?_
          refine CW.region ?_
          refine RG.vl rfl rfl rfl (Ev.move rfl rfl) ?_
          refine RG.vl rfl rfl rfl (Ev.addI rfl rfl rfl (by omega)) ?_
          refine RG.vl rfl rfl rfl (Ev.assign rfl rfl) ?_
          refine RG.done ?_
          refine QW.round2 (k + 1) (v20) ⟨rfl, rfl, trivial⟩ ⟨rfl, rfl, trivial⟩ ⟨⟨by omega, by rw [drawL_step s _ k c hc (by rw [byte_eq (c := c) (d := 65) (by assumption)]; decide), byte_eq (c := c) (d := 65) (by assumption), show mkb s 65 k = ⟨s.og + k * s.pi, s.hi, s.lo⟩ from by simp [mkb], List.length_append, List.flatMap_append]; exact hown22, all_snoc _ k c _ hc hall (by rw [byte_eq (c := c) (d := 65) (by assumption)]; rfl)⟩, hxwl8⟩ (by omega)
        · refine CW.seq ?_
          refine CW.region ?_
          refine RG.vl rfl rfl rfl (Ev.eqI rfl rfl rfl) ?_
          refine RG.vl rfl rfl rfl (Ev.assign rfl rfl) ?_
          refine RG.done ?_
          refine QW.then_ ?_
          refine CW.condP rfl (fun hc27 => ?_) (fun hc27 => ?_)
          · refine CW.region ?_
            refine RG.vl rfl rfl rfl (Ev.fld rfl rfl fld_31_5) ?_
            refine RG.vl rfl rfl rfl (Ev.ldAt rfl rfl Try.underlying3 rfl ((hb1.ext hxwl8).cells) (rfl)) ?_
            refine RG.vl rfl rfl rfl (Ev.fld rfl rfl fld_47_2) ?_
            refine RG.st (g := g10) (k := 2) rfl rfl rfl rfl rfl sz_3 rfl hb10 rfl (fun ws28 hwws28 hbws28 => ?_)
            replace hxwl8 := Wr.below hxwl8 hwws28 hle11
            replace hE14 := Wr.below hE14 hwws28 hle12
            refine RG.done ?_
            refine QW.blockN ?_
            refine QW.then_ ?_
            refine CW.seq ?_
            refine CW.region ?_
            refine RG.vl rfl rfl rfl (Ev.move rfl rfl) ?_
            refine RG.vl rfl rfl rfl (Ev.move rfl rfl) ?_
            refine RG.vl rfl rfl rfl (Ev.byteAt rfl rfl rfl Try.underlying9 (by omega) (hc)) ?_
            refine RG.vl rfl rfl rfl (Ev.isT (Ev.neI rfl rfl rfl) (by omega)) ?_
            refine RG.done ?_
            refine QW.sub (S' := [(1, _), (2, _), (6, _), (7, _), (8, _), (64, _)]) ⟨rfl, rfl, rfl, rfl, rfl, rfl, trivial⟩ ?_
            refine QW.then_ ?_
            refine CW.condT rfl ?_
            refine CW.region ?_
            refine RG.vl rfl rfl rfl (Ev.move rfl rfl) ?_
            refine RG.vl rfl rfl rfl (Ev.ldAgg rfl rfl Try.underlying47 rfl sz_47 rfl (hbws28.cells)) ?_
            refine RG.buildD (xs := [.tmp 66]) rfl rfl rfl rfl rfl rfl rfl Try.underlying34 inf_47 rfl rfl rfl rfl (fun g29 w29 eg29 hx29 hb29 => ?_)
            have hsep30 := own_new (own_ext hown hE14) eg29
            replace hxwl8 := Ex.tr hxwl8 hx29
            replace hE14 := Ex.tr hE14 hx29
            have hE31 := hx29
            refine RG.app rfl rfl rfl rfl rfl rfl rfl Try.underlying34 inf_47 rfl rfl (own_ext hown hE14) rfl (fun _ => ⟨_, rfl, hb29.cells⟩) rfl (by simp only [maxLen]; omega) (by omega) (hxwl8.size) (fun v32 wa33 hown34 hgr35 hat36 => ?_)
            have hb37 := Blk.grown hb29 hgr35 hsep30.symm
            have hsep38 := sep_app hat36 hsep30 (Blk.lt hb29)
            replace hxwl8 := own_block (own_ext hown hE14) hxwl8 hgr35 (Nat.le_refl _) hxwl8.size
            refine RG.vl rfl rfl rfl (Ev.assign rfl rfl) ?_
            refine RG.done ?_
            refine QW.blockN ?_
            refine QW.then_ ?_
            refine CW.region ?_
            refine RG.vl rfl rfl rfl (Ev.move rfl rfl) ?_
            refine RG.vl rfl rfl rfl (Ev.addI rfl rfl rfl (by omega)) ?_
            refine RG.vl rfl rfl rfl (Ev.assign rfl rfl) ?_
            refine RG.done ?_
            refine QW.round2 (k + 1) (v32) ⟨rfl, rfl, trivial⟩ ⟨rfl, rfl, trivial⟩ ⟨⟨by omega, by rw [drawL_step s _ k c hc (by rw [byte_eq (c := c) (d := 68) (by assumption)]; decide), byte_eq (c := c) (d := 68) (by assumption), show mkb s 68 k = ⟨s.og + k * s.pi, s.lo, s.hi⟩ from by simp [mkb], List.length_append, List.flatMap_append]; exact hown34, all_snoc _ k c _ hc hall (by rw [byte_eq (c := c) (d := 68) (by assumption)]; rfl)⟩, hxwl8⟩ (by omega)
          · refine CW.seq ?_
            refine CW.region ?_
            refine RG.vl rfl rfl rfl (Ev.eqI rfl rfl rfl) ?_
            refine RG.vl rfl rfl rfl (Ev.assign rfl rfl) ?_
            refine RG.done ?_
            refine QW.then_ ?_
            refine CW.condP rfl (fun hc39 => ?_) (fun hc39 => ?_)
            · refine CW.draw [] (.row g10) 8 rfl mixed (fun wd40 hxwd40 => ?_)
              replace hxwl8 := Ex.tr hxwl8 hxwd40
              replace hE14 := Ex.tr hE14 hxwd40
              have hE41 := hxwd40
              refine AG.takeW 0 rfl (by kernel_rfl) (by kernel_rfl) rfl rfl rfl (fun _ => Ev.fld rfl rfl fld_31_5) ?_
              refine AG.take 1 rfl (by kernel_rfl) (by kernel_rfl) rfl rfl rfl (fun wq hq => Ev.ldAt rfl rfl Try.underlying3 rfl ((Blk.grown (hb1.ext hxwl8) hq (by simp; omega)).cells) (rfl)) ?_
              refine AG.takeW 2 rfl (by kernel_rfl) (by kernel_rfl) rfl rfl rfl (fun _ => Ev.fld rfl rfl fld_31_5) ?_
              refine AG.take 3 rfl (by kernel_rfl) (by kernel_rfl) rfl rfl rfl (fun wq hq => Ev.ldAt rfl rfl Try.underlying3 rfl ((Blk.grown (hb1.ext hxwl8) hq (by simp; omega)).cells) (rfl)) ?_
              refine AG.takeW 4 rfl (by kernel_rfl) (by kernel_rfl) rfl rfl rfl (fun _ => Ev.fld rfl rfl fld_47_1) ?_
              refine AG.only 5 rfl (by kernel_rfl) ?_
              refine RG.st (g := g10) (k := 1) rfl rfl rfl rfl rfl sz_3 rfl (hb10.ext hE41) rfl (fun ws43 hwws43 hbws43 => ?_)
              replace hxwl8 := Wr.below hxwl8 hwws43 hle11
              replace hE14 := Wr.below hE14 hwws43 hle12
              refine RG.done ?_
              refine QW.an (fun _ => Rr.of_wr hwws43) ?_
              refine AG.takeW 6 rfl (by kernel_rfl) (by kernel_rfl) rfl rfl rfl (fun _ => Ev.fld rfl rfl fld_47_2) ?_
              refine AG.only 7 rfl (by kernel_rfl) ?_
              refine RG.st (g := g10) (k := 2) rfl rfl rfl rfl rfl sz_3 rfl hbws43 rfl (fun ws45 hwws45 hbws45 => ?_)
              replace hxwl8 := Wr.below hxwl8 hwws45 hle11
              replace hE14 := Wr.below hE14 hwws45 hle12
              refine RG.done ?_
              refine QW.an (fun _ => Rr.of_wr hwws45) ?_
              refine AG.done (by kernel_rfl) ?_
              refine QW.sub (S' := [(1, _), (2, _), (6, _), (7, _), (8, _)]) ⟨rfl, rfl, rfl, rfl, rfl, trivial⟩ ?_
              refine QW.blockN ?_
              refine QW.then_ ?_
              refine CW.seq ?_
              refine CW.region ?_
              refine RG.vl rfl rfl rfl (Ev.move rfl rfl) ?_
              refine RG.vl rfl rfl rfl (Ev.move rfl rfl) ?_
              refine RG.vl rfl rfl rfl (Ev.byteAt rfl rfl rfl Try.underlying9 (by omega) (hc)) ?_
              refine RG.vl rfl rfl rfl (Ev.isT (Ev.neI rfl rfl rfl) (by omega)) ?_
              refine RG.done ?_
              refine QW.then_ ?_
              refine CW.condT rfl ?_
              refine CW.region ?_
              refine RG.vl rfl rfl rfl (Ev.move rfl rfl) ?_
              refine RG.vl rfl rfl rfl (Ev.ldAgg rfl rfl Try.underlying47 rfl sz_47 rfl (hbws45.cells)) ?_
              refine RG.buildD (xs := [.tmp 66]) rfl rfl rfl rfl rfl rfl rfl Try.underlying34 inf_47 rfl rfl rfl rfl (fun g46 w46 eg46 hx46 hb46 => ?_)
              have hsep47 := own_new (own_ext hown hE14) eg46
              replace hxwl8 := Ex.tr hxwl8 hx46
              replace hE14 := Ex.tr hE14 hx46
              have hE48 := hx46
              refine RG.app rfl rfl rfl rfl rfl rfl rfl Try.underlying34 inf_47 rfl rfl (own_ext hown hE14) rfl (fun _ => ⟨_, rfl, hb46.cells⟩) rfl (by simp only [maxLen]; omega) (by omega) (hxwl8.size) (fun v49 wa50 hown51 hgr52 hat53 => ?_)
              have hb54 := Blk.grown hb46 hgr52 hsep47.symm
              have hsep55 := sep_app hat53 hsep47 (Blk.lt hb46)
              replace hxwl8 := own_block (own_ext hown hE14) hxwl8 hgr52 (Nat.le_refl _) hxwl8.size
              refine RG.vl rfl rfl rfl (Ev.assign rfl rfl) ?_
              refine RG.done ?_
              refine QW.blockN ?_
              refine QW.then_ ?_
              refine CW.region ?_
              refine RG.vl rfl rfl rfl (Ev.move rfl rfl) ?_
              refine RG.vl rfl rfl rfl (Ev.addI rfl rfl rfl (by omega)) ?_
              refine RG.vl rfl rfl rfl (Ev.assign rfl rfl) ?_
              refine RG.done ?_
              refine QW.round2 (k + 1) (v49) ⟨rfl, rfl, trivial⟩ ⟨rfl, rfl, trivial⟩ ⟨⟨by omega, by rw [drawL_step s _ k c hc (by rw [byte_eq (c := c) (d := 70) (by assumption)]; decide), byte_eq (c := c) (d := 70) (by assumption), show mkb s 70 k = ⟨s.og + k * s.pi, s.hi, s.hi⟩ from by simp [mkb], List.length_append, List.flatMap_append]; exact hown51, all_snoc _ k c _ hc hall (by rw [byte_eq (c := c) (d := 70) (by assumption)]; rfl)⟩, hxwl8⟩ (by omega)
            · refine CW.seq ?_
              refine CW.seq ?_
              refine CW.region ?_
              refine RG.vl rfl rfl rfl (Ev.eqI rfl rfl rfl) ?_
              refine RG.vl rfl rfl rfl (Ev.assign rfl rfl) ?_
              refine RG.done ?_
              refine QW.then_ ?_
              refine CW.condP rfl (fun hc56 => ?_) (fun hc56 => ?_)
              · refine CW.skip ?_
                refine QW.then_ ?_
                refine CW.condP rfl (fun hc57 => ?_) (fun hc57 => ?_)
                · refine CW.skip ?_
                  refine QW.blockN ?_
                  refine QW.then_ ?_
                  refine CW.seq ?_
                  refine CW.region ?_
                  refine RG.vl rfl rfl rfl (Ev.move rfl rfl) ?_
                  refine RG.vl rfl rfl rfl (Ev.move rfl rfl) ?_
                  refine RG.vl rfl rfl rfl (Ev.byteAt rfl rfl rfl Try.underlying9 (by omega) (hc)) ?_
                  refine RG.vl rfl rfl rfl (Ev.isT (Ev.neI rfl rfl rfl) (by omega)) ?_
                  refine RG.done ?_
                  refine QW.sub (S' := [(1, _), (2, _), (6, _), (7, _), (8, _), (64, _)]) ⟨rfl, rfl, rfl, rfl, rfl, rfl, trivial⟩ ?_
                  refine QW.then_ ?_
                  refine CW.condT rfl ?_
                  refine CW.region ?_
                  refine RG.vl rfl rfl rfl (Ev.move rfl rfl) ?_
                  refine RG.vl rfl rfl rfl (Ev.ldAgg rfl rfl Try.underlying47 rfl sz_47 rfl (hb10.cells)) ?_
                  refine RG.buildD (xs := [.tmp 66]) rfl rfl rfl rfl rfl rfl rfl Try.underlying34 inf_47 rfl rfl rfl rfl (fun g58 w58 eg58 hx58 hb58 => ?_)
                  have hsep59 := own_new (own_ext hown hE14) eg58
                  replace hxwl8 := Ex.tr hxwl8 hx58
                  replace hE14 := Ex.tr hE14 hx58
                  have hE60 := hx58
                  refine RG.app rfl rfl rfl rfl rfl rfl rfl Try.underlying34 inf_47 rfl rfl (own_ext hown hE14) rfl (fun _ => ⟨_, rfl, hb58.cells⟩) rfl (by simp only [maxLen]; omega) (by omega) (hxwl8.size) (fun v61 wa62 hown63 hgr64 hat65 => ?_)
                  have hb66 := Blk.grown hb58 hgr64 hsep59.symm
                  have hsep67 := sep_app hat65 hsep59 (Blk.lt hb58)
                  replace hxwl8 := own_block (own_ext hown hE14) hxwl8 hgr64 (Nat.le_refl _) hxwl8.size
                  refine RG.vl rfl rfl rfl (Ev.assign rfl rfl) ?_
                  refine RG.done ?_
                  refine QW.blockN ?_
                  refine QW.then_ ?_
                  refine CW.region ?_
                  refine RG.vl rfl rfl rfl (Ev.move rfl rfl) ?_
                  refine RG.vl rfl rfl rfl (Ev.addI rfl rfl rfl (by omega)) ?_
                  refine RG.vl rfl rfl rfl (Ev.assign rfl rfl) ?_
                  refine RG.done ?_
                  refine QW.round2 (k + 1) (v61) ⟨rfl, rfl, trivial⟩ ⟨rfl, rfl, trivial⟩ ⟨⟨by omega, by rw [drawL_step s _ k c hc (by rw [byte_eq (c := c) (d := 84) (by assumption)]; decide), byte_eq (c := c) (d := 84) (by assumption), show mkb s 84 k = ⟨s.og + k * s.pi, s.lo, s.lo⟩ from by simp [mkb], List.length_append, List.flatMap_append]; exact hown63, all_snoc _ k c _ hc hall (by rw [byte_eq (c := c) (d := 84) (by assumption)]; rfl)⟩, hxwl8⟩ (by omega)
                · refine CW.seq ?_
                  refine CW.region ?_
                  refine RG.vl rfl rfl rfl (Ev.assign rfl rfl) ?_
                  refine RG.vl rfl rfl rfl (Ev.assign rfl rfl) ?_
                  refine RG.done ?_
                  refine QW.then_ ?_
                  refine CW.ret ?_
                  refine QW.blockR ?_
                  refine QW.thenRet ?_
                  refine QW.blockR ?_
                  refine QW.thenRet ?_
                  refine QW.thenRet ?_
                  refine QW.blockR ?_
                  refine QW.thenRet ?_
                  refine QW.ret2 rfl rfl rfl ?_
                  have hB := (Ex.tr hR7 hxwl8)
                  obtain ⟨e1, e2⟩ := drawErr_bad s t.data.toList (by rintro ⟨_, _, h3⟩; have := (List.all_eq_true.1 h3) c (List.mem_of_getElem? hc); rw [okLetter_not ⟨by omega, by omega, by omega, by omega, by omega⟩] at this; cases this)
                  exact ⟨_, by rw [e1], by rw [e2]; exact RdL.nil_ _, hB⟩
              · refine CW.region ?_
                refine RG.vl rfl rfl rfl (Ev.eqI rfl rfl rfl) ?_
                refine RG.vl rfl rfl rfl (Ev.assign rfl rfl) ?_
                refine RG.done ?_
                refine QW.then_ ?_
                refine CW.condP rfl (fun hc68 => ?_) (fun hc68 => ?_)
                · refine CW.skip ?_
                  refine QW.blockN ?_
                  refine QW.then_ ?_
                  refine CW.seq ?_
                  refine CW.region ?_
                  refine RG.vl rfl rfl rfl (Ev.move rfl rfl) ?_
                  refine RG.vl rfl rfl rfl (Ev.move rfl rfl) ?_
                  refine RG.vl rfl rfl rfl (Ev.byteAt rfl rfl rfl Try.underlying9 (by omega) (hc)) ?_
                  refine RG.vl rfl rfl rfl (Ev.isF (Ev.neI rfl rfl rfl) (by omega)) ?_
                  refine RG.done ?_
                  refine QW.sub (S' := [(1, _), (2, _), (6, _), (7, _), (8, _), (64, _)]) ⟨rfl, rfl, rfl, rfl, rfl, rfl, trivial⟩ ?_
                  refine QW.then_ ?_
                  refine CW.condF rfl ?_
                  refine CW.skip ?_
                  refine QW.blockN ?_
                  refine QW.then_ ?_
                  refine CW.region ?_
                  refine RG.vl rfl rfl rfl (Ev.move rfl rfl) ?_
                  refine RG.vl rfl rfl rfl (Ev.addI rfl rfl rfl (by omega)) ?_
                  refine RG.vl rfl rfl rfl (Ev.assign rfl rfl) ?_
                  refine RG.done ?_
                  refine QW.round2 (k + 1) (u) ⟨rfl, rfl, trivial⟩ ⟨rfl, rfl, trivial⟩ ⟨⟨by omega, by rw [drawL_skip s _ k c hc (byte_eq (d := 63) (by assumption))]; exact (own_ext hown hE14), all_snoc _ k c _ hc hall (by rw [byte_eq (c := c) (d := 63) (by assumption)]; rfl)⟩, hxwl8⟩ (by omega)
                · refine CW.seq ?_
                  refine CW.region ?_
                  refine RG.vl rfl rfl rfl (Ev.assign rfl rfl) ?_
                  refine RG.vl rfl rfl rfl (Ev.assign rfl rfl) ?_
                  refine RG.done ?_
                  refine QW.sub (S' := [(1, _), (2, _), (4, _), (5, _), (6, _), (7, _), (8, _)]) ⟨rfl, rfl, rfl, rfl, rfl, rfl, rfl, trivial⟩ ?_
                  refine QW.then_ ?_
                  refine CW.ret ?_
                  refine QW.blockR ?_
                  refine QW.thenRet ?_
                  refine QW.blockR ?_
                  refine QW.thenRet ?_
                  refine QW.thenRet ?_
                  refine QW.blockR ?_
                  refine QW.thenRet ?_
                  refine QW.ret2 rfl rfl rfl ?_
                  have hB := (Ex.tr hR7 hxwl8)
                  obtain ⟨e1, e2⟩ := drawErr_bad s t.data.toList (by rintro ⟨_, _, h3⟩; have := (List.all_eq_true.1 h3) c (List.mem_of_getElem? hc); rw [okLetter_not ⟨by omega, by omega, by omega, by omega, by omega⟩] at this; cases this)
                  exact ⟨_, by rw [e1], by rw [e2]; exact RdL.nil_ _, hB⟩
      · refine CW.exit ?_
        refine QW.thenExit ?_
        refine QW.thenExit ?_
        refine QW.blockHit ?_
        refine QW.then_ ?_
        refine CW.seq ?_
        refine CW.region ?_
        refine RG.vl rfl rfl rfl (Ev.move rfl rfl) ?_
        refine RG.vl rfl rfl rfl (Ev.assign rfl rfl) ?_
        refine RG.vl rfl rfl rfl (Ev.assign rfl rfl) ?_
        refine RG.done ?_
        refine QW.then_ ?_
        refine CW.ret ?_
        refine QW.ret2 rfl rfl rfl ?_
        have hB := (Ex.tr hR7 hxwl8)
        have hlz : t.data.toList.length = t.size := Array.length_toList
        have e : k = t.data.toList.length := by omega
        rw [e, List.take_length] at hown hall
        obtain ⟨e1, e2⟩ := drawErr_ok s t.data.toList ⟨hs, by rw [hlz]; omega, hall⟩
        exact ⟨_, by rw [e1], by rw [e2]; exact RdL.of_own Br.c_len hown, hB⟩

end Go.Proofs.Ytnecppiamecemaa
