/- Chapter 21: walks (HD). Written by program. -/
import Derived.Test.YtnecppiamecemaaT
import Derived.Test.YtnecppiamecemaaHC
namespace Go.Proofs.Ytnecppiamecemaa
open Go.RowKit
set_option maxRecDepth 100000 in
set_option maxHeartbeats 1000000 in
theorem rdraw_ret (s : Su) (t : ByteArray) (w : World) (hlen : t.size ≤ 1000) :
    Ret Try.prog 19 [s.v, .string t] w (fun v w' => ∃ u, v = .tuple #[u, .int .i64 (drawErr s t.data.toList)] ∧ RdL w' 3 Br.c u (drawOf s t.data.toList) ∧ Ex w w') := by
  have hB0 : Ex w w := Ex.rfl_ _
  refine Ret.of Try.func19 rfl Try.ntmps19 rfl ?_
  refine CW.seq ?_
  refine CW.region ?_
  refine RG.box rfl rfl rfl rfl rfl (fun g1 w1 eg1 hx1 hb1 => ?_)
  have hE2 := hx1
  refine RG.vl rfl rfl rfl (Ev.assign rfl rfl) ?_
  refine RG.vl rfl rfl rfl (Ev.assign rfl rfl) ?_
  refine RG.done ?_
  refine QW.then_ ?_
  refine CW.seq ?_
  refine CW.seq ?_
  refine CW.region ?_
  refine RG.vl rfl rfl rfl (Ev.ldAgg rfl rfl Try.underlying31 rfl sz_31 rfl (hb1.cells)) ?_
  refine RG.call rfl rfl rfl rfl rfl rfl rfl en_16 (rright_ret _ _) ?_
  rintro _ w3 ⟨rfl, hx3⟩
  replace hE2 := Ex.tr hE2 hx3
  have hE4 := hx3
  refine RG.vl rfl rfl rfl (Ev.notP rfl rfl) ?_
  refine RG.vl rfl rfl rfl (Ev.move rfl rfl) ?_
  refine RG.split (d := 12) rfl (fun hg5 => ?_) (fun hg5 => ?_)
  · refine RG.pass rfl rfl rfl ?_
    refine RG.pass rfl rfl rfl ?_
    refine RG.pass rfl rfl rfl ?_
    refine RG.pass rfl rfl rfl ?_
    refine RG.pass rfl rfl rfl ?_
    refine RG.vl rfl rfl rfl (Ev.pickT rfl rfl rfl) ?_
    refine RG.done ?_
    refine QW.then_ ?_
    refine CW.condT rfl ?_
    refine CW.seq ?_
    refine CW.region ?_
    refine RG.vl rfl rfl rfl (Ev.assign rfl rfl) ?_
    refine RG.vl rfl rfl rfl (Ev.assign rfl rfl) ?_
    refine RG.done ?_
    refine QW.sub (S' := [(1, _), (2, _), (4, _), (5, _)]) ⟨rfl, rfl, rfl, rfl, trivial⟩ ?_
    refine QW.then_ ?_
    refine CW.ret ?_
    refine QW.thenRet ?_
    refine QW.ret2 rfl rfl rfl ?_
    have hB := (Ex.tr hB0 hE2)
    obtain ⟨e1, e2⟩ := drawErr_bad s t.data.toList (by rintro ⟨h1, h2, _⟩; first | exact absurd h1 (by assumption) | (rw [Array.length_toList] at h2; exact absurd (show (t.size : Int) = s.pl from h2) (by assumption)))
    exact ⟨_, by rw [e1], by rw [e2]; exact RdL.nil_ _, hB⟩
  · refine RG.vl rfl rfl rfl (Ev.move rfl rfl) ?_
    refine RG.vl rfl rfl rfl (Ev.lenStr rfl rfl rfl Try.underlying9) ?_
    refine RG.vl rfl rfl rfl (Ev.fld rfl rfl fld_31_0) ?_
    refine RG.vl rfl rfl rfl (Ev.ldAt rfl rfl Try.underlying3 rfl ((hb1.ext hE4).cells) (rfl)) ?_
    refine RG.vl rfl rfl rfl (Ev.neI rfl rfl rfl) ?_
    refine RG.vl rfl rfl rfl (Ev.pickF rfl rfl rfl) ?_
    refine RG.done ?_
    refine QW.then_ ?_
    refine CW.condP rfl (fun hc6 => ?_) (fun hc6 => ?_)
    · refine CW.seq ?_
      refine CW.region ?_
      refine RG.vl rfl rfl rfl (Ev.assign rfl rfl) ?_
      refine RG.vl rfl rfl rfl (Ev.assign rfl rfl) ?_
      refine RG.done ?_
      refine QW.sub (S' := [(1, _), (2, _), (4, _), (5, _)]) ⟨rfl, rfl, rfl, rfl, trivial⟩ ?_
      refine QW.then_ ?_
      refine CW.ret ?_
      refine QW.thenRet ?_
      refine QW.ret2 rfl rfl rfl ?_
      have hB := (Ex.tr hB0 hE2)
      obtain ⟨e1, e2⟩ := drawErr_bad s t.data.toList (by rintro ⟨h1, h2, _⟩; first | exact absurd h1 (by assumption) | (rw [Array.length_toList] at h2; exact absurd (show (t.size : Int) = s.pl from h2) (by assumption)))
      exact ⟨_, by rw [e1], by rw [e2]; exact RdL.nil_ _, hB⟩
    · refine CW.skip ?_
      refine QW.then_ ?_
      refine CW.seq ?_
      have hs : Okay s := Decidable.not_not.1 (by assumption)
      obtain ⟨a1, a2, a3, a4, a5, a6, a7, a8, a9, a10, a11⟩ := id hs
      refine CW.region ?_
      refine RG.vl rfl rfl rfl (Ev.assign rfl rfl) ?_
      refine RG.done ?_
      refine QW.sub (S' := [(1, _), (2, _), (4, _), (5, _), (6, _)]) ⟨rfl, rfl, rfl, rfl, rfl, trivial⟩ ?_
      refine QW.then_ ?_
      refine CW.seq ?_
      refine CW.seq ?_
      refine CW.region ?_
      refine RG.vl rfl rfl rfl (Ev.assign rfl rfl) ?_
      refine RG.done ?_
      refine QW.then_ ?_
      refine CW.block ?_
      replace hb1 := (hb1.ext hE4)
      have hR7 := (Ex.tr hB0 hE2)
      refine CW.loop2 [(1, _), (2, _)] ⟨rfl, rfl, trivial⟩ (fun (k : Nat) (u : Value) => [(7, .int .i64 k), (6, u)]) (fun k u w' => (k ≤ t.size ∧ w'.ownsRow w3.heap.size 47 3 u (drawL s (t.data.toList.take k) 0).length ((drawL s (t.data.toList.take k) 0).flatMap Br.c) ∧ (t.data.toList.take k).all okLetter = true) ∧ Ex w3 w') (fun k u => t.size - k) (0) (.slice none 0 0) ⟨rfl, rfl, trivial⟩ ⟨⟨Nat.zero_le _, own_nil _ _ _ _, rfl⟩, (Ex.rfl_ _)⟩ ?_
      rintro k u wl8 ⟨⟨hkl, hown, hall⟩, hxwl8⟩
      refine CW.sub (S' := [(7, _), (6, _), (1, _), (2, _)]) ⟨rfl, rfl, rfl, rfl, trivial⟩ ?_
      refine CW.seq ?_
      refine CW.seq ?_
      refine CW.region ?_
      refine RG.vl rfl rfl rfl (Ev.move rfl rfl) ?_
      refine RG.vl rfl rfl rfl (Ev.move rfl rfl) ?_
      refine RG.vl rfl rfl rfl (Ev.lenStr rfl rfl rfl Try.underlying9) ?_
      refine RG.vl rfl rfl rfl (Ev.lss rfl rfl rfl) ?_
      refine RG.done ?_
      refine QW.then_ ?_
      refine CW.condP rfl (fun hc9 => ?_) (fun hc9 => ?_)
      · refine CW.skip ?_
        refine QW.then_ ?_
        refine CW.seq ?_
        refine CW.block ?_
        refine CW.seq ?_
        have hkt : k < t.data.toList.length := by rw [Array.length_toList]; exact (show k < t.size by omega)
        obtain ⟨c, hc⟩ : ∃ c, t.data.toList[k]? = some c := ⟨_, List.getElem?_eq_getElem hkt⟩
        have hlz : t.data.toList.length = t.size := Array.length_toList
        have hkp := kpi s k hs (by omega) (by omega)
        have hdl := drawL_len s (t.data.toList.take k) 0
        rw [List.length_take] at hdl
        refine CW.region ?_
        refine RG.vl rfl rfl rfl (Ev.fld rfl rfl fld_31_1) ?_
        refine RG.vl rfl rfl rfl (Ev.ldAt rfl rfl Try.underlying3 rfl ((hb1.ext hxwl8).cells) (rfl)) ?_
        refine RG.vl rfl rfl rfl (Ev.move rfl rfl) ?_
        refine RG.vl rfl rfl rfl (Ev.fld rfl rfl fld_31_2) ?_
        refine RG.vl rfl rfl rfl (Ev.ldAt rfl rfl Try.underlying3 rfl ((hb1.ext hxwl8).cells) (rfl)) ?_
        refine RG.vl rfl rfl rfl (Ev.mulI rfl rfl rfl (by omega)) ?_
        refine RG.vl rfl rfl rfl (Ev.addI rfl rfl rfl (by omega)) ?_
        refine RG.vl rfl rfl rfl (Ev.fld rfl rfl fld_31_4) ?_
        refine RG.vl rfl rfl rfl (Ev.ldAt rfl rfl Try.underlying3 rfl ((hb1.ext hxwl8).cells) (rfl)) ?_
        refine RG.vl rfl rfl rfl (Ev.fld rfl rfl fld_31_4) ?_
        refine RG.vl rfl rfl rfl (Ev.ldAt rfl rfl Try.underlying3 rfl ((hb1.ext hxwl8).cells) (rfl)) ?_
        refine RG.vl rfl rfl rfl (Ev.build1 rfl rfl rfl inf_47 rfl rfl (by kernel_rfl) rfl) ?_
        refine RG.local_ rfl rfl rfl rfl (fun _ => rfl) rfl rfl (fun _ => rfl) inf_47 rfl rfl rfl (fun g10 w10 eg10 hx10 hb10 => ?_)
        have hle11 : w3.heap.size ≤ g10 := by have := hxwl8.size; omega
        have hle12 : wl8.heap.size ≤ g10 := by have := (Ex.rfl_ wl8).size; omega
        have hlt13 : g1 < g10 := by have := Blk.lt (hb1.ext hxwl8); omega
        replace hxwl8 := Ex.tr hxwl8 hx10
        have hE14 := hx10
        refine RG.done ?_
        refine QW.sub (S' := [(1, _), (2, _), (6, _), (7, _), (8, _)]) ⟨rfl, rfl, rfl, rfl, rfl, trivial⟩ ?_
        refine QW.then_ ?_
        refine CW.seq ?_
        refine CW.seq ?_
        refine CW.region ?_
        refine RG.vl rfl rfl rfl (Ev.move rfl rfl) ?_
        refine RG.vl rfl rfl rfl (Ev.move rfl rfl) ?_
        refine RG.vl rfl rfl rfl (Ev.byteAt rfl rfl rfl Try.underlying9 (by omega) (hc)) ?_
        refine RG.done ?_
        refine QW.then_ ?_
        refine CW.block ?_
        refine CW.seq ?_
        refine CW.region ?_
        refine RG.vl rfl rfl rfl (Ev.eqI rfl rfl rfl) ?_
        refine RG.vl rfl rfl rfl (Ev.assign rfl rfl) ?_
        refine RG.done ?_
        refine QW.then_ ?_
        refine CW.condP rfl (fun hc15 => ?_) (fun hc15 => ?_)
        · refine CW.region ?_
          refine RG.vl rfl rfl rfl (Ev.fld rfl rfl fld_31_5) ?_
          refine RG.vl rfl rfl rfl (Ev.ldAt rfl rfl Try.underlying3 rfl ((hb1.ext hxwl8).cells) (rfl)) ?_
          refine RG.vl rfl rfl rfl (Ev.fld rfl rfl fld_47_1) ?_
          refine RG.st (g := g10) (k := 1) rfl rfl rfl rfl rfl sz_3 rfl hb10 rfl (fun ws16 hwws16 hbws16 => ?_)
          replace hxwl8 := Wr.below hxwl8 hwws16 hle11
          replace hE14 := Wr.below hE14 hwws16 hle12
          refine RG.done ?_
          refine QW.blockN ?_
          refine QW.then_ ?_
          refine CW.seq ?_
          refine CW.region ?_
          refine RG.vl rfl rfl rfl (Ev.move rfl rfl) ?_
          refine RG.vl rfl rfl rfl (Ev.move rfl rfl) ?_
          refine RG.vl rfl rfl rfl (Ev.byteAt rfl rfl rfl Try.underlying9 (by omega) (hc)) ?_
          refine RG.vl rfl rfl rfl (Ev.isT (Ev.neI rfl rfl rfl) (by omega)) ?_
          refine RG.done ?_
          refine QW.then_ ?_
          refine CW.condT rfl ?_
          refine CW.region ?_
          refine RG.vl rfl rfl rfl (Ev.move rfl rfl) ?_
          refine RG.vl rfl rfl rfl (Ev.ldAgg rfl rfl Try.underlying47 rfl sz_47 rfl (hbws16.cells)) ?_
          refine RG.buildD (xs := [.tmp 66]) rfl rfl rfl rfl rfl rfl rfl Try.underlying34 inf_47 rfl rfl rfl rfl (fun g17 w17 eg17 hx17 hb17 => ?_)
          replace hxwl8 := Ex.tr hxwl8 hx17
          replace hE14 := Ex.tr hE14 hx17
          have hE18 := hx17
          refine RG.app rfl rfl rfl rfl rfl rfl rfl Try.underlying34 inf_47 rfl rfl (own_ext hown hE14) rfl (fun _ => ⟨_, rfl, hb17.cells⟩) rfl (by simp only [maxLen]; omega) (by omega) (hxwl8.size) (fun v19 wa20 hown21 hgr22 hat23 => ?_)
          replace hxwl8 := own_block (own_ext hown hE14) hxwl8 hgr22 (Nat.le_refl _) hxwl8.size
          refine RG.vl rfl rfl rfl (Ev.assign rfl rfl) ?_
          refine RG.done ?_
          refine QW.sub (S' := [(1, _), (2, _), (6, _), (7, _)]) ⟨rfl, rfl, rfl, rfl, trivial⟩ ?_
          refine QW.blockN ?_
          refine QW.then_ ?_
          refine CW.region ?_
          refine RG.vl rfl rfl rfl (Ev.move rfl rfl) ?_
          refine RG.vl rfl rfl rfl (Ev.addI rfl rfl rfl (by omega)) ?_
          refine RG.vl rfl rfl rfl (Ev.assign rfl rfl) ?_
          refine RG.done ?_
          refine QW.round2 (k + 1) (v19) ⟨rfl, rfl, trivial⟩ ⟨rfl, rfl, trivial⟩ ⟨⟨by omega, by rw [drawL_step s _ k c hc (by rw [byte_eq (c := c) (d := 65) (by assumption)]; decide), byte_eq (c := c) (d := 65) (by assumption), show mkb s 65 k = ⟨s.og + k * s.pi, s.hi, s.lo⟩ from by simp [mkb], List.length_append, List.flatMap_append]; exact hown21, all_snoc _ k c _ hc hall (by rw [byte_eq (c := c) (d := 65) (by assumption)]; rfl)⟩, hxwl8⟩ (by omega)
        · refine CW.seq ?_
          refine CW.region ?_
          refine RG.vl rfl rfl rfl (Ev.eqI rfl rfl rfl) ?_
          refine RG.vl rfl rfl rfl (Ev.assign rfl rfl) ?_
          refine RG.done ?_
          refine QW.then_ ?_
          refine CW.condP rfl (fun hc24 => ?_) (fun hc24 => ?_)
          · refine CW.region ?_
            refine RG.vl rfl rfl rfl (Ev.fld rfl rfl fld_31_5) ?_
            refine RG.vl rfl rfl rfl (Ev.ldAt rfl rfl Try.underlying3 rfl ((hb1.ext hxwl8).cells) (rfl)) ?_
            refine RG.vl rfl rfl rfl (Ev.fld rfl rfl fld_47_2) ?_
            refine RG.st (g := g10) (k := 2) rfl rfl rfl rfl rfl sz_3 rfl hb10 rfl (fun ws25 hwws25 hbws25 => ?_)
            replace hxwl8 := Wr.below hxwl8 hwws25 hle11
            replace hE14 := Wr.below hE14 hwws25 hle12
            refine RG.done ?_
            refine QW.blockN ?_
            refine QW.then_ ?_
            refine CW.seq ?_
            refine CW.region ?_
            refine RG.vl rfl rfl rfl (Ev.move rfl rfl) ?_
            refine RG.vl rfl rfl rfl (Ev.move rfl rfl) ?_
            refine RG.vl rfl rfl rfl (Ev.byteAt rfl rfl rfl Try.underlying9 (by omega) (hc)) ?_
            refine RG.vl rfl rfl rfl (Ev.isT (Ev.neI rfl rfl rfl) (by omega)) ?_
            refine RG.done ?_
            refine QW.sub (S' := [(1, _), (2, _), (6, _), (7, _), (8, _), (64, _)]) ⟨rfl, rfl, rfl, rfl, rfl, rfl, trivial⟩ ?_
            refine QW.then_ ?_
            refine CW.condT rfl ?_
            refine CW.region ?_
            refine RG.vl rfl rfl rfl (Ev.move rfl rfl) ?_
            refine RG.vl rfl rfl rfl (Ev.ldAgg rfl rfl Try.underlying47 rfl sz_47 rfl (hbws25.cells)) ?_
            refine RG.buildD (xs := [.tmp 66]) rfl rfl rfl rfl rfl rfl rfl Try.underlying34 inf_47 rfl rfl rfl rfl (fun g26 w26 eg26 hx26 hb26 => ?_)
            replace hxwl8 := Ex.tr hxwl8 hx26
            replace hE14 := Ex.tr hE14 hx26
            have hE27 := hx26
            refine RG.app rfl rfl rfl rfl rfl rfl rfl Try.underlying34 inf_47 rfl rfl (own_ext hown hE14) rfl (fun _ => ⟨_, rfl, hb26.cells⟩) rfl (by simp only [maxLen]; omega) (by omega) (hxwl8.size) (fun v28 wa29 hown30 hgr31 hat32 => ?_)
            replace hxwl8 := own_block (own_ext hown hE14) hxwl8 hgr31 (Nat.le_refl _) hxwl8.size
            refine RG.vl rfl rfl rfl (Ev.assign rfl rfl) ?_
            refine RG.done ?_
            refine QW.blockN ?_
            refine QW.then_ ?_
            refine CW.region ?_
            refine RG.vl rfl rfl rfl (Ev.move rfl rfl) ?_
            refine RG.vl rfl rfl rfl (Ev.addI rfl rfl rfl (by omega)) ?_
            refine RG.vl rfl rfl rfl (Ev.assign rfl rfl) ?_
            refine RG.done ?_
            refine QW.round2 (k + 1) (v28) ⟨rfl, rfl, trivial⟩ ⟨rfl, rfl, trivial⟩ ⟨⟨by omega, by rw [drawL_step s _ k c hc (by rw [byte_eq (c := c) (d := 68) (by assumption)]; decide), byte_eq (c := c) (d := 68) (by assumption), show mkb s 68 k = ⟨s.og + k * s.pi, s.lo, s.hi⟩ from by simp [mkb], List.length_append, List.flatMap_append]; exact hown30, all_snoc _ k c _ hc hall (by rw [byte_eq (c := c) (d := 68) (by assumption)]; rfl)⟩, hxwl8⟩ (by omega)
          · refine CW.seq ?_
            refine CW.region ?_
            refine RG.vl rfl rfl rfl (Ev.eqI rfl rfl rfl) ?_
            refine RG.vl rfl rfl rfl (Ev.assign rfl rfl) ?_
            refine RG.done ?_
            refine QW.then_ ?_
            refine CW.condP rfl (fun hc33 => ?_) (fun hc33 => ?_)
            · refine CW.draw [] (some g10) 8 rfl mixed (fun wd34 hxwd34 => ?_)
              replace hxwl8 := Ex.tr hxwl8 hxwd34
              replace hE14 := Ex.tr hE14 hxwd34
              have hE35 := hxwd34
              refine AG.takeW 0 rfl (by kernel_rfl) (by kernel_rfl) rfl rfl rfl (fun _ => Ev.fld rfl rfl fld_31_5) ?_
              refine AG.take 1 rfl (by kernel_rfl) (by kernel_rfl) rfl rfl rfl (fun wq hq => Ev.ldAt rfl rfl Try.underlying3 rfl ((Blk.grown (hb1.ext hxwl8) hq (by simp; omega)).cells) (rfl)) ?_
              refine AG.takeW 2 rfl (by kernel_rfl) (by kernel_rfl) rfl rfl rfl (fun _ => Ev.fld rfl rfl fld_31_5) ?_
              refine AG.take 3 rfl (by kernel_rfl) (by kernel_rfl) rfl rfl rfl (fun wq hq => Ev.ldAt rfl rfl Try.underlying3 rfl ((Blk.grown (hb1.ext hxwl8) hq (by simp; omega)).cells) (rfl)) ?_
              refine AG.takeW 4 rfl (by kernel_rfl) (by kernel_rfl) rfl rfl rfl (fun _ => Ev.fld rfl rfl fld_47_1) ?_
              refine AG.only 5 rfl (by kernel_rfl) ?_
              refine RG.st (g := g10) (k := 1) rfl rfl rfl rfl rfl sz_3 rfl (hb10.ext hE35) rfl (fun ws37 hwws37 hbws37 => ?_)
              replace hxwl8 := Wr.below hxwl8 hwws37 hle11
              replace hE14 := Wr.below hE14 hwws37 hle12
              refine RG.done ?_
              refine QW.an (fun _ => Rr.of_wr hwws37) ?_
              refine AG.takeW 6 rfl (by kernel_rfl) (by kernel_rfl) rfl rfl rfl (fun _ => Ev.fld rfl rfl fld_47_2) ?_
              refine AG.only 7 rfl (by kernel_rfl) ?_
              refine RG.st (g := g10) (k := 2) rfl rfl rfl rfl rfl sz_3 rfl hbws37 rfl (fun ws39 hwws39 hbws39 => ?_)
              replace hxwl8 := Wr.below hxwl8 hwws39 hle11
              replace hE14 := Wr.below hE14 hwws39 hle12
              refine RG.done ?_
              refine QW.an (fun _ => Rr.of_wr hwws39) ?_
              refine AG.done (by kernel_rfl) ?_
              refine QW.sub (S' := [(1, _), (2, _), (6, _), (7, _), (8, _)]) ⟨rfl, rfl, rfl, rfl, rfl, trivial⟩ ?_
              refine QW.blockN ?_
              refine QW.then_ ?_
              refine CW.seq ?_
              refine CW.region ?_
              refine RG.vl rfl rfl rfl (Ev.move rfl rfl) ?_
              refine RG.vl rfl rfl rfl (Ev.move rfl rfl) ?_
              refine RG.vl rfl rfl rfl (Ev.byteAt rfl rfl rfl Try.underlying9 (by omega) (hc)) ?_
              refine RG.vl rfl rfl rfl (Ev.isT (Ev.neI rfl rfl rfl) (by omega)) ?_
              refine RG.done ?_
              refine QW.then_ ?_
              refine CW.condT rfl ?_
              refine CW.region ?_
              refine RG.vl rfl rfl rfl (Ev.move rfl rfl) ?_
              refine RG.vl rfl rfl rfl (Ev.ldAgg rfl rfl Try.underlying47 rfl sz_47 rfl (hbws39.cells)) ?_
              refine RG.buildD (xs := [.tmp 66]) rfl rfl rfl rfl rfl rfl rfl Try.underlying34 inf_47 rfl rfl rfl rfl (fun g40 w40 eg40 hx40 hb40 => ?_)
              replace hxwl8 := Ex.tr hxwl8 hx40
              replace hE14 := Ex.tr hE14 hx40
              have hE41 := hx40
              refine RG.app rfl rfl rfl rfl rfl rfl rfl Try.underlying34 inf_47 rfl rfl (own_ext hown hE14) rfl (fun _ => ⟨_, rfl, hb40.cells⟩) rfl (by simp only [maxLen]; omega) (by omega) (hxwl8.size) (fun v42 wa43 hown44 hgr45 hat46 => ?_)
              replace hxwl8 := own_block (own_ext hown hE14) hxwl8 hgr45 (Nat.le_refl _) hxwl8.size
              refine RG.vl rfl rfl rfl (Ev.assign rfl rfl) ?_
              refine RG.done ?_
              refine QW.blockN ?_
              refine QW.then_ ?_
              refine CW.region ?_
              refine RG.vl rfl rfl rfl (Ev.move rfl rfl) ?_
              refine RG.vl rfl rfl rfl (Ev.addI rfl rfl rfl (by omega)) ?_
              refine RG.vl rfl rfl rfl (Ev.assign rfl rfl) ?_
              refine RG.done ?_
              refine QW.round2 (k + 1) (v42) ⟨rfl, rfl, trivial⟩ ⟨rfl, rfl, trivial⟩ ⟨⟨by omega, by rw [drawL_step s _ k c hc (by rw [byte_eq (c := c) (d := 70) (by assumption)]; decide), byte_eq (c := c) (d := 70) (by assumption), show mkb s 70 k = ⟨s.og + k * s.pi, s.hi, s.hi⟩ from by simp [mkb], List.length_append, List.flatMap_append]; exact hown44, all_snoc _ k c _ hc hall (by rw [byte_eq (c := c) (d := 70) (by assumption)]; rfl)⟩, hxwl8⟩ (by omega)
            · refine CW.seq ?_
              refine CW.seq ?_
              refine CW.region ?_
              refine RG.vl rfl rfl rfl (Ev.eqI rfl rfl rfl) ?_
              refine RG.vl rfl rfl rfl (Ev.assign rfl rfl) ?_
              refine RG.done ?_
              refine QW.then_ ?_
              refine CW.condP rfl (fun hc47 => ?_) (fun hc47 => ?_)
              · refine CW.skip ?_
                refine QW.then_ ?_
                refine CW.condP rfl (fun hc48 => ?_) (fun hc48 => ?_)
                · refine CW.skip ?_
                  refine QW.blockN ?_
                  refine QW.then_ ?_
                  refine CW.seq ?_
                  refine CW.region ?_
                  refine RG.vl rfl rfl rfl (Ev.move rfl rfl) ?_
                  refine RG.vl rfl rfl rfl (Ev.move rfl rfl) ?_
                  refine RG.vl rfl rfl rfl (Ev.byteAt rfl rfl rfl Try.underlying9 (by omega) (hc)) ?_
                  refine RG.vl rfl rfl rfl (Ev.isT (Ev.neI rfl rfl rfl) (by omega)) ?_
                  refine RG.done ?_
                  refine QW.sub (S' := [(1, _), (2, _), (6, _), (7, _), (8, _), (64, _)]) ⟨rfl, rfl, rfl, rfl, rfl, rfl, trivial⟩ ?_
                  refine QW.then_ ?_
                  refine CW.condT rfl ?_
                  refine CW.region ?_
                  refine RG.vl rfl rfl rfl (Ev.move rfl rfl) ?_
                  refine RG.vl rfl rfl rfl (Ev.ldAgg rfl rfl Try.underlying47 rfl sz_47 rfl (hb10.cells)) ?_
                  refine RG.buildD (xs := [.tmp 66]) rfl rfl rfl rfl rfl rfl rfl Try.underlying34 inf_47 rfl rfl rfl rfl (fun g49 w49 eg49 hx49 hb49 => ?_)
                  replace hxwl8 := Ex.tr hxwl8 hx49
                  replace hE14 := Ex.tr hE14 hx49
                  have hE50 := hx49
                  refine RG.app rfl rfl rfl rfl rfl rfl rfl Try.underlying34 inf_47 rfl rfl (own_ext hown hE14) rfl (fun _ => ⟨_, rfl, hb49.cells⟩) rfl (by simp only [maxLen]; omega) (by omega) (hxwl8.size) (fun v51 wa52 hown53 hgr54 hat55 => ?_)
                  replace hxwl8 := own_block (own_ext hown hE14) hxwl8 hgr54 (Nat.le_refl _) hxwl8.size
                  refine RG.vl rfl rfl rfl (Ev.assign rfl rfl) ?_
                  refine RG.done ?_
                  refine QW.blockN ?_
                  refine QW.then_ ?_
                  refine CW.region ?_
                  refine RG.vl rfl rfl rfl (Ev.move rfl rfl) ?_
                  refine RG.vl rfl rfl rfl (Ev.addI rfl rfl rfl (by omega)) ?_
                  refine RG.vl rfl rfl rfl (Ev.assign rfl rfl) ?_
                  refine RG.done ?_
                  refine QW.round2 (k + 1) (v51) ⟨rfl, rfl, trivial⟩ ⟨rfl, rfl, trivial⟩ ⟨⟨by omega, by rw [drawL_step s _ k c hc (by rw [byte_eq (c := c) (d := 84) (by assumption)]; decide), byte_eq (c := c) (d := 84) (by assumption), show mkb s 84 k = ⟨s.og + k * s.pi, s.lo, s.lo⟩ from by simp [mkb], List.length_append, List.flatMap_append]; exact hown53, all_snoc _ k c _ hc hall (by rw [byte_eq (c := c) (d := 84) (by assumption)]; rfl)⟩, hxwl8⟩ (by omega)
                · refine CW.seq ?_
                  refine CW.region ?_
                  refine RG.vl rfl rfl rfl (Ev.assign rfl rfl) ?_
                  refine RG.vl rfl rfl rfl (Ev.assign rfl rfl) ?_
                  refine RG.done ?_
                  refine QW.then_ ?_
                  refine CW.ret ?_
                  refine QW.blockR ?_
                  refine QW.thenRet ?_
                  refine QW.blockR ?_
                  refine QW.thenRet ?_
                  refine QW.thenRet ?_
                  refine QW.blockR ?_
                  refine QW.thenRet ?_
                  refine QW.ret2 rfl rfl rfl ?_
                  have hB := (Ex.tr hR7 hxwl8)
                  obtain ⟨e1, e2⟩ := drawErr_bad s t.data.toList (by rintro ⟨_, _, h3⟩; have := (List.all_eq_true.1 h3) c (List.mem_of_getElem? hc); rw [okLetter_not ⟨by omega, by omega, by omega, by omega, by omega⟩] at this; cases this)
                  exact ⟨_, by rw [e1], by rw [e2]; exact RdL.nil_ _, hB⟩
              · refine CW.region ?_
                refine RG.vl rfl rfl rfl (Ev.eqI rfl rfl rfl) ?_
                refine RG.vl rfl rfl rfl (Ev.assign rfl rfl) ?_
                refine RG.done ?_
                refine QW.then_ ?_
                refine CW.condP rfl (fun hc56 => ?_) (fun hc56 => ?_)
                · refine CW.skip ?_
                  refine QW.blockN ?_
                  refine QW.then_ ?_
                  refine CW.seq ?_
                  refine CW.region ?_
                  refine RG.vl rfl rfl rfl (Ev.move rfl rfl) ?_
                  refine RG.vl rfl rfl rfl (Ev.move rfl rfl) ?_
                  refine RG.vl rfl rfl rfl (Ev.byteAt rfl rfl rfl Try.underlying9 (by omega) (hc)) ?_
                  refine RG.vl rfl rfl rfl (Ev.isF (Ev.neI rfl rfl rfl) (by omega)) ?_
                  refine RG.done ?_
                  refine QW.sub (S' := [(1, _), (2, _), (6, _), (7, _), (8, _), (64, _)]) ⟨rfl, rfl, rfl, rfl, rfl, rfl, trivial⟩ ?_
                  refine QW.then_ ?_
                  refine CW.condF rfl ?_
                  refine CW.skip ?_
                  refine QW.blockN ?_
                  refine QW.then_ ?_
                  refine CW.region ?_
                  refine RG.vl rfl rfl rfl (Ev.move rfl rfl) ?_
                  refine RG.vl rfl rfl rfl (Ev.addI rfl rfl rfl (by omega)) ?_
                  refine RG.vl rfl rfl rfl (Ev.assign rfl rfl) ?_
                  refine RG.done ?_
                  refine QW.round2 (k + 1) (u) ⟨rfl, rfl, trivial⟩ ⟨rfl, rfl, trivial⟩ ⟨⟨by omega, by rw [drawL_skip s _ k c hc (byte_eq (d := 63) (by assumption))]; exact (own_ext hown hE14), all_snoc _ k c _ hc hall (by rw [byte_eq (c := c) (d := 63) (by assumption)]; rfl)⟩, hxwl8⟩ (by omega)
                · refine CW.seq ?_
                  refine CW.region ?_
                  refine RG.vl rfl rfl rfl (Ev.assign rfl rfl) ?_
                  refine RG.vl rfl rfl rfl (Ev.assign rfl rfl) ?_
                  refine RG.done ?_
                  refine QW.sub (S' := [(1, _), (2, _), (4, _), (5, _), (6, _), (7, _), (8, _)]) ⟨rfl, rfl, rfl, rfl, rfl, rfl, rfl, trivial⟩ ?_
                  refine QW.then_ ?_
                  refine CW.ret ?_
                  refine QW.blockR ?_
                  refine QW.thenRet ?_
                  refine QW.blockR ?_
                  refine QW.thenRet ?_
                  refine QW.thenRet ?_
                  refine QW.blockR ?_
                  refine QW.thenRet ?_
                  refine QW.ret2 rfl rfl rfl ?_
                  have hB := (Ex.tr hR7 hxwl8)
                  obtain ⟨e1, e2⟩ := drawErr_bad s t.data.toList (by rintro ⟨_, _, h3⟩; have := (List.all_eq_true.1 h3) c (List.mem_of_getElem? hc); rw [okLetter_not ⟨by omega, by omega, by omega, by omega, by omega⟩] at this; cases this)
                  exact ⟨_, by rw [e1], by rw [e2]; exact RdL.nil_ _, hB⟩
      · refine CW.exit ?_
        refine QW.thenExit ?_
        refine QW.thenExit ?_
        refine QW.blockHit ?_
        refine QW.then_ ?_
        refine CW.seq ?_
        refine CW.region ?_
        refine RG.vl rfl rfl rfl (Ev.move rfl rfl) ?_
        refine RG.vl rfl rfl rfl (Ev.assign rfl rfl) ?_
        refine RG.vl rfl rfl rfl (Ev.assign rfl rfl) ?_
        refine RG.done ?_
        refine QW.then_ ?_
        refine CW.ret ?_
        refine QW.ret2 rfl rfl rfl ?_
        have hB := (Ex.tr hR7 hxwl8)
        have hlz : t.data.toList.length = t.size := Array.length_toList
        have e : k = t.data.toList.length := by omega
        rw [e, List.take_length] at hown hall
        obtain ⟨e1, e2⟩ := drawErr_ok s t.data.toList ⟨hs, by rw [hlz]; omega, hall⟩
        exact ⟨_, by rw [e1], by rw [e2]; exact RdL.of_own Br.c_len hown, hB⟩

end Go.Proofs.Ytnecppiamecemaa
