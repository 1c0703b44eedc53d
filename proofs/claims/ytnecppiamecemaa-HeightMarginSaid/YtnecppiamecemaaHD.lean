/- Chapter 21: walks (HD). Written by program. -/
import Derived.Test.YtnecppiamecemaaT
import Derived.Test.YtnecppiamecemaaHC
namespace Go.Proofs.Ytnecppiamecemaa
open Go.RowKit
set_option maxRecDepth 100000 in
set_option maxHeartbeats 1000000 in
theorem rdraw_ret (s : Su) (t : ByteArray) (w : World) (hlen : t.size ≤ 1000) :
    Ret Try.prog 19 [s.v, .string t] w (fun v w' => ∃ u, v = .tuple #[u, .int .i64 (drawErr s t.data.toList)] ∧ RdL w' 3 Br.c u (drawOf s t.data.toList) ∧ Ex w w') := by
  have hB0 : Ex w w := Ex.rfl_ _
  refine Ret.of Try.func19 rfl Try.ntmps19 rfl ?_
  refine CW.seq ?_
  refine CW.region ?_
  refine RG.box rfl rfl rfl rfl rfl (fun g1 w1 eg1 hx1 hb1 => ?_)
  have hle2 : w.heap.size ≤ g1 := by have := (Ex.rfl_ w).size; omega
  have hE3 := hx1
  refine RG.vl rfl rfl rfl (Ev.assign rfl rfl) ?_
  refine RG.vl rfl rfl rfl (Ev.assign rfl rfl) ?_
  refine RG.done ?_
  refine QW.then_ ?_
  refine CW.seq ?_
  refine CW.seq ?_
  refine CW.region ?_
  refine RG.vl rfl rfl rfl (Ev.ldAgg rfl rfl Try.underlying31 rfl sz_31 rfl (hb1.cells)) ?_
  refine RG.call rfl rfl rfl rfl rfl rfl rfl en_16 (rright_ret _ _) ?_
  rintro _ w4 ⟨rfl, hx4⟩
  replace hE3 := Ex.tr hE3 hx4
  have hE5 := hx4
  refine RG.vl rfl rfl rfl (Ev.notP rfl rfl) ?_
  refine RG.vl rfl rfl rfl (Ev.move rfl rfl) ?_
  refine RG.split (d := 12) rfl (fun hg6 => ?_) (fun hg6 => ?_)
  · refine RG.pass rfl rfl rfl ?_
    refine RG.pass rfl rfl rfl ?_
    refine RG.pass rfl rfl rfl ?_
    refine RG.pass rfl rfl rfl ?_
    refine RG.pass rfl rfl rfl ?_
    refine RG.vl rfl rfl rfl (Ev.pickT rfl rfl rfl) ?_
    refine RG.done ?_
    refine QW.then_ ?_
    refine CW.condT rfl ?_
    refine CW.seq ?_
    refine CW.region ?_
    refine RG.vl rfl rfl rfl (Ev.assign rfl rfl) ?_
    refine RG.vl rfl rfl rfl (Ev.assign rfl rfl) ?_
    refine RG.done ?_
    refine QW.sub (S' := [(1, _), (2, _), (4, _), (5, _)]) ⟨rfl, rfl, rfl, rfl, trivial⟩ ?_
    refine QW.then_ ?_
    refine CW.ret ?_
    refine QW.thenRet ?_
    refine QW.ret2 rfl rfl rfl ?_
    have hB := (Ex.tr hB0 hE3)
    obtain ⟨e1, e2⟩ := drawErr_bad s t.data.toList (by rintro ⟨h1, h2, _⟩; first | exact absurd h1 (by assumption) | (rw [Array.length_toList] at h2; exact absurd (show (t.size : Int) = s.pl from h2) (by assumption)))
    exact ⟨_, by rw [e1], by rw [e2]; exact RdL.nil_ _, hB⟩
  · refine RG.vl rfl rfl rfl (Ev.move rfl rfl) ?_
    refine RG.vl rfl rfl rfl (Ev.lenStr rfl rfl rfl Try.underlying9) ?_
    refine RG.vl rfl rfl rfl (Ev.fld rfl rfl fld_31_0) ?_
    refine RG.vl rfl rfl rfl (Ev.ldAt rfl rfl Try.underlying3 rfl ((hb1.ext hE5).cells) (rfl)) ?_
    refine RG.vl rfl rfl rfl (Ev.neI rfl rfl rfl) ?_
    refine RG.vl rfl rfl rfl (Ev.pickF rfl rfl rfl) ?_
    refine RG.done ?_
    refine QW.then_ ?_
    refine CW.condP rfl (fun hc7 => ?_) (fun hc7 => ?_)
    · refine CW.seq ?_
      refine CW.region ?_
      refine RG.vl rfl rfl rfl (Ev.assign rfl rfl) ?_
      refine RG.vl rfl rfl rfl (Ev.assign rfl rfl) ?_
      refine RG.done ?_
      refine QW.sub (S' := [(1, _), (2, _), (4, _), (5, _)]) ⟨rfl, rfl, rfl, rfl, trivial⟩ ?_
      refine QW.then_ ?_
      refine CW.ret ?_
      refine QW.thenRet ?_
      refine QW.ret2 rfl rfl rfl ?_
      have hB := (Ex.tr hB0 hE3)
      obtain ⟨e1, e2⟩ := drawErr_bad s t.data.toList (by rintro ⟨h1, h2, _⟩; first | exact absurd h1 (by assumption) | (rw [Array.length_toList] at h2; exact absurd (show (t.size : Int) = s.pl from h2) (by assumption)))
      exact ⟨_, by rw [e1], by rw [e2]; exact RdL.nil_ _, hB⟩
    · refine CW.skip ?_
      refine QW.then_ ?_
      refine CW.seq ?_
      have hs : Okay s := Decidable.not_not.1 (by assumption)
      obtain ⟨a1, a2, a3, a4, a5, a6, a7, a8, a9, a10, a11⟩ := id hs
      refine CW.region ?_
      refine RG.vl rfl rfl rfl (Ev.assign rfl rfl) ?_
      refine RG.done ?_
      refine QW.sub (S' := [(1, _), (2, _), (4, _), (5, _), (6, _)]) ⟨rfl, rfl, rfl, rfl, rfl, trivial⟩ ?_
      refine QW.then_ ?_
      refine CW.seq ?_
      refine CW.seq ?_
      refine CW.region ?_
      refine RG.vl rfl rfl rfl (Ev.assign rfl rfl) ?_
      refine RG.done ?_
      refine QW.then_ ?_
      refine CW.block ?_
      replace hb1 := (hb1.ext hE5)
      have hR8 := (Ex.tr hB0 hE3)
      have hR9 := hE5
      refine CW.loop2 [(1, _), (2, _)] ⟨rfl, rfl, trivial⟩ (fun (k : Nat) (u : Value) => [(7, .int .i64 k), (6, u)]) (fun k u w' => (k ≤ t.size ∧ w'.ownsRow w4.heap.size 47 3 u (drawL s (t.data.toList.take k) 0).length ((drawL s (t.data.toList.take k) 0).flatMap Br.c) ∧ (t.data.toList.take k).all okLetter = true) ∧ Ex w4 w') (fun k u => t.size - k) (0) (.slice none 0 0) ⟨rfl, rfl, trivial⟩ ⟨⟨Nat.zero_le _, own_nil _ _ _ _, rfl⟩, (Ex.rfl_ _)⟩ ?_
      rintro k u wl10 ⟨⟨hkl, hown, hall⟩, hxwl10⟩
      refine CW.sub (S' := [(7, _), (6, _), (1, _), (2, _)]) ⟨rfl, rfl, rfl, rfl, trivial⟩ ?_
      refine CW.seq ?_
      refine CW.seq ?_
      refine CW.region ?_
      refine RG.vl rfl rfl rfl (Ev.move rfl rfl) ?_
      refine RG.vl rfl rfl rfl (Ev.move rfl rfl) ?_
      refine RG.vl rfl rfl rfl (Ev.lenStr rfl rfl rfl Try.underlying9) ?_
      refine RG.vl rfl rfl rfl (Ev.lss rfl rfl rfl) ?_
      refine RG.done ?_
      refine QW.then_ ?_
      refine CW.condP rfl (fun hc11 => ?_) (fun hc11 => ?_)
      · refine CW.skip ?_
        refine QW.then_ ?_
        refine CW.seq ?_
        refine CW.block ?_
        refine CW.seq ?_
        have hkt : k < t.data.toList.length := by rw [Array.length_toList]; exact (show k < t.size by omega)
        obtain ⟨c, hc⟩ : ∃ c, t.data.toList[k]? = some c := ⟨_, List.getElem?_eq_getElem hkt⟩
        have hlz : t.data.toList.length = t.size := Array.length_toList
        have hkp := kpi s k hs (by omega) (by omega)
        have hdl := drawL_len s (t.data.toList.take k) 0
        rw [List.length_take] at hdl
        refine CW.region ?_
        refine RG.vl rfl rfl rfl (Ev.fld rfl rfl fld_31_1) ?_
        refine RG.vl rfl rfl rfl (Ev.ldAt rfl rfl Try.underlying3 rfl ((hb1.ext hxwl10).cells) (rfl)) ?_
        refine RG.vl rfl rfl rfl (Ev.move rfl rfl) ?_
        refine RG.vl rfl rfl rfl (Ev.fld rfl rfl fld_31_2) ?_
        refine RG.vl rfl rfl rfl (Ev.ldAt rfl rfl Try.underlying3 rfl ((hb1.ext hxwl10).cells) (rfl)) ?_
        refine RG.vl rfl rfl rfl (Ev.mulI rfl rfl rfl (by omega)) ?_
        refine RG.vl rfl rfl rfl (Ev.addI rfl rfl rfl (by omega)) ?_
        refine RG.vl rfl rfl rfl (Ev.fld rfl rfl fld_31_4) ?_
        refine RG.vl rfl rfl rfl (Ev.ldAt rfl rfl Try.underlying3 rfl ((hb1.ext hxwl10).cells) (rfl)) ?_
        refine RG.vl rfl rfl rfl (Ev.fld rfl rfl fld_31_4) ?_
        refine RG.vl rfl rfl rfl (Ev.ldAt rfl rfl Try.underlying3 rfl ((hb1.ext hxwl10).cells) (rfl)) ?_
        refine RG.vl rfl rfl rfl (Ev.build1 rfl rfl rfl inf_47 rfl rfl (by kernel_rfl) rfl) ?_
        refine RG.local_ rfl rfl rfl rfl (fun _ => rfl) rfl rfl (fun _ => rfl) inf_47 rfl rfl rfl (fun g12 w12 eg12 hx12 hb12 => ?_)
        have hle13 : w4.heap.size ≤ g12 := by have := hxwl10.size; omega
        have hle14 : wl10.heap.size ≤ g12 := by have := (Ex.rfl_ wl10).size; omega
        have hlt15 : g1 < g12 := by have := Blk.lt (hb1.ext hxwl10); omega
        replace hxwl10 := Ex.tr hxwl10 hx12
        have hE16 := hx12
        refine RG.done ?_
        refine QW.sub (S' := [(1, _), (2, _), (6, _), (7, _), (8, _)]) ⟨rfl, rfl, rfl, rfl, rfl, trivial⟩ ?_
        refine QW.then_ ?_
        refine CW.seq ?_
        refine CW.seq ?_
        refine CW.region ?_
        refine RG.vl rfl rfl rfl (Ev.move rfl rfl) ?_
        refine RG.vl rfl rfl rfl (Ev.move rfl rfl) ?_
        refine RG.vl rfl rfl rfl (Ev.byteAt rfl rfl rfl Try.underlying9 (by omega) (hc)) ?_
        refine RG.done ?_
        refine QW.then_ ?_
        refine CW.block ?_
        refine CW.seq ?_
        refine CW.region ?_
        refine RG.vl rfl rfl rfl (Ev.eqI rfl rfl rfl) ?_
        refine RG.vl rfl rfl rfl (Ev.assign rfl rfl) ?_
        refine RG.done ?_
        refine QW.then_ ?_
        refine CW.condP rfl (fun hc17 => ?_) (fun hc17 => ?_)
        · refine CW.region ?_
          refine RG.vl rfl rfl rfl (Ev.fld rfl rfl fld_31_5) ?_
          refine RG.vl rfl rfl rfl (Ev.ldAt rfl rfl Try.underlying3 rfl ((hb1.ext hxwl10).cells) (rfl)) ?_
          refine RG.vl rfl rfl rfl (Ev.fld rfl rfl fld_47_1) ?_
          refine RG.st (g := g12) (k := 1) rfl rfl rfl rfl rfl sz_3 rfl hb12 rfl (fun ws18 hwws18 hbws18 => ?_)
          replace hxwl10 := Wr.below hxwl10 hwws18 hle13
          replace hE16 := Wr.below hE16 hwws18 hle14
          refine RG.done ?_
          refine QW.blockN ?_
          refine QW.then_ ?_
          refine CW.seq ?_
          refine CW.region ?_
          refine RG.vl rfl rfl rfl (Ev.move rfl rfl) ?_
          refine RG.vl rfl rfl rfl (Ev.move rfl rfl) ?_
          refine RG.vl rfl rfl rfl (Ev.byteAt rfl rfl rfl Try.underlying9 (by omega) (hc)) ?_
          refine RG.vl rfl rfl rfl (Ev.isT (Ev.neI rfl rfl rfl) (by omega)) ?_
          refine RG.done ?_
          refine QW.then_ ?_
          refine CW.condT rfl ?_
          refine CW.region ?_
          refine RG.vl rfl rfl rfl (Ev.move rfl rfl) ?_
          refine RG.vl rfl rfl rfl (Ev.ldAgg rfl rfl Try.underlying47 rfl sz_47 rfl (hbws18.cells)) ?_
          refine RG.buildD (xs := [.tmp 66]) rfl rfl rfl rfl rfl rfl rfl Try.underlying34 inf_47 rfl rfl rfl rfl (fun g19 w19 eg19 hx19 hb19 => ?_)
          have hsep20 := own_new (own_ext hown hE16) eg19
          replace hxwl10 := Ex.tr hxwl10 hx19
          replace hE16 := Ex.tr hE16 hx19
          have hE21 := hx19
          refine RG.app rfl rfl rfl rfl rfl rfl rfl Try.underlying34 inf_47 rfl rfl (own_ext hown hE16) rfl (fun _ => ⟨_, rfl, hb19.cells⟩) rfl (by simp only [maxLen]; omega) (by omega) (hxwl10.size) (fun v22 wa23 hown24 hgr25 hat26 => ?_)
          have hb27 := Blk.grown hb19 hgr25 hsep20.symm
          have hsep28 := sep_app hat26 hsep20 (Blk.lt hb19)
          replace hxwl10 := own_block (own_ext hown hE16) hxwl10 hgr25 (Nat.le_refl _) hxwl10.size
          refine RG.vl rfl rfl rfl (Ev.assign rfl rfl) ?_
          refine RG.done ?_
          refine QW.sub (S' := [(1, _), (2, _), (6, _), (7, _)]) ⟨rfl, rfl, rfl, rfl, trivial⟩ ?_
          refine QW.blockN ?_
          refine QW.then_ ?_
          refine CW.region ?_
          refine RG.vl rfl rfl rfl (Ev.move rfl rfl) ?_
          refine RG.vl rfl rfl rfl (Ev.addI rfl rfl rfl (by omega)) ?_
          refine RG.vl rfl rfl rfl (Ev.assign rfl rfl) ?_
          refine RG.done ?_
          refine QW.round2 (k + 1) (v22) ⟨rfl, rfl, trivial⟩ ⟨rfl, rfl, trivial⟩ ⟨⟨by omega, by rw [drawL_step s _ k c hc (by rw [byte_eq (c := c) (d := 65) (by assumption)]; decide), byte_eq (c := c) (d := 65) (by assumption), show mkb s 65 k = ⟨s.og + k * s.pi, s.hi, s.lo⟩ from by simp [mkb], List.length_append, List.flatMap_append]; exact hown24, all_snoc _ k c _ hc hall (by rw [byte_eq (c := c) (d := 65) (by assumption)]; rfl)⟩, hxwl10⟩ (by omega)
        · refine CW.seq ?_
          refine CW.region ?_
          refine RG.vl rfl rfl rfl (Ev.eqI rfl rfl rfl) ?_
          refine RG.vl rfl rfl rfl (Ev.assign rfl rfl) ?_
          refine RG.done ?_
          refine QW.then_ ?_
          refine CW.condP rfl (fun hc29 => ?_) (fun hc29 => ?_)
          · refine CW.region ?_
            refine RG.vl rfl rfl rfl (Ev.fld rfl rfl fld_31_5) ?_
            refine RG.vl rfl rfl rfl (Ev.ldAt rfl rfl Try.underlying3 rfl ((hb1.ext hxwl10).cells) (rfl)) ?_
            refine RG.vl rfl rfl rfl (Ev.fld rfl rfl fld_47_2) ?_
            refine RG.st (g := g12) (k := 2) rfl rfl rfl rfl rfl sz_3 rfl hb12 rfl (fun ws30 hwws30 hbws30 => ?_)
            replace hxwl10 := Wr.below hxwl10 hwws30 hle13
            replace hE16 := Wr.below hE16 hwws30 hle14
            refine RG.done ?_
            refine QW.blockN ?_
            refine QW.then_ ?_
            refine CW.seq ?_
            refine CW.region ?_
            refine RG.vl rfl rfl rfl (Ev.move rfl rfl) ?_
            refine RG.vl rfl rfl rfl (Ev.move rfl rfl) ?_
            refine RG.vl rfl rfl rfl (Ev.byteAt rfl rfl rfl Try.underlying9 (by omega) (hc)) ?_
            refine RG.vl rfl rfl rfl (Ev.isT (Ev.neI rfl rfl rfl) (by omega)) ?_
            refine RG.done ?_
            refine QW.sub (S' := [(1, _), (2, _), (6, _), (7, _), (8, _), (64, _)]) ⟨rfl, rfl, rfl, rfl, rfl, rfl, trivial⟩ ?_
            refine QW.then_ ?_
            refine CW.condT rfl ?_
            refine CW.region ?_
            refine RG.vl rfl rfl rfl (Ev.move rfl rfl) ?_
            refine RG.vl rfl rfl rfl (Ev.ldAgg rfl rfl Try.underlying47 rfl sz_47 rfl (hbws30.cells)) ?_
            refine RG.buildD (xs := [.tmp 66]) rfl rfl rfl rfl rfl rfl rfl Try.underlying34 inf_47 rfl rfl rfl rfl (fun g31 w31 eg31 hx31 hb31 => ?_)
            have hsep32 := own_new (own_ext hown hE16) eg31
            replace hxwl10 := Ex.tr hxwl10 hx31
            replace hE16 := Ex.tr hE16 hx31
            have hE33 := hx31
            refine RG.app rfl rfl rfl rfl rfl rfl rfl Try.underlying34 inf_47 rfl rfl (own_ext hown hE16) rfl (fun _ => ⟨_, rfl, hb31.cells⟩) rfl (by simp only [maxLen]; omega) (by omega) (hxwl10.size) (fun v34 wa35 hown36 hgr37 hat38 => ?_)
            have hb39 := Blk.grown hb31 hgr37 hsep32.symm
            have hsep40 := sep_app hat38 hsep32 (Blk.lt hb31)
            replace hxwl10 := own_block (own_ext hown hE16) hxwl10 hgr37 (Nat.le_refl _) hxwl10.size
            refine RG.vl rfl rfl rfl (Ev.assign rfl rfl) ?_
            refine RG.done ?_
            refine QW.blockN ?_
            refine QW.then_ ?_
            refine CW.region ?_
            refine RG.vl rfl rfl rfl (Ev.move rfl rfl) ?_
            refine RG.vl rfl rfl rfl (Ev.addI rfl rfl rfl (by omega)) ?_
            refine RG.vl rfl rfl rfl (Ev.assign rfl rfl) ?_
            refine RG.done ?_
            refine QW.round2 (k + 1) (v34) ⟨rfl, rfl, trivial⟩ ⟨rfl, rfl, trivial⟩ ⟨⟨by omega, by rw [drawL_step s _ k c hc (by rw [byte_eq (c := c) (d := 68) (by assumption)]; decide), byte_eq (c := c) (d := 68) (by assumption), show mkb s 68 k = ⟨s.og + k * s.pi, s.lo, s.hi⟩ from by simp [mkb], List.length_append, List.flatMap_append]; exact hown36, all_snoc _ k c _ hc hall (by rw [byte_eq (c := c) (d := 68) (by assumption)]; rfl)⟩, hxwl10⟩ (by omega)
          · refine CW.seq ?_
            refine CW.region ?_
            refine RG.vl rfl rfl rfl (Ev.eqI rfl rfl rfl) ?_
            refine RG.vl rfl rfl rfl (Ev.assign rfl rfl) ?_
            refine RG.done ?_
            refine QW.then_ ?_
            refine CW.condP rfl (fun hc41 => ?_) (fun hc41 => ?_)
            · refine CW.draw [] (.row g12) 8 rfl mixed (fun wd42 hxwd42 => ?_)
              replace hxwl10 := Ex.tr hxwl10 hxwd42
              replace hE16 := Ex.tr hE16 hxwd42
              have hE43 := hxwd42
              refine AG.takeW 0 rfl (by kernel_rfl) (by kernel_rfl) rfl rfl rfl (fun _ => Ev.fld rfl rfl fld_31_5) ?_
              refine AG.take 1 rfl (by kernel_rfl) (by kernel_rfl) rfl rfl rfl (fun wq hq => Ev.ldAt rfl rfl Try.underlying3 rfl ((Blk.grown (hb1.ext hxwl10) hq (by simp; omega)).cells) (rfl)) ?_
              refine AG.takeW 2 rfl (by kernel_rfl) (by kernel_rfl) rfl rfl rfl (fun _ => Ev.fld rfl rfl fld_31_5) ?_
              refine AG.take 3 rfl (by kernel_rfl) (by kernel_rfl) rfl rfl rfl (fun wq hq => Ev.ldAt rfl rfl Try.underlying3 rfl ((Blk.grown (hb1.ext hxwl10) hq (by simp; omega)).cells) (rfl)) ?_
              refine AG.takeW 4 rfl (by kernel_rfl) (by kernel_rfl) rfl rfl rfl (fun _ => Ev.fld rfl rfl fld_47_1) ?_
              refine AG.only 5 rfl (by kernel_rfl) ?_
              refine RG.st (g := g12) (k := 1) rfl rfl rfl rfl rfl sz_3 rfl (hb12.ext hE43) rfl (fun ws45 hwws45 hbws45 => ?_)
              replace hxwl10 := Wr.below hxwl10 hwws45 hle13
              replace hE16 := Wr.below hE16 hwws45 hle14
              refine RG.done ?_
              refine QW.an (fun _ => Rr.of_wr hwws45) ?_
              refine AG.takeW 6 rfl (by kernel_rfl) (by kernel_rfl) rfl rfl rfl (fun _ => Ev.fld rfl rfl fld_47_2) ?_
              refine AG.only 7 rfl (by kernel_rfl) ?_
              refine RG.st (g := g12) (k := 2) rfl rfl rfl rfl rfl sz_3 rfl hbws45 rfl (fun ws47 hwws47 hbws47 => ?_)
              replace hxwl10 := Wr.below hxwl10 hwws47 hle13
              replace hE16 := Wr.below hE16 hwws47 hle14
              refine RG.done ?_
              refine QW.an (fun _ => Rr.of_wr hwws47) ?_
              refine AG.done (by kernel_rfl) ?_
              refine QW.sub (S' := [(1, _), (2, _), (6, _), (7, _), (8, _)]) ⟨rfl, rfl, rfl, rfl, rfl, trivial⟩ ?_
              refine QW.blockN ?_
              refine QW.then_ ?_
              refine CW.seq ?_
              refine CW.region ?_
              refine RG.vl rfl rfl rfl (Ev.move rfl rfl) ?_
              refine RG.vl rfl rfl rfl (Ev.move rfl rfl) ?_
              refine RG.vl rfl rfl rfl (Ev.byteAt rfl rfl rfl Try.underlying9 (by omega) (hc)) ?_
              refine RG.vl rfl rfl rfl (Ev.isT (Ev.neI rfl rfl rfl) (by omega)) ?_
              refine RG.done ?_
              refine QW.then_ ?_
              refine CW.condT rfl ?_
              refine CW.region ?_
              refine RG.vl rfl rfl rfl (Ev.move rfl rfl) ?_
              refine RG.vl rfl rfl rfl (Ev.ldAgg rfl rfl Try.underlying47 rfl sz_47 rfl (hbws47.cells)) ?_
              refine RG.buildD (xs := [.tmp 66]) rfl rfl rfl rfl rfl rfl rfl Try.underlying34 inf_47 rfl rfl rfl rfl (fun g48 w48 eg48 hx48 hb48 => ?_)
              have hsep49 := own_new (own_ext hown hE16) eg48
              replace hxwl10 := Ex.tr hxwl10 hx48
              replace hE16 := Ex.tr hE16 hx48
              have hE50 := hx48
              refine RG.app rfl rfl rfl rfl rfl rfl rfl Try.underlying34 inf_47 rfl rfl (own_ext hown hE16) rfl (fun _ => ⟨_, rfl, hb48.cells⟩) rfl (by simp only [maxLen]; omega) (by omega) (hxwl10.size) (fun v51 wa52 hown53 hgr54 hat55 => ?_)
              have hb56 := Blk.grown hb48 hgr54 hsep49.symm
              have hsep57 := sep_app hat55 hsep49 (Blk.lt hb48)
              replace hxwl10 := own_block (own_ext hown hE16) hxwl10 hgr54 (Nat.le_refl _) hxwl10.size
              refine RG.vl rfl rfl rfl (Ev.assign rfl rfl) ?_
              refine RG.done ?_
              refine QW.blockN ?_
              refine QW.then_ ?_
              refine CW.region ?_
              refine RG.vl rfl rfl rfl (Ev.move rfl rfl) ?_
              refine RG.vl rfl rfl rfl (Ev.addI rfl rfl rfl (by omega)) ?_
              refine RG.vl rfl rfl rfl (Ev.assign rfl rfl) ?_
              refine RG.done ?_
              refine QW.round2 (k + 1) (v51) ⟨rfl, rfl, trivial⟩ ⟨rfl, rfl, trivial⟩ ⟨⟨by omega, by rw [drawL_step s _ k c hc (by rw [byte_eq (c := c) (d := 70) (by assumption)]; decide), byte_eq (c := c) (d := 70) (by assumption), show mkb s 70 k = ⟨s.og + k * s.pi, s.hi, s.hi⟩ from by simp [mkb], List.length_append, List.flatMap_append]; exact hown53, all_snoc _ k c _ hc hall (by rw [byte_eq (c := c) (d := 70) (by assumption)]; rfl)⟩, hxwl10⟩ (by omega)
            · refine CW.seq ?_
              refine CW.seq ?_
              refine CW.region ?_
              refine RG.vl rfl rfl rfl (Ev.eqI rfl rfl rfl) ?_
              refine RG.vl rfl rfl rfl (Ev.assign rfl rfl) ?_
              refine RG.done ?_
              refine QW.then_ ?_
              refine CW.condP rfl (fun hc58 => ?_) (fun hc58 => ?_)
              · refine CW.skip ?_
                refine QW.then_ ?_
                refine CW.condP rfl (fun hc59 => ?_) (fun hc59 => ?_)
                · refine CW.skip ?_
                  refine QW.blockN ?_
                  refine QW.then_ ?_
                  refine CW.seq ?_
                  refine CW.region ?_
                  refine RG.vl rfl rfl rfl (Ev.move rfl rfl) ?_
                  refine RG.vl rfl rfl rfl (Ev.move rfl rfl) ?_
                  refine RG.vl rfl rfl rfl (Ev.byteAt rfl rfl rfl Try.underlying9 (by omega) (hc)) ?_
                  refine RG.vl rfl rfl rfl (Ev.isT (Ev.neI rfl rfl rfl) (by omega)) ?_
                  refine RG.done ?_
                  refine QW.sub (S' := [(1, _), (2, _), (6, _), (7, _), (8, _), (64, _)]) ⟨rfl, rfl, rfl, rfl, rfl, rfl, trivial⟩ ?_
                  refine QW.then_ ?_
                  refine CW.condT rfl ?_
                  refine CW.region ?_
                  refine RG.vl rfl rfl rfl (Ev.move rfl rfl) ?_
                  refine RG.vl rfl rfl rfl (Ev.ldAgg rfl rfl Try.underlying47 rfl sz_47 rfl (hb12.cells)) ?_
                  refine RG.buildD (xs := [.tmp 66]) rfl rfl rfl rfl rfl rfl rfl Try.underlying34 inf_47 rfl rfl rfl rfl (fun g60 w60 eg60 hx60 hb60 => ?_)
                  have hsep61 := own_new (own_ext hown hE16) eg60
                  replace hxwl10 := Ex.tr hxwl10 hx60
                  replace hE16 := Ex.tr hE16 hx60
                  have hE62 := hx60
                  refine RG.app rfl rfl rfl rfl rfl rfl rfl Try.underlying34 inf_47 rfl rfl (own_ext hown hE16) rfl (fun _ => ⟨_, rfl, hb60.cells⟩) rfl (by simp only [maxLen]; omega) (by omega) (hxwl10.size) (fun v63 wa64 hown65 hgr66 hat67 => ?_)
                  have hb68 := Blk.grown hb60 hgr66 hsep61.symm
                  have hsep69 := sep_app hat67 hsep61 (Blk.lt hb60)
                  replace hxwl10 := own_block (own_ext hown hE16) hxwl10 hgr66 (Nat.le_refl _) hxwl10.size
                  refine RG.vl rfl rfl rfl (Ev.assign rfl rfl) ?_
                  refine RG.done ?_
                  refine QW.blockN ?_
                  refine QW.then_ ?_
                  refine CW.region ?_
                  refine RG.vl rfl rfl rfl (Ev.move rfl rfl) ?_
                  refine RG.vl rfl rfl rfl (Ev.addI rfl rfl rfl (by omega)) ?_
                  refine RG.vl rfl rfl rfl (Ev.assign rfl rfl) ?_
                  refine RG.done ?_
                  refine QW.round2 (k + 1) (v63) ⟨rfl, rfl, trivial⟩ ⟨rfl, rfl, trivial⟩ ⟨⟨by omega, by rw [drawL_step s _ k c hc (by rw [byte_eq (c := c) (d := 84) (by assumption)]; decide), byte_eq (c := c) (d := 84) (by assumption), show mkb s 84 k = ⟨s.og + k * s.pi, s.lo, s.lo⟩ from by simp [mkb], List.length_append, List.flatMap_append]; exact hown65, all_snoc _ k c _ hc hall (by rw [byte_eq (c := c) (d := 84) (by assumption)]; rfl)⟩, hxwl10⟩ (by omega)
                · refine CW.seq ?_
                  refine CW.region ?_
                  refine RG.vl rfl rfl rfl (Ev.assign rfl rfl) ?_
                  refine RG.vl rfl rfl rfl (Ev.assign rfl rfl) ?_
                  refine RG.done ?_
                  refine QW.then_ ?_
                  refine CW.ret ?_
                  refine QW.blockR ?_
                  refine QW.thenRet ?_
                  refine QW.blockR ?_
                  refine QW.thenRet ?_
                  refine QW.thenRet ?_
                  refine QW.blockR ?_
                  refine QW.thenRet ?_
                  refine QW.ret2 rfl rfl rfl ?_
                  have hB := (Ex.tr hR8 hxwl10)
                  obtain ⟨e1, e2⟩ := drawErr_bad s t.data.toList (by rintro ⟨_, _, h3⟩; have := (List.all_eq_true.1 h3) c (List.mem_of_getElem? hc); rw [okLetter_not ⟨by omega, by omega, by omega, by omega, by omega⟩] at this; cases this)
                  exact ⟨_, by rw [e1], by rw [e2]; exact RdL.nil_ _, hB⟩
              · refine CW.region ?_
                refine RG.vl rfl rfl rfl (Ev.eqI rfl rfl rfl) ?_
                refine RG.vl rfl rfl rfl (Ev.assign rfl rfl) ?_
                refine RG.done ?_
                refine QW.then_ ?_
                refine CW.condP rfl (fun hc70 => ?_) (fun hc70 => ?_)
                · refine CW.skip ?_
                  refine QW.blockN ?_
                  refine QW.then_ ?_
                  refine CW.seq ?_
                  refine CW.region ?_
                  refine RG.vl rfl rfl rfl (Ev.move rfl rfl) ?_
                  refine RG.vl rfl rfl rfl (Ev.move rfl rfl) ?_
                  refine RG.vl rfl rfl rfl (Ev.byteAt rfl rfl rfl Try.underlying9 (by omega) (hc)) ?_
                  refine RG.vl rfl rfl rfl (Ev.isF (Ev.neI rfl rfl rfl) (by omega)) ?_
                  refine RG.done ?_
                  refine QW.sub (S' := [(1, _), (2, _), (6, _), (7, _), (8, _), (64, _)]) ⟨rfl, rfl, rfl, rfl, rfl, rfl, trivial⟩ ?_
                  refine QW.then_ ?_
                  refine CW.condF rfl ?_
                  refine CW.skip ?_
                  refine QW.blockN ?_
                  refine QW.then_ ?_
                  refine CW.region ?_
                  refine RG.vl rfl rfl rfl (Ev.move rfl rfl) ?_
                  refine RG.vl rfl rfl rfl (Ev.addI rfl rfl rfl (by omega)) ?_
                  refine RG.vl rfl rfl rfl (Ev.assign rfl rfl) ?_
                  refine RG.done ?_
                  refine QW.round2 (k + 1) (u) ⟨rfl, rfl, trivial⟩ ⟨rfl, rfl, trivial⟩ ⟨⟨by omega, by rw [drawL_skip s _ k c hc (byte_eq (d := 63) (by assumption))]; exact (own_ext hown hE16), all_snoc _ k c _ hc hall (by rw [byte_eq (c := c) (d := 63) (by assumption)]; rfl)⟩, hxwl10⟩ (by omega)
                · refine CW.seq ?_
                  refine CW.region ?_
                  refine RG.vl rfl rfl rfl (Ev.assign rfl rfl) ?_
                  refine RG.vl rfl rfl rfl (Ev.assign rfl rfl) ?_
                  refine RG.done ?_
                  refine QW.sub (S' := [(1, _), (2, _), (4, _), (5, _), (6, _), (7, _), (8, _)]) ⟨rfl, rfl, rfl, rfl, rfl, rfl, rfl, trivial⟩ ?_
                  refine QW.then_ ?_
                  refine CW.ret ?_
                  refine QW.blockR ?_
                  refine QW.thenRet ?_
                  refine QW.blockR ?_
                  refine QW.thenRet ?_
                  refine QW.thenRet ?_
                  refine QW.blockR ?_
                  refine QW.thenRet ?_
                  refine QW.ret2 rfl rfl rfl ?_
                  have hB := (Ex.tr hR8 hxwl10)
                  obtain ⟨e1, e2⟩ := drawErr_bad s t.data.toList (by rintro ⟨_, _, h3⟩; have := (List.all_eq_true.1 h3) c (List.mem_of_getElem? hc); rw [okLetter_not ⟨by omega, by omega, by omega, by omega, by omega⟩] at this; cases this)
                  exact ⟨_, by rw [e1], by rw [e2]; exact RdL.nil_ _, hB⟩
      · refine CW.exit ?_
        refine QW.thenExit ?_
        refine QW.thenExit ?_
        refine QW.blockHit ?_
        refine QW.then_ ?_
        refine CW.seq ?_
        refine CW.region ?_
        refine RG.vl rfl rfl rfl (Ev.move rfl rfl) ?_
        refine RG.vl rfl rfl rfl (Ev.assign rfl rfl) ?_
        refine RG.vl rfl rfl rfl (Ev.assign rfl rfl) ?_
        refine RG.done ?_
        refine QW.then_ ?_
        refine CW.ret ?_
        refine QW.ret2 rfl rfl rfl ?_
        have hB := (Ex.tr hR8 hxwl10)
        have hlz : t.data.toList.length = t.size := Array.length_toList
        have e : k = t.data.toList.length := by omega
        rw [e, List.take_length] at hown hall
        obtain ⟨e1, e2⟩ := drawErr_ok s t.data.toList ⟨hs, by rw [hlz]; omega, hall⟩
        exact ⟨_, by rw [e1], by rw [e2]; exact RdL.of_own Br.c_len hown, hB⟩

end Go.Proofs.Ytnecppiamecemaa
