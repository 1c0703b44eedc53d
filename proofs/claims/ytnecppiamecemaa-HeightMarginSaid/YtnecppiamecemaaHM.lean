/- Walks (HM). Written by program. -/
import Derived.Test.YtnecppiamecemaaT
import Derived.Test.YtnecppiamecemaaHX
import Derived.Test.YtnecppiamecemaaLK
namespace Go.Proofs.Ytnecppiamecemaa
open Go.RowKit
set_option maxRecDepth 100000 in
set_option maxHeartbeats 1000000 in
theorem draw_own (s : Su) (t : ByteArray) (w : World) (hlen : t.size ≤ 1000) :
    Ret Try.prog 18 [s.v, .string t] w (fun v w' => ∃ u, v = .tuple #[u, .int .i64 (drawErr s t.data.toList)] ∧ Own w' w.heap.size 48 3 Br.c u (drawOf s t.data.toList) ∧ Ex w w') := by
  have hB0 : Ex w w := Ex.rfl_ _
  refine Ret.of Try.func18 rfl Try.ntmps18 rfl ?_
  refine CW.seq ?_
  refine CW.region ?_
  refine RG.box rfl rfl rfl rfl rfl (fun g1 w1 eg1 hx1 hb1 => ?_)
  have hle2 : w.heap.size ≤ g1 := by have := (Ex.rfl_ w).size; omega
  have hE3 := hx1
  refine RG.vl rfl rfl rfl (Ev.assign rfl rfl) ?_
  refine RG.vl rfl rfl rfl (Ev.assign rfl rfl) ?_
  refine RG.done ?_
  refine QW.then_ ?_
  refine CW.seq ?_
  refine CW.seq ?_
  refine CW.region ?_
  refine RG.vl rfl rfl rfl (Ev.ldAgg rfl rfl Try.underlying23 rfl sz_23 rfl (hb1.cells)) ?_
  refine RG.call rfl rfl rfl rfl rfl rfl rfl en_15 (right_ret _ _) ?_
  rintro _ w4 ⟨rfl, hx4⟩
  replace hE3 := Ex.tr hE3 hx4
  have hE5 := hx4
  refine RG.vl rfl rfl rfl (Ev.notP rfl rfl) ?_
  refine RG.vl rfl rfl rfl (Ev.move rfl rfl) ?_
  refine RG.split (d := 15) rfl (fun hg6 => ?_) (fun hg6 => ?_)
  · refine RG.pass rfl rfl rfl ?_
    refine RG.pass rfl rfl rfl ?_
    refine RG.pass rfl rfl rfl ?_
    refine RG.pass rfl rfl rfl ?_
    refine RG.pass rfl rfl rfl ?_
    refine RG.vl rfl rfl rfl (Ev.pickT rfl rfl rfl) ?_
    refine RG.done ?_
    refine QW.then_ ?_
    refine CW.condT rfl ?_
    refine CW.seq ?_
    refine CW.region ?_
    refine RG.vl rfl rfl rfl (Ev.assign rfl rfl) ?_
    refine RG.vl rfl rfl rfl (Ev.assign rfl rfl) ?_
    refine RG.done ?_
    refine QW.sub (S' := [(1, _), (2, _), (4, _), (5, _)]) ⟨rfl, rfl, rfl, rfl, trivial⟩ ?_
    refine QW.then_ ?_
    refine CW.ret ?_
    refine QW.thenRet ?_
    refine QW.ret2 rfl rfl rfl ?_
    have hB := (Ex.tr hB0 hE3)
    obtain ⟨e1, e2⟩ := drawErr_bad s t.data.toList (by rintro ⟨h1, h2, _⟩; first | exact absurd h1 (by assumption) | (rw [Array.length_toList] at h2; exact absurd (show (t.size : Int) = s.pl from h2) (by assumption)))
    exact ⟨_, by rw [e1], by rw [e2]; exact Own.nil_ _ _ _ _ _, hB⟩
  · refine RG.vl rfl rfl rfl (Ev.move rfl rfl) ?_
    refine RG.vl rfl rfl rfl (Ev.lenStr rfl rfl rfl Try.underlying9) ?_
    refine RG.vl rfl rfl rfl (Ev.fld rfl rfl fld_23_0) ?_
    refine RG.vl rfl rfl rfl (Ev.ldAt rfl rfl Try.underlying3 rfl ((hb1.ext hE5).cells) (rfl)) ?_
    refine RG.vl rfl rfl rfl (Ev.neI rfl rfl rfl) ?_
    refine RG.vl rfl rfl rfl (Ev.pickF rfl rfl rfl) ?_
    refine RG.done ?_
    refine QW.then_ ?_
    refine CW.condP rfl (fun hc7 => ?_) (fun hc7 => ?_)
    · refine CW.seq ?_
      refine CW.region ?_
      refine RG.vl rfl rfl rfl (Ev.assign rfl rfl) ?_
      refine RG.vl rfl rfl rfl (Ev.assign rfl rfl) ?_
      refine RG.done ?_
      refine QW.sub (S' := [(1, _), (2, _), (4, _), (5, _)]) ⟨rfl, rfl, rfl, rfl, trivial⟩ ?_
      refine QW.then_ ?_
      refine CW.ret ?_
      refine QW.thenRet ?_
      refine QW.ret2 rfl rfl rfl ?_
      have hB := (Ex.tr hB0 hE3)
      obtain ⟨e1, e2⟩ := drawErr_bad s t.data.toList (by rintro ⟨h1, h2, _⟩; first | exact absurd h1 (by assumption) | (rw [Array.length_toList] at h2; exact absurd (show (t.size : Int) = s.pl from h2) (by assumption)))
      exact ⟨_, by rw [e1], by rw [e2]; exact Own.nil_ _ _ _ _ _, hB⟩
    · refine CW.skip ?_
      refine QW.then_ ?_
      refine CW.seq ?_
      have hs : Okay s := Decidable.not_not.1 (by assumption)
      obtain ⟨a1, a2, a3, a4, a5, a6, a7, a8, a9, a10, a11⟩ := id hs
      have hlz : t.data.toList.length = t.size := Array.length_toList
      refine CW.region ?_
      refine RG.mkMap (fun b : Bool => Value.bool b) rfl rfl rfl rfl (fun gH w8 egH hx8 hb8 => ?_)
      have hle9 : w.heap.size ≤ gH := by have := hE3.size; omega
      have hle10 : w1.heap.size ≤ gH := by have := hE5.size; omega
      have hle11 : w4.heap.size ≤ gH := by have := (Ex.rfl_ w4).size; omega
      have hlt12 : g1 < gH := by have := Blk.lt (hb1.ext hE5); omega
      replace hE3 := Ex.tr hE3 hx8
      replace hE5 := Ex.tr hE5 hx8
      refine RG.vl rfl rfl rfl (Ev.fld rfl rfl fld_23_4) ?_
      refine RG.vl rfl rfl rfl (Ev.ldAt rfl rfl Try.underlying3 rfl ((hb1.ext hE5).cells) (rfl)) ?_
      refine RG.mapPut keyB rfl rfl (.inr rfl) rfl rfl rfl Try.underlying81 Try.underlying4 hb8 (rfl) (fun wm13 hwm13 hbwm13 => ?_)
      replace hE3 := Wr.below hE3 hwm13 hle9
      replace hE5 := Wr.below hE5 hwm13 hle10
      refine RG.vl rfl rfl rfl (Ev.fld rfl rfl fld_23_5) ?_
      refine RG.vl rfl rfl rfl (Ev.ldAt rfl rfl Try.underlying3 rfl ((hb1.ext hE5).cells) (rfl)) ?_
      refine RG.mapPut keyB rfl rfl (.inr rfl) rfl rfl rfl Try.underlying81 Try.underlying4 hbwm13 (rfl) (fun wm14 hwm14 hbwm14 => ?_)
      replace hE3 := Wr.below hE3 hwm14 hle9
      replace hE5 := Wr.below hE5 hwm14 hle10
      refine RG.vl rfl rfl rfl (Ev.move rfl rfl) ?_
      refine RG.vl rfl rfl rfl (Ev.assign rfl rfl) ?_
      refine RG.done ?_
      refine QW.sub (S' := [(1, _), (2, _), (4, _), (5, _), (6, _)]) ⟨rfl, rfl, rfl, rfl, rfl, trivial⟩ ?_
      refine QW.then_ ?_
      refine CW.seq ?_
      refine CW.region ?_
      refine RG.vl rfl rfl rfl (Ev.assign rfl rfl) ?_
      refine RG.done ?_
      refine QW.then_ ?_
      refine CW.seq ?_
      refine CW.seq ?_
      refine CW.region ?_
      refine RG.vl rfl rfl rfl (Ev.move rfl rfl) ?_
      refine RG.toBytes rfl rfl rfl rfl rfl Try.underlying9 Try.underlying52 Try.underlying5 (by simp only [maxLen]; omega) (fun v15 wk16 hxwk16 hrwk16 => ?_)
      replace hE3 := Ex.tr hE3 hxwk16
      replace hE5 := Ex.tr hE5 hxwk16
      have hE17 := hxwk16
      refine RG.vl rfl rfl rfl (Ev.lenL rfl rfl rfl Try.underlying52 (hrwk16)) ?_
      refine RG.vl rfl rfl rfl (Ev.move rfl rfl) ?_
      refine RG.done ?_
      refine QW.then_ ?_
      refine CW.block ?_
      replace hb1 := (hb1.ext hE5)
      replace hbwm14 := (hbwm14.ext hE17)
      have hR18 := (Ex.tr hB0 hE3)
      have hR19 := hE5
      refine CW.loop2 [(2, _), (6, _), (29, _), (30, _)] ⟨rfl, rfl, rfl, rfl, trivial⟩ (fun (k : Nat) (u : Value) => [(31, .int .i64 k), (7, u)]) (fun k u w' => (k ≤ t.size ∧ w'.ownsRow wk16.heap.size 48 3 u (drawL s (t.data.toList.take k) 0).length ((drawL s (t.data.toList.take k) 0).flatMap Br.c) ∧ (t.data.toList.take k).all okLetter = true) ∧ Ex wk16 w') (fun k u => t.size - k) (0) (.slice none 0 0) ⟨rfl, rfl, trivial⟩ ⟨⟨Nat.zero_le _, own_nil _ _ _ _, rfl⟩, (Ex.rfl_ _)⟩ ?_
      rintro k u wl20 ⟨⟨hkl, hown, hall⟩, hxwl20⟩
      refine CW.sub (S' := [(31, _), (7, _), (2, _), (6, _), (29, _), (30, _)]) ⟨rfl, rfl, rfl, rfl, rfl, rfl, trivial⟩ ?_
      refine CW.seq ?_
      refine CW.region ?_
      refine RG.vl rfl rfl rfl (Ev.lss rfl rfl rfl) ?_
      refine RG.done ?_
      refine QW.then_ ?_
      refine CW.seq ?_
      refine CW.condP rfl (fun hc21 => ?_) (fun hc21 => ?_)
      · refine CW.skip ?_
        refine QW.then_ ?_
        refine CW.seq ?_
        refine CW.block ?_
        refine CW.seq ?_
        obtain ⟨c, hc⟩ : ∃ c, t.data.toList[k]? = some c := ⟨_, List.getElem?_eq_getElem (by omega)⟩
        have hkp := kpi s k hs (by omega) (by omega)
        have hdl := drawL_len s (t.data.toList.take k) 0
        rw [List.length_take] at hdl
        refine CW.region ?_
        refine RG.vl rfl rfl rfl (Ev.move rfl rfl) ?_
        refine RG.idxL rfl rfl rfl rfl rfl rfl Try.underlying52 sz_5 ((hrwk16.ext hxwl20)) (hc) (fun p22 hp22b hp22 => ?_)
        refine RG.vl rfl rfl rfl (Ev.ld0 rfl rfl Try.underlying5 rfl (hp22) (rfl)) ?_
        refine RG.vl rfl rfl rfl (Ev.assign rfl rfl) ?_
        refine RG.vl rfl rfl rfl (Ev.assign rfl rfl) ?_
        refine RG.done ?_
        refine QW.then_ ?_
        refine CW.seq ?_
        refine CW.seq ?_
        refine CW.region ?_
        refine RG.vl rfl rfl rfl (Ev.move rfl rfl) ?_
        refine RG.call rfl rfl rfl rfl rfl rfl rfl en_32 (idxb1_ret _ _ _) ?_
        rintro _ w23 ⟨rfl, hx23⟩
        replace hxwl20 := Ex.tr hxwl20 hx23
        have hE24 := hx23
        refine RG.vl rfl rfl rfl (Ev.lss rfl rfl rfl) ?_
        refine RG.done ?_
        refine QW.then_ ?_
        refine CW.condP rfl (fun hc25 => ?_) (fun hc25 => ?_)
        · refine CW.seq ?_
          refine CW.region ?_
          refine RG.vl rfl rfl rfl (Ev.assign rfl rfl) ?_
          refine RG.vl rfl rfl rfl (Ev.assign rfl rfl) ?_
          refine RG.done ?_
          refine QW.then_ ?_
          refine CW.ret ?_
          refine QW.thenRet ?_
          refine QW.blockR ?_
          refine QW.thenRet ?_
          refine QW.thenRet ?_
          refine QW.blockR ?_
          refine QW.thenRet ?_
          refine QW.ret2 rfl rfl rfl ?_
          have hB := (Ex.tr hR18 hxwl20)
          obtain ⟨e1, e2⟩ := drawErr_bad s t.data.toList (by rintro ⟨_, _, h3⟩; have := (List.all_eq_true.1 h3) c (List.mem_of_getElem? hc); rw [(idx_letters c).1 (by assumption)] at this; cases this)
          exact ⟨_, by rw [e1], by rw [e2]; exact Own.nil_ _ _ _ _ _, hB⟩
        · refine CW.skip ?_
          refine QW.then_ ?_
          refine CW.seq ?_
          refine CW.region ?_
          refine RG.vl rfl rfl rfl (Ev.move rfl rfl) ?_
          refine RG.vl rfl rfl rfl (Ev.neI rfl rfl rfl) ?_
          refine RG.done ?_
          refine QW.then_ ?_
          refine CW.condP rfl (fun hc26 => ?_) (fun hc26 => ?_)
          · refine CW.seq ?_
            refine CW.region ?_
            refine RG.vl rfl rfl rfl (Ev.move rfl rfl) ?_
            refine RG.vl rfl rfl rfl (Ev.eqI rfl rfl rfl) ?_
            refine RG.vl rfl rfl rfl (Ev.move rfl rfl) ?_
            refine RG.split (d := 43) rfl (fun hg27 => ?_) (fun hg27 => ?_)
            · refine RG.pass rfl rfl rfl ?_
              refine RG.pass rfl rfl rfl ?_
              refine RG.vl rfl rfl rfl (Ev.pickT rfl rfl rfl) ?_
              refine RG.vl rfl rfl rfl (Ev.move rfl rfl) ?_
              refine RG.vl rfl rfl rfl (Ev.eqI rfl rfl rfl) ?_
              refine RG.vl rfl rfl rfl (Ev.move rfl rfl) ?_
              refine RG.split (d := 49) rfl (fun hg28 => ?_) (fun hg28 => ?_)
              · refine RG.pass rfl rfl rfl ?_
                refine RG.pass rfl rfl rfl ?_
                refine RG.vl rfl rfl rfl (Ev.pickT rfl rfl rfl) ?_
                refine RG.vl rfl rfl rfl (Ev.assign rfl rfl) ?_
                refine RG.vl rfl rfl rfl (Ev.assign rfl rfl) ?_
                refine RG.done ?_
                refine QW.sub (S' := [(2, _), (6, _), (7, _), (8, _), (10, _), (11, _), (29, _), (30, _), (31, _)]) ⟨rfl, rfl, rfl, rfl, rfl, rfl, rfl, rfl, rfl, trivial⟩ ?_
                refine QW.then_ ?_
                refine CW.region ?_
                refine RG.vl rfl rfl rfl (Ev.move rfl rfl) ?_
                refine RG.vl rfl rfl rfl (Ev.fld rfl rfl fld_23_1) ?_
                refine RG.vl rfl rfl rfl (Ev.ldAt rfl rfl Try.underlying3 rfl ((hb1.ext hxwl20).cells) (rfl)) ?_
                refine RG.vl rfl rfl rfl (Ev.move rfl rfl) ?_
                refine RG.vl rfl rfl rfl (Ev.fld rfl rfl fld_23_2) ?_
                refine RG.vl rfl rfl rfl (Ev.ldAt rfl rfl Try.underlying3 rfl ((hb1.ext hxwl20).cells) (rfl)) ?_
                refine RG.vl rfl rfl rfl (Ev.mulI rfl rfl rfl (by omega)) ?_
                refine RG.vl rfl rfl rfl (Ev.addI rfl rfl rfl (by omega)) ?_
                refine RG.vl rfl rfl rfl (Ev.move rfl rfl) ?_
                refine RG.vl rfl rfl rfl (Ev.move rfl rfl) ?_
                refine RG.vl rfl rfl rfl ((Ev.look1 keyB rfl rfl rfl (hbwm14.ext hxwl20) Try.underlying81 Try.underlying4 inf_3).conv (hts_look s.lo s.hi _)) ?_
                refine RG.vl rfl rfl rfl (Ev.move rfl rfl) ?_
                refine RG.vl rfl rfl rfl (Ev.move rfl rfl) ?_
                refine RG.vl rfl rfl rfl ((Ev.look1 keyB rfl rfl rfl (hbwm14.ext hxwl20) Try.underlying81 Try.underlying4 inf_3).conv (hts_look s.lo s.hi _)) ?_
                refine RG.vl rfl rfl rfl (Ev.build1 rfl rfl rfl inf_48 rfl rfl (by kernel_rfl) rfl) ?_
                refine RG.buildD (xs := [.tmp 67]) rfl rfl rfl rfl rfl rfl rfl Try.underlying24 inf_48 rfl rfl rfl rfl (fun g29 w29 eg29 hx29 hb29 => ?_)
                have hsep30 := own_new (own_ext hown hE24) eg29
                replace hxwl20 := Ex.tr hxwl20 hx29
                replace hE24 := Ex.tr hE24 hx29
                refine RG.app rfl rfl rfl rfl rfl rfl rfl Try.underlying24 inf_48 rfl rfl (own_ext hown hE24) rfl (fun _ => ⟨_, rfl, hb29.cells⟩) rfl (by simp only [maxLen]; omega) (by omega) (hxwl20.size) (fun v31 wa32 hown33 hgr34 hat35 => ?_)
                have hb36 := Blk.grown hb29 hgr34 hsep30.symm
                have hsep37 := sep_app hat35 hsep30 (Blk.lt hb29)
                replace hxwl20 := own_block (own_ext hown hE24) hxwl20 hgr34 (Nat.le_refl _) hxwl20.size
                refine RG.vl rfl rfl rfl (Ev.assign rfl rfl) ?_
                refine RG.done ?_
                refine QW.sub (S' := [(2, _), (6, _), (7, _), (29, _), (30, _), (31, _)]) ⟨rfl, rfl, rfl, rfl, rfl, rfl, trivial⟩ ?_
                refine QW.blockN ?_
                refine QW.then_ ?_
                refine CW.region ?_
                refine RG.vl rfl rfl rfl (Ev.addI rfl rfl rfl (by omega)) ?_
                refine RG.vl rfl rfl rfl (Ev.move rfl rfl) ?_
                refine RG.done ?_
                refine QW.round2 (k + 1) (v31) ⟨rfl, rfl, trivial⟩ ⟨rfl, rfl, rfl, rfl, trivial⟩ ⟨⟨by omega, by rw [drawL_step s _ k c hc (fun e => absurd (show (c.toNat : Int) = 63 by rw [e]; rfl) (by assumption)), mkb_eq s c k (true) (true) (selT c 65 (by assumption)) (selT c 68 (by assumption)), List.length_append, List.flatMap_append]; exact hown33, all_snoc _ k c _ hc hall (by have := mt (idx_letters c).2 (by assumption); simpa using this)⟩, hxwl20⟩ (by omega)
              · refine RG.vl rfl rfl rfl (Ev.move rfl rfl) ?_
                refine RG.vl rfl rfl rfl (Ev.eqI rfl rfl rfl) ?_
                refine RG.vl rfl rfl rfl (Ev.pickF rfl rfl rfl) ?_
                refine RG.vl rfl rfl rfl (Ev.assign rfl rfl) ?_
                refine RG.vl rfl rfl rfl (Ev.assign rfl rfl) ?_
                refine RG.done ?_
                refine QW.sub (S' := [(2, _), (6, _), (7, _), (8, _), (10, _), (11, _), (29, _), (30, _), (31, _)]) ⟨rfl, rfl, rfl, rfl, rfl, rfl, rfl, rfl, rfl, trivial⟩ ?_
                refine QW.then_ ?_
                refine CW.region ?_
                refine RG.vl rfl rfl rfl (Ev.move rfl rfl) ?_
                refine RG.vl rfl rfl rfl (Ev.fld rfl rfl fld_23_1) ?_
                refine RG.vl rfl rfl rfl (Ev.ldAt rfl rfl Try.underlying3 rfl ((hb1.ext hxwl20).cells) (rfl)) ?_
                refine RG.vl rfl rfl rfl (Ev.move rfl rfl) ?_
                refine RG.vl rfl rfl rfl (Ev.fld rfl rfl fld_23_2) ?_
                refine RG.vl rfl rfl rfl (Ev.ldAt rfl rfl Try.underlying3 rfl ((hb1.ext hxwl20).cells) (rfl)) ?_
                refine RG.vl rfl rfl rfl (Ev.mulI rfl rfl rfl (by omega)) ?_
                refine RG.vl rfl rfl rfl (Ev.addI rfl rfl rfl (by omega)) ?_
                refine RG.vl rfl rfl rfl (Ev.move rfl rfl) ?_
                refine RG.vl rfl rfl rfl (Ev.move rfl rfl) ?_
                refine RG.vl rfl rfl rfl ((Ev.look1 keyB rfl rfl rfl (hbwm14.ext hxwl20) Try.underlying81 Try.underlying4 inf_3).conv (hts_look s.lo s.hi _)) ?_
                refine RG.vl rfl rfl rfl (Ev.move rfl rfl) ?_
                refine RG.vl rfl rfl rfl (Ev.move rfl rfl) ?_
                refine RG.vl rfl rfl rfl ((Ev.look1 keyB rfl rfl rfl (hbwm14.ext hxwl20) Try.underlying81 Try.underlying4 inf_3).conv (hts_look s.lo s.hi _)) ?_
                refine RG.vl rfl rfl rfl (Ev.build1 rfl rfl rfl inf_48 rfl rfl (by kernel_rfl) rfl) ?_
                refine RG.buildD (xs := [.tmp 67]) rfl rfl rfl rfl rfl rfl rfl Try.underlying24 inf_48 rfl rfl rfl rfl (fun g38 w38 eg38 hx38 hb38 => ?_)
                have hsep39 := own_new (own_ext hown hE24) eg38
                replace hxwl20 := Ex.tr hxwl20 hx38
                replace hE24 := Ex.tr hE24 hx38
                refine RG.app rfl rfl rfl rfl rfl rfl rfl Try.underlying24 inf_48 rfl rfl (own_ext hown hE24) rfl (fun _ => ⟨_, rfl, hb38.cells⟩) rfl (by simp only [maxLen]; omega) (by omega) (hxwl20.size) (fun v40 wa41 hown42 hgr43 hat44 => ?_)
                have hb45 := Blk.grown hb38 hgr43 hsep39.symm
                have hsep46 := sep_app hat44 hsep39 (Blk.lt hb38)
                replace hxwl20 := own_block (own_ext hown hE24) hxwl20 hgr43 (Nat.le_refl _) hxwl20.size
                refine RG.vl rfl rfl rfl (Ev.assign rfl rfl) ?_
                refine RG.done ?_
                refine QW.sub (S' := [(2, _), (6, _), (7, _), (29, _), (30, _), (31, _)]) ⟨rfl, rfl, rfl, rfl, rfl, rfl, trivial⟩ ?_
                refine QW.blockN ?_
                refine QW.then_ ?_
                refine CW.region ?_
                refine RG.vl rfl rfl rfl (Ev.addI rfl rfl rfl (by omega)) ?_
                refine RG.vl rfl rfl rfl (Ev.move rfl rfl) ?_
                refine RG.done ?_
                refine QW.round2 (k + 1) (v40) ⟨rfl, rfl, trivial⟩ ⟨rfl, rfl, rfl, rfl, trivial⟩ ⟨⟨by omega, by rw [drawL_step s _ k c hc (fun e => absurd (show (c.toNat : Int) = 63 by rw [e]; rfl) (by assumption)), mkb_eq s c k (true) (decide ((c.toNat : Int) = 70)) (selT c 65 (by assumption)) (selF c 68 (by assumption)), List.length_append, List.flatMap_append]; exact hown42, all_snoc _ k c _ hc hall (by have := mt (idx_letters c).2 (by assumption); simpa using this)⟩, hxwl20⟩ (by omega)
            · refine RG.vl rfl rfl rfl (Ev.move rfl rfl) ?_
              refine RG.vl rfl rfl rfl (Ev.eqI rfl rfl rfl) ?_
              refine RG.vl rfl rfl rfl (Ev.pickF rfl rfl rfl) ?_
              refine RG.vl rfl rfl rfl (Ev.move rfl rfl) ?_
              refine RG.vl rfl rfl rfl (Ev.eqI rfl rfl rfl) ?_
              refine RG.vl rfl rfl rfl (Ev.move rfl rfl) ?_
              refine RG.split (d := 49) rfl (fun hg47 => ?_) (fun hg47 => ?_)
              · refine RG.pass rfl rfl rfl ?_
                refine RG.pass rfl rfl rfl ?_
                refine RG.vl rfl rfl rfl (Ev.pickT rfl rfl rfl) ?_
                refine RG.vl rfl rfl rfl (Ev.assign rfl rfl) ?_
                refine RG.vl rfl rfl rfl (Ev.assign rfl rfl) ?_
                refine RG.done ?_
                refine QW.sub (S' := [(2, _), (6, _), (7, _), (8, _), (10, _), (11, _), (29, _), (30, _), (31, _)]) ⟨rfl, rfl, rfl, rfl, rfl, rfl, rfl, rfl, rfl, trivial⟩ ?_
                refine QW.then_ ?_
                refine CW.region ?_
                refine RG.vl rfl rfl rfl (Ev.move rfl rfl) ?_
                refine RG.vl rfl rfl rfl (Ev.fld rfl rfl fld_23_1) ?_
                refine RG.vl rfl rfl rfl (Ev.ldAt rfl rfl Try.underlying3 rfl ((hb1.ext hxwl20).cells) (rfl)) ?_
                refine RG.vl rfl rfl rfl (Ev.move rfl rfl) ?_
                refine RG.vl rfl rfl rfl (Ev.fld rfl rfl fld_23_2) ?_
                refine RG.vl rfl rfl rfl (Ev.ldAt rfl rfl Try.underlying3 rfl ((hb1.ext hxwl20).cells) (rfl)) ?_
                refine RG.vl rfl rfl rfl (Ev.mulI rfl rfl rfl (by omega)) ?_
                refine RG.vl rfl rfl rfl (Ev.addI rfl rfl rfl (by omega)) ?_
                refine RG.vl rfl rfl rfl (Ev.move rfl rfl) ?_
                refine RG.vl rfl rfl rfl (Ev.move rfl rfl) ?_
                refine RG.vl rfl rfl rfl ((Ev.look1 keyB rfl rfl rfl (hbwm14.ext hxwl20) Try.underlying81 Try.underlying4 inf_3).conv (hts_look s.lo s.hi _)) ?_
                refine RG.vl rfl rfl rfl (Ev.move rfl rfl) ?_
                refine RG.vl rfl rfl rfl (Ev.move rfl rfl) ?_
                refine RG.vl rfl rfl rfl ((Ev.look1 keyB rfl rfl rfl (hbwm14.ext hxwl20) Try.underlying81 Try.underlying4 inf_3).conv (hts_look s.lo s.hi _)) ?_
                refine RG.vl rfl rfl rfl (Ev.build1 rfl rfl rfl inf_48 rfl rfl (by kernel_rfl) rfl) ?_
                refine RG.buildD (xs := [.tmp 67]) rfl rfl rfl rfl rfl rfl rfl Try.underlying24 inf_48 rfl rfl rfl rfl (fun g48 w48 eg48 hx48 hb48 => ?_)
                have hsep49 := own_new (own_ext hown hE24) eg48
                replace hxwl20 := Ex.tr hxwl20 hx48
                replace hE24 := Ex.tr hE24 hx48
                refine RG.app rfl rfl rfl rfl rfl rfl rfl Try.underlying24 inf_48 rfl rfl (own_ext hown hE24) rfl (fun _ => ⟨_, rfl, hb48.cells⟩) rfl (by simp only [maxLen]; omega) (by omega) (hxwl20.size) (fun v50 wa51 hown52 hgr53 hat54 => ?_)
                have hb55 := Blk.grown hb48 hgr53 hsep49.symm
                have hsep56 := sep_app hat54 hsep49 (Blk.lt hb48)
                replace hxwl20 := own_block (own_ext hown hE24) hxwl20 hgr53 (Nat.le_refl _) hxwl20.size
                refine RG.vl rfl rfl rfl (Ev.assign rfl rfl) ?_
                refine RG.done ?_
                refine QW.sub (S' := [(2, _), (6, _), (7, _), (29, _), (30, _), (31, _)]) ⟨rfl, rfl, rfl, rfl, rfl, rfl, trivial⟩ ?_
                refine QW.blockN ?_
                refine QW.then_ ?_
                refine CW.region ?_
                refine RG.vl rfl rfl rfl (Ev.addI rfl rfl rfl (by omega)) ?_
                refine RG.vl rfl rfl rfl (Ev.move rfl rfl) ?_
                refine RG.done ?_
                refine QW.round2 (k + 1) (v50) ⟨rfl, rfl, trivial⟩ ⟨rfl, rfl, rfl, rfl, trivial⟩ ⟨⟨by omega, by rw [drawL_step s _ k c hc (fun e => absurd (show (c.toNat : Int) = 63 by rw [e]; rfl) (by assumption)), mkb_eq s c k (decide ((c.toNat : Int) = 70)) (true) (selF c 65 (by assumption)) (selT c 68 (by assumption)), List.length_append, List.flatMap_append]; exact hown52, all_snoc _ k c _ hc hall (by have := mt (idx_letters c).2 (by assumption); simpa using this)⟩, hxwl20⟩ (by omega)
              · refine RG.vl rfl rfl rfl (Ev.move rfl rfl) ?_
                refine RG.vl rfl rfl rfl (Ev.eqI rfl rfl rfl) ?_
                refine RG.vl rfl rfl rfl (Ev.pickF rfl rfl rfl) ?_
                refine RG.vl rfl rfl rfl (Ev.assign rfl rfl) ?_
                refine RG.vl rfl rfl rfl (Ev.assign rfl rfl) ?_
                refine RG.done ?_
                refine QW.sub (S' := [(2, _), (6, _), (7, _), (8, _), (10, _), (11, _), (29, _), (30, _), (31, _)]) ⟨rfl, rfl, rfl, rfl, rfl, rfl, rfl, rfl, rfl, trivial⟩ ?_
                refine QW.then_ ?_
                refine CW.region ?_
                refine RG.vl rfl rfl rfl (Ev.move rfl rfl) ?_
                refine RG.vl rfl rfl rfl (Ev.fld rfl rfl fld_23_1) ?_
                refine RG.vl rfl rfl rfl (Ev.ldAt rfl rfl Try.underlying3 rfl ((hb1.ext hxwl20).cells) (rfl)) ?_
                refine RG.vl rfl rfl rfl (Ev.move rfl rfl) ?_
                refine RG.vl rfl rfl rfl (Ev.fld rfl rfl fld_23_2) ?_
                refine RG.vl rfl rfl rfl (Ev.ldAt rfl rfl Try.underlying3 rfl ((hb1.ext hxwl20).cells) (rfl)) ?_
                refine RG.vl rfl rfl rfl (Ev.mulI rfl rfl rfl (by omega)) ?_
                refine RG.vl rfl rfl rfl (Ev.addI rfl rfl rfl (by omega)) ?_
                refine RG.vl rfl rfl rfl (Ev.move rfl rfl) ?_
                refine RG.vl rfl rfl rfl (Ev.move rfl rfl) ?_
                refine RG.vl rfl rfl rfl ((Ev.look1 keyB rfl rfl rfl (hbwm14.ext hxwl20) Try.underlying81 Try.underlying4 inf_3).conv (hts_look s.lo s.hi _)) ?_
                refine RG.vl rfl rfl rfl (Ev.move rfl rfl) ?_
                refine RG.vl rfl rfl rfl (Ev.move rfl rfl) ?_
                refine RG.vl rfl rfl rfl ((Ev.look1 keyB rfl rfl rfl (hbwm14.ext hxwl20) Try.underlying81 Try.underlying4 inf_3).conv (hts_look s.lo s.hi _)) ?_
                refine RG.vl rfl rfl rfl (Ev.build1 rfl rfl rfl inf_48 rfl rfl (by kernel_rfl) rfl) ?_
                refine RG.buildD (xs := [.tmp 67]) rfl rfl rfl rfl rfl rfl rfl Try.underlying24 inf_48 rfl rfl rfl rfl (fun g57 w57 eg57 hx57 hb57 => ?_)
                have hsep58 := own_new (own_ext hown hE24) eg57
                replace hxwl20 := Ex.tr hxwl20 hx57
                replace hE24 := Ex.tr hE24 hx57
                refine RG.app rfl rfl rfl rfl rfl rfl rfl Try.underlying24 inf_48 rfl rfl (own_ext hown hE24) rfl (fun _ => ⟨_, rfl, hb57.cells⟩) rfl (by simp only [maxLen]; omega) (by omega) (hxwl20.size) (fun v59 wa60 hown61 hgr62 hat63 => ?_)
                have hb64 := Blk.grown hb57 hgr62 hsep58.symm
                have hsep65 := sep_app hat63 hsep58 (Blk.lt hb57)
                replace hxwl20 := own_block (own_ext hown hE24) hxwl20 hgr62 (Nat.le_refl _) hxwl20.size
                refine RG.vl rfl rfl rfl (Ev.assign rfl rfl) ?_
                refine RG.done ?_
                refine QW.sub (S' := [(2, _), (6, _), (7, _), (29, _), (30, _), (31, _)]) ⟨rfl, rfl, rfl, rfl, rfl, rfl, trivial⟩ ?_
                refine QW.blockN ?_
                refine QW.then_ ?_
                refine CW.region ?_
                refine RG.vl rfl rfl rfl (Ev.addI rfl rfl rfl (by omega)) ?_
                refine RG.vl rfl rfl rfl (Ev.move rfl rfl) ?_
                refine RG.done ?_
                refine QW.round2 (k + 1) (v59) ⟨rfl, rfl, trivial⟩ ⟨rfl, rfl, rfl, rfl, trivial⟩ ⟨⟨by omega, by rw [drawL_step s _ k c hc (fun e => absurd (show (c.toNat : Int) = 63 by rw [e]; rfl) (by assumption)), mkb_eq s c k (decide ((c.toNat : Int) = 70)) (decide ((c.toNat : Int) = 70)) (selF c 65 (by assumption)) (selF c 68 (by assumption)), List.length_append, List.flatMap_append]; exact hown61, all_snoc _ k c _ hc hall (by have := mt (idx_letters c).2 (by assumption); simpa using this)⟩, hxwl20⟩ (by omega)
          · refine CW.skip ?_
            refine QW.blockN ?_
            refine QW.then_ ?_
            refine CW.region ?_
            refine RG.vl rfl rfl rfl (Ev.addI rfl rfl rfl (by omega)) ?_
            refine RG.vl rfl rfl rfl (Ev.move rfl rfl) ?_
            refine RG.done ?_
            refine QW.round2 (k + 1) (u) ⟨rfl, rfl, trivial⟩ ⟨rfl, rfl, rfl, rfl, trivial⟩ ⟨⟨by omega, by rw [drawL_skip s _ k c hc (byte_eq (d := 63) (Decidable.not_not.1 (by assumption)))]; exact (own_ext hown hE24), all_snoc _ k c _ hc hall (by have := mt (idx_letters c).2 (by assumption); simpa using this)⟩, hxwl20⟩ (by omega)
      · refine CW.exit ?_
        refine QW.thenExit ?_
        refine QW.thenExit ?_
        refine QW.blockHit ?_
        refine QW.then_ ?_
        refine CW.seq ?_
        refine CW.region ?_
        refine RG.vl rfl rfl rfl (Ev.move rfl rfl) ?_
        refine RG.vl rfl rfl rfl (Ev.assign rfl rfl) ?_
        refine RG.vl rfl rfl rfl (Ev.assign rfl rfl) ?_
        refine RG.done ?_
        refine QW.then_ ?_
        refine CW.ret ?_
        refine QW.ret2 rfl rfl rfl ?_
        have hB := (Ex.tr hR18 hxwl20)
        have e : k = t.data.toList.length := by omega
        rw [e, List.take_length] at hown hall
        obtain ⟨e1, e2⟩ := drawErr_ok s t.data.toList ⟨hs, by omega, hall⟩
        have hsz := hR18.size
        exact ⟨_, by rw [e1], by rw [e2]; exact Own.low (xs := drawL s t.data.toList 0) (enc := Br.c) hown (by omega), hB⟩

set_option maxRecDepth 100000 in
set_option maxHeartbeats 1000000 in
theorem push_ret (u : Value) (l : List I8) (i : Int) (w : World) (hl : RdL w 1 encS u l) (hi : 0 ≤ i) :
    Ret Try.prog 22 [u, .int .i64 i] w (fun v w' => ∃ n, v = .int .i64 n ∧ 0 ≤ n ∧ n ≤ 128 ∧ Ex w w') := by
  have hB0 : Ex w w := Ex.rfl_ _
  refine Ret.of Try.func22 rfl Try.ntmps22 rfl ?_
  refine CW.seq ?_
  refine CW.region ?_
  refine RG.vl rfl rfl rfl (Ev.assign rfl rfl) ?_
  refine RG.done ?_
  refine QW.then_ ?_
  refine CW.seq ?_
  refine CW.seq ?_
  refine CW.region ?_
  refine RG.vl rfl rfl rfl (Ev.move rfl rfl) ?_
  refine RG.vl rfl rfl rfl (Ev.lenL rfl rfl rfl Try.underlying53 (hl)) ?_
  refine RG.vl rfl rfl rfl (Ev.eqI rfl rfl rfl) ?_
  refine RG.done ?_
  refine QW.then_ ?_
  refine CW.condP rfl (fun hc1 => ?_) (fun hc1 => ?_)
  · refine CW.seq ?_
    refine CW.region ?_
    refine RG.vl rfl rfl rfl (Ev.assign rfl rfl) ?_
    refine RG.done ?_
    refine QW.then_ ?_
    refine CW.ret ?_
    refine QW.thenRet ?_
    refine QW.ret1 rfl rfl ?_
    have hB := hB0
    exact ⟨_, rfl, by omega, by omega, hB⟩
  · refine CW.skip ?_
    refine QW.then_ ?_
    refine CW.seq ?_
    obtain ⟨k, hk⟩ : ∃ k : Nat, i % (l.length : Int) = (k : Int) := ⟨(i % (l.length : Int)).toNat, by have := Int.emod_nonneg i (show (l.length : Int) ≠ 0 by omega); omega⟩
    have hkl := Int.emod_lt_of_pos i (show (0 : Int) < (l.length : Int) by omega)
    obtain ⟨c, hc⟩ : ∃ c, l[k]? = some c := ⟨_, List.getElem?_eq_getElem (by omega)⟩
    obtain ⟨c1, c2⟩ := bounds_i8 c.2
    refine CW.region ?_
    refine RG.vl rfl rfl rfl (Ev.move rfl rfl) ?_
    refine RG.vl rfl rfl rfl (Ev.move rfl rfl) ?_
    refine RG.vl rfl rfl rfl (Ev.move rfl rfl) ?_
    refine RG.vl rfl rfl rfl (Ev.lenL rfl rfl rfl Try.underlying53 (hl)) ?_
    refine RG.vl rfl rfl rfl ((Ev.remI rfl rfl rfl (by omega)).conv (congrArg (Value.int .i64) hk)) ?_
    refine RG.idxL rfl rfl rfl rfl rfl rfl Try.underlying53 sz_56 (hl) (hc) (fun p2 hp2b hp2 => ?_)
    refine RG.vl rfl rfl rfl (Ev.ld0 rfl rfl Try.underlying56 rfl (hp2) (rfl)) ?_
    refine RG.vl rfl rfl rfl (Ev.to64 rfl rfl Try.underlying56 Try.underlying3 (by omega)) ?_
    refine RG.vl rfl rfl rfl (Ev.assign rfl rfl) ?_
    refine RG.done ?_
    refine QW.then_ ?_
    refine CW.seq ?_
    refine CW.region ?_
    refine RG.vl rfl rfl rfl (Ev.move rfl rfl) ?_
    refine RG.vl rfl rfl rfl (Ev.move rfl rfl) ?_
    refine RG.vl rfl rfl rfl (Ev.negI rfl rfl (by omega)) ?_
    refine RG.vl rfl rfl rfl (Ev.max2 rfl rfl rfl rfl) ?_
    refine RG.vl rfl rfl rfl (Ev.assign rfl rfl) ?_
    refine RG.done ?_
    refine QW.sub (S' := [(4, _)]) ⟨rfl, trivial⟩ ?_
    refine QW.then_ ?_
    refine CW.ret ?_
    refine QW.ret1 rfl rfl ?_
    have hB := hB0
    exact ⟨_, rfl, by omega, by omega, hB⟩

end Go.Proofs.Ytnecppiamecemaa
