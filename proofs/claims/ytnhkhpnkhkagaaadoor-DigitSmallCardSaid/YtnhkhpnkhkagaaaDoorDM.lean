/- Walks (DM). Written by program. -/
import Derived.Test.YtnhkhpnkhkagaaaDoorT
import Derived.Test.YtnhkhpnkhkagaaaDoorDL
namespace Go.Proofs.YtnhkhpnkhkagaaaDoor
open Go.RowKit
set_option maxRecDepth 100000 in
set_option maxHeartbeats 4000000 in
theorem weighted_ret (el : Bool) (lv : Value) (l : List UInt8) (w : World) (hl : RdL w 1 encB lv l) :
    Ret Tryd.prog 29 [.bool el, lv] w (fun v w' => ∃ ws wv, v = .agg #[.int .u8 ((if el then 2 else 1 : Nat) : Int), wv] ∧ Own w' w.heap.size 3 1 encI wv ws ∧ rightD (if el then 2 else 1) ws = true ∧ Ex w w') := by
  obtain ⟨lA, lC, rfl⟩ := hl.shape
  have hB0 : Ex w w := Ex.rfl_ _
  refine Ret.of Tryd.func29 rfl Tryd.ntmps29 rfl ?_
  refine CW.seq ?_
  refine CW.region ?_
  refine RG.alloc_ rfl rfl rfl rfl inf_24 (fun gR w1 egR hx1 hb1 => ?_)
  have hle2 : w.heap.size ≤ gR := by have := (Ex.rfl_ w).size; omega
  have hE3 := hx1
  refine RG.done ?_
  refine QW.then_ ?_
  refine CW.seq ?_
  have hz0 := (Ex.tr hB0 hE3)
  refine CW.region ?_
  refine RG.vl rfl rfl rfl (Ev.build1 rfl rfl rfl inf_24 rfl rfl (by kernel_rfl) rfl) ?_
  replace hl := (hl.ext hE3)
  have hR4 := (Ex.tr hB0 hE3)
  refine RG.local_ rfl rfl rfl rfl (fun _ => rfl) rfl rfl (fun _ => rfl) inf_24 rfl rfl rfl (fun gS w5 egS hx5 hb5 => ?_)
  have hle6 : w1.heap.size ≤ gS := by have := (Ex.rfl_ w1).size; omega
  have hlt7 : gR < gS := by have := Blk.lt hb1; omega
  have hE8 := hx5
  refine RG.done ?_
  refine QW.then_ ?_
  refine CW.seq ?_
  cases el
  · refine CW.region ?_
    refine RG.vl rfl rfl rfl (Ev.assign rfl rfl) ?_
    refine RG.done ?_
    refine QW.then_ ?_
    refine CW.seq ?_
    refine CW.seq ?_
    refine CW.region ?_
    refine RG.vl rfl rfl rfl (Ev.move rfl rfl) ?_
    refine RG.done ?_
    refine QW.then_ ?_
    refine CW.condF rfl ?_
    refine CW.skip ?_
    refine QW.then_ ?_
    refine CW.seq ?_
    refine CW.seq ?_
    refine CW.region ?_
    refine RG.vl rfl rfl rfl (Ev.assign rfl rfl) ?_
    refine RG.done ?_
    refine QW.then_ ?_
    refine CW.block ?_
    refine CW.loop3 [(1, _), (4, _), (5, _), (6, _)] ⟨rfl, rfl, rfl, rfl, trivial⟩ (fun (i : Nat) (A : Option Addr) (C : Nat) => [(7, .int .i64 i)]) (fun i A C w' => (i ≤ 10 ∧ i ≤ l.length ∧ Own w' w1.heap.size 3 1 encI (Value.slice A ((l.take i).map (wf 9)).length C) ((l.take i).map (wf 9)) ∧ Blk w' gS 24 [.int .u8 1, (Value.slice A ((l.take i).map (wf 9)).length C)] ∧ ((Value.slice A ((l.take i).map (wf 9)).length C).ownBlock = some gS → False)) ∧ Ex w1 w') (fun i A C => 10 - i) (0) (none) (0) ⟨rfl, trivial⟩ ⟨⟨by omega, by omega, Own.nil_ _ _ _ _ _, hb5, fun e => by cases e⟩, hE8⟩ ?_
    rintro i A C wl9 ⟨⟨hi, hi2, hown, hbS, hsb⟩, hxwl9⟩
    refine CW.sub (S' := [(7, _), (1, _), (4, _), (5, _), (6, _)]) ⟨rfl, rfl, rfl, rfl, rfl, trivial⟩ ?_
    refine CW.seq ?_
    refine CW.seq ?_
    refine CW.region ?_
    refine RG.vl rfl rfl rfl (Ev.move rfl rfl) ?_
    refine RG.vl rfl rfl rfl (Ev.move rfl rfl) ?_
    refine RG.vl rfl rfl rfl (Ev.lenL rfl rfl rfl Tryd.underlying39 ((hl.ext hxwl9))) ?_
    refine RG.vl rfl rfl rfl (Ev.lss rfl rfl rfl) ?_
    refine RG.vl rfl rfl rfl (Ev.move rfl rfl) ?_
    refine RG.split (d := 15) rfl (fun hg10 => ?_) (fun hg10 => ?_)
    · refine RG.vl rfl rfl rfl (Ev.move rfl rfl) ?_
      refine RG.vl rfl rfl rfl (Ev.lss rfl rfl rfl) ?_
      refine RG.vl rfl rfl rfl (Ev.pickT rfl rfl rfl) ?_
      refine RG.done ?_
      refine QW.then_ ?_
      refine CW.condP rfl (fun hc11 => ?_) (fun hc11 => ?_)
      · refine CW.skip ?_
        refine QW.then_ ?_
        refine CW.seq ?_
        refine CW.block ?_
        obtain ⟨b, hb⟩ : ∃ b, l[i]? = some b := ⟨_, List.getElem?_eq_getElem (by omega)⟩
        have hb8 := b.toNat_lt
        have hml : ((l.take i).map (wf 9)).length ≤ 10 := by rw [List.length_map, List.length_take]; omega
        refine CW.draw [11, 13] (.ex) 14 rfl mixed (fun wd12 hxwd12 => ?_)
        replace hxwl9 := Ex.tr hxwl9 hxwd12
        have hE13 := hxwd12
        refine AG.takeW 0 rfl (by kernel_rfl) (by kernel_rfl) rfl rfl rfl (fun _ => Ev.fld rfl rfl fld_24_1) ?_
        refine AG.take 1 rfl (by kernel_rfl) (by kernel_rfl) rfl rfl rfl (fun wq hq => Ev.ldAt rfl rfl Tryd.underlying22 rfl (((hbS.ext hE13).ext hq).cells) (rfl)) ?_
        refine AG.takeW 2 rfl (by kernel_rfl) (by kernel_rfl) rfl rfl rfl (fun _ => Ev.move rfl rfl) ?_
        refine AG.takeW 3 rfl (by kernel_rfl) (by kernel_rfl) rfl rfl rfl (fun _ => Ev.move rfl rfl) ?_
        refine AG.idxL _ 4 rfl (by kernel_rfl) (by kernel_rfl) rfl rfl rfl rfl rfl rfl Tryd.underlying39 sz_5 ((hl.ext hxwl9)) (hb) (fun p14 hp14b hp14 => ?_)
        refine AG.takeW 7 rfl (by kernel_rfl) (by kernel_rfl) rfl rfl rfl (fun _ => Ev.move rfl rfl) ?_
        refine AG.only 5 rfl (by kernel_rfl) ?_
        refine RG.vl rfl rfl rfl (Ev.ld0 rfl rfl Tryd.underlying5 rfl (hp14) (rfl)) ?_
        refine RG.done ?_
        refine QW.an (fun _ => (Ex.rfl_ _)) ?_
        refine AG.takeW 6 rfl (by kernel_rfl) (by kernel_rfl) rfl rfl rfl (fun _ => Ev.to64 rfl rfl Tryd.underlying5 Tryd.underlying3 (by omega)) ?_
        refine AG.takeW 8 rfl (by kernel_rfl) (by kernel_rfl) rfl rfl rfl (fun _ => Ev.remI rfl rfl rfl (by omega)) ?_
        refine AG.takeW 9 rfl (by kernel_rfl) (by kernel_rfl) rfl rfl rfl (fun _ => Ev.addI rfl rfl rfl (by omega)) ?_
        refine AG.only 10 rfl (by kernel_rfl) ?_
        refine RG.litO (os := [.tmp 30]) (enc := encI) ([wf 9 b]) rfl rfl rfl rfl rfl rfl rfl Tryd.underlying22 inf_3 rfl rfl rfl rfl rfl encI_len rfl rfl (fun v17 wk18 hxwk18 hown19 hnew20 => ?_)
        have hsep21 : Sep v17 _ := Sep.of_new (Own.ext hown hE13) hnew20
        have hsb22 := fun e => sep_blk (hb1.ext hxwl9) (Nat.le_refl _) hown19 e
        have hsb23 := fun e => sep_blk (hbS.ext hE13) (Nat.le_refl _) hown19 e
        replace hxwl9 := Ex.tr hxwl9 hxwk18
        replace hE13 := Ex.tr hE13 hxwk18
        have hE24 := hxwk18
        refine RG.done ?_
        refine QW.an (fun _ => hE24) ?_
        refine AG.only 11 rfl (by kernel_rfl) ?_
        refine RG.appO rfl rfl rfl rfl rfl rfl rfl Tryd.underlying22 inf_3 rfl rfl encI_len (fun _ => rfl) (Own.ext hown hE13) ((hown19.rdl encI_len)) (by show _ + 1 ≤ maxLen; simp only [maxLen]; omega) (by show (_ + 1) * _ ≤ _; omega) (hxwl9.size) (fun v26 wa27 hown28 hgr29 hat30 => ?_)
        have hb31 := Blk.grown (hbS.ext hE13) hgr29 (fun e => hsb e.symm)
        have hsb32 := sepb_app hsb (hbS.ext hE13) hat30
        have hsep34 := Sep.app (Sep.symm hsep21) hown19 hat30
        have hown33 := Own.grown hown19 hgr29 (fun k a b => (Sep.symm hsep21) k b a)
        replace hxwl9 := own_block (Own.ext hown hE13) hxwl9 hgr29 (Nat.le_refl _) hxwl9.size
        obtain ⟨Av26, Cv26, rfl⟩ := hown28.shape
        refine RG.done ?_
        refine QW.an (fun h => by simp at h) ?_
        refine AG.takeW 12 rfl (by kernel_rfl) (by kernel_rfl) rfl rfl rfl (fun _ => Ev.fld rfl rfl fld_24_1) ?_
        refine AG.only 13 rfl (by kernel_rfl) ?_
        refine RG.st (g := gS) (k := 1) rfl rfl rfl rfl rfl sz_22 rfl hb31 rfl (fun ws36 hwws36 hbws36 => ?_)
        have hpreW := (Ex.tr hR4 hxwl9)
        replace hown33 := Own.far hown33 hwws36 hsb23
        replace hown28 := Own.far hown28 hwws36 hsb32
        replace hxwl9 := Wr.below hxwl9 hwws36 hle6
        refine RG.done ?_
        refine QW.an (fun h => by simp at h) ?_
        refine AG.done (by kernel_rfl) ?_
        refine QW.sub (S' := [(1, _), (4, _), (5, _), (6, _), (7, _)]) ⟨rfl, rfl, rfl, rfl, rfl, trivial⟩ ?_
        refine QW.blockN ?_
        refine QW.then_ ?_
        refine CW.region ?_
        refine RG.vl rfl rfl rfl (Ev.move rfl rfl) ?_
        refine RG.vl rfl rfl rfl (Ev.addI rfl rfl rfl (by omega)) ?_
        refine RG.vl rfl rfl rfl (Ev.assign rfl rfl) ?_
        refine RG.done ?_
        refine QW.round3 (i + 1) (Av26) (Cv26) ⟨rfl, trivial⟩ ⟨rfl, rfl, rfl, rfl, trivial⟩ ⟨⟨by omega, by omega, by rw [take_more hb, List.map_append]; exact hown28, by rw [take_more hb, List.map_append]; exact hbws36, by rw [take_more hb, List.map_append]; exact hsb32⟩, hxwl9⟩ (by omega)
      · refine CW.exit ?_
        refine QW.thenExit ?_
        refine QW.thenExit ?_
        refine QW.blockHit ?_
        refine QW.then_ ?_
        refine CW.seq ?_
        refine CW.seq ?_
        refine CW.region ?_
        refine RG.vl rfl rfl rfl (Ev.fld rfl rfl fld_24_1) ?_
        refine RG.vl rfl rfl rfl (Ev.ldAt rfl rfl Tryd.underlying22 rfl (hbS.cells) (rfl)) ?_
        refine RG.vl rfl rfl rfl (Ev.lenL rfl rfl rfl Tryd.underlying22 ((hown.rdl encI_len))) ?_
        refine RG.vl rfl rfl rfl (Ev.eqI rfl rfl rfl) ?_
        refine RG.done ?_
        refine QW.then_ ?_
        refine CW.condP rfl (fun hc37 => ?_) (fun hc37 => ?_)
        · refine CW.region ?_
          refine RG.litO (os := [_]) (enc := encI) ([1]) rfl rfl rfl rfl rfl rfl rfl Tryd.underlying22 inf_3 rfl rfl rfl rfl rfl encI_len rfl rfl (fun vT wk38 hxwk38 hown39 hnew40 => ?_)
          have hsep41 : Sep vT _ := Sep.of_new hown hnew40
          have hsb42 := fun e => sep_blk (hb1.ext hxwl9) (Nat.le_refl _) hown39 e
          have hsb43 := fun e => sep_blk hbS (Nat.le_refl _) hown39 e
          replace hown39 := Own.low (B' := w1.heap.size) hown39 (by have := hxwl9.size; omega)
          replace hxwl9 := Ex.tr hxwl9 hxwk38
          have hE44 := hxwk38
          obtain ⟨AvT, CvT, rfl⟩ := hown39.shape
          refine RG.vl rfl rfl rfl (Ev.fld rfl rfl fld_24_1) ?_
          refine RG.st (g := gS) (k := 1) rfl rfl rfl rfl rfl sz_22 rfl (hbS.ext hE44) rfl (fun ws45 hwws45 hbws45 => ?_)
          have hpreW := (Ex.tr hR4 hxwl9)
          replace hown := Own.far (Own.ext hown hE44) hwws45 hsb
          replace hown39 := Own.far hown39 hwws45 hsb43
          replace hxwl9 := Wr.below hxwl9 hwws45 hle6
          refine RG.done ?_
          refine QW.sub (S' := [(4, _), (5, _)]) ⟨rfl, rfl, trivial⟩ ?_
          refine QW.then_ ?_
          refine CW.seq ?_
          have hsR := fun e => sep_blk hb1 (Nat.le_refl _) hown39 e
          refine CW.region ?_
          refine RG.vl rfl rfl rfl (Ev.ldAgg rfl rfl Tryd.underlying24 rfl sz_24 rfl (hbws45.cells)) ?_
          refine RG.stAll (g := gR) rfl rfl rfl rfl rfl sz_24 rfl rfl rfl (hb1.ext hxwl9) (fun ws46 hwws46 hbws46 => ?_)
          have hpreW := (Ex.tr hR4 hxwl9)
          replace hown39 := Own.far hown39 hwws46 hsR
          replace hbws45 := Blk.far hbws45 hwws46 (by omega)
          refine RG.done ?_
          refine QW.then_ ?_
          refine CW.ret ?_
          refine QW.retC rfl rfl Tryd.underlying24 rfl sz_24 rfl hbws46 ?_
          have e : l.take i = l.take 10 := pay_take (by omega) (by omega)
          have hrw := right_wl 9 1 l (by omega)
          unfold wlD at hrw
          rw [← e, if_pos (take_nil _ (by assumption))] at hrw
          exact ⟨_, _, rfl, hown39.low (by have := hz0.size; omega), hrw, Wr.below hpreW hwws46 hle2⟩
        · refine CW.skip ?_
          refine QW.then_ ?_
          refine CW.seq ?_
          have hsR := fun e => sep_blk hb1 (Nat.le_refl _) hown e
          refine CW.region ?_
          refine RG.vl rfl rfl rfl (Ev.ldAgg rfl rfl Tryd.underlying24 rfl sz_24 rfl (hbS.cells)) ?_
          refine RG.stAll (g := gR) rfl rfl rfl rfl rfl sz_24 rfl rfl rfl (hb1.ext hxwl9) (fun ws47 hwws47 hbws47 => ?_)
          have hpreW := (Ex.tr hR4 hxwl9)
          replace hown := Own.far hown hwws47 hsR
          replace hbS := Blk.far hbS hwws47 (by omega)
          refine RG.done ?_
          refine QW.then_ ?_
          refine CW.ret ?_
          refine QW.retC rfl rfl Tryd.underlying24 rfl sz_24 rfl hbws47 ?_
          have e : l.take i = l.take 10 := pay_take (by omega) (by omega)
          have hrw := right_wl 9 1 l (by omega)
          unfold wlD at hrw
          rw [← e, if_neg (take_ne _ (by assumption))] at hrw
          exact ⟨_, _, rfl, hown.low (by have := hz0.size; omega), hrw, Wr.below hpreW hwws47 hle2⟩
    · refine RG.pass rfl rfl rfl ?_
      refine RG.pass rfl rfl rfl ?_
      refine RG.vl rfl rfl rfl (Ev.pickF rfl rfl rfl) ?_
      refine RG.done ?_
      refine QW.then_ ?_
      refine CW.condF rfl ?_
      refine CW.exit ?_
      refine QW.thenExit ?_
      refine QW.thenExit ?_
      refine QW.blockHit ?_
      refine QW.then_ ?_
      refine CW.seq ?_
      refine CW.seq ?_
      refine CW.region ?_
      refine RG.vl rfl rfl rfl (Ev.fld rfl rfl fld_24_1) ?_
      refine RG.vl rfl rfl rfl (Ev.ldAt rfl rfl Tryd.underlying22 rfl (hbS.cells) (rfl)) ?_
      refine RG.vl rfl rfl rfl (Ev.lenL rfl rfl rfl Tryd.underlying22 ((hown.rdl encI_len))) ?_
      refine RG.vl rfl rfl rfl (Ev.eqI rfl rfl rfl) ?_
      refine RG.done ?_
      refine QW.then_ ?_
      refine CW.condP rfl (fun hc48 => ?_) (fun hc48 => ?_)
      · refine CW.region ?_
        refine RG.litO (os := [_]) (enc := encI) ([1]) rfl rfl rfl rfl rfl rfl rfl Tryd.underlying22 inf_3 rfl rfl rfl rfl rfl encI_len rfl rfl (fun vT wk49 hxwk49 hown50 hnew51 => ?_)
        have hsep52 : Sep vT _ := Sep.of_new hown hnew51
        have hsb53 := fun e => sep_blk (hb1.ext hxwl9) (Nat.le_refl _) hown50 e
        have hsb54 := fun e => sep_blk hbS (Nat.le_refl _) hown50 e
        replace hown50 := Own.low (B' := w1.heap.size) hown50 (by have := hxwl9.size; omega)
        replace hxwl9 := Ex.tr hxwl9 hxwk49
        have hE55 := hxwk49
        obtain ⟨AvT, CvT, rfl⟩ := hown50.shape
        refine RG.vl rfl rfl rfl (Ev.fld rfl rfl fld_24_1) ?_
        refine RG.st (g := gS) (k := 1) rfl rfl rfl rfl rfl sz_22 rfl (hbS.ext hE55) rfl (fun ws56 hwws56 hbws56 => ?_)
        have hpreW := (Ex.tr hR4 hxwl9)
        replace hown := Own.far (Own.ext hown hE55) hwws56 hsb
        replace hown50 := Own.far hown50 hwws56 hsb54
        replace hxwl9 := Wr.below hxwl9 hwws56 hle6
        refine RG.done ?_
        refine QW.sub (S' := [(4, _), (5, _)]) ⟨rfl, rfl, trivial⟩ ?_
        refine QW.then_ ?_
        refine CW.seq ?_
        have hsR := fun e => sep_blk hb1 (Nat.le_refl _) hown50 e
        refine CW.region ?_
        refine RG.vl rfl rfl rfl (Ev.ldAgg rfl rfl Tryd.underlying24 rfl sz_24 rfl (hbws56.cells)) ?_
        refine RG.stAll (g := gR) rfl rfl rfl rfl rfl sz_24 rfl rfl rfl (hb1.ext hxwl9) (fun ws57 hwws57 hbws57 => ?_)
        have hpreW := (Ex.tr hR4 hxwl9)
        replace hown50 := Own.far hown50 hwws57 hsR
        replace hbws56 := Blk.far hbws56 hwws57 (by omega)
        refine RG.done ?_
        refine QW.then_ ?_
        refine CW.ret ?_
        refine QW.retC rfl rfl Tryd.underlying24 rfl sz_24 rfl hbws57 ?_
        have e : l.take i = l.take 10 := pay_take (by omega) (by omega)
        have hrw := right_wl 9 1 l (by omega)
        unfold wlD at hrw
        rw [← e, if_pos (take_nil _ (by assumption))] at hrw
        exact ⟨_, _, rfl, hown50.low (by have := hz0.size; omega), hrw, Wr.below hpreW hwws57 hle2⟩
      · refine CW.skip ?_
        refine QW.then_ ?_
        refine CW.seq ?_
        have hsR := fun e => sep_blk hb1 (Nat.le_refl _) hown e
        refine CW.region ?_
        refine RG.vl rfl rfl rfl (Ev.ldAgg rfl rfl Tryd.underlying24 rfl sz_24 rfl (hbS.cells)) ?_
        refine RG.stAll (g := gR) rfl rfl rfl rfl rfl sz_24 rfl rfl rfl (hb1.ext hxwl9) (fun ws58 hwws58 hbws58 => ?_)
        have hpreW := (Ex.tr hR4 hxwl9)
        replace hown := Own.far hown hwws58 hsR
        replace hbS := Blk.far hbS hwws58 (by omega)
        refine RG.done ?_
        refine QW.then_ ?_
        refine CW.ret ?_
        refine QW.retC rfl rfl Tryd.underlying24 rfl sz_24 rfl hbws58 ?_
        have e : l.take i = l.take 10 := pay_take (by omega) (by omega)
        have hrw := right_wl 9 1 l (by omega)
        unfold wlD at hrw
        rw [← e, if_neg (take_ne _ (by assumption))] at hrw
        exact ⟨_, _, rfl, hown.low (by have := hz0.size; omega), hrw, Wr.below hpreW hwws58 hle2⟩
  · refine CW.region ?_
    refine RG.vl rfl rfl rfl (Ev.assign rfl rfl) ?_
    refine RG.done ?_
    refine QW.then_ ?_
    refine CW.seq ?_
    refine CW.seq ?_
    refine CW.region ?_
    refine RG.vl rfl rfl rfl (Ev.move rfl rfl) ?_
    refine RG.done ?_
    refine QW.then_ ?_
    refine CW.condT rfl ?_
    refine CW.region ?_
    refine RG.vl rfl rfl rfl (Ev.fld rfl rfl fld_24_0) ?_
    refine RG.st (g := gS) (k := 0) rfl rfl rfl rfl rfl sz_5 rfl hb5 rfl (fun ws59 hwws59 hbws59 => ?_)
    have hpreW := (Ex.tr hR4 hE8)
    replace hE8 := Wr.below hE8 hwws59 hle6
    refine RG.vl rfl rfl rfl (Ev.assign rfl rfl) ?_
    refine RG.done ?_
    refine QW.then_ ?_
    refine CW.seq ?_
    refine CW.seq ?_
    refine CW.region ?_
    refine RG.vl rfl rfl rfl (Ev.assign rfl rfl) ?_
    refine RG.done ?_
    refine QW.then_ ?_
    refine CW.block ?_
    refine CW.loop3 [(1, _), (4, _), (5, _), (6, _)] ⟨rfl, rfl, rfl, rfl, trivial⟩ (fun (i : Nat) (A : Option Addr) (C : Nat) => [(7, .int .i64 i)]) (fun i A C w' => (i ≤ 10 ∧ i ≤ l.length ∧ Own w' w1.heap.size 3 1 encI (Value.slice A ((l.take i).map (wf 10)).length C) ((l.take i).map (wf 10)) ∧ Blk w' gS 24 [.int .u8 2, (Value.slice A ((l.take i).map (wf 10)).length C)] ∧ ((Value.slice A ((l.take i).map (wf 10)).length C).ownBlock = some gS → False)) ∧ Ex w1 w') (fun i A C => 10 - i) (0) (none) (0) ⟨rfl, trivial⟩ ⟨⟨by omega, by omega, Own.nil_ _ _ _ _ _, hbws59, fun e => by cases e⟩, hE8⟩ ?_
    rintro i A C wl60 ⟨⟨hi, hi2, hown, hbS, hsb⟩, hxwl60⟩
    refine CW.sub (S' := [(7, _), (1, _), (4, _), (5, _), (6, _)]) ⟨rfl, rfl, rfl, rfl, rfl, trivial⟩ ?_
    refine CW.seq ?_
    refine CW.seq ?_
    refine CW.region ?_
    refine RG.vl rfl rfl rfl (Ev.move rfl rfl) ?_
    refine RG.vl rfl rfl rfl (Ev.move rfl rfl) ?_
    refine RG.vl rfl rfl rfl (Ev.lenL rfl rfl rfl Tryd.underlying39 ((hl.ext hxwl60))) ?_
    refine RG.vl rfl rfl rfl (Ev.lss rfl rfl rfl) ?_
    refine RG.vl rfl rfl rfl (Ev.move rfl rfl) ?_
    refine RG.split (d := 15) rfl (fun hg61 => ?_) (fun hg61 => ?_)
    · refine RG.vl rfl rfl rfl (Ev.move rfl rfl) ?_
      refine RG.vl rfl rfl rfl (Ev.lss rfl rfl rfl) ?_
      refine RG.vl rfl rfl rfl (Ev.pickT rfl rfl rfl) ?_
      refine RG.done ?_
      refine QW.then_ ?_
      refine CW.condP rfl (fun hc62 => ?_) (fun hc62 => ?_)
      · refine CW.skip ?_
        refine QW.then_ ?_
        refine CW.seq ?_
        refine CW.block ?_
        obtain ⟨b, hb⟩ : ∃ b, l[i]? = some b := ⟨_, List.getElem?_eq_getElem (by omega)⟩
        have hb8 := b.toNat_lt
        have hml : ((l.take i).map (wf 10)).length ≤ 10 := by rw [List.length_map, List.length_take]; omega
        refine CW.draw [11, 13] (.ex) 14 rfl mixed (fun wd63 hxwd63 => ?_)
        replace hxwl60 := Ex.tr hxwl60 hxwd63
        have hE64 := hxwd63
        refine AG.takeW 0 rfl (by kernel_rfl) (by kernel_rfl) rfl rfl rfl (fun _ => Ev.fld rfl rfl fld_24_1) ?_
        refine AG.take 1 rfl (by kernel_rfl) (by kernel_rfl) rfl rfl rfl (fun wq hq => Ev.ldAt rfl rfl Tryd.underlying22 rfl (((hbS.ext hE64).ext hq).cells) (rfl)) ?_
        refine AG.takeW 2 rfl (by kernel_rfl) (by kernel_rfl) rfl rfl rfl (fun _ => Ev.move rfl rfl) ?_
        refine AG.takeW 3 rfl (by kernel_rfl) (by kernel_rfl) rfl rfl rfl (fun _ => Ev.move rfl rfl) ?_
        refine AG.idxL _ 4 rfl (by kernel_rfl) (by kernel_rfl) rfl rfl rfl rfl rfl rfl Tryd.underlying39 sz_5 ((hl.ext hxwl60)) (hb) (fun p65 hp65b hp65 => ?_)
        refine AG.takeW 7 rfl (by kernel_rfl) (by kernel_rfl) rfl rfl rfl (fun _ => Ev.move rfl rfl) ?_
        refine AG.only 5 rfl (by kernel_rfl) ?_
        refine RG.vl rfl rfl rfl (Ev.ld0 rfl rfl Tryd.underlying5 rfl (hp65) (rfl)) ?_
        refine RG.done ?_
        refine QW.an (fun _ => (Ex.rfl_ _)) ?_
        refine AG.takeW 6 rfl (by kernel_rfl) (by kernel_rfl) rfl rfl rfl (fun _ => Ev.to64 rfl rfl Tryd.underlying5 Tryd.underlying3 (by omega)) ?_
        refine AG.takeW 8 rfl (by kernel_rfl) (by kernel_rfl) rfl rfl rfl (fun _ => Ev.remI rfl rfl rfl (by omega)) ?_
        refine AG.takeW 9 rfl (by kernel_rfl) (by kernel_rfl) rfl rfl rfl (fun _ => Ev.addI rfl rfl rfl (by omega)) ?_
        refine AG.only 10 rfl (by kernel_rfl) ?_
        refine RG.litO (os := [.tmp 30]) (enc := encI) ([wf 10 b]) rfl rfl rfl rfl rfl rfl rfl Tryd.underlying22 inf_3 rfl rfl rfl rfl rfl encI_len rfl rfl (fun v68 wk69 hxwk69 hown70 hnew71 => ?_)
        have hsep72 : Sep v68 _ := Sep.of_new (Own.ext hown hE64) hnew71
        have hsb73 := fun e => sep_blk (hb1.ext hxwl60) (Nat.le_refl _) hown70 e
        have hsb74 := fun e => sep_blk (hbS.ext hE64) (Nat.le_refl _) hown70 e
        replace hxwl60 := Ex.tr hxwl60 hxwk69
        replace hE64 := Ex.tr hE64 hxwk69
        have hE75 := hxwk69
        refine RG.done ?_
        refine QW.an (fun _ => hE75) ?_
        refine AG.only 11 rfl (by kernel_rfl) ?_
        refine RG.appO rfl rfl rfl rfl rfl rfl rfl Tryd.underlying22 inf_3 rfl rfl encI_len (fun _ => rfl) (Own.ext hown hE64) ((hown70.rdl encI_len)) (by show _ + 1 ≤ maxLen; simp only [maxLen]; omega) (by show (_ + 1) * _ ≤ _; omega) (hxwl60.size) (fun v77 wa78 hown79 hgr80 hat81 => ?_)
        have hb82 := Blk.grown (hbS.ext hE64) hgr80 (fun e => hsb e.symm)
        have hsb83 := sepb_app hsb (hbS.ext hE64) hat81
        have hsep85 := Sep.app (Sep.symm hsep72) hown70 hat81
        have hown84 := Own.grown hown70 hgr80 (fun k a b => (Sep.symm hsep72) k b a)
        replace hxwl60 := own_block (Own.ext hown hE64) hxwl60 hgr80 (Nat.le_refl _) hxwl60.size
        obtain ⟨Av77, Cv77, rfl⟩ := hown79.shape
        refine RG.done ?_
        refine QW.an (fun h => by simp at h) ?_
        refine AG.takeW 12 rfl (by kernel_rfl) (by kernel_rfl) rfl rfl rfl (fun _ => Ev.fld rfl rfl fld_24_1) ?_
        refine AG.only 13 rfl (by kernel_rfl) ?_
        refine RG.st (g := gS) (k := 1) rfl rfl rfl rfl rfl sz_22 rfl hb82 rfl (fun ws87 hwws87 hbws87 => ?_)
        have hpreW := (Ex.tr hR4 hxwl60)
        replace hown84 := Own.far hown84 hwws87 hsb74
        replace hown79 := Own.far hown79 hwws87 hsb83
        replace hxwl60 := Wr.below hxwl60 hwws87 hle6
        refine RG.done ?_
        refine QW.an (fun h => by simp at h) ?_
        refine AG.done (by kernel_rfl) ?_
        refine QW.sub (S' := [(1, _), (4, _), (5, _), (6, _), (7, _)]) ⟨rfl, rfl, rfl, rfl, rfl, trivial⟩ ?_
        refine QW.blockN ?_
        refine QW.then_ ?_
        refine CW.region ?_
        refine RG.vl rfl rfl rfl (Ev.move rfl rfl) ?_
        refine RG.vl rfl rfl rfl (Ev.addI rfl rfl rfl (by omega)) ?_
        refine RG.vl rfl rfl rfl (Ev.assign rfl rfl) ?_
        refine RG.done ?_
        refine QW.round3 (i + 1) (Av77) (Cv77) ⟨rfl, trivial⟩ ⟨rfl, rfl, rfl, rfl, trivial⟩ ⟨⟨by omega, by omega, by rw [take_more hb, List.map_append]; exact hown79, by rw [take_more hb, List.map_append]; exact hbws87, by rw [take_more hb, List.map_append]; exact hsb83⟩, hxwl60⟩ (by omega)
      · refine CW.exit ?_
        refine QW.thenExit ?_
        refine QW.thenExit ?_
        refine QW.blockHit ?_
        refine QW.then_ ?_
        refine CW.seq ?_
        refine CW.seq ?_
        refine CW.region ?_
        refine RG.vl rfl rfl rfl (Ev.fld rfl rfl fld_24_1) ?_
        refine RG.vl rfl rfl rfl (Ev.ldAt rfl rfl Tryd.underlying22 rfl (hbS.cells) (rfl)) ?_
        refine RG.vl rfl rfl rfl (Ev.lenL rfl rfl rfl Tryd.underlying22 ((hown.rdl encI_len))) ?_
        refine RG.vl rfl rfl rfl (Ev.eqI rfl rfl rfl) ?_
        refine RG.done ?_
        refine QW.then_ ?_
        refine CW.condP rfl (fun hc88 => ?_) (fun hc88 => ?_)
        · refine CW.region ?_
          refine RG.litO (os := [_]) (enc := encI) ([1]) rfl rfl rfl rfl rfl rfl rfl Tryd.underlying22 inf_3 rfl rfl rfl rfl rfl encI_len rfl rfl (fun vT wk89 hxwk89 hown90 hnew91 => ?_)
          have hsep92 : Sep vT _ := Sep.of_new hown hnew91
          have hsb93 := fun e => sep_blk (hb1.ext hxwl60) (Nat.le_refl _) hown90 e
          have hsb94 := fun e => sep_blk hbS (Nat.le_refl _) hown90 e
          replace hown90 := Own.low (B' := w1.heap.size) hown90 (by have := hxwl60.size; omega)
          replace hxwl60 := Ex.tr hxwl60 hxwk89
          have hE95 := hxwk89
          obtain ⟨AvT, CvT, rfl⟩ := hown90.shape
          refine RG.vl rfl rfl rfl (Ev.fld rfl rfl fld_24_1) ?_
          refine RG.st (g := gS) (k := 1) rfl rfl rfl rfl rfl sz_22 rfl (hbS.ext hE95) rfl (fun ws96 hwws96 hbws96 => ?_)
          have hpreW := (Ex.tr hR4 hxwl60)
          replace hown := Own.far (Own.ext hown hE95) hwws96 hsb
          replace hown90 := Own.far hown90 hwws96 hsb94
          replace hxwl60 := Wr.below hxwl60 hwws96 hle6
          refine RG.done ?_
          refine QW.sub (S' := [(4, _), (5, _)]) ⟨rfl, rfl, trivial⟩ ?_
          refine QW.then_ ?_
          refine CW.seq ?_
          have hsR := fun e => sep_blk hb1 (Nat.le_refl _) hown90 e
          refine CW.region ?_
          refine RG.vl rfl rfl rfl (Ev.ldAgg rfl rfl Tryd.underlying24 rfl sz_24 rfl (hbws96.cells)) ?_
          refine RG.stAll (g := gR) rfl rfl rfl rfl rfl sz_24 rfl rfl rfl (hb1.ext hxwl60) (fun ws97 hwws97 hbws97 => ?_)
          have hpreW := (Ex.tr hR4 hxwl60)
          replace hown90 := Own.far hown90 hwws97 hsR
          replace hbws96 := Blk.far hbws96 hwws97 (by omega)
          refine RG.done ?_
          refine QW.then_ ?_
          refine CW.ret ?_
          refine QW.retC rfl rfl Tryd.underlying24 rfl sz_24 rfl hbws97 ?_
          have e : l.take i = l.take 10 := pay_take (by omega) (by omega)
          have hrw := right_wl 10 2 l (by omega)
          unfold wlD at hrw
          rw [← e, if_pos (take_nil _ (by assumption))] at hrw
          exact ⟨_, _, rfl, hown90.low (by have := hz0.size; omega), hrw, Wr.below hpreW hwws97 hle2⟩
        · refine CW.skip ?_
          refine QW.then_ ?_
          refine CW.seq ?_
          have hsR := fun e => sep_blk hb1 (Nat.le_refl _) hown e
          refine CW.region ?_
          refine RG.vl rfl rfl rfl (Ev.ldAgg rfl rfl Tryd.underlying24 rfl sz_24 rfl (hbS.cells)) ?_
          refine RG.stAll (g := gR) rfl rfl rfl rfl rfl sz_24 rfl rfl rfl (hb1.ext hxwl60) (fun ws98 hwws98 hbws98 => ?_)
          have hpreW := (Ex.tr hR4 hxwl60)
          replace hown := Own.far hown hwws98 hsR
          replace hbS := Blk.far hbS hwws98 (by omega)
          refine RG.done ?_
          refine QW.then_ ?_
          refine CW.ret ?_
          refine QW.retC rfl rfl Tryd.underlying24 rfl sz_24 rfl hbws98 ?_
          have e : l.take i = l.take 10 := pay_take (by omega) (by omega)
          have hrw := right_wl 10 2 l (by omega)
          unfold wlD at hrw
          rw [← e, if_neg (take_ne _ (by assumption))] at hrw
          exact ⟨_, _, rfl, hown.low (by have := hz0.size; omega), hrw, Wr.below hpreW hwws98 hle2⟩
    · refine RG.pass rfl rfl rfl ?_
      refine RG.pass rfl rfl rfl ?_
      refine RG.vl rfl rfl rfl (Ev.pickF rfl rfl rfl) ?_
      refine RG.done ?_
      refine QW.then_ ?_
      refine CW.condF rfl ?_
      refine CW.exit ?_
      refine QW.thenExit ?_
      refine QW.thenExit ?_
      refine QW.blockHit ?_
      refine QW.then_ ?_
      refine CW.seq ?_
      refine CW.seq ?_
      refine CW.region ?_
      refine RG.vl rfl rfl rfl (Ev.fld rfl rfl fld_24_1) ?_
      refine RG.vl rfl rfl rfl (Ev.ldAt rfl rfl Tryd.underlying22 rfl (hbS.cells) (rfl)) ?_
      refine RG.vl rfl rfl rfl (Ev.lenL rfl rfl rfl Tryd.underlying22 ((hown.rdl encI_len))) ?_
      refine RG.vl rfl rfl rfl (Ev.eqI rfl rfl rfl) ?_
      refine RG.done ?_
      refine QW.then_ ?_
      refine CW.condP rfl (fun hc99 => ?_) (fun hc99 => ?_)
      · refine CW.region ?_
        refine RG.litO (os := [_]) (enc := encI) ([1]) rfl rfl rfl rfl rfl rfl rfl Tryd.underlying22 inf_3 rfl rfl rfl rfl rfl encI_len rfl rfl (fun vT wk100 hxwk100 hown101 hnew102 => ?_)
        have hsep103 : Sep vT _ := Sep.of_new hown hnew102
        have hsb104 := fun e => sep_blk (hb1.ext hxwl60) (Nat.le_refl _) hown101 e
        have hsb105 := fun e => sep_blk hbS (Nat.le_refl _) hown101 e
        replace hown101 := Own.low (B' := w1.heap.size) hown101 (by have := hxwl60.size; omega)
        replace hxwl60 := Ex.tr hxwl60 hxwk100
        have hE106 := hxwk100
        obtain ⟨AvT, CvT, rfl⟩ := hown101.shape
        refine RG.vl rfl rfl rfl (Ev.fld rfl rfl fld_24_1) ?_
        refine RG.st (g := gS) (k := 1) rfl rfl rfl rfl rfl sz_22 rfl (hbS.ext hE106) rfl (fun ws107 hwws107 hbws107 => ?_)
        have hpreW := (Ex.tr hR4 hxwl60)
        replace hown := Own.far (Own.ext hown hE106) hwws107 hsb
        replace hown101 := Own.far hown101 hwws107 hsb105
        replace hxwl60 := Wr.below hxwl60 hwws107 hle6
        refine RG.done ?_
        refine QW.sub (S' := [(4, _), (5, _)]) ⟨rfl, rfl, trivial⟩ ?_
        refine QW.then_ ?_
        refine CW.seq ?_
        have hsR := fun e => sep_blk hb1 (Nat.le_refl _) hown101 e
        refine CW.region ?_
        refine RG.vl rfl rfl rfl (Ev.ldAgg rfl rfl Tryd.underlying24 rfl sz_24 rfl (hbws107.cells)) ?_
        refine RG.stAll (g := gR) rfl rfl rfl rfl rfl sz_24 rfl rfl rfl (hb1.ext hxwl60) (fun ws108 hwws108 hbws108 => ?_)
        have hpreW := (Ex.tr hR4 hxwl60)
        replace hown101 := Own.far hown101 hwws108 hsR
        replace hbws107 := Blk.far hbws107 hwws108 (by omega)
        refine RG.done ?_
        refine QW.then_ ?_
        refine CW.ret ?_
        refine QW.retC rfl rfl Tryd.underlying24 rfl sz_24 rfl hbws108 ?_
        have e : l.take i = l.take 10 := pay_take (by omega) (by omega)
        have hrw := right_wl 10 2 l (by omega)
        unfold wlD at hrw
        rw [← e, if_pos (take_nil _ (by assumption))] at hrw
        exact ⟨_, _, rfl, hown101.low (by have := hz0.size; omega), hrw, Wr.below hpreW hwws108 hle2⟩
      · refine CW.skip ?_
        refine QW.then_ ?_
        refine CW.seq ?_
        have hsR := fun e => sep_blk hb1 (Nat.le_refl _) hown e
        refine CW.region ?_
        refine RG.vl rfl rfl rfl (Ev.ldAgg rfl rfl Tryd.underlying24 rfl sz_24 rfl (hbS.cells)) ?_
        refine RG.stAll (g := gR) rfl rfl rfl rfl rfl sz_24 rfl rfl rfl (hb1.ext hxwl60) (fun ws109 hwws109 hbws109 => ?_)
        have hpreW := (Ex.tr hR4 hxwl60)
        replace hown := Own.far hown hwws109 hsR
        replace hbS := Blk.far hbS hwws109 (by omega)
        refine RG.done ?_
        refine QW.then_ ?_
        refine CW.ret ?_
        refine QW.retC rfl rfl Tryd.underlying24 rfl sz_24 rfl hbws109 ?_
        have e : l.take i = l.take 10 := pay_take (by omega) (by omega)
        have hrw := right_wl 10 2 l (by omega)
        unfold wlD at hrw
        rw [← e, if_neg (take_ne _ (by assumption))] at hrw
        exact ⟨_, _, rfl, hown.low (by have := hz0.size; omega), hrw, Wr.below hpreW hwws109 hle2⟩

set_option maxRecDepth 100000 in
set_option maxHeartbeats 1000000 in
theorem any_ret (kd : Nat) (lv : Value) (l : List UInt8) (w : World) (hl : RdL w 1 encB lv l) (hk : kd < 256) :
    Ret Tryd.prog 18 [.int .u8 (kd : Int), lv] w (fun v w' => ∃ (k : Nat) (ws : List Int) (wv : Value), v = .agg #[.int .u8 (k : Int), wv] ∧ Own w' w.heap.size 3 1 encI wv ws ∧ rightD k ws = true ∧ Ex w w') := by
  obtain ⟨lA, lC, rfl⟩ := hl.shape
  have hB0 : Ex w w := Ex.rfl_ _
  refine Ret.of Tryd.func18 rfl Tryd.ntmps18 rfl ?_
  refine CW.seq ?_
  refine CW.region ?_
  refine RG.alloc_ rfl rfl rfl rfl inf_24 (fun g1 w1 eg1 hx1 hb1 => ?_)
  have hle2 : w.heap.size ≤ g1 := by have := (Ex.rfl_ w).size; omega
  have hE3 := hx1
  refine RG.done ?_
  refine QW.then_ ?_
  refine CW.seq ?_
  refine CW.seq ?_
  refine CW.region ?_
  refine RG.vl rfl rfl rfl (Ev.move rfl rfl) ?_
  refine RG.vl rfl rfl rfl (Ev.rem8 rfl rfl rfl (by omega)) ?_
  refine RG.done ?_
  refine QW.then_ ?_
  refine CW.block ?_
  refine CW.seq ?_
  refine CW.region ?_
  refine RG.vl rfl rfl rfl (Ev.eqI rfl rfl rfl) ?_
  refine RG.vl rfl rfl rfl (Ev.assign rfl rfl) ?_
  refine RG.done ?_
  refine QW.then_ ?_
  refine CW.condP rfl (fun hc4 => ?_) (fun hc4 => ?_)
  · refine CW.seq ?_
    refine CW.region ?_
    refine RG.vl rfl rfl rfl (Ev.build1 rfl rfl rfl inf_24 rfl rfl (by kernel_rfl) rfl) ?_
    refine RG.stAll (g := g1) rfl rfl rfl rfl rfl sz_24 rfl rfl rfl hb1 (fun ws5 hwws5 hbws5 => ?_)
    replace hE3 := Wr.below hE3 hwws5 hle2
    refine RG.done ?_
    refine QW.then_ ?_
    refine CW.ret ?_
    refine QW.blockR ?_
    refine QW.thenRet ?_
    refine QW.retC rfl rfl Tryd.underlying24 rfl sz_24 rfl hbws5 ?_
    have hB := (Ex.tr hB0 hE3)
    exact ⟨3, [], _, rfl, Own.nil_ _ _ _ _ _, by decide, hB⟩
  · refine CW.seq ?_
    refine CW.region ?_
    refine RG.vl rfl rfl rfl (Ev.eqI rfl rfl rfl) ?_
    refine RG.vl rfl rfl rfl (Ev.assign rfl rfl) ?_
    refine RG.done ?_
    refine QW.then_ ?_
    refine CW.condP rfl (fun hc6 => ?_) (fun hc6 => ?_)
    · refine CW.seq ?_
      refine CW.region ?_
      refine RG.vl rfl rfl rfl (Ev.build1 rfl rfl rfl inf_24 rfl rfl (by kernel_rfl) rfl) ?_
      refine RG.stAll (g := g1) rfl rfl rfl rfl rfl sz_24 rfl rfl rfl hb1 (fun ws7 hwws7 hbws7 => ?_)
      replace hE3 := Wr.below hE3 hwws7 hle2
      refine RG.done ?_
      refine QW.then_ ?_
      refine CW.ret ?_
      refine QW.blockR ?_
      refine QW.thenRet ?_
      refine QW.retC rfl rfl Tryd.underlying24 rfl sz_24 rfl hbws7 ?_
      have hB := (Ex.tr hB0 hE3)
      exact ⟨4, [], _, rfl, Own.nil_ _ _ _ _ _, by decide, hB⟩
    · refine CW.skip ?_
      refine QW.blockN ?_
      refine QW.then_ ?_
      refine CW.seq ?_
      have hz6 := (Ex.tr hB0 hE3)
      refine CW.region ?_
      refine RG.vl rfl rfl rfl (Ev.move rfl rfl) ?_
      refine RG.vl rfl rfl rfl (Ev.rem8 rfl rfl rfl (by omega)) ?_
      refine RG.vl rfl rfl rfl (Ev.eqI rfl rfl rfl) ?_
      refine RG.vl rfl rfl rfl (Ev.move rfl rfl) ?_
      refine RG.call rfl rfl rfl rfl rfl rfl rfl en_29 (weighted_ret (decide ((kd : Int) % 4 = 2)) _ l _ ((hl.ext hE3))) ?_
      have hpre8 := (Ex.tr hB0 hE3)
      rintro _ w8 ⟨ws8, wv8, rfl, hws8, hwr8, hx8⟩
      have hsb9 := fun e => sep_blk hb1 (Nat.le_refl _) hws8 e
      replace hE3 := Ex.tr hE3 hx8
      have hE10 := hx8
      obtain ⟨wA, wC, rfl⟩ := hws8.shape
      refine RG.stAll (g := g1) rfl rfl rfl rfl rfl sz_24 rfl rfl rfl (hb1.ext hE10) (fun ws11 hwws11 hbws11 => ?_)
      replace hws8 := Own.far hws8 hwws11 hsb9
      replace hE3 := Wr.below hE3 hwws11 hle2
      refine RG.done ?_
      refine QW.then_ ?_
      refine CW.ret ?_
      refine QW.retC rfl rfl Tryd.underlying24 rfl sz_24 rfl hbws11 ?_
      have hB := (Ex.tr hB0 hE3)
      exact ⟨_, _, _, rfl, hws8.low (by have := hz6.size; omega), hwr8, hB⟩

set_option maxRecDepth 100000 in
set_option maxHeartbeats 1000000 in
theorem has_ret (lv : Value) (L : List MissT) (sw : Bool) (p a b : Nat) (w : World) (hl : RdL w 4 encM lv L) (hlen : L.length ≤ 100000) :
    Ret Tryd.prog 30 [lv, .bool sw, .int .i64 (p : Int), .int .i64 (a : Int), .int .i64 (b : Int)] w (fun v w' => v = .bool (decide ((sw, p, min a b, max a b) ∈ L)) ∧ Ex w w') := by
  obtain ⟨lA, lC, rfl⟩ := hl.shape
  have hB0 : Ex w w := Ex.rfl_ _
  refine Ret.of Tryd.func30 rfl Tryd.ntmps30 rfl ?_
  refine CW.seq ?_
  refine CW.region ?_
  refine RG.vl rfl rfl rfl (Ev.assign rfl rfl) ?_
  refine RG.done ?_
  refine QW.then_ ?_
  refine CW.seq ?_
  refine CW.seq ?_
  refine CW.region ?_
  refine RG.vl rfl rfl rfl (Ev.move rfl rfl) ?_
  refine RG.vl rfl rfl rfl (Ev.lenL rfl rfl rfl Tryd.underlying30 (hl)) ?_
  refine RG.vl rfl rfl rfl (Ev.move rfl rfl) ?_
  refine RG.done ?_
  refine QW.then_ ?_
  refine CW.block ?_
  refine CW.loop1 [(1, _), (2, _), (3, _), (4, _), (13, _), (14, _)] ⟨rfl, rfl, rfl, rfl, rfl, rfl, trivial⟩ (fun (i : Nat) => [(15, .int .i64 i)]) (fun i w' => (i ≤ L.length ∧ (sw, p, min a b, max a b) ∉ L.take i) ∧ Ex w w') (fun i => L.length - i) (0) ⟨rfl, trivial⟩ ⟨⟨Nat.zero_le _, by simp⟩, hB0⟩ ?_
  rintro i wl1 ⟨⟨hi, hno⟩, hxwl1⟩
  refine CW.sub (S' := [(15, _), (1, _), (2, _), (3, _), (4, _), (13, _), (14, _)]) ⟨rfl, rfl, rfl, rfl, rfl, rfl, rfl, trivial⟩ ?_
  refine CW.seq ?_
  refine CW.region ?_
  refine RG.vl rfl rfl rfl (Ev.lss rfl rfl rfl) ?_
  refine RG.done ?_
  refine QW.then_ ?_
  refine CW.seq ?_
  refine CW.condP rfl (fun hc2 => ?_) (fun hc2 => ?_)
  · refine CW.skip ?_
    refine QW.then_ ?_
    refine CW.seq ?_
    refine CW.block ?_
    refine CW.seq ?_
    obtain ⟨m, hm⟩ : ∃ m, L[i]? = some m := ⟨_, List.getElem?_eq_getElem (by omega)⟩
    refine CW.region ?_
    refine RG.idxL rfl rfl rfl rfl rfl rfl Tryd.underlying30 sz_36 ((hl.ext hxwl1)) (hm) (fun p3 hp3b hp3 => ?_)
    refine RG.vl rfl rfl rfl (Ev.ldAgg rfl rfl Tryd.underlying36 rfl sz_36 rfl (hp3)) ?_
    refine RG.local_ rfl rfl rfl rfl (fun _ => rfl) rfl rfl (fun _ => rfl) inf_36 rfl rfl rfl (fun g4 w4 eg4 hx4 hb4 => ?_)
    have hle5 : w.heap.size ≤ g4 := by have := hxwl1.size; omega
    have hle6 : wl1.heap.size ≤ g4 := by have := (Ex.rfl_ wl1).size; omega
    replace hxwl1 := Ex.tr hxwl1 hx4
    have hE7 := hx4
    refine RG.done ?_
    refine QW.then_ ?_
    refine CW.seq ?_
    refine CW.region ?_
    refine RG.vl rfl rfl rfl (Ev.ldAgg rfl rfl Tryd.underlying36 rfl sz_36 rfl (hb4.cells)) ?_
    refine RG.vl rfl rfl rfl (Ev.move rfl rfl) ?_
    refine RG.vl rfl rfl rfl (Ev.move rfl rfl) ?_
    refine RG.vl rfl rfl rfl (Ev.move rfl rfl) ?_
    refine RG.vl rfl rfl rfl (Ev.move rfl rfl) ?_
    refine RG.vl rfl rfl rfl ((Ev.min2 rfl rfl rfl rfl).conv (congrArg (Value.int .i64) (show min (a : Int) (b : Int) = ((min a b : Nat) : Int) by omega))) ?_
    refine RG.vl rfl rfl rfl (Ev.move rfl rfl) ?_
    refine RG.vl rfl rfl rfl (Ev.move rfl rfl) ?_
    refine RG.vl rfl rfl rfl ((Ev.max2 rfl rfl rfl rfl).conv (congrArg (Value.int .i64) (show max (a : Int) (b : Int) = ((max a b : Nat) : Int) by omega))) ?_
    refine RG.vl rfl rfl rfl (Ev.build1 rfl rfl rfl inf_36 rfl rfl (by kernel_rfl) rfl) ?_
    refine RG.vl rfl rfl rfl ((Ev.eqA rfl rfl rfl (by kernel_rfl)).conv ((show _ = Value.bool (decide (m = (sw, p, min a b, max a b))) from congrArg Value.bool (veqs_miss m (sw, p, min a b, max a b))))) ?_
    refine RG.done ?_
    refine QW.sub (S' := [(1, _), (2, _), (3, _), (4, _), (13, _), (14, _), (15, _), (29, _)]) ⟨rfl, rfl, rfl, rfl, rfl, rfl, rfl, rfl, trivial⟩ ?_
    refine QW.then_ ?_
    refine CW.condP rfl (fun hc8 => ?_) (fun hc8 => ?_)
    · refine CW.seq ?_
      refine CW.region ?_
      refine RG.vl rfl rfl rfl (Ev.assign rfl rfl) ?_
      refine RG.done ?_
      refine QW.then_ ?_
      refine CW.ret ?_
      refine QW.blockR ?_
      refine QW.thenRet ?_
      refine QW.thenRet ?_
      refine QW.blockR ?_
      refine QW.thenRet ?_
      refine QW.ret1 rfl rfl ?_
      have hB := (Ex.tr hB0 hxwl1)
      exact ⟨congrArg Value.bool (decide_eq_true (by rw [← show m = (sw, p, min a b, max a b) by assumption]; exact List.mem_of_getElem? hm)).symm, hB⟩
    · refine CW.skip ?_
      refine QW.blockN ?_
      refine QW.then_ ?_
      refine CW.region ?_
      refine RG.vl rfl rfl rfl (Ev.addI rfl rfl rfl (by omega)) ?_
      refine RG.vl rfl rfl rfl (Ev.move rfl rfl) ?_
      refine RG.done ?_
      refine QW.round1 (i + 1) ⟨rfl, trivial⟩ ⟨rfl, rfl, rfl, rfl, rfl, rfl, trivial⟩ ⟨⟨by omega, no_more hm hno (by assumption)⟩, (Ex.tr hB0 hxwl1)⟩ (by omega)
  · refine CW.exit ?_
    refine QW.thenExit ?_
    refine QW.thenExit ?_
    refine QW.blockHit ?_
    refine QW.then_ ?_
    refine CW.seq ?_
    refine CW.region ?_
    refine RG.vl rfl rfl rfl (Ev.assign rfl rfl) ?_
    refine RG.done ?_
    refine QW.then_ ?_
    refine CW.ret ?_
    refine QW.ret1 rfl rfl ?_
    have hB := (Ex.tr hB0 hxwl1)
    obtain rfl : i = L.length := by omega
    rw [List.take_length] at hno
    exact ⟨congrArg Value.bool (decide_eq_false hno).symm, hB⟩

end Go.Proofs.YtnhkhpnkhkagaaaDoor
