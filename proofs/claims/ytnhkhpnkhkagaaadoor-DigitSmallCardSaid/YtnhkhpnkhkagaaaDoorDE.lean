/- Walks (DE). Written by program. -/
import Derived.Test.YtnhkhpnkhkagaaaDoorT
import Derived.Test.YtnhkhpnkhkagaaaDoorDD
namespace Go.Proofs.YtnhkhpnkhkagaaaDoor
open Go.RowKit
set_option maxRecDepth 100000 in
set_option maxHeartbeats 1000000 in
theorem check_ret (w0 : World) (k : Nat) (wv vv : Value) (ws : List Int) (vs : List Nat) (w : World) (hx0 : Ex w0 w) (hws : RdL w0 1 encI wv ws) (hown : Own w w0.heap.size 3 1 encZ vv vs) (hr : rightD k ws = true) (hpos : 0 < vs.length) (hlen : vs.length ≤ 100) (hvs : ∀ x ∈ vs, x ≤ mostD k) :
    Ret Tryd.prog 37 [.agg #[.int .u8 (k : Int), wv], vv] w (fun v w' => ∃ x, v = .int .i64 (checkD k ws vs : Nat) ∧ Own w' w0.heap.size 3 1 encZ vv (vs.set 0 x) ∧ w.grownBy w' vv.ownBlock) := by
  obtain ⟨wA, wC, rfl⟩ := hws.shape
  have hx0a := hx0
  have hm10 := mostD_le k
  obtain ⟨x00, hx00⟩ := set0_self hpos
  have hB0 : Ex w w := Ex.rfl_ _
  refine Ret.of Tryd.func37 rfl Tryd.ntmps37 rfl ?_
  refine CW.seq ?_
  refine CW.region ?_
  refine RG.box rfl rfl rfl rfl rfl (fun gS w1 egS hx1 hb1 => ?_)
  have hsb2 := fun e => sep_new (g := gS) hown egS e
  have hle3 : w.heap.size ≤ gS := by have := (Ex.rfl_ w).size; omega
  have hle4 : w0.heap.size ≤ gS := by have := hx0a.size; omega
  have hE5 := hx1
  replace hx0a := Ex.tr hx0a hx1
  refine RG.vl rfl rfl rfl (Ev.assign rfl rfl) ?_
  refine RG.done ?_
  refine QW.then_ ?_
  refine CW.seq ?_
  refine CW.seq ?_
  refine CW.region ?_
  refine RG.vl rfl rfl rfl (Ev.assign rfl rfl) ?_
  refine RG.done ?_
  refine QW.then_ ?_
  refine CW.block ?_
  refine CW.loop2 [(1, _), (2, _)] ⟨rfl, rfl, trivial⟩ (fun (v : Nat) (x : Nat) => [(5, .int .i64 v)]) (fun v x w' => (v ≤ mostD k + 1 ∧ (∀ u, u < v → passD k ws (vs.set 0 u) = false) ∧ Own w' w0.heap.size 3 1 encZ vv (vs.set 0 x) ∧ w.grownBy w' vv.ownBlock ∧ Blk w' gS 24 [.int .u8 (k : Int), .slice wA ws.length wC]) ∧ Ex w0 w') (fun v x => mostD k + 1 - v) (0) (x00) ⟨rfl, trivial⟩ ⟨⟨by omega, fun u h => by omega, by rw [hx00]; exact (Own.ext hown hE5), grown_ex (World.grownBy.refl _ _) (Ex.tr hB0 hE5), hb1⟩, (Ex.tr hx0 hE5)⟩ ?_
  rintro v x wl6 ⟨⟨hv, hno, hown, hgr, hbS⟩, hxwl6⟩
  refine CW.sub (S' := [(5, _), (1, _), (2, _)]) ⟨rfl, rfl, rfl, trivial⟩ ?_
  refine CW.seq ?_
  refine CW.seq ?_
  refine CW.region ?_
  refine RG.vl rfl rfl rfl (Ev.move rfl rfl) ?_
  refine RG.vl rfl rfl rfl (Ev.ldAgg rfl rfl Tryd.underlying24 rfl sz_24 rfl (hbS.cells)) ?_
  refine RG.call rfl rfl rfl rfl rfl rfl rfl en_49 (most_ret k _ _) ?_
  rintro _ w7 ⟨rfl, hx7⟩
  replace hxwl6 := Ex.tr hxwl6 hx7
  have hE8 := hx7
  refine RG.vl rfl rfl rfl (Ev.leq rfl rfl rfl) ?_
  refine RG.done ?_
  refine QW.then_ ?_
  refine CW.condP rfl (fun hc9 => ?_) (fun hc9 => ?_)
  · refine CW.skip ?_
    refine QW.then_ ?_
    refine CW.seq ?_
    refine CW.block ?_
    refine CW.seq ?_
    have hs0 : (vs.set 0 x)[0]? = some x := set0_at hpos
    refine CW.region ?_
    refine RG.vl rfl rfl rfl (Ev.move rfl rfl) ?_
    refine RG.vl rfl rfl rfl (Ev.move rfl rfl) ?_
    refine RG.idxO (i := 0) rfl rfl rfl rfl rfl rfl Tryd.underlying22 sz_3 encZ_len ((Own.ext hown hE8)) (hs0) (fun g11 hg11 hBg11 hp10b hp10 => ?_)
    refine RG.stOw0 (g := g11) (v) rfl rfl rfl rfl rfl sz_3 rfl (fun _ => rfl) (Own.ext hown hE8) hg11 (hs0) rfl (rfl) (fun ws12 hwws12 hown13 => ?_)
    rw [List.set_set] at hown13
    have hpreL := hE8
    replace hbS := Blk.far (hbS.ext hE8) hwws12 (fun e => hsb2 (by rw [e]; exact hg11))
    replace hxwl6 := Wr.below hxwl6 hwws12 hBg11
    refine RG.done ?_
    refine QW.then_ ?_
    refine CW.seq ?_
    refine CW.region ?_
    refine RG.vl rfl rfl rfl (Ev.ldAgg rfl rfl Tryd.underlying24 rfl sz_24 rfl (hbS.cells)) ?_
    refine RG.vl rfl rfl rfl (Ev.move rfl rfl) ?_
    refine RG.call rfl rfl rfl rfl rfl rfl rfl en_40 (passes_ret k _ _ ws (vs.set 0 v) _ (hws.ext hxwl6) ((hown13.rdl encZ_len)) hr (by rw [List.length_set]; exact hlen) (all_set hvs (by omega))) ?_
    rintro _ w14 ⟨rfl, hx14⟩
    replace hxwl6 := Ex.tr hxwl6 hx14
    have hE15 := hx14
    refine RG.done ?_
    refine QW.then_ ?_
    refine CW.cond rfl (fun hc16 => ?_) (fun hc16 => ?_)
    · refine CW.seq ?_
      refine CW.region ?_
      refine RG.vl rfl rfl rfl (Ev.move rfl rfl) ?_
      refine RG.vl rfl rfl rfl (Ev.assign rfl rfl) ?_
      refine RG.done ?_
      refine QW.then_ ?_
      refine CW.ret ?_
      refine QW.blockR ?_
      refine QW.thenRet ?_
      refine QW.thenRet ?_
      refine QW.blockR ?_
      refine QW.thenRet ?_
      refine QW.ret1 rfl rfl ?_
      exact ⟨_, by rw [← check_hit hno (by assumption) (by omega)], (Own.ext hown13 hE15), grown_ex (grown_tr hgr (grown_of hpreL hwws12 hg11)) hE15⟩
    · refine CW.skip ?_
      refine QW.blockN ?_
      refine QW.then_ ?_
      refine CW.region ?_
      refine RG.vl rfl rfl rfl (Ev.move rfl rfl) ?_
      refine RG.vl rfl rfl rfl (Ev.addI rfl rfl rfl (by omega)) ?_
      refine RG.vl rfl rfl rfl (Ev.assign rfl rfl) ?_
      refine RG.done ?_
      refine QW.round2 (v + 1) (_) ⟨rfl, trivial⟩ ⟨rfl, rfl, trivial⟩ ⟨⟨by omega, miss_upto hno (by assumption), (Own.ext hown13 hE15), grown_ex (grown_tr hgr (grown_of hpreL hwws12 hg11)) hE15, (hbS.ext hE15)⟩, hxwl6⟩ (by omega)
  · refine CW.exit ?_
    refine QW.thenExit ?_
    refine QW.thenExit ?_
    refine QW.blockHit ?_
    refine QW.then_ ?_
    refine CW.seq ?_
    refine CW.region ?_
    refine RG.vl rfl rfl rfl (Ev.assign rfl rfl) ?_
    refine RG.done ?_
    refine QW.then_ ?_
    refine CW.ret ?_
    refine QW.ret1 rfl rfl ?_
    exact ⟨_, by rw [← check_no hno (by omega)]; rfl, (Own.ext hown hE8), grown_ex hgr hE8⟩

set_option maxRecDepth 100000 in
set_option maxHeartbeats 1000000 in
theorem misses_ret (k : Nat) (wv : Value) (ws : List Int) (sw : Bool) (p a b n : Nat) (w : World) (hws : RdL w 1 encI wv ws) (hr : rightD k ws = true) (hp : 1 ≤ p) (hpn : p ≤ n) (hps : sw = true → p + 1 ≤ n) (hn : n ≤ 30) (ha : a < 10) (hb : b < 10) :
    Ret Tryd.prog 34 [.agg #[.int .u8 (k : Int), wv], .agg #[.bool sw, .int .i64 (p : Int), .int .i64 (a : Int), .int .i64 (b : Int)], .int .i64 (n : Int)] w (fun v w' => v = .bool (missD k ws n (sw, p, a, b)) ∧ Ex w w') := by
  obtain ⟨wA, wC, rfl⟩ := hws.shape
  have hm9 := mostD_ge k
  have hB0 : Ex w w := Ex.rfl_ _
  refine Ret.of Tryd.func34 rfl Tryd.ntmps34 rfl ?_
  refine CW.seq ?_
  refine CW.region ?_
  refine RG.box rfl rfl rfl rfl rfl (fun g1 w1 eg1 hx1 hb1 => ?_)
  have hle2 : w.heap.size ≤ g1 := by have := (Ex.rfl_ w).size; omega
  have hE3 := hx1
  refine RG.box rfl rfl rfl rfl rfl (fun g4 w4 eg4 hx4 hb4 => ?_)
  have hle5 : w.heap.size ≤ g4 := by have := hE3.size; omega
  have hle6 : w1.heap.size ≤ g4 := by have := (Ex.rfl_ w1).size; omega
  have hlt7 : g1 < g4 := by have := Blk.lt hb1; omega
  replace hE3 := Ex.tr hE3 hx4
  have hE8 := hx4
  refine RG.vl rfl rfl rfl (Ev.assign rfl rfl) ?_
  refine RG.done ?_
  refine QW.then_ ?_
  refine CW.seq ?_
  cases sw
  · have hps1 := hpn
    refine CW.region ?_
    refine RG.vl rfl rfl rfl (Ev.move rfl rfl) ?_
    refine RG.vl rfl rfl rfl (Ev.addI rfl rfl rfl (by omega)) ?_
    replace hws := (hws.ext hE3)
    replace hb1 := (hb1.ext hE8)
    have hR12 := (Ex.tr hB0 hE3)
    refine RG.makeO (m := n + 1) (enc := encZ) 0 rfl rfl rfl rfl rfl rfl (by omega) Tryd.underlying22 inf_3 encZ_len rfl rfl (by omega) (by simp only [maxLen]; omega) (fun u wk9 hxwk9 hown10 hnew11 => ?_)
    have hE13 := hxwk9
    refine RG.vl rfl rfl rfl (Ev.assign rfl rfl) ?_
    refine RG.done ?_
    refine QW.then_ ?_
    refine CW.seq ?_
    refine CW.region ?_
    refine RG.vl rfl rfl rfl (Ev.move rfl rfl) ?_
    refine RG.vl rfl rfl rfl (Ev.fld rfl rfl fld_36_1) ?_
    refine RG.vl rfl rfl rfl (Ev.ldAt rfl rfl Tryd.underlying3 rfl ((hb4.ext hE13).cells) (rfl)) ?_
    refine RG.vl rfl rfl rfl (Ev.fld rfl rfl fld_36_2) ?_
    refine RG.vl rfl rfl rfl (Ev.ldAt rfl rfl Tryd.underlying3 rfl ((hb4.ext hE13).cells) (rfl)) ?_
    refine RG.idxO rfl rfl rfl rfl rfl rfl Tryd.underlying22 sz_3 encZ_len (hown10) (List.getElem?_eq_getElem (by (repeat rw [List.length_set]); rw [List.length_replicate]; omega)) (fun g15 hg15 hBg15 hp14b hp14 => ?_)
    refine RG.stOw0 (g := g15) (a) rfl rfl rfl rfl rfl sz_3 rfl (fun _ => rfl) hown10 hg15 (List.getElem?_eq_getElem (by (repeat rw [List.length_set]); rw [List.length_replicate]; omega)) rfl (rfl) (fun ws16 hwws16 hown17 => ?_)
    replace hE13 := Wr.below hE13 hwws16 hBg15
    refine RG.done ?_
    refine QW.then_ ?_
    refine CW.seq ?_
    refine CW.seq ?_
    refine CW.region ?_
    refine RG.vl rfl rfl rfl (Ev.fld rfl rfl fld_36_0) ?_
    refine RG.vl rfl rfl rfl (Ev.ldAt rfl rfl Tryd.underlying4 rfl ((hb4.ext hE13).cells) (rfl)) ?_
    refine RG.done ?_
    refine QW.sub (S' := [(3, _), (4, _), (6, _), (7, _), (18, _)]) ⟨rfl, rfl, rfl, rfl, rfl, trivial⟩ ?_
    refine QW.then_ ?_
    refine CW.condF rfl ?_
    refine CW.skip ?_
    refine QW.then_ ?_
    refine CW.seq ?_
    refine CW.region ?_
    refine RG.vl rfl rfl rfl (Ev.move rfl rfl) ?_
    refine RG.vl rfl rfl rfl (Ev.ldAgg rfl rfl Tryd.underlying24 rfl sz_24 rfl ((hb1.ext hE13).cells)) ?_
    refine RG.vl rfl rfl rfl (Ev.move rfl rfl) ?_
    refine RG.call rfl rfl rfl rfl rfl rfl rfl en_37 (check_ret w4 k _ _ ws _ _ hE13 hws hown17 hr (by (repeat rw [List.length_set]); rw [List.length_replicate]; omega) (by (repeat rw [List.length_set]); rw [List.length_replicate]; omega) (all_set all_rep (by omega))) ?_
    rintro _ w18 ⟨x18, rfl, hown19, hgr20⟩
    replace hE13 := own_block hown17 hE13 hgr20 (Nat.le_refl _) hE13.size
    refine RG.idxO (i := 0) rfl rfl rfl rfl rfl rfl Tryd.underlying22 sz_3 encZ_len (hown19) (List.getElem?_eq_getElem (by (repeat rw [List.length_set]); rw [List.length_replicate]; omega)) (fun g22 hg22 hBg22 hp21b hp21 => ?_)
    refine RG.stOw0 (g := g22) (_) rfl rfl rfl rfl rfl sz_3 rfl (fun _ => rfl) hown19 hg22 (List.getElem?_eq_getElem (by (repeat rw [List.length_set]); rw [List.length_replicate]; omega)) rfl (rfl) (fun ws23 hwws23 hown24 => ?_)
    rw [List.set_set] at hown24
    replace hE13 := Wr.below hE13 hwws23 hBg22
    refine RG.done ?_
    refine QW.then_ ?_
    refine CW.seq ?_
    refine CW.region ?_
    refine RG.vl rfl rfl rfl (Ev.move rfl rfl) ?_
    refine RG.vl rfl rfl rfl (Ev.fld rfl rfl fld_36_1) ?_
    refine RG.vl rfl rfl rfl (Ev.ldAt rfl rfl Tryd.underlying3 rfl ((hb4.ext hE13).cells) (rfl)) ?_
    refine RG.vl rfl rfl rfl (Ev.fld rfl rfl fld_36_3) ?_
    refine RG.vl rfl rfl rfl (Ev.ldAt rfl rfl Tryd.underlying3 rfl ((hb4.ext hE13).cells) (rfl)) ?_
    refine RG.idxO rfl rfl rfl rfl rfl rfl Tryd.underlying22 sz_3 encZ_len (hown24) (List.getElem?_eq_getElem (by (repeat rw [List.length_set]); rw [List.length_replicate]; omega)) (fun g26 hg26 hBg26 hp25b hp25 => ?_)
    refine RG.stOw0 (g := g26) (b) rfl rfl rfl rfl rfl sz_3 rfl (fun _ => rfl) hown24 hg26 (List.getElem?_eq_getElem (by (repeat rw [List.length_set]); rw [List.length_replicate]; omega)) rfl (rfl) (fun ws27 hwws27 hown28 => ?_)
    replace hE13 := Wr.below hE13 hwws27 hBg26
    refine RG.done ?_
    refine QW.then_ ?_
    refine CW.seq ?_
    refine CW.seq ?_
    refine CW.region ?_
    refine RG.vl rfl rfl rfl (Ev.fld rfl rfl fld_36_0) ?_
    refine RG.vl rfl rfl rfl (Ev.ldAt rfl rfl Tryd.underlying4 rfl ((hb4.ext hE13).cells) (rfl)) ?_
    refine RG.done ?_
    refine QW.then_ ?_
    refine CW.condF rfl ?_
    refine CW.skip ?_
    refine QW.then_ ?_
    refine CW.seq ?_
    refine CW.region ?_
    refine RG.vl rfl rfl rfl (Ev.ldAgg rfl rfl Tryd.underlying24 rfl sz_24 rfl ((hb1.ext hE13).cells)) ?_
    refine RG.vl rfl rfl rfl (Ev.move rfl rfl) ?_
    refine RG.call rfl rfl rfl rfl rfl rfl rfl en_40 (passes_ret k _ _ ws _ _ (hws.ext hE13) ((hown28.rdl encZ_len)) hr (by (repeat rw [List.length_set]); rw [List.length_replicate]; omega) (all_set (all_set (all_set all_rep (by omega)) (checkD_le _ _ _)) (by omega))) ?_
    rintro _ w29 ⟨rfl, hx29⟩
    replace hE13 := Ex.tr hE13 hx29
    have hE30 := hx29
    refine RG.vl rfl rfl rfl (Ev.assign rfl rfl) ?_
    refine RG.done ?_
    refine QW.sub (S' := [(6, _)]) ⟨rfl, trivial⟩ ?_
    refine QW.then_ ?_
    refine CW.ret ?_
    refine QW.ret1 rfl rfl ?_
    have hB := (Ex.tr hR12 hE13)
    exact ⟨rfl, hB⟩
  · have hps1 := hps rfl
    refine CW.region ?_
    refine RG.vl rfl rfl rfl (Ev.move rfl rfl) ?_
    refine RG.vl rfl rfl rfl (Ev.addI rfl rfl rfl (by omega)) ?_
    replace hws := (hws.ext hE3)
    replace hb1 := (hb1.ext hE8)
    have hR34 := (Ex.tr hB0 hE3)
    refine RG.makeO (m := n + 1) (enc := encZ) 0 rfl rfl rfl rfl rfl rfl (by omega) Tryd.underlying22 inf_3 encZ_len rfl rfl (by omega) (by simp only [maxLen]; omega) (fun u wk31 hxwk31 hown32 hnew33 => ?_)
    have hE35 := hxwk31
    refine RG.vl rfl rfl rfl (Ev.assign rfl rfl) ?_
    refine RG.done ?_
    refine QW.then_ ?_
    refine CW.seq ?_
    refine CW.region ?_
    refine RG.vl rfl rfl rfl (Ev.move rfl rfl) ?_
    refine RG.vl rfl rfl rfl (Ev.fld rfl rfl fld_36_1) ?_
    refine RG.vl rfl rfl rfl (Ev.ldAt rfl rfl Tryd.underlying3 rfl ((hb4.ext hE35).cells) (rfl)) ?_
    refine RG.vl rfl rfl rfl (Ev.fld rfl rfl fld_36_2) ?_
    refine RG.vl rfl rfl rfl (Ev.ldAt rfl rfl Tryd.underlying3 rfl ((hb4.ext hE35).cells) (rfl)) ?_
    refine RG.idxO rfl rfl rfl rfl rfl rfl Tryd.underlying22 sz_3 encZ_len (hown32) (List.getElem?_eq_getElem (by (repeat rw [List.length_set]); rw [List.length_replicate]; omega)) (fun g37 hg37 hBg37 hp36b hp36 => ?_)
    refine RG.stOw0 (g := g37) (a) rfl rfl rfl rfl rfl sz_3 rfl (fun _ => rfl) hown32 hg37 (List.getElem?_eq_getElem (by (repeat rw [List.length_set]); rw [List.length_replicate]; omega)) rfl (rfl) (fun ws38 hwws38 hown39 => ?_)
    replace hE35 := Wr.below hE35 hwws38 hBg37
    refine RG.done ?_
    refine QW.then_ ?_
    refine CW.seq ?_
    refine CW.seq ?_
    refine CW.region ?_
    refine RG.vl rfl rfl rfl (Ev.fld rfl rfl fld_36_0) ?_
    refine RG.vl rfl rfl rfl (Ev.ldAt rfl rfl Tryd.underlying4 rfl ((hb4.ext hE35).cells) (rfl)) ?_
    refine RG.done ?_
    refine QW.sub (S' := [(3, _), (4, _), (6, _), (7, _), (18, _)]) ⟨rfl, rfl, rfl, rfl, rfl, trivial⟩ ?_
    refine QW.then_ ?_
    refine CW.condT rfl ?_
    refine CW.draw [] (.low w4.heap.size) 15 rfl mixed (fun wd40 hxwd40 => ?_)
    replace hE35 := Ex.tr hE35 hxwd40
    have hE41 := hxwd40
    refine AG.takeW 0 rfl (by kernel_rfl) (by kernel_rfl) rfl rfl rfl (fun _ => Ev.move rfl rfl) ?_
    refine AG.takeW 1 rfl (by kernel_rfl) (by kernel_rfl) rfl rfl rfl (fun _ => Ev.fld rfl rfl fld_36_1) ?_
    refine AG.take 2 rfl (by kernel_rfl) (by kernel_rfl) rfl rfl rfl (fun wq hq => Ev.ldAt rfl rfl Tryd.underlying3 rfl ((Blk.low (hb4.ext hE35) hq (Blk.lt hb4)).cells) (rfl)) ?_
    refine AG.takeW 3 rfl (by kernel_rfl) (by kernel_rfl) rfl rfl rfl (fun _ => (Ev.addI rfl rfl rfl (by omega)).conv (congrArg (Value.int .i64) (show (p : Int) + 1 = ((p + 1 : Nat) : Int) by omega))) ?_
    refine AG.takeW 4 rfl (by kernel_rfl) (by kernel_rfl) rfl rfl rfl (fun _ => Ev.move rfl rfl) ?_
    refine AG.takeW 5 rfl (by kernel_rfl) (by kernel_rfl) rfl rfl rfl (fun _ => Ev.fld rfl rfl fld_36_1) ?_
    refine AG.take 6 rfl (by kernel_rfl) (by kernel_rfl) rfl rfl rfl (fun wq hq => Ev.ldAt rfl rfl Tryd.underlying3 rfl ((Blk.low (hb4.ext hE35) hq (Blk.lt hb4)).cells) (rfl)) ?_
    refine AG.takeW 7 rfl (by kernel_rfl) (by kernel_rfl) rfl rfl rfl (fun _ => Ev.fld rfl rfl fld_36_2) ?_
    refine AG.take 8 rfl (by kernel_rfl) (by kernel_rfl) rfl rfl rfl (fun wq hq => Ev.ldAt rfl rfl Tryd.underlying3 rfl ((Blk.low (hb4.ext hE35) hq (Blk.lt hb4)).cells) (rfl)) ?_
    refine AG.takeW 9 rfl (by kernel_rfl) (by kernel_rfl) rfl rfl rfl (fun _ => Ev.fld rfl rfl fld_36_3) ?_
    refine AG.take 10 rfl (by kernel_rfl) (by kernel_rfl) rfl rfl rfl (fun wq hq => Ev.ldAt rfl rfl Tryd.underlying3 rfl ((Blk.low (hb4.ext hE35) hq (Blk.lt hb4)).cells) (rfl)) ?_
    refine AG.idxO _ 11 rfl (by kernel_rfl) (by kernel_rfl) rfl rfl rfl rfl rfl rfl Tryd.underlying22 sz_3 encZ_len ((Own.ext hown39 hE41)) (List.getElem?_eq_getElem (by (repeat rw [List.length_set]); rw [List.length_replicate]; omega)) (fun g43 hg43 hBg43 hp42b hp42 => ?_)
    refine AG.only 12 rfl (by kernel_rfl) ?_
    refine RG.stOw0 (g := g43) (a) rfl rfl rfl rfl rfl sz_3 rfl (fun _ => rfl) (Own.ext hown39 hE41) hg43 (List.getElem?_eq_getElem (by (repeat rw [List.length_set]); rw [List.length_replicate]; omega)) rfl (rfl) (fun ws45 hwws45 hown46 => ?_)
    replace hE35 := Wr.below hE35 hwws45 hBg43
    refine RG.done ?_
    refine QW.an (fun _ => Rr.low_wr hwws45 hBg43) ?_
    refine AG.idxO _ 13 rfl (by kernel_rfl) (by kernel_rfl) rfl rfl rfl rfl rfl rfl Tryd.underlying22 sz_3 encZ_len (hown46) (List.getElem?_eq_getElem (by (repeat rw [List.length_set]); rw [List.length_replicate]; omega)) (fun g48 hg48 hBg48 hp47b hp47 => ?_)
    refine AG.only 14 rfl (by kernel_rfl) ?_
    refine RG.stOw0 (g := g48) (b) rfl rfl rfl rfl rfl sz_3 rfl (fun _ => rfl) hown46 hg48 (List.getElem?_eq_getElem (by (repeat rw [List.length_set]); rw [List.length_replicate]; omega)) rfl (rfl) (fun ws50 hwws50 hown51 => ?_)
    rw [set_ii] at hown51
    replace hE35 := Wr.below hE35 hwws50 hBg48
    refine RG.done ?_
    refine QW.an (fun _ => Rr.low_wr hwws50 hBg48) ?_
    refine AG.done (by kernel_rfl) ?_
    refine QW.then_ ?_
    refine CW.seq ?_
    refine CW.region ?_
    refine RG.vl rfl rfl rfl (Ev.move rfl rfl) ?_
    refine RG.vl rfl rfl rfl (Ev.ldAgg rfl rfl Tryd.underlying24 rfl sz_24 rfl ((hb1.ext hE35).cells)) ?_
    refine RG.vl rfl rfl rfl (Ev.move rfl rfl) ?_
    refine RG.call rfl rfl rfl rfl rfl rfl rfl en_37 (check_ret w4 k _ _ ws _ _ hE35 hws hown51 hr (by (repeat rw [List.length_set]); rw [List.length_replicate]; omega) (by (repeat rw [List.length_set]); rw [List.length_replicate]; omega) (all_set (all_set all_rep (by omega)) (by omega))) ?_
    rintro _ w52 ⟨x52, rfl, hown53, hgr54⟩
    replace hE35 := own_block hown51 hE35 hgr54 (Nat.le_refl _) hE35.size
    refine RG.idxO (i := 0) rfl rfl rfl rfl rfl rfl Tryd.underlying22 sz_3 encZ_len (hown53) (List.getElem?_eq_getElem (by (repeat rw [List.length_set]); rw [List.length_replicate]; omega)) (fun g56 hg56 hBg56 hp55b hp55 => ?_)
    refine RG.stOw0 (g := g56) (_) rfl rfl rfl rfl rfl sz_3 rfl (fun _ => rfl) hown53 hg56 (List.getElem?_eq_getElem (by (repeat rw [List.length_set]); rw [List.length_replicate]; omega)) rfl (rfl) (fun ws57 hwws57 hown58 => ?_)
    rw [List.set_set] at hown58
    replace hE35 := Wr.below hE35 hwws57 hBg56
    refine RG.done ?_
    refine QW.sub (S' := [(3, _), (4, _), (6, _), (7, _)]) ⟨rfl, rfl, rfl, rfl, trivial⟩ ?_
    refine QW.then_ ?_
    refine CW.seq ?_
    refine CW.region ?_
    refine RG.vl rfl rfl rfl (Ev.move rfl rfl) ?_
    refine RG.vl rfl rfl rfl (Ev.fld rfl rfl fld_36_1) ?_
    refine RG.vl rfl rfl rfl (Ev.ldAt rfl rfl Tryd.underlying3 rfl ((hb4.ext hE35).cells) (rfl)) ?_
    refine RG.vl rfl rfl rfl (Ev.fld rfl rfl fld_36_3) ?_
    refine RG.vl rfl rfl rfl (Ev.ldAt rfl rfl Tryd.underlying3 rfl ((hb4.ext hE35).cells) (rfl)) ?_
    refine RG.idxO rfl rfl rfl rfl rfl rfl Tryd.underlying22 sz_3 encZ_len (hown58) (List.getElem?_eq_getElem (by (repeat rw [List.length_set]); rw [List.length_replicate]; omega)) (fun g60 hg60 hBg60 hp59b hp59 => ?_)
    refine RG.stOw0 (g := g60) (b) rfl rfl rfl rfl rfl sz_3 rfl (fun _ => rfl) hown58 hg60 (List.getElem?_eq_getElem (by (repeat rw [List.length_set]); rw [List.length_replicate]; omega)) rfl (rfl) (fun ws61 hwws61 hown62 => ?_)
    replace hE35 := Wr.below hE35 hwws61 hBg60
    refine RG.done ?_
    refine QW.then_ ?_
    refine CW.seq ?_
    refine CW.seq ?_
    refine CW.region ?_
    refine RG.vl rfl rfl rfl (Ev.fld rfl rfl fld_36_0) ?_
    refine RG.vl rfl rfl rfl (Ev.ldAt rfl rfl Tryd.underlying4 rfl ((hb4.ext hE35).cells) (rfl)) ?_
    refine RG.done ?_
    refine QW.then_ ?_
    refine CW.condT rfl ?_
    refine CW.draw [] (.low w4.heap.size) 15 rfl mixed (fun wd63 hxwd63 => ?_)
    replace hE35 := Ex.tr hE35 hxwd63
    have hE64 := hxwd63
    refine AG.takeW 0 rfl (by kernel_rfl) (by kernel_rfl) rfl rfl rfl (fun _ => Ev.move rfl rfl) ?_
    refine AG.takeW 1 rfl (by kernel_rfl) (by kernel_rfl) rfl rfl rfl (fun _ => Ev.fld rfl rfl fld_36_1) ?_
    refine AG.take 2 rfl (by kernel_rfl) (by kernel_rfl) rfl rfl rfl (fun wq hq => Ev.ldAt rfl rfl Tryd.underlying3 rfl ((Blk.low (hb4.ext hE35) hq (Blk.lt hb4)).cells) (rfl)) ?_
    refine AG.takeW 3 rfl (by kernel_rfl) (by kernel_rfl) rfl rfl rfl (fun _ => (Ev.addI rfl rfl rfl (by omega)).conv (congrArg (Value.int .i64) (show (p : Int) + 1 = ((p + 1 : Nat) : Int) by omega))) ?_
    refine AG.takeW 4 rfl (by kernel_rfl) (by kernel_rfl) rfl rfl rfl (fun _ => Ev.move rfl rfl) ?_
    refine AG.takeW 5 rfl (by kernel_rfl) (by kernel_rfl) rfl rfl rfl (fun _ => Ev.fld rfl rfl fld_36_1) ?_
    refine AG.take 6 rfl (by kernel_rfl) (by kernel_rfl) rfl rfl rfl (fun wq hq => Ev.ldAt rfl rfl Tryd.underlying3 rfl ((Blk.low (hb4.ext hE35) hq (Blk.lt hb4)).cells) (rfl)) ?_
    refine AG.takeW 7 rfl (by kernel_rfl) (by kernel_rfl) rfl rfl rfl (fun _ => Ev.fld rfl rfl fld_36_3) ?_
    refine AG.take 8 rfl (by kernel_rfl) (by kernel_rfl) rfl rfl rfl (fun wq hq => Ev.ldAt rfl rfl Tryd.underlying3 rfl ((Blk.low (hb4.ext hE35) hq (Blk.lt hb4)).cells) (rfl)) ?_
    refine AG.takeW 9 rfl (by kernel_rfl) (by kernel_rfl) rfl rfl rfl (fun _ => Ev.fld rfl rfl fld_36_2) ?_
    refine AG.take 10 rfl (by kernel_rfl) (by kernel_rfl) rfl rfl rfl (fun wq hq => Ev.ldAt rfl rfl Tryd.underlying3 rfl ((Blk.low (hb4.ext hE35) hq (Blk.lt hb4)).cells) (rfl)) ?_
    refine AG.idxO _ 11 rfl (by kernel_rfl) (by kernel_rfl) rfl rfl rfl rfl rfl rfl Tryd.underlying22 sz_3 encZ_len ((Own.ext hown62 hE64)) (List.getElem?_eq_getElem (by (repeat rw [List.length_set]); rw [List.length_replicate]; omega)) (fun g66 hg66 hBg66 hp65b hp65 => ?_)
    refine AG.only 12 rfl (by kernel_rfl) ?_
    refine RG.stOw0 (g := g66) (b) rfl rfl rfl rfl rfl sz_3 rfl (fun _ => rfl) (Own.ext hown62 hE64) hg66 (List.getElem?_eq_getElem (by (repeat rw [List.length_set]); rw [List.length_replicate]; omega)) rfl (rfl) (fun ws68 hwws68 hown69 => ?_)
    replace hE35 := Wr.below hE35 hwws68 hBg66
    refine RG.done ?_
    refine QW.an (fun _ => Rr.low_wr hwws68 hBg66) ?_
    refine AG.idxO _ 13 rfl (by kernel_rfl) (by kernel_rfl) rfl rfl rfl rfl rfl rfl Tryd.underlying22 sz_3 encZ_len (hown69) (List.getElem?_eq_getElem (by (repeat rw [List.length_set]); rw [List.length_replicate]; omega)) (fun g71 hg71 hBg71 hp70b hp70 => ?_)
    refine AG.only 14 rfl (by kernel_rfl) ?_
    refine RG.stOw0 (g := g71) (a) rfl rfl rfl rfl rfl sz_3 rfl (fun _ => rfl) hown69 hg71 (List.getElem?_eq_getElem (by (repeat rw [List.length_set]); rw [List.length_replicate]; omega)) rfl (rfl) (fun ws73 hwws73 hown74 => ?_)
    rw [set_ii] at hown74
    replace hE35 := Wr.below hE35 hwws73 hBg71
    refine RG.done ?_
    refine QW.an (fun _ => Rr.low_wr hwws73 hBg71) ?_
    refine AG.done (by kernel_rfl) ?_
    refine QW.sub (S' := [(3, _), (6, _), (7, _)]) ⟨rfl, rfl, rfl, trivial⟩ ?_
    refine QW.then_ ?_
    refine CW.seq ?_
    refine CW.region ?_
    refine RG.vl rfl rfl rfl (Ev.ldAgg rfl rfl Tryd.underlying24 rfl sz_24 rfl ((hb1.ext hE35).cells)) ?_
    refine RG.vl rfl rfl rfl (Ev.move rfl rfl) ?_
    refine RG.call rfl rfl rfl rfl rfl rfl rfl en_40 (passes_ret k _ _ ws _ _ (hws.ext hE35) ((hown74.rdl encZ_len)) hr (by (repeat rw [List.length_set]); rw [List.length_replicate]; omega) (all_set (all_set (all_set (all_set (all_set all_rep (by omega)) (by omega)) (checkD_le _ _ _)) (by omega)) (by omega))) ?_
    rintro _ w75 ⟨rfl, hx75⟩
    replace hE35 := Ex.tr hE35 hx75
    have hE76 := hx75
    refine RG.vl rfl rfl rfl (Ev.assign rfl rfl) ?_
    refine RG.done ?_
    refine QW.then_ ?_
    refine CW.ret ?_
    refine QW.ret1 rfl rfl ?_
    have hB := (Ex.tr hR34 hE35)
    exact ⟨rfl, hB⟩

end Go.Proofs.YtnhkhpnkhkagaaaDoor
