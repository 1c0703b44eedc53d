/- Texts put together by program: UR, VF. -/
import Derived.Test.YtgjnchjkjdnidaaGreatMBarcodeScans6
/- Walks (UR). Written by program. -/
namespace Go.Proofs.YtgjnchjkjdnidaaGreat
open Go.RowKit
set_option maxRecDepth 100000 in
set_option maxHeartbeats 4000000 in
theorem scan_ret (s : Su) (u : Value) (l : List Br) (w : World) (hl : RdL w 3 Br.c u l) (hlen : l.length ≤ 1000) :
  Ret Tryz.prog 7 [s.v, u] w (fun v w' => ∃ x b y z es er e, v = .tuple #[.agg ([.string ⟨x.toArray⟩, .bool b, y, z] : List Value).toArray, .int .i64 e] ∧ Own w' w.heap.size 3 1 encZ y es ∧ Own w' w.heap.size 3 1 encZ z er ∧ ScR s l x b es er e ∧ Ex w w') := by
 have hB0 : Ex w w := Ex.rfl_ _
 refine Ret.of Tryz.func7 rfl Tryz.ntmps7 rfl ?_
 refine CW.seq (CW.region ?_)
 refine RG.box rfl rfl rfl rfl rfl (fun g1 w1 eg1 hx1 hb1 => ?_)
 have hle2 : w.heap.size ≤ g1 := by have := (Ex.rfl_ w).size; omega
 have hE3 := hx1
 refine RG.alloc_ rfl rfl rfl rfl inf_31 (fun gR w4 egR hx4 hb4 => ?_)
 have hle5 : w.heap.size ≤ gR := by have := hE3.size; omega
 have hle6 : w1.heap.size ≤ gR := by have := (Ex.rfl_ w1).size; omega
 have hlt7 : g1 < gR := by have := Blk.lt hb1; omega
 replace hE3 := Ex.tr hE3 hx4
 have hE8 := hx4
 refine RG.vl rfl rfl rfl (Ev.assign rfl rfl) ?_
 refine RG.done (QW.then_ (CW.seq (CW.seq (CW.region ?_))))
 refine RG.vl rfl rfl rfl (Ev.fld rfl rfl fld_23_0) ?_
 refine RG.vl rfl rfl rfl (Ev.ldAt rfl rfl Tryz.underlying3 rfl ((hb1.ext hE8).cells) (rfl)) ?_
 refine RG.vl rfl rfl rfl (Ev.neI rfl rfl rfl) ?_
 refine RG.done (QW.then_ ?_)
 refine CW.condP rfl (fun hc9 => ?_) (fun hc9 => ?_)
 ·refine CW.seq (CW.region ?_)
  refine RG.vl rfl rfl rfl (Ev.build1 rfl rfl rfl inf_31 rfl rfl (by kernel_rfl) rfl) ?_
  refine RG.stAll (g := gR) rfl rfl rfl rfl rfl sz_31 rfl rfl rfl hb4 (fun ws10 hwws10 hbws10 => ?_)
  replace hE3 := Wr.below hE3 hwws10 hle5
  replace hE8 := Wr.below hE8 hwws10 hle6
  refine RG.vl rfl rfl rfl (Ev.assign rfl rfl) ?_
  refine RG.done (QW.then_ (CW.ret (QW.thenRet ?_)))
  refine QW.retCT rfl rfl rfl Tryz.underlying31 rfl sz_31 (us := [.string _, .bool _, _, _]) rfl hbws10 ?_
  have hB := (Ex.tr hB0 hE3)
  exact ⟨[], false, _, _, [], [], 2, rfl, Own.nil_ _ _ _ _ _, Own.nil_ _ _ _ _ _, .inl ⟨by omega, rfl, rfl, rfl, rfl, rfl⟩, hB⟩
 ·refine CW.skip (QW.then_ (CW.seq (CW.region ?_)))
  refine RG.vl rfl rfl rfl (Ev.ldAgg rfl rfl Tryz.underlying23 rfl sz_23 rfl ((hb1.ext hE8).cells)) ?_
  refine RG.vl rfl rfl rfl (Ev.move rfl rfl) ?_
  refine RG.call rfl rfl rfl rfl rfl rfl rfl en_19 (hread_ret _ _ _ _ ((hl.ext hE3)) (by omega)) ?_
  rintro _ w11 ⟨rfl, hx11⟩
  replace hE3 := Ex.tr hE3 hx11
  replace hE8 := Ex.tr hE8 hx11
  have hE12 := hx11
  refine RG.vl rfl rfl rfl (Ev.move rfl rfl) ?_
  refine RG.vl rfl rfl rfl (Ev.extract rfl rfl rfl) ?_
  refine RG.vl rfl rfl rfl (Ev.extract rfl rfl rfl) ?_
  refine RG.vl rfl rfl rfl (Ev.assign rfl rfl) ?_
  refine RG.vl rfl rfl rfl (Ev.assign rfl rfl) ?_
  refine RG.done ?_
  refine QW.sub (S' := [(4, _), (5, _), (6, _), (7, _)]) ⟨rfl, rfl, rfl, rfl, trivial⟩ ?_
  refine QW.then_ (CW.seq (CW.seq (CW.region ?_)))
  refine RG.vl rfl rfl rfl (Ev.move rfl rfl) ?_
  refine RG.vl rfl rfl rfl (Ev.neI rfl rfl rfl) ?_
  refine RG.done (QW.then_ ?_)
  refine CW.condP rfl (fun hc13 => ?_) (fun hc13 => ?_)
  ·refine CW.seq (CW.region ?_)
   refine RG.vl rfl rfl rfl (Ev.build1 rfl rfl rfl inf_31 rfl rfl (by kernel_rfl) rfl) ?_
   refine RG.vl rfl rfl rfl (Ev.move rfl rfl) ?_
   refine RG.stAll (g := gR) rfl rfl rfl rfl rfl sz_31 rfl rfl rfl (hb4.ext hE12) (fun ws14 hwws14 hbws14 => ?_)
   replace hE3 := Wr.below hE3 hwws14 hle5
   replace hE8 := Wr.below hE8 hwws14 hle6
   refine RG.vl rfl rfl rfl (Ev.assign rfl rfl) ?_
   refine RG.done (QW.then_ (CW.ret (QW.thenRet ?_)))
   refine QW.retCT rfl rfl rfl Tryz.underlying31 rfl sz_31 (us := [.string _, .bool _, _, _]) rfl hbws14 ?_
   have hB := (Ex.tr hB0 hE3)
   exact ⟨[], false, _, _, [], [], _, rfl, Own.nil_ _ _ _ _ _, Own.nil_ _ _ _ _ _, .inr (.inl ⟨by omega, by omega, rfl, rfl, rfl, rfl, rfl⟩), hB⟩
  ·refine CW.skip (QW.then_ (CW.seq (CW.region ?_)))
   refine RG.vl rfl rfl rfl (Ev.move rfl rfl) ?_
   refine RG.call rfl rfl rfl rfl rfl rfl rfl en_13 (brd_ret _ _) ?_
   have hpre15 := (Ex.tr hB0 hE3)
   rintro _ w15 ⟨rx, rb, ry, rz, rs, re, rn, rfl, hoy, hoz, hrd, hx15⟩
   have hsb16 := fun e => sep_blk (hb1.ext hE8) (Nat.le_refl _) hoy e
   have hsb17 := fun e => sep_blk (hb4.ext hE12) (Nat.le_refl _) hoy e
   have hsb18 := fun e => sep_blk (hb1.ext hE8) (Nat.le_refl _) hoz e
   have hsb19 := fun e => sep_blk (hb4.ext hE12) (Nat.le_refl _) hoz e
   replace hoy := Own.low (B' := w.heap.size) hoy (by have := (Ex.tr hB0 hE3).size; omega)
   replace hoz := Own.low (B' := w.heap.size) hoz (by have := (Ex.tr hB0 hE3).size; omega)
   replace hE3 := Ex.tr hE3 hx15
   replace hE8 := Ex.tr hE8 hx15
   replace hE12 := Ex.tr hE12 hx15
   have hE20 := hx15
   obtain ⟨yA, yC, rfl⟩ := hoy.shape
   obtain ⟨zA, zC, rfl⟩ := hoz.shape
   refine RG.vl rfl rfl rfl (Ev.extract rfl rfl rfl) ?_
   refine RG.vl rfl rfl rfl (Ev.extract rfl rfl rfl) ?_
   refine RG.stAll (g := gR) rfl rfl rfl rfl rfl sz_31 rfl rfl rfl (hb4.ext hE12) (fun ws21 hwws21 hbws21 => ?_)
   replace hoy := Own.far hoy hwws21 hsb17
   replace hoz := Own.far hoz hwws21 hsb19
   replace hE3 := Wr.below hE3 hwws21 hle5
   replace hE8 := Wr.below hE8 hwws21 hle6
   refine RG.vl rfl rfl rfl (Ev.assign rfl rfl) ?_
   refine RG.done (QW.then_ (CW.ret ?_))
   refine QW.retCT rfl rfl rfl Tryz.underlying31 rfl sz_31 (us := [.string _, .bool _, _, _]) rfl hbws21 ?_
   have hB := (Ex.tr hB0 hE3)
   exact ⟨_, _, _, _, _, _, _, rfl, hoy, hoz, .inr (.inr ⟨by omega, by omega, hrd⟩), hB⟩

set_option maxRecDepth 100000 in
set_option maxHeartbeats 1000000 in
theorem draw_own (s : Su) (t : ByteArray) (w : World) (hlen : t.size ≤ 1000) :
  Ret Tryz.prog 18 [s.v, .string t] w (fun v w' => ∃ u, v = .tuple #[u, .int .i64 (drawErr s t.data.toList)] ∧ Own w' w.heap.size 36 3 Br.c u (drawOf s t.data.toList) ∧ Ex w w') := by
 have hB0 : Ex w w := Ex.rfl_ _
 refine Ret.of Tryz.func18 rfl Tryz.ntmps18 rfl ?_
 refine CW.seq (CW.region ?_)
 refine RG.box rfl rfl rfl rfl rfl (fun g1 w1 eg1 hx1 hb1 => ?_)
 have hle2 : w.heap.size ≤ g1 := by have := (Ex.rfl_ w).size; omega
 have hE3 := hx1
 refine RG.vl rfl rfl rfl (Ev.assign rfl rfl) ?_
 refine RG.vl rfl rfl rfl (Ev.assign rfl rfl) ?_
 refine RG.done (QW.then_ (CW.seq (CW.seq (CW.region ?_))))
 refine RG.vl rfl rfl rfl (Ev.ldAgg rfl rfl Tryz.underlying23 rfl sz_23 rfl (hb1.cells)) ?_
 refine RG.call rfl rfl rfl rfl rfl rfl rfl en_45 (right_ret _ _) ?_
 rintro _ w4 ⟨rfl, hx4⟩
 replace hE3 := Ex.tr hE3 hx4
 have hE5 := hx4
 refine RG.vl rfl rfl rfl (Ev.notP rfl rfl) ?_
 refine RG.vl rfl rfl rfl (Ev.move rfl rfl) ?_
 refine RG.split (d := 15) rfl (fun hg6 => ?_) (fun hg6 => ?_)
 ·refine RG.pass rfl rfl rfl ?_
  refine RG.pass rfl rfl rfl ?_
  refine RG.pass rfl rfl rfl ?_
  refine RG.pass rfl rfl rfl ?_
  refine RG.pass rfl rfl rfl ?_
  refine RG.vl rfl rfl rfl (Ev.pickT rfl rfl rfl) ?_
  refine RG.done (QW.then_ ?_)
  refine CW.condT rfl ?_
  refine CW.seq (CW.region ?_)
  refine RG.vl rfl rfl rfl (Ev.assign rfl rfl) ?_
  refine RG.vl rfl rfl rfl (Ev.assign rfl rfl) ?_
  refine RG.done ?_
  refine QW.sub (S' := [(1, _), (2, _), (4, _), (5, _)]) ⟨rfl, rfl, rfl, rfl, trivial⟩ ?_
  refine QW.then_ (CW.ret (QW.thenRet ?_))
  refine QW.ret2 rfl rfl rfl ?_
  have hB := (Ex.tr hB0 hE3)
  obtain ⟨e1, e2⟩ := drawErr_bad s t.data.toList (by rintro ⟨h1, h2, _⟩; first | exact absurd h1 (by assumption) | (rw [Array.length_toList] at h2; exact absurd (show (t.size : Int) = s.pl from h2) (by assumption)))
  exact ⟨_, by rw [e1], by rw [e2]; exact Own.nil_ _ _ _ _ _, hB⟩
 ·refine RG.vl rfl rfl rfl (Ev.move rfl rfl) ?_
  refine RG.vl rfl rfl rfl (Ev.lenStr rfl rfl rfl Tryz.underlying9) ?_
  refine RG.vl rfl rfl rfl (Ev.fld rfl rfl fld_23_0) ?_
  refine RG.vl rfl rfl rfl (Ev.ldAt rfl rfl Tryz.underlying3 rfl ((hb1.ext hE5).cells) (rfl)) ?_
  refine RG.vl rfl rfl rfl (Ev.neI rfl rfl rfl) ?_
  refine RG.vl rfl rfl rfl (Ev.pickF rfl rfl rfl) ?_
  refine RG.done (QW.then_ ?_)
  refine CW.condP rfl (fun hc7 => ?_) (fun hc7 => ?_)
  ·refine CW.seq (CW.region ?_)
   refine RG.vl rfl rfl rfl (Ev.assign rfl rfl) ?_
   refine RG.vl rfl rfl rfl (Ev.assign rfl rfl) ?_
   refine RG.done ?_
   refine QW.sub (S' := [(1, _), (2, _), (4, _), (5, _)]) ⟨rfl, rfl, rfl, rfl, trivial⟩ ?_
   refine QW.then_ (CW.ret (QW.thenRet ?_))
   refine QW.ret2 rfl rfl rfl ?_
   have hB := (Ex.tr hB0 hE3)
   obtain ⟨e1, e2⟩ := drawErr_bad s t.data.toList (by rintro ⟨h1, h2, _⟩; first | exact absurd h1 (by assumption) | (rw [Array.length_toList] at h2; exact absurd (show (t.size : Int) = s.pl from h2) (by assumption)))
   exact ⟨_, by rw [e1], by rw [e2]; exact Own.nil_ _ _ _ _ _, hB⟩
  ·refine CW.skip (QW.then_ (CW.seq ?_))
   have hs : Okay s := Decidable.not_not.1 (by assumption)
   obtain ⟨a1, a2, a3, a4, a5, a6, a7, a8, a9, a10, a11⟩ := id hs
   have hlz : t.data.toList.length = t.size := Array.length_toList
   refine CW.region ?_
   refine RG.mkMap (fun b : Bool => Value.bool b) rfl rfl rfl rfl (fun gH w8 egH hx8 hb8 => ?_)
   have hle9 : w.heap.size ≤ gH := by have := hE3.size; omega
   have hle10 : w1.heap.size ≤ gH := by have := hE5.size; omega
   have hle11 : w4.heap.size ≤ gH := by have := (Ex.rfl_ w4).size; omega
   have hlt12 : g1 < gH := by have := Blk.lt (hb1.ext hE5); omega
   replace hE3 := Ex.tr hE3 hx8
   replace hE5 := Ex.tr hE5 hx8
   refine RG.vl rfl rfl rfl (Ev.fld rfl rfl fld_23_4) ?_
   refine RG.vl rfl rfl rfl (Ev.ldAt rfl rfl Tryz.underlying3 rfl ((hb1.ext hE5).cells) (rfl)) ?_
   refine RG.mapPut keyB rfl rfl (.inr rfl) rfl rfl rfl Tryz.underlying100 Tryz.underlying4 hb8 (rfl) (fun wm13 hwm13 hbwm13 => ?_)
   replace hE3 := Wr.below hE3 hwm13 hle9
   replace hE5 := Wr.below hE5 hwm13 hle10
   refine RG.vl rfl rfl rfl (Ev.fld rfl rfl fld_23_5) ?_
   refine RG.vl rfl rfl rfl (Ev.ldAt rfl rfl Tryz.underlying3 rfl ((hb1.ext hE5).cells) (rfl)) ?_
   refine RG.mapPut keyB rfl rfl (.inr rfl) rfl rfl rfl Tryz.underlying100 Tryz.underlying4 hbwm13 (rfl) (fun wm14 hwm14 hbwm14 => ?_)
   replace hE3 := Wr.below hE3 hwm14 hle9
   replace hE5 := Wr.below hE5 hwm14 hle10
   refine RG.vl rfl rfl rfl (Ev.move rfl rfl) ?_
   refine RG.vl rfl rfl rfl (Ev.assign rfl rfl) ?_
   refine RG.done ?_
   refine QW.sub (S' := [(1, _), (2, _), (4, _), (5, _), (6, _)]) ⟨rfl, rfl, rfl, rfl, rfl, trivial⟩ ?_
   refine QW.then_ (CW.seq (CW.region ?_))
   refine RG.vl rfl rfl rfl (Ev.assign rfl rfl) ?_
   refine RG.done (QW.then_ (CW.seq (CW.seq (CW.region ?_))))
   refine RG.vl rfl rfl rfl (Ev.move rfl rfl) ?_
   refine RG.toBytes rfl rfl rfl rfl rfl Tryz.underlying9 Tryz.underlying58 Tryz.underlying5 (by simp only [maxLen]; omega) (fun v15 wk16 hxwk16 hrwk16 => ?_)
   replace hE3 := Ex.tr hE3 hxwk16
   replace hE5 := Ex.tr hE5 hxwk16
   have hE17 := hxwk16
   refine RG.vl rfl rfl rfl (Ev.lenL rfl rfl rfl Tryz.underlying58 (hrwk16)) ?_
   refine RG.vl rfl rfl rfl (Ev.move rfl rfl) ?_
   refine RG.done (QW.then_ (CW.block ?_))
   replace hb1 := (hb1.ext hE5)
   replace hbwm14 := (hbwm14.ext hE17)
   have hR18 := (Ex.tr hB0 hE3)
   have hR19 := hE5
   refine CW.loop2 [(2, _), (6, _), (29, _), (30, _)] ⟨rfl, rfl, rfl, rfl, trivial⟩ (fun (k : Nat) (u : Value) => [(31, .int .i64 k), (7, u)]) (fun k u w' => (k ≤ t.size ∧ w'.ownsRow wk16.heap.size 36 3 u (drawL s (t.data.toList.take k) 0).length ((drawL s (t.data.toList.take k) 0).flatMap Br.c) ∧ (t.data.toList.take k).all okLetter = true) ∧ Ex wk16 w') (fun k u => t.size - k) (0) (.slice none 0 0) ⟨rfl, rfl, trivial⟩ ⟨⟨Nat.zero_le _, own_nil _ _ _ _, rfl⟩, (Ex.rfl_ _)⟩ ?_
   rintro k u wl20 ⟨⟨hkl, hown, hall⟩, hxwl20⟩
   refine CW.sub (S' := [(31, _), (7, _), (2, _), (6, _), (29, _), (30, _)]) ⟨rfl, rfl, rfl, rfl, rfl, rfl, trivial⟩ ?_
   refine CW.seq (CW.region ?_)
   refine RG.vl rfl rfl rfl (Ev.lss rfl rfl rfl) ?_
   refine RG.done (QW.then_ (CW.seq ?_))
   refine CW.condP rfl (fun hc21 => ?_) (fun hc21 => ?_)
   ·refine CW.skip (QW.then_ (CW.seq (CW.block (CW.seq ?_))))
    obtain ⟨c, hc⟩ : ∃ c, t.data.toList[k]? = some c := ⟨_, List.getElem?_eq_getElem (by omega)⟩
    have hkp := kpi s k hs (by omega) (by omega)
    have hdl := drawL_len s (t.data.toList.take k) 0
    rw [List.length_take] at hdl
    refine CW.region ?_
    refine RG.vl rfl rfl rfl (Ev.move rfl rfl) ?_
    refine RG.idxL rfl rfl rfl rfl rfl rfl Tryz.underlying58 sz_5 ((hrwk16.ext hxwl20)) (hc) (fun p22 hp22b hp22 => ?_)
    refine RG.vl rfl rfl rfl (Ev.ld0 rfl rfl Tryz.underlying5 rfl (hp22) (rfl)) ?_
    refine RG.vl rfl rfl rfl (Ev.assign rfl rfl) ?_
    refine RG.vl rfl rfl rfl (Ev.assign rfl rfl) ?_
    refine RG.done (QW.then_ (CW.seq (CW.seq (CW.region ?_))))
    refine RG.vl rfl rfl rfl (Ev.move rfl rfl) ?_
    refine RG.call rfl rfl rfl rfl rfl rfl rfl en_46 (hidxb1_ret _ _ _) ?_
    rintro _ w23 ⟨rfl, hx23⟩
    replace hxwl20 := Ex.tr hxwl20 hx23
    have hE24 := hx23
    refine RG.vl rfl rfl rfl (Ev.lss rfl rfl rfl) ?_
    refine RG.done (QW.then_ ?_)
    refine CW.condP rfl (fun hc25 => ?_) (fun hc25 => ?_)
    ·refine CW.seq (CW.region ?_)
     refine RG.vl rfl rfl rfl (Ev.assign rfl rfl) ?_
     refine RG.vl rfl rfl rfl (Ev.assign rfl rfl) ?_
     refine RG.done (QW.then_ (CW.ret (QW.thenRet (QW.blockR (QW.thenRet (QW.thenRet ?_))))))
     refine QW.blockR (QW.thenRet ?_)
     refine QW.ret2 rfl rfl rfl ?_
     have hB := (Ex.tr hR18 hxwl20)
     obtain ⟨e1, e2⟩ := drawErr_bad s t.data.toList (by rintro ⟨_, _, h3⟩; have := (List.all_eq_true.1 h3) c (List.mem_of_getElem? hc); rw [(idx_letters c).1 (by assumption)] at this; cases this)
     exact ⟨_, by rw [e1], by rw [e2]; exact Own.nil_ _ _ _ _ _, hB⟩
    ·refine CW.skip (QW.then_ (CW.seq (CW.region ?_)))
     refine RG.vl rfl rfl rfl (Ev.move rfl rfl) ?_
     refine RG.vl rfl rfl rfl (Ev.neI rfl rfl rfl) ?_
     refine RG.done (QW.then_ ?_)
     refine CW.condP rfl (fun hc26 => ?_) (fun hc26 => ?_)
     ·refine CW.seq (CW.region ?_)
      refine RG.vl rfl rfl rfl (Ev.move rfl rfl) ?_
      refine RG.vl rfl rfl rfl (Ev.eqI rfl rfl rfl) ?_
      refine RG.vl rfl rfl rfl (Ev.move rfl rfl) ?_
      refine RG.split (d := 43) rfl (fun hg27 => ?_) (fun hg27 => ?_)
      ·refine RG.pass rfl rfl rfl ?_
       refine RG.pass rfl rfl rfl ?_
       refine RG.vl rfl rfl rfl (Ev.pickT rfl rfl rfl) ?_
       refine RG.vl rfl rfl rfl (Ev.move rfl rfl) ?_
       refine RG.vl rfl rfl rfl (Ev.eqI rfl rfl rfl) ?_
       refine RG.vl rfl rfl rfl (Ev.move rfl rfl) ?_
       refine RG.split (d := 49) rfl (fun hg28 => ?_) (fun hg28 => ?_)
       ·refine RG.pass rfl rfl rfl ?_
        refine RG.pass rfl rfl rfl ?_
        refine RG.vl rfl rfl rfl (Ev.pickT rfl rfl rfl) ?_
        refine RG.vl rfl rfl rfl (Ev.assign rfl rfl) ?_
        refine RG.vl rfl rfl rfl (Ev.assign rfl rfl) ?_
        refine RG.done ?_
        refine QW.sub (S' := [(2, _), (6, _), (7, _), (8, _), (10, _), (11, _), (29, _), (30, _), (31, _)]) ⟨rfl, rfl, rfl, rfl, rfl, rfl, rfl, rfl, rfl, trivial⟩ ?_
        refine QW.then_ (CW.region ?_)
        refine RG.vl rfl rfl rfl (Ev.move rfl rfl) ?_
        refine RG.vl rfl rfl rfl (Ev.fld rfl rfl fld_23_1) ?_
        refine RG.vl rfl rfl rfl (Ev.ldAt rfl rfl Tryz.underlying3 rfl ((hb1.ext hxwl20).cells) (rfl)) ?_
        refine RG.vl rfl rfl rfl (Ev.move rfl rfl) ?_
        refine RG.vl rfl rfl rfl (Ev.fld rfl rfl fld_23_2) ?_
        refine RG.vl rfl rfl rfl (Ev.ldAt rfl rfl Tryz.underlying3 rfl ((hb1.ext hxwl20).cells) (rfl)) ?_
        refine RG.vl rfl rfl rfl (Ev.mulI rfl rfl rfl (by omega)) ?_
        refine RG.vl rfl rfl rfl (Ev.addI rfl rfl rfl (by omega)) ?_
        refine RG.vl rfl rfl rfl (Ev.move rfl rfl) ?_
        refine RG.vl rfl rfl rfl (Ev.move rfl rfl) ?_
        refine RG.vl rfl rfl rfl ((Ev.look1 keyB rfl rfl rfl (hbwm14.ext hxwl20) Tryz.underlying100 Tryz.underlying4 inf_3).conv (hts_look s.lo s.hi _)) ?_
        refine RG.vl rfl rfl rfl (Ev.move rfl rfl) ?_
        refine RG.vl rfl rfl rfl (Ev.move rfl rfl) ?_
        refine RG.vl rfl rfl rfl ((Ev.look1 keyB rfl rfl rfl (hbwm14.ext hxwl20) Tryz.underlying100 Tryz.underlying4 inf_3).conv (hts_look s.lo s.hi _)) ?_
        refine RG.vl rfl rfl rfl (Ev.build1 rfl rfl rfl inf_36 rfl rfl (by kernel_rfl) rfl) ?_
        refine RG.buildD (xs := [.tmp 67]) rfl rfl rfl rfl rfl rfl rfl Tryz.underlying24 inf_36 rfl rfl rfl rfl (fun g29 w29 eg29 hx29 hb29 => ?_)
        have hsep30 := own_new (own_ext hown hE24) eg29
        replace hxwl20 := Ex.tr hxwl20 hx29
        replace hE24 := Ex.tr hE24 hx29
        refine RG.app rfl rfl rfl rfl rfl rfl rfl Tryz.underlying24 inf_36 rfl rfl (own_ext hown hE24) rfl (fun _ => ⟨_, rfl, hb29.cells⟩) rfl (by simp only [maxLen]; omega) (by omega) (hxwl20.size) (fun v31 wa32 hown33 hgr34 hat35 => ?_)
        have hb36 := Blk.grown hb29 hgr34 hsep30.symm
        have hsep37 := sep_app hat35 hsep30 (Blk.lt hb29)
        replace hxwl20 := own_block (own_ext hown hE24) hxwl20 hgr34 (Nat.le_refl _) hxwl20.size
        refine RG.vl rfl rfl rfl (Ev.assign rfl rfl) ?_
        refine RG.done ?_
        refine QW.sub (S' := [(2, _), (6, _), (7, _), (29, _), (30, _), (31, _)]) ⟨rfl, rfl, rfl, rfl, rfl, rfl, trivial⟩ ?_
        refine QW.blockN (QW.then_ (CW.region ?_))
        refine RG.vl rfl rfl rfl (Ev.addI rfl rfl rfl (by omega)) ?_
        refine RG.vl rfl rfl rfl (Ev.move rfl rfl) ?_
        refine RG.done ?_
        refine QW.round2 (k + 1) (v31) ⟨rfl, rfl, trivial⟩ ⟨rfl, rfl, rfl, rfl, trivial⟩ ⟨⟨by omega, by rw [drawL_step s _ k c hc (fun e => absurd (show (c.toNat : Int) = 63 by rw [e]; rfl) (by assumption)), mkb_eq s c k (true) (true) (selT c 65 (by assumption)) (selT c 68 (by assumption)), List.length_append, List.flatMap_append]; exact hown33, all_snoc _ k c _ hc hall (by have := mt (idx_letters c).2 (by assumption); simpa using this)⟩, hxwl20⟩ (by omega)
       ·refine RG.vl rfl rfl rfl (Ev.move rfl rfl) ?_
        refine RG.vl rfl rfl rfl (Ev.eqI rfl rfl rfl) ?_
        refine RG.vl rfl rfl rfl (Ev.pickF rfl rfl rfl) ?_
        refine RG.vl rfl rfl rfl (Ev.assign rfl rfl) ?_
        refine RG.vl rfl rfl rfl (Ev.assign rfl rfl) ?_
        refine RG.done ?_
        refine QW.sub (S' := [(2, _), (6, _), (7, _), (8, _), (10, _), (11, _), (29, _), (30, _), (31, _)]) ⟨rfl, rfl, rfl, rfl, rfl, rfl, rfl, rfl, rfl, trivial⟩ ?_
        refine QW.then_ (CW.region ?_)
        refine RG.vl rfl rfl rfl (Ev.move rfl rfl) ?_
        refine RG.vl rfl rfl rfl (Ev.fld rfl rfl fld_23_1) ?_
        refine RG.vl rfl rfl rfl (Ev.ldAt rfl rfl Tryz.underlying3 rfl ((hb1.ext hxwl20).cells) (rfl)) ?_
        refine RG.vl rfl rfl rfl (Ev.move rfl rfl) ?_
        refine RG.vl rfl rfl rfl (Ev.fld rfl rfl fld_23_2) ?_
        refine RG.vl rfl rfl rfl (Ev.ldAt rfl rfl Tryz.underlying3 rfl ((hb1.ext hxwl20).cells) (rfl)) ?_
        refine RG.vl rfl rfl rfl (Ev.mulI rfl rfl rfl (by omega)) ?_
        refine RG.vl rfl rfl rfl (Ev.addI rfl rfl rfl (by omega)) ?_
        refine RG.vl rfl rfl rfl (Ev.move rfl rfl) ?_
        refine RG.vl rfl rfl rfl (Ev.move rfl rfl) ?_
        refine RG.vl rfl rfl rfl ((Ev.look1 keyB rfl rfl rfl (hbwm14.ext hxwl20) Tryz.underlying100 Tryz.underlying4 inf_3).conv (hts_look s.lo s.hi _)) ?_
        refine RG.vl rfl rfl rfl (Ev.move rfl rfl) ?_
        refine RG.vl rfl rfl rfl (Ev.move rfl rfl) ?_
        refine RG.vl rfl rfl rfl ((Ev.look1 keyB rfl rfl rfl (hbwm14.ext hxwl20) Tryz.underlying100 Tryz.underlying4 inf_3).conv (hts_look s.lo s.hi _)) ?_
        refine RG.vl rfl rfl rfl (Ev.build1 rfl rfl rfl inf_36 rfl rfl (by kernel_rfl) rfl) ?_
        refine RG.buildD (xs := [.tmp 67]) rfl rfl rfl rfl rfl rfl rfl Tryz.underlying24 inf_36 rfl rfl rfl rfl (fun g38 w38 eg38 hx38 hb38 => ?_)
        have hsep39 := own_new (own_ext hown hE24) eg38
        replace hxwl20 := Ex.tr hxwl20 hx38
        replace hE24 := Ex.tr hE24 hx38
        refine RG.app rfl rfl rfl rfl rfl rfl rfl Tryz.underlying24 inf_36 rfl rfl (own_ext hown hE24) rfl (fun _ => ⟨_, rfl, hb38.cells⟩) rfl (by simp only [maxLen]; omega) (by omega) (hxwl20.size) (fun v40 wa41 hown42 hgr43 hat44 => ?_)
        have hb45 := Blk.grown hb38 hgr43 hsep39.symm
        have hsep46 := sep_app hat44 hsep39 (Blk.lt hb38)
        replace hxwl20 := own_block (own_ext hown hE24) hxwl20 hgr43 (Nat.le_refl _) hxwl20.size
        refine RG.vl rfl rfl rfl (Ev.assign rfl rfl) ?_
        refine RG.done ?_
        refine QW.sub (S' := [(2, _), (6, _), (7, _), (29, _), (30, _), (31, _)]) ⟨rfl, rfl, rfl, rfl, rfl, rfl, trivial⟩ ?_
        refine QW.blockN (QW.then_ (CW.region ?_))
        refine RG.vl rfl rfl rfl (Ev.addI rfl rfl rfl (by omega)) ?_
        refine RG.vl rfl rfl rfl (Ev.move rfl rfl) ?_
        refine RG.done ?_
        refine QW.round2 (k + 1) (v40) ⟨rfl, rfl, trivial⟩ ⟨rfl, rfl, rfl, rfl, trivial⟩ ⟨⟨by omega, by rw [drawL_step s _ k c hc (fun e => absurd (show (c.toNat : Int) = 63 by rw [e]; rfl) (by assumption)), mkb_eq s c k (true) (decide ((c.toNat : Int) = 70)) (selT c 65 (by assumption)) (selF c 68 (by assumption)), List.length_append, List.flatMap_append]; exact hown42, all_snoc _ k c _ hc hall (by have := mt (idx_letters c).2 (by assumption); simpa using this)⟩, hxwl20⟩ (by omega)
      ·refine RG.vl rfl rfl rfl (Ev.move rfl rfl) ?_
       refine RG.vl rfl rfl rfl (Ev.eqI rfl rfl rfl) ?_
       refine RG.vl rfl rfl rfl (Ev.pickF rfl rfl rfl) ?_
       refine RG.vl rfl rfl rfl (Ev.move rfl rfl) ?_
       refine RG.vl rfl rfl rfl (Ev.eqI rfl rfl rfl) ?_
       refine RG.vl rfl rfl rfl (Ev.move rfl rfl) ?_
       refine RG.split (d := 49) rfl (fun hg47 => ?_) (fun hg47 => ?_)
       ·refine RG.pass rfl rfl rfl ?_
        refine RG.pass rfl rfl rfl ?_
        refine RG.vl rfl rfl rfl (Ev.pickT rfl rfl rfl) ?_
        refine RG.vl rfl rfl rfl (Ev.assign rfl rfl) ?_
        refine RG.vl rfl rfl rfl (Ev.assign rfl rfl) ?_
        refine RG.done ?_
        refine QW.sub (S' := [(2, _), (6, _), (7, _), (8, _), (10, _), (11, _), (29, _), (30, _), (31, _)]) ⟨rfl, rfl, rfl, rfl, rfl, rfl, rfl, rfl, rfl, trivial⟩ ?_
        refine QW.then_ (CW.region ?_)
        refine RG.vl rfl rfl rfl (Ev.move rfl rfl) ?_
        refine RG.vl rfl rfl rfl (Ev.fld rfl rfl fld_23_1) ?_
        refine RG.vl rfl rfl rfl (Ev.ldAt rfl rfl Tryz.underlying3 rfl ((hb1.ext hxwl20).cells) (rfl)) ?_
        refine RG.vl rfl rfl rfl (Ev.move rfl rfl) ?_
        refine RG.vl rfl rfl rfl (Ev.fld rfl rfl fld_23_2) ?_
        refine RG.vl rfl rfl rfl (Ev.ldAt rfl rfl Tryz.underlying3 rfl ((hb1.ext hxwl20).cells) (rfl)) ?_
        refine RG.vl rfl rfl rfl (Ev.mulI rfl rfl rfl (by omega)) ?_
        refine RG.vl rfl rfl rfl (Ev.addI rfl rfl rfl (by omega)) ?_
        refine RG.vl rfl rfl rfl (Ev.move rfl rfl) ?_
        refine RG.vl rfl rfl rfl (Ev.move rfl rfl) ?_
        refine RG.vl rfl rfl rfl ((Ev.look1 keyB rfl rfl rfl (hbwm14.ext hxwl20) Tryz.underlying100 Tryz.underlying4 inf_3).conv (hts_look s.lo s.hi _)) ?_
        refine RG.vl rfl rfl rfl (Ev.move rfl rfl) ?_
        refine RG.vl rfl rfl rfl (Ev.move rfl rfl) ?_
        refine RG.vl rfl rfl rfl ((Ev.look1 keyB rfl rfl rfl (hbwm14.ext hxwl20) Tryz.underlying100 Tryz.underlying4 inf_3).conv (hts_look s.lo s.hi _)) ?_
        refine RG.vl rfl rfl rfl (Ev.build1 rfl rfl rfl inf_36 rfl rfl (by kernel_rfl) rfl) ?_
        refine RG.buildD (xs := [.tmp 67]) rfl rfl rfl rfl rfl rfl rfl Tryz.underlying24 inf_36 rfl rfl rfl rfl (fun g48 w48 eg48 hx48 hb48 => ?_)
        have hsep49 := own_new (own_ext hown hE24) eg48
        replace hxwl20 := Ex.tr hxwl20 hx48
        replace hE24 := Ex.tr hE24 hx48
        refine RG.app rfl rfl rfl rfl rfl rfl rfl Tryz.underlying24 inf_36 rfl rfl (own_ext hown hE24) rfl (fun _ => ⟨_, rfl, hb48.cells⟩) rfl (by simp only [maxLen]; omega) (by omega) (hxwl20.size) (fun v50 wa51 hown52 hgr53 hat54 => ?_)
        have hb55 := Blk.grown hb48 hgr53 hsep49.symm
        have hsep56 := sep_app hat54 hsep49 (Blk.lt hb48)
        replace hxwl20 := own_block (own_ext hown hE24) hxwl20 hgr53 (Nat.le_refl _) hxwl20.size
        refine RG.vl rfl rfl rfl (Ev.assign rfl rfl) ?_
        refine RG.done ?_
        refine QW.sub (S' := [(2, _), (6, _), (7, _), (29, _), (30, _), (31, _)]) ⟨rfl, rfl, rfl, rfl, rfl, rfl, trivial⟩ ?_
        refine QW.blockN (QW.then_ (CW.region ?_))
        refine RG.vl rfl rfl rfl (Ev.addI rfl rfl rfl (by omega)) ?_
        refine RG.vl rfl rfl rfl (Ev.move rfl rfl) ?_
        refine RG.done ?_
        refine QW.round2 (k + 1) (v50) ⟨rfl, rfl, trivial⟩ ⟨rfl, rfl, rfl, rfl, trivial⟩ ⟨⟨by omega, by rw [drawL_step s _ k c hc (fun e => absurd (show (c.toNat : Int) = 63 by rw [e]; rfl) (by assumption)), mkb_eq s c k (decide ((c.toNat : Int) = 70)) (true) (selF c 65 (by assumption)) (selT c 68 (by assumption)), List.length_append, List.flatMap_append]; exact hown52, all_snoc _ k c _ hc hall (by have := mt (idx_letters c).2 (by assumption); simpa using this)⟩, hxwl20⟩ (by omega)
       ·refine RG.vl rfl rfl rfl (Ev.move rfl rfl) ?_
        refine RG.vl rfl rfl rfl (Ev.eqI rfl rfl rfl) ?_
        refine RG.vl rfl rfl rfl (Ev.pickF rfl rfl rfl) ?_
        refine RG.vl rfl rfl rfl (Ev.assign rfl rfl) ?_
        refine RG.vl rfl rfl rfl (Ev.assign rfl rfl) ?_
        refine RG.done ?_
        refine QW.sub (S' := [(2, _), (6, _), (7, _), (8, _), (10, _), (11, _), (29, _), (30, _), (31, _)]) ⟨rfl, rfl, rfl, rfl, rfl, rfl, rfl, rfl, rfl, trivial⟩ ?_
        refine QW.then_ (CW.region ?_)
        refine RG.vl rfl rfl rfl (Ev.move rfl rfl) ?_
        refine RG.vl rfl rfl rfl (Ev.fld rfl rfl fld_23_1) ?_
        refine RG.vl rfl rfl rfl (Ev.ldAt rfl rfl Tryz.underlying3 rfl ((hb1.ext hxwl20).cells) (rfl)) ?_
        refine RG.vl rfl rfl rfl (Ev.move rfl rfl) ?_
        refine RG.vl rfl rfl rfl (Ev.fld rfl rfl fld_23_2) ?_
        refine RG.vl rfl rfl rfl (Ev.ldAt rfl rfl Tryz.underlying3 rfl ((hb1.ext hxwl20).cells) (rfl)) ?_
        refine RG.vl rfl rfl rfl (Ev.mulI rfl rfl rfl (by omega)) ?_
        refine RG.vl rfl rfl rfl (Ev.addI rfl rfl rfl (by omega)) ?_
        refine RG.vl rfl rfl rfl (Ev.move rfl rfl) ?_
        refine RG.vl rfl rfl rfl (Ev.move rfl rfl) ?_
        refine RG.vl rfl rfl rfl ((Ev.look1 keyB rfl rfl rfl (hbwm14.ext hxwl20) Tryz.underlying100 Tryz.underlying4 inf_3).conv (hts_look s.lo s.hi _)) ?_
        refine RG.vl rfl rfl rfl (Ev.move rfl rfl) ?_
        refine RG.vl rfl rfl rfl (Ev.move rfl rfl) ?_
        refine RG.vl rfl rfl rfl ((Ev.look1 keyB rfl rfl rfl (hbwm14.ext hxwl20) Tryz.underlying100 Tryz.underlying4 inf_3).conv (hts_look s.lo s.hi _)) ?_
        refine RG.vl rfl rfl rfl (Ev.build1 rfl rfl rfl inf_36 rfl rfl (by kernel_rfl) rfl) ?_
        refine RG.buildD (xs := [.tmp 67]) rfl rfl rfl rfl rfl rfl rfl Tryz.underlying24 inf_36 rfl rfl rfl rfl (fun g57 w57 eg57 hx57 hb57 => ?_)
        have hsep58 := own_new (own_ext hown hE24) eg57
        replace hxwl20 := Ex.tr hxwl20 hx57
        replace hE24 := Ex.tr hE24 hx57
        refine RG.app rfl rfl rfl rfl rfl rfl rfl Tryz.underlying24 inf_36 rfl rfl (own_ext hown hE24) rfl (fun _ => ⟨_, rfl, hb57.cells⟩) rfl (by simp only [maxLen]; omega) (by omega) (hxwl20.size) (fun v59 wa60 hown61 hgr62 hat63 => ?_)
        have hb64 := Blk.grown hb57 hgr62 hsep58.symm
        have hsep65 := sep_app hat63 hsep58 (Blk.lt hb57)
        replace hxwl20 := own_block (own_ext hown hE24) hxwl20 hgr62 (Nat.le_refl _) hxwl20.size
        refine RG.vl rfl rfl rfl (Ev.assign rfl rfl) ?_
        refine RG.done ?_
        refine QW.sub (S' := [(2, _), (6, _), (7, _), (29, _), (30, _), (31, _)]) ⟨rfl, rfl, rfl, rfl, rfl, rfl, trivial⟩ ?_
        refine QW.blockN (QW.then_ (CW.region ?_))
        refine RG.vl rfl rfl rfl (Ev.addI rfl rfl rfl (by omega)) ?_
        refine RG.vl rfl rfl rfl (Ev.move rfl rfl) ?_
        refine RG.done ?_
        refine QW.round2 (k + 1) (v59) ⟨rfl, rfl, trivial⟩ ⟨rfl, rfl, rfl, rfl, trivial⟩ ⟨⟨by omega, by rw [drawL_step s _ k c hc (fun e => absurd (show (c.toNat : Int) = 63 by rw [e]; rfl) (by assumption)), mkb_eq s c k (decide ((c.toNat : Int) = 70)) (decide ((c.toNat : Int) = 70)) (selF c 65 (by assumption)) (selF c 68 (by assumption)), List.length_append, List.flatMap_append]; exact hown61, all_snoc _ k c _ hc hall (by have := mt (idx_letters c).2 (by assumption); simpa using this)⟩, hxwl20⟩ (by omega)
     ·refine CW.skip (QW.blockN (QW.then_ (CW.region ?_)))
      refine RG.vl rfl rfl rfl (Ev.addI rfl rfl rfl (by omega)) ?_
      refine RG.vl rfl rfl rfl (Ev.move rfl rfl) ?_
      refine RG.done ?_
      refine QW.round2 (k + 1) (u) ⟨rfl, rfl, trivial⟩ ⟨rfl, rfl, rfl, rfl, trivial⟩ ⟨⟨by omega, by rw [drawL_skip s _ k c hc (byte_eq (d := 63) (Decidable.not_not.1 (by assumption)))]; exact (own_ext hown hE24), all_snoc _ k c _ hc hall (by have := mt (idx_letters c).2 (by assumption); simpa using this)⟩, hxwl20⟩ (by omega)
   ·refine CW.exit (QW.thenExit (QW.thenExit (QW.blockHit (QW.then_ (CW.seq (CW.region ?_))))))
    refine RG.vl rfl rfl rfl (Ev.move rfl rfl) ?_
    refine RG.vl rfl rfl rfl (Ev.assign rfl rfl) ?_
    refine RG.vl rfl rfl rfl (Ev.assign rfl rfl) ?_
    refine RG.done (QW.then_ (CW.ret ?_))
    refine QW.ret2 rfl rfl rfl ?_
    have hB := (Ex.tr hR18 hxwl20)
    have e : k = t.data.toList.length := by omega
    rw [e, List.take_length] at hown hall
    obtain ⟨e1, e2⟩ := drawErr_ok s t.data.toList ⟨hs, by omega, hall⟩
    have hsz := hR18.size
    exact ⟨_, by rw [e1], by rw [e2]; exact Own.low (xs := drawL s t.data.toList 0) (enc := Br.c) hown (by omega), hB⟩

set_option maxRecDepth 100000 in
set_option maxHeartbeats 1000000 in
theorem bdraw_ret (s : Su) (t : List UInt8) (w : World) (hlen : t.length ≤ 1000) :
  Ret Tryz.prog 6 [s.v, .string ⟨t.toArray⟩] w (fun v w' => ∃ u l e, v = .tuple #[u, .int .i64 e] ∧ Own w' w.heap.size 36 3 Br.c u l ∧ DrR s t l e ∧ Ex w w') := by
 have hts := sb_len t
 have hB0 : Ex w w := Ex.rfl_ _
 refine Ret.of Tryz.func6 rfl Tryz.ntmps6 rfl ?_
 refine CW.seq (CW.region ?_)
 refine RG.box rfl rfl rfl rfl rfl (fun g1 w1 eg1 hx1 hb1 => ?_)
 have hle2 : w.heap.size ≤ g1 := by have := (Ex.rfl_ w).size; omega
 have hE3 := hx1
 refine RG.vl rfl rfl rfl (Ev.assign rfl rfl) ?_
 refine RG.vl rfl rfl rfl (Ev.assign rfl rfl) ?_
 refine RG.done (QW.then_ (CW.seq (CW.region ?_)))
 refine RG.vl rfl rfl rfl (Ev.move rfl rfl) ?_
 refine RG.call rfl rfl rfl rfl rfl rfl rfl en_12 (bwr_ret _ _ (by omega)) ?_
 rintro _ w4 ⟨wx1, rfl, hwr1, hx4⟩
 replace hE3 := Ex.tr hE3 hx4
 have hE5 := hx4
 refine RG.vl rfl rfl rfl (Ev.move rfl rfl) ?_
 refine RG.vl rfl rfl rfl (Ev.extract rfl rfl rfl) ?_
 refine RG.vl rfl rfl rfl (Ev.extract rfl rfl rfl) ?_
 refine RG.vl rfl rfl rfl (Ev.assign rfl rfl) ?_
 refine RG.vl rfl rfl rfl (Ev.assign rfl rfl) ?_
 refine RG.done (QW.then_ (CW.seq (CW.seq (CW.region ?_))))
 refine RG.vl rfl rfl rfl (Ev.move rfl rfl) ?_
 refine RG.vl rfl rfl rfl (Ev.neI rfl rfl rfl) ?_
 refine RG.done (QW.then_ ?_)
 refine CW.condP rfl (fun hc6 => ?_) (fun hc6 => ?_)
 ·refine CW.seq (CW.region ?_)
  refine RG.vl rfl rfl rfl (Ev.move rfl rfl) ?_
  refine RG.vl rfl rfl rfl (Ev.assign rfl rfl) ?_
  refine RG.vl rfl rfl rfl (Ev.assign rfl rfl) ?_
  refine RG.done ?_
  refine QW.sub (S' := [(2, _), (4, _), (5, _), (6, _)]) ⟨rfl, rfl, rfl, rfl, trivial⟩ ?_
  refine QW.then_ (CW.ret (QW.thenRet ?_))
  refine QW.ret2 rfl rfl rfl ?_
  have hB := (Ex.tr hB0 hE3)
  exact ⟨_, [], _, rfl, Own.nil_ _ _ _ _ _, .inl ⟨by omega, rfl, rfl⟩, hB⟩
 ·refine CW.skip (QW.then_ (CW.seq (CW.seq (CW.region ?_))))
  refine RG.vl rfl rfl rfl (Ev.fld rfl rfl fld_23_0) ?_
  refine RG.vl rfl rfl rfl (Ev.ldAt rfl rfl Tryz.underlying3 rfl ((hb1.ext hE5).cells) (rfl)) ?_
  refine RG.vl rfl rfl rfl (Ev.neI rfl rfl rfl) ?_
  refine RG.done ?_
  refine QW.sub (S' := [(2, _), (4, _), (5, _), (6, _), (18, _)]) ⟨rfl, rfl, rfl, rfl, rfl, trivial⟩ ?_
  refine QW.then_ ?_
  refine CW.condP rfl (fun hc7 => ?_) (fun hc7 => ?_)
  ·refine CW.seq (CW.region ?_)
   refine RG.vl rfl rfl rfl (Ev.assign rfl rfl) ?_
   refine RG.vl rfl rfl rfl (Ev.assign rfl rfl) ?_
   refine RG.done (QW.then_ (CW.ret (QW.thenRet ?_)))
   refine QW.ret2 rfl rfl rfl ?_
   have hB := (Ex.tr hB0 hE3)
   exact ⟨_, [], _, rfl, Own.nil_ _ _ _ _ _, .inr (.inl ⟨by omega, by omega, rfl, rfl⟩), hB⟩
  ·refine CW.skip (QW.then_ (CW.seq (CW.region ?_)))
   refine RG.vl rfl rfl rfl (Ev.ldAgg rfl rfl Tryz.underlying23 rfl sz_23 rfl ((hb1.ext hE5).cells)) ?_
   refine RG.vl rfl rfl rfl (Ev.move rfl rfl) ?_
   refine RG.call rfl rfl rfl rfl rfl rfl rfl en_18 (draw_own _ ⟨wx1.toArray⟩ _ (by rw [sb_len]; have := wr_len hwr1; omega)) ?_
   have hpre8 := (Ex.tr hB0 hE3)
   rintro _ w8 ⟨du, rfl, hod, hx8⟩
   replace hod := Own.low (B' := w.heap.size) hod (by have := (Ex.tr hB0 hE3).size; omega)
   replace hE3 := Ex.tr hE3 hx8
   replace hE5 := Ex.tr hE5 hx8
   have hE9 := hx8
   refine RG.vl rfl rfl rfl (Ev.extract rfl rfl rfl) ?_
   refine RG.vl rfl rfl rfl (Ev.extract rfl rfl rfl) ?_
   refine RG.vl rfl rfl rfl (Ev.assign rfl rfl) ?_
   refine RG.vl rfl rfl rfl (Ev.assign rfl rfl) ?_
   refine RG.done (QW.then_ (CW.ret ?_))
   refine QW.ret2 rfl rfl rfl ?_
   have hB := (Ex.tr hB0 hE3)
   exact ⟨_, _, _, rfl, hod, .inr (.inr ⟨by omega, by omega, wx1, hwr1, rfl, rfl⟩), hB⟩

end Go.Proofs.YtgjnchjkjdnidaaGreat

/- Walks (VF). Written by program. -/
namespace Go.Proofs.YtgjnchjkjdnidaaGreat
open Go.RowKit
set_option maxRecDepth 100000 in
set_option maxHeartbeats 4000000 in
theorem barcodeScans_ret (s : Su) (t : List UInt8) (u : Value) (l : List Br) (w : World) (hl : RdL w 3 Br.c u l) :
  Ret Tryz.prog 3 [s.v, .string ⟨t.toArray⟩, u] w (fun v w' => v = .bool true ∧ Ex w w') := by
 have hts := sb_len t
 obtain ⟨uA, uC, rfl⟩ := hl.shape
 have hB0 : Ex w w := Ex.rfl_ _
 refine Ret.of Tryz.func3 rfl Tryz.ntmps3 rfl ?_
 refine CW.seq (CW.region ?_)
 refine RG.box rfl rfl rfl rfl rfl (fun gS w1 egS hx1 hb1 => ?_)
 have hle2 : w.heap.size ≤ gS := by have := (Ex.rfl_ w).size; omega
 have hE3 := hx1
 refine RG.vl rfl rfl rfl (Ev.assign rfl rfl) ?_
 refine RG.done (QW.then_ (CW.seq (CW.seq (CW.region ?_))))
 refine RG.vl rfl rfl rfl (Ev.move rfl rfl) ?_
 refine RG.vl rfl rfl rfl (Ev.lenStr rfl rfl rfl Tryz.underlying9) ?_
 refine RG.vl rfl rfl rfl (Ev.gtr rfl rfl rfl) ?_
 refine RG.vl rfl rfl rfl (Ev.move rfl rfl) ?_
 refine RG.split (d := 25) rfl (fun hg4 => ?_) (fun hg4 => ?_)
 ·refine RG.pass rfl rfl rfl ?_
  refine RG.pass rfl rfl rfl ?_
  refine RG.pass rfl rfl rfl ?_
  refine RG.vl rfl rfl rfl (Ev.pickT rfl rfl rfl) ?_
  refine RG.done (QW.then_ ?_)
  refine CW.condT rfl ?_
  refine CW.seq (CW.region ?_)
  refine RG.call rfl rfl rfl rfl rfl rfl rfl en_5 (awake_ret _) ?_
  rintro _ w5 ⟨rfl, hx5⟩
  replace hE3 := Ex.tr hE3 hx5
  have hE6 := hx5
  refine RG.vl rfl rfl rfl (Ev.assign rfl rfl) ?_
  refine RG.done (QW.then_ (CW.ret (QW.thenRet ?_)))
  refine QW.ret1 rfl rfl ?_
  have hB := (Ex.tr hB0 hE3)
  exact ⟨rfl, hB⟩
 ·refine RG.vl rfl rfl rfl (Ev.move rfl rfl) ?_
  refine RG.vl rfl rfl rfl (Ev.lenL rfl rfl rfl Tryz.underlying24 ((hl.ext hE3))) ?_
  refine RG.vl rfl rfl rfl (Ev.gtr rfl rfl rfl) ?_
  refine RG.vl rfl rfl rfl (Ev.pickF rfl rfl rfl) ?_
  refine RG.done (QW.then_ ?_)
  refine CW.condP rfl (fun hc7 => ?_) (fun hc7 => ?_)
  ·refine CW.seq (CW.region ?_)
   refine RG.call rfl rfl rfl rfl rfl rfl rfl en_5 (awake_ret _) ?_
   rintro _ w8 ⟨rfl, hx8⟩
   replace hE3 := Ex.tr hE3 hx8
   have hE9 := hx8
   refine RG.vl rfl rfl rfl (Ev.assign rfl rfl) ?_
   refine RG.done (QW.then_ (CW.ret (QW.thenRet ?_)))
   refine QW.ret1 rfl rfl ?_
   have hB := (Ex.tr hB0 hE3)
   exact ⟨rfl, hB⟩
  ·refine CW.skip (QW.then_ (CW.seq ?_))
   have hnil : ([] : List Br).length = 0 := rfl
   refine CW.region ?_
   replace hl := (hl.ext hE3)
   have hR13 := (Ex.tr hB0 hE3)
   refine RG.build0O (enc := Br.c) rfl rfl rfl rfl rfl Tryz.underlying24 sz_36 (fun ue wk10 hxwk10 hown11 hnew12 => ?_)
   have hsb14 := fun e => sep_blk hb1 (Nat.le_refl _) hown11 e
   have hE15 := hxwk10
   refine RG.vl rfl rfl rfl (Ev.move rfl rfl) ?_
   refine RG.appO rfl rfl rfl rfl rfl rfl rfl Tryz.underlying24 inf_36 rfl rfl Br.c_len (fun _ => rfl) hown11 ((hl.ext hE15)) (by simp only [maxLen]; omega) (by omega) (hE15.size) (fun us wa16 hown17 hgr18 hat19 => ?_)
   replace hE15 := own_block hown11 hE15 hgr18 (Nat.le_refl _) hE15.size
   have hus := hown17
   rw [List.nil_append] at hus
   refine RG.vl rfl rfl rfl (Ev.assign rfl rfl) ?_
   refine RG.done ?_
   refine QW.sub (S' := [(1, _), (2, _), (3, _), (6, _), (7, _)]) ⟨rfl, rfl, rfl, rfl, rfl, trivial⟩ ?_
   refine QW.then_ (CW.seq (CW.region ?_))
   refine RG.vl rfl rfl rfl (Ev.ldAgg rfl rfl Tryz.underlying23 rfl sz_23 rfl ((hb1.ext hE15).cells)) ?_
   refine RG.vl rfl rfl rfl (Ev.move rfl rfl) ?_
   refine RG.call rfl rfl rfl rfl rfl rfl rfl en_6 (bdraw_ret s t _ (by omega)) ?_
   have hpre20 := (Ex.tr hR13 hE15)
   rintro _ w20 ⟨du, dl, de, rfl, hod, hdr, hx20⟩
   have hsb21 := fun e => sep_blk (hb1.ext hE15) (Nat.le_refl _) hod e
   replace hE15 := Ex.tr hE15 hx20
   have hE22 := hx20
   refine RG.vl rfl rfl rfl (Ev.move rfl rfl) ?_
   refine RG.vl rfl rfl rfl (Ev.extract rfl rfl rfl) ?_
   refine RG.vl rfl rfl rfl (Ev.extract rfl rfl rfl) ?_
   refine RG.vl rfl rfl rfl (Ev.assign rfl rfl) ?_
   refine RG.vl rfl rfl rfl (Ev.assign rfl rfl) ?_
   refine RG.done (QW.then_ (CW.seq (CW.region ?_)))
   refine RG.vl rfl rfl rfl (Ev.ldAgg rfl rfl Tryz.underlying23 rfl sz_23 rfl ((hb1.ext hE15).cells)) ?_
   refine RG.vl rfl rfl rfl (Ev.move rfl rfl) ?_
   refine RG.call rfl rfl rfl rfl rfl rfl rfl en_7 (scan_ret s _ l _ (((Own.ext hus hE22).rdl Br.c_len)) (by omega)) ?_
   have hpre23 := (Ex.tr hR13 hE15)
   rintro _ w23 ⟨rx, rb, ry, rz, rs, re, rn, rfl, hoy, hoz, hsc, hx23⟩
   have hsb24 := fun e => sep_blk (hb1.ext hE15) (Nat.le_refl _) hoy e
   have hsb25 := fun e => sep_blk (hb1.ext hE15) (Nat.le_refl _) hoz e
   replace hE15 := Ex.tr hE15 hx23
   replace hE22 := Ex.tr hE22 hx23
   have hE26 := hx23
   obtain ⟨A1, B1, rfl⟩ := hoy.shape
   obtain ⟨C1, D1, rfl⟩ := hoz.shape
   refine RG.vl rfl rfl rfl (Ev.move rfl rfl) ?_
   refine RG.vl rfl rfl rfl (Ev.extract rfl rfl rfl) ?_
   refine RG.vl rfl rfl rfl (Ev.extract rfl rfl rfl) ?_
   refine RG.local_ rfl rfl rfl rfl (fun _ => rfl) rfl rfl (fun _ => rfl) inf_31 rfl rfl rfl (fun g1 w27 eg1 hx27 hb27 => ?_)
   have hsb28 := fun e => sep_new (g := g1) (Own.ext hown17 hE22) eg1 e
   have hsb29 := fun e => sep_new (g := g1) (Own.ext hus hE22) eg1 e
   have hsb30 := fun e => sep_new (g := g1) (Own.ext hod hE26) eg1 e
   have hsb31 := fun e => sep_new (g := g1) hoy eg1 e
   have hsb32 := fun e => sep_new (g := g1) hoz eg1 e
   have hle33 : w1.heap.size ≤ g1 := by have := hE15.size; omega
   have hle34 : wa16.heap.size ≤ g1 := by have := hE22.size; omega
   have hle35 : w20.heap.size ≤ g1 := by have := hE26.size; omega
   have hle36 : w23.heap.size ≤ g1 := by have := (Ex.rfl_ w23).size; omega
   have hlt37 : gS < g1 := by have := Blk.lt (hb1.ext hE15); omega
   replace hE15 := Ex.tr hE15 hx27
   replace hE22 := Ex.tr hE22 hx27
   replace hE26 := Ex.tr hE26 hx27
   have hE38 := hx27
   refine RG.vl rfl rfl rfl (Ev.assign rfl rfl) ?_
   refine RG.done ?_
   refine QW.sub (S' := [(1, _), (2, _), (3, _), (6, _), (7, _), (8, _), (9, _), (10, _), (11, _)]) ⟨rfl, rfl, rfl, rfl, rfl, rfl, rfl, rfl, rfl, trivial⟩ ?_
   refine QW.then_ (CW.seq (CW.region ?_))
   refine RG.vl rfl rfl rfl (Ev.assign rfl rfl) ?_
   refine RG.done (QW.then_ (CW.seq (CW.seq (CW.region ?_))))
   refine RG.vl rfl rfl rfl (Ev.move rfl rfl) ?_
   refine RG.vl rfl rfl rfl (Ev.lenL rfl rfl rfl Tryz.underlying24 ((hl.ext hE15))) ?_
   refine RG.vl rfl rfl rfl (Ev.move rfl rfl) ?_
   refine RG.done (QW.then_ (CW.block ?_))
   replace hl := (hl.ext hE15)
   replace hb1 := (hb1.ext hE15)
   replace hown17 := (Own.ext hown17 hE22)
   replace hus := (Own.ext hus hE22)
   replace hod := (Own.ext hod hE26)
   replace hoy := (Own.ext hoy hE38)
   replace hoz := (Own.ext hoz hE38)
   have hR39 := (Ex.tr hR13 hE15)
   have hR40 := hE15
   have hR41 := hE22
   have hR42 := hE26
   refine CW.loop2 [(1, _), (3, _), (7, _), (8, _), (9, _), (10, _), (11, _), (46, _), (47, _)] ⟨rfl, rfl, rfl, rfl, rfl, rfl, rfl, rfl, rfl, trivial⟩ (fun (i : Nat) (uG : Value) => [(48, .int .i64 (i : Int)), (12, uG)]) (fun i uG w' => (i ≤ l.length ∧ Own w' w27.heap.size 37 3 Br.c uG (l.take i)) ∧ Ex w27 w') (fun i uG => l.length - i) (0) (.slice none 0 0) ⟨rfl, rfl, trivial⟩ ⟨⟨Nat.zero_le _, Own.nil_ _ _ _ _ _⟩, (Ex.rfl_ _)⟩ ?_
   rintro i uG wl43 ⟨⟨hi, hG⟩, hxwl43⟩
   refine CW.sub (S' := [(48, _), (12, _), (1, _), (3, _), (7, _), (8, _), (9, _), (10, _), (11, _), (46, _), (47, _)]) ⟨rfl, rfl, rfl, rfl, rfl, rfl, rfl, rfl, rfl, rfl, rfl, trivial⟩ ?_
   refine CW.seq (CW.region ?_)
   refine RG.vl rfl rfl rfl (Ev.lss rfl rfl rfl) ?_
   refine RG.done (QW.then_ (CW.seq ?_))
   refine CW.condP rfl (fun hc44 => ?_) (fun hc44 => ?_)
   ·refine CW.skip (QW.then_ (CW.seq (CW.block (CW.seq ?_))))
    obtain ⟨b, hk⟩ : ∃ b, l[i]? = some b := ⟨_, List.getElem?_eq_getElem (by omega)⟩
    refine CW.region ?_
    refine RG.vl rfl rfl rfl (Ev.move rfl rfl) ?_
    refine RG.idxL rfl rfl rfl rfl rfl rfl Tryz.underlying24 sz_36 ((hl.ext hxwl43)) (hk) (fun p45 hp45b hp45 => ?_)
    refine RG.vl rfl rfl rfl (Ev.ldAgg rfl rfl Tryz.underlying36 rfl sz_36 rfl (hp45)) ?_
    refine RG.alloc_ rfl rfl rfl rfl inf_36 (fun gB w46 egB hx46 hb46 => ?_)
    have hsb47 := fun e => sep_new (g := gB) (Own.ext hown17 hxwl43) egB e
    have hsb48 := fun e => sep_new (g := gB) (Own.ext hus hxwl43) egB e
    have hsb49 := fun e => sep_new (g := gB) (Own.ext hod hxwl43) egB e
    have hsb50 := fun e => sep_new (g := gB) (Own.ext hoy hxwl43) egB e
    have hsb51 := fun e => sep_new (g := gB) (Own.ext hoz hxwl43) egB e
    have hsb52 := fun e => sep_new (g := gB) hG egB e
    have hle53 : w27.heap.size ≤ gB := by have := hxwl43.size; omega
    have hle54 : wl43.heap.size ≤ gB := by have := (Ex.rfl_ wl43).size; omega
    have hlt55 : gS < gB := by have := Blk.lt (hb1.ext hxwl43); omega
    have hlt56 : g1 < gB := by have := Blk.lt (hb27.ext hxwl43); omega
    replace hxwl43 := Ex.tr hxwl43 hx46
    have hE57 := hx46
    refine RG.vl rfl rfl rfl (Ev.assign rfl rfl) ?_
    refine RG.stAll (g := gB) rfl rfl rfl rfl rfl sz_36 rfl rfl rfl hb46 (fun ws58 hwws58 hbws58 => ?_)
    replace hxwl43 := Wr.below hxwl43 hwws58 hle53
    replace hE57 := Wr.below hE57 hwws58 hle54
    refine RG.done (QW.then_ (CW.seq (CW.seq ?_)))
    refine CW.draw [] (.ex) 6 rfl mixed (fun wd59 hxwd59 => ?_)
    replace hxwl43 := Ex.tr hxwl43 hxwd59
    replace hE57 := Ex.tr hE57 hxwd59
    have hE60 := hxwd59
    refine AG.takeW 0 rfl (by kernel_rfl) (by kernel_rfl) rfl rfl rfl (fun _ => Ev.move rfl rfl) ?_
    refine AG.takeW 1 rfl (by kernel_rfl) (by kernel_rfl) rfl rfl rfl (fun _ => Ev.move rfl rfl) ?_
    refine AG.idxO _ 2 rfl (by kernel_rfl) (by kernel_rfl) rfl rfl rfl rfl rfl rfl Tryz.underlying24 sz_36 Br.c_len ((Own.ext hus hxwl43)) (hk) (fun g62 hg62 hBg62 hp61b hp61 => ?_)
    refine AG.take 3 rfl (by kernel_rfl) (by kernel_rfl) rfl rfl rfl (fun wq hq => Ev.ldAgg rfl rfl Tryz.underlying36 rfl sz_36 rfl (hp61.ext hq hp61b)) ?_
    refine AG.take 4 rfl (by kernel_rfl) (by kernel_rfl) rfl rfl rfl (fun wq hq => Ev.ldAgg rfl rfl Tryz.underlying36 rfl sz_36 rfl (((hbws58.ext hE60).ext hq).cells)) ?_
    refine AG.takeW 5 rfl (by kernel_rfl) (by kernel_rfl) rfl rfl rfl (fun _ => Ev.isF ((Ev.neA rfl rfl rfl (by kernel_rfl)).conv (congrArg Value.bool (show (!veqs b.c b.c) = decide (b ≠ b) from by cases b; simp [veqs, veq]))) (fun h => h rfl)) ?_
    refine AG.done (by kernel_rfl) ?_
    refine QW.then_ ?_
    refine CW.condF rfl ?_
    refine CW.skip (QW.then_ ?_)
    have htl : (l.take i).length = i := by rw [List.length_take]; omega
    refine CW.region ?_
    refine RG.vl rfl rfl rfl (Ev.move rfl rfl) ?_
    refine RG.vl rfl rfl rfl (Ev.ldAgg rfl rfl Tryz.underlying36 rfl sz_36 rfl ((hbws58.ext hE60).cells)) ?_
    refine RG.litO (os := [.tmp 60]) (enc := Br.c) ([b]) rfl rfl rfl rfl rfl rfl rfl Tryz.underlying34 inf_37 rfl rfl rfl rfl rfl Br.c_len rfl rfl (fun v63 wk64 hxwk64 hown65 hnew66 => ?_)
    have hsb67 := fun e => sep_blk (hb1.ext hxwl43) (Nat.le_refl _) hown65 e
    have hsb68 := fun e => sep_blk (hb27.ext hxwl43) (Nat.le_refl _) hown65 e
    have hsb69 := fun e => sep_blk (hbws58.ext hE60) (Nat.le_refl _) hown65 e
    replace hxwl43 := Ex.tr hxwl43 hxwk64
    replace hE57 := Ex.tr hE57 hxwk64
    replace hE60 := Ex.tr hE60 hxwk64
    have hE70 := hxwk64
    refine RG.appO rfl rfl rfl rfl rfl rfl rfl Tryz.underlying34 inf_37 rfl rfl Br.c_len (fun _ => rfl) (Own.ext hG hE57) ((hown65.rdl Br.c_len)) (by show _ + 1 ≤ maxLen; simp only [maxLen]; omega) (by show (_ + 1) * _ ≤ _; omega) (hxwl43.size) (fun v71 wa72 hown73 hgr74 hat75 => ?_)
    have hb76 := Blk.grown (hbws58.ext hE60) hgr74 (fun e => hsb52 e.symm)
    have hsb77 := sepb_app hsb52 (hbws58.ext hE60) hat75
    replace hxwl43 := own_block (Own.ext hG hE57) hxwl43 hgr74 (Nat.le_refl _) hxwl43.size
    refine RG.vl rfl rfl rfl (Ev.assign rfl rfl) ?_
    refine RG.done ?_
    refine QW.sub (S' := [(1, _), (3, _), (7, _), (8, _), (9, _), (10, _), (11, _), (12, _), (46, _), (47, _), (48, _)]) ⟨rfl, rfl, rfl, rfl, rfl, rfl, rfl, rfl, rfl, rfl, rfl, trivial⟩ ?_
    refine QW.blockN (QW.then_ (CW.region ?_))
    refine RG.vl rfl rfl rfl (Ev.addI rfl rfl rfl (by omega)) ?_
    refine RG.vl rfl rfl rfl (Ev.move rfl rfl) ?_
    refine RG.done ?_
    refine QW.round2 (i + 1) (v71) ⟨rfl, rfl, trivial⟩ ⟨rfl, rfl, rfl, rfl, rfl, rfl, rfl, rfl, rfl, trivial⟩ ⟨⟨by omega, by rw [take_mor2 l i b hk]; exact hown73⟩, hxwl43⟩ (by omega)
   ·refine CW.exit (QW.thenExit (QW.thenExit (QW.blockHit (QW.then_ (CW.seq ?_)))))
    obtain rfl : i = l.length := by omega
    rw [List.take_length] at hG
    refine CW.region ?_
    refine RG.vl rfl rfl rfl (Ev.ldAgg rfl rfl Tryz.underlying23 rfl sz_23 rfl ((hb1.ext hxwl43).cells)) ?_
    refine RG.local_ rfl rfl rfl rfl (fun _ => rfl) rfl rfl (fun _ => rfl) inf_38 rfl rfl rfl (fun gR w78 egR hx78 hb78 => ?_)
    have hsb79 := fun e => sep_new (g := gR) (Own.ext hown17 hxwl43) egR e
    have hsb80 := fun e => sep_new (g := gR) (Own.ext hus hxwl43) egR e
    have hsb81 := fun e => sep_new (g := gR) (Own.ext hod hxwl43) egR e
    have hsb82 := fun e => sep_new (g := gR) (Own.ext hoy hxwl43) egR e
    have hsb83 := fun e => sep_new (g := gR) (Own.ext hoz hxwl43) egR e
    have hsb84 := fun e => sep_new (g := gR) hG egR e
    have hle85 : w27.heap.size ≤ gR := by have := hxwl43.size; omega
    have hle86 : wl43.heap.size ≤ gR := by have := (Ex.rfl_ wl43).size; omega
    have hlt87 : gS < gR := by have := Blk.lt (hb1.ext hxwl43); omega
    have hlt88 : g1 < gR := by have := Blk.lt (hb27.ext hxwl43); omega
    replace hxwl43 := Ex.tr hxwl43 hx78
    have hE89 := hx78
    refine RG.done (QW.then_ (CW.seq (CW.region ?_)))
    refine RG.vl rfl rfl rfl (Ev.ldAgg rfl rfl Tryz.underlying38 rfl sz_38 rfl (hb78.cells)) ?_
    refine RG.vl rfl rfl rfl (Ev.move rfl rfl) ?_
    refine RG.call rfl rfl rfl rfl rfl rfl rfl en_8 (rscan_ret s _ l _ (((Own.ext hG hE89).rdl Br.c_len)) (by omega)) ?_
    have hpre90 := (Ex.tr hR39 hxwl43)
    rintro _ w90 ⟨qx, qb, qy, qz, qs, qe, qn, rfl, hqy, hqz, hsq, hx90⟩
    have hsb91 := fun e => sep_blk (hb1.ext hxwl43) (Nat.le_refl _) hqy e
    have hsb92 := fun e => sep_blk (hb27.ext hxwl43) (Nat.le_refl _) hqy e
    have hsb93 := fun e => sep_blk hb78 (Nat.le_refl _) hqy e
    have hsb94 := fun e => sep_blk (hb1.ext hxwl43) (Nat.le_refl _) hqz e
    have hsb95 := fun e => sep_blk (hb27.ext hxwl43) (Nat.le_refl _) hqz e
    have hsb96 := fun e => sep_blk hb78 (Nat.le_refl _) hqz e
    replace hxwl43 := Ex.tr hxwl43 hx90
    replace hE89 := Ex.tr hE89 hx90
    have hE97 := hx90
    obtain ⟨A2, B2, rfl⟩ := hqy.shape
    obtain ⟨C2, D2, rfl⟩ := hqz.shape
    obtain ⟨rfl, rfl, rfl, rfl, rfl⟩ := sc_same hsc hsq
    obtain ⟨hs20, hr20⟩ := sc_small hsc
    refine RG.vl rfl rfl rfl (Ev.move rfl rfl) ?_
    refine RG.vl rfl rfl rfl (Ev.extract rfl rfl rfl) ?_
    refine RG.vl rfl rfl rfl (Ev.extract rfl rfl rfl) ?_
    refine RG.local_ rfl rfl rfl rfl (fun _ => rfl) rfl rfl (fun _ => rfl) inf_39 rfl rfl rfl (fun g2 w98 eg2 hx98 hb98 => ?_)
    have hsb99 := fun e => sep_new (g := g2) (Own.ext hown17 hxwl43) eg2 e
    have hsb100 := fun e => sep_new (g := g2) (Own.ext hus hxwl43) eg2 e
    have hsb101 := fun e => sep_new (g := g2) (Own.ext hod hxwl43) eg2 e
    have hsb102 := fun e => sep_new (g := g2) (Own.ext hoy hxwl43) eg2 e
    have hsb103 := fun e => sep_new (g := g2) (Own.ext hoz hxwl43) eg2 e
    have hsb104 := fun e => sep_new (g := g2) (Own.ext hG hE89) eg2 e
    have hsb105 := fun e => sep_new (g := g2) hqy eg2 e
    have hsb106 := fun e => sep_new (g := g2) hqz eg2 e
    have hle107 : w27.heap.size ≤ g2 := by have := hxwl43.size; omega
    have hle108 : wl43.heap.size ≤ g2 := by have := hE89.size; omega
    have hle109 : w78.heap.size ≤ g2 := by have := hE97.size; omega
    have hle110 : w90.heap.size ≤ g2 := by have := (Ex.rfl_ w90).size; omega
    have hlt111 : gS < g2 := by have := Blk.lt (hb1.ext hxwl43); omega
    have hlt112 : g1 < g2 := by have := Blk.lt (hb27.ext hxwl43); omega
    have hlt113 : gR < g2 := by have := Blk.lt (hb78.ext hE97); omega
    replace hxwl43 := Ex.tr hxwl43 hx98
    replace hE89 := Ex.tr hE89 hx98
    replace hE97 := Ex.tr hE97 hx98
    have hE114 := hx98
    refine RG.vl rfl rfl rfl (Ev.assign rfl rfl) ?_
    refine RG.done (QW.then_ (CW.seq (CW.seq (CW.region ?_))))
    refine RG.vl rfl rfl rfl (Ev.ldAgg rfl rfl Tryz.underlying31 rfl sz_31 rfl ((hb27.ext hxwl43).cells)) ?_
    refine RG.vl rfl rfl rfl (Ev.ldAgg rfl rfl Tryz.underlying39 rfl sz_39 rfl (hb98.cells)) ?_
    refine RG.call rfl rfl rfl rfl rfl rfl rfl en_9 (same22_ret _ _ _ _ _ _ _ _ _ ((Own.ext hoy hxwl43).rdl encZ_len) ((Own.ext hoz hxwl43).rdl encZ_len) ((Own.ext hqy hE114).rdl encZ_len) ((Own.ext hqz hE114).rdl encZ_len) (by omega) (by omega)) ?_
    rintro _ w115 ⟨rfl, hx115⟩
    replace hxwl43 := Ex.tr hxwl43 hx115
    replace hE89 := Ex.tr hE89 hx115
    replace hE97 := Ex.tr hE97 hx115
    replace hE114 := Ex.tr hE114 hx115
    have hE116 := hx115
    refine RG.vl rfl rfl rfl (Ev.notF rfl rfl) ?_
    refine RG.vl rfl rfl rfl (Ev.move rfl rfl) ?_
    refine RG.vl rfl rfl rfl (Ev.move rfl rfl) ?_
    refine RG.vl rfl rfl rfl (Ev.move rfl rfl) ?_
    refine RG.vl rfl rfl rfl (Ev.isF (Ev.neI rfl rfl rfl) (fun h => h rfl)) ?_
    refine RG.vl rfl rfl rfl (Ev.pickF rfl rfl rfl) ?_
    refine RG.done ?_
    refine QW.sub (S' := [(1, _), (8, _), (9, _), (15, _), (79, _)]) ⟨rfl, rfl, rfl, rfl, rfl, trivial⟩ ?_
    refine QW.then_ ?_
    refine CW.condF rfl ?_
    refine CW.skip (QW.then_ (CW.seq (CW.region ?_)))
    refine RG.vl rfl rfl rfl (Ev.move rfl rfl) ?_
    refine RG.call rfl rfl rfl rfl rfl rfl rfl en_10 (rwr22_ret t _ (by omega)) ?_
    rintro _ w117 ⟨wx, rfl, hwr, hx117⟩
    replace hxwl43 := Ex.tr hxwl43 hx117
    replace hE89 := Ex.tr hE89 hx117
    replace hE97 := Ex.tr hE97 hx117
    replace hE114 := Ex.tr hE114 hx117
    replace hE116 := Ex.tr hE116 hx117
    have hE118 := hx117
    refine RG.vl rfl rfl rfl (Ev.move rfl rfl) ?_
    refine RG.vl rfl rfl rfl (Ev.extract rfl rfl rfl) ?_
    refine RG.vl rfl rfl rfl (Ev.extract rfl rfl rfl) ?_
    refine RG.vl rfl rfl rfl (Ev.assign rfl rfl) ?_
    refine RG.vl rfl rfl rfl (Ev.assign rfl rfl) ?_
    refine RG.done (QW.then_ (CW.seq (CW.region ?_)))
    refine RG.vl rfl rfl rfl (Ev.assign rfl rfl) ?_
    refine RG.done (QW.then_ (CW.seq (CW.seq (CW.region ?_))))
    refine RG.vl rfl rfl rfl (Ev.move rfl rfl) ?_
    refine RG.vl rfl rfl rfl (Ev.eqI rfl rfl rfl) ?_
    refine RG.done (QW.then_ ?_)
    refine CW.condP rfl (fun hc119 => ?_) (fun hc119 => ?_)
    ·refine CW.region ?_
     refine RG.vl rfl rfl rfl (Ev.ldAgg rfl rfl Tryz.underlying38 rfl sz_38 rfl ((hb78.ext hE97).cells)) ?_
     refine RG.vl rfl rfl rfl (Ev.move rfl rfl) ?_
     refine RG.call rfl rfl rfl rfl rfl rfl rfl en_11 (rdraw_ret s ⟨wx.toArray⟩ _ (by rw [sb_len]; have := wr_len hwr; omega)) ?_
     rintro _ w120 ⟨dr, rfl, hdrr, hx120⟩
     replace hxwl43 := Ex.tr hxwl43 hx120
     replace hE89 := Ex.tr hE89 hx120
     replace hE97 := Ex.tr hE97 hx120
     replace hE114 := Ex.tr hE114 hx120
     replace hE116 := Ex.tr hE116 hx120
     replace hE118 := Ex.tr hE118 hx120
     have hE121 := hx120
     refine RG.vl rfl rfl rfl (Ev.move rfl rfl) ?_
     refine RG.vl rfl rfl rfl (Ev.extract rfl rfl rfl) ?_
     refine RG.vl rfl rfl rfl (Ev.extract rfl rfl rfl) ?_
     refine RG.vl rfl rfl rfl (Ev.assign rfl rfl) ?_
     refine RG.vl rfl rfl rfl (Ev.assign rfl rfl) ?_
     refine RG.done ?_
     refine QW.sub (S' := [(8, _), (9, _), (19, _), (20, _)]) ⟨rfl, rfl, rfl, rfl, trivial⟩ ?_
     refine QW.then_ (CW.seq (CW.seq ?_))
     obtain ⟨rfl, rfl, hl64⟩ := (dr_all hdr hwr).2 (by omega)
     refine CW.region ?_
     refine RG.vl rfl rfl rfl (Ev.move rfl rfl) ?_
     refine RG.vl rfl rfl rfl (Ev.move rfl rfl) ?_
     refine RG.vl rfl rfl rfl (Ev.isF (Ev.neI rfl rfl rfl) (fun h => h rfl)) ?_
     refine RG.vl rfl rfl rfl (Ev.move rfl rfl) ?_
     refine RG.vl rfl rfl rfl (Ev.move rfl rfl) ?_
     refine RG.vl rfl rfl rfl (Ev.lenL rfl rfl rfl Tryz.underlying24 (((Own.ext hod hxwl43).rdl Br.c_len))) ?_
     refine RG.vl rfl rfl rfl (Ev.move rfl rfl) ?_
     refine RG.vl rfl rfl rfl (Ev.lenL rfl rfl rfl Tryz.underlying34 (hdrr)) ?_
     refine RG.vl rfl rfl rfl (Ev.isF (Ev.neI rfl rfl rfl) (fun h => h rfl)) ?_
     refine RG.vl rfl rfl rfl (Ev.pickF rfl rfl rfl) ?_
     refine RG.done (QW.then_ ?_)
     refine CW.condF rfl ?_
     refine CW.skip (QW.then_ (CW.seq (CW.seq (CW.region ?_))))
     refine RG.vl rfl rfl rfl (Ev.move rfl rfl) ?_
     refine RG.vl rfl rfl rfl (Ev.lenL rfl rfl rfl Tryz.underlying24 (((Own.ext hod hxwl43).rdl Br.c_len))) ?_
     refine RG.vl rfl rfl rfl (Ev.move rfl rfl) ?_
     refine RG.done (QW.then_ (CW.block ?_))
     replace hl := (hl.ext hxwl43)
     replace hb1 := (hb1.ext hxwl43)
     replace hown17 := (Own.ext hown17 hxwl43)
     replace hus := (Own.ext hus hxwl43)
     replace hod := (Own.ext hod hxwl43)
     replace hoy := (Own.ext hoy hxwl43)
     replace hoz := (Own.ext hoz hxwl43)
     replace hb27 := (hb27.ext hxwl43)
     replace hG := (Own.ext hG hE89)
     replace hb78 := (hb78.ext hE97)
     replace hqy := (Own.ext hqy hE114)
     replace hqz := (Own.ext hqz hE114)
     replace hb98 := (hb98.ext hE116)
     have hR122 := (Ex.tr hR39 hxwl43)
     have hR123 := (Ex.tr hR40 hxwl43)
     have hR124 := (Ex.tr hR41 hxwl43)
     have hR125 := (Ex.tr hR42 hxwl43)
     have hR126 := hxwl43
     have hR127 := hE89
     have hR128 := hE97
     have hR129 := hE116
     have hR130 := hE118
     have hR131 := hE121
     refine CW.loop1 [(8, _), (20, _), (104, _)] ⟨rfl, rfl, rfl, trivial⟩ (fun (k : Nat) => [(105, .int .i64 (k : Int))]) (fun k w' => (k ≤ 64) ∧ Ex w120 w') (fun k => 65 - k) (0) ⟨rfl, trivial⟩ ⟨Nat.zero_le _, (Ex.rfl_ _)⟩ ?_
     rintro k wl132 ⟨hk64, hxwl132⟩
     refine CW.sub (S' := [(105, _), (8, _), (20, _), (104, _)]) ⟨rfl, rfl, rfl, rfl, trivial⟩ ?_
     refine CW.seq (CW.region ?_)
     refine RG.vl rfl rfl rfl (Ev.lss rfl rfl rfl) ?_
     refine RG.done (QW.then_ (CW.seq ?_))
     refine CW.condP rfl (fun hc133 => ?_) (fun hc133 => ?_)
     ·refine CW.skip (QW.then_ (CW.seq (CW.block (CW.seq ?_))))
      obtain ⟨b, hk⟩ : ∃ b, (drawOf s wx)[k]? = some b := ⟨_, List.getElem?_eq_getElem (by omega)⟩
      refine CW.region ?_
      refine RG.vl rfl rfl rfl (Ev.move rfl rfl) ?_
      refine RG.vl rfl rfl rfl (Ev.assign rfl rfl) ?_
      refine RG.done (QW.then_ (CW.seq ?_))
      refine CW.draw [] (.ex) 9 rfl mixed (fun wd134 hxwd134 => ?_)
      replace hxwl132 := Ex.tr hxwl132 hxwd134
      have hE135 := hxwd134
      refine AG.takeW 0 rfl (by kernel_rfl) (by kernel_rfl) rfl rfl rfl (fun _ => Ev.move rfl rfl) ?_
      refine AG.takeW 1 rfl (by kernel_rfl) (by kernel_rfl) rfl rfl rfl (fun _ => Ev.move rfl rfl) ?_
      refine AG.idxO _ 2 rfl (by kernel_rfl) (by kernel_rfl) rfl rfl rfl rfl rfl rfl Tryz.underlying24 sz_36 Br.c_len ((Own.ext hod hxwl132)) (hk) (fun g137 hg137 hBg137 hp136b hp136 => ?_)
      refine AG.take 3 rfl (by kernel_rfl) (by kernel_rfl) rfl rfl rfl (fun wq hq => Ev.ldAgg rfl rfl Tryz.underlying36 rfl sz_36 rfl (hp136.ext hq hp136b)) ?_
      refine AG.takeW 4 rfl (by kernel_rfl) (by kernel_rfl) rfl rfl rfl (fun _ => Ev.move rfl rfl) ?_
      refine AG.takeW 5 rfl (by kernel_rfl) (by kernel_rfl) rfl rfl rfl (fun _ => Ev.move rfl rfl) ?_
      refine AG.idxL _ 6 rfl (by kernel_rfl) (by kernel_rfl) rfl rfl rfl rfl rfl rfl Tryz.underlying34 sz_37 ((hdrr.ext hxwl132)) (hk) (fun p138 hp138b hp138 => ?_)
      refine AG.take 7 rfl (by kernel_rfl) (by kernel_rfl) rfl rfl rfl (fun wq hq => Ev.ldAgg rfl rfl Tryz.underlying37 rfl sz_37 rfl (hp138.ext hq hp138b)) ?_
      refine AG.takeW 8 rfl (by kernel_rfl) (by kernel_rfl) rfl rfl rfl (fun _ => Ev.isF ((Ev.neA rfl rfl rfl (by kernel_rfl)).conv (congrArg Value.bool (show (!veqs b.c b.c) = decide (b ≠ b) from by cases b; simp [veqs, veq]))) (fun h => h rfl)) ?_
      refine AG.done (by kernel_rfl) ?_
      refine QW.then_ ?_
      refine CW.condF rfl ?_
      refine CW.skip (QW.blockN (QW.then_ (CW.region ?_)))
      refine RG.vl rfl rfl rfl (Ev.addI rfl rfl rfl (by omega)) ?_
      refine RG.vl rfl rfl rfl (Ev.move rfl rfl) ?_
      refine RG.done ?_
      refine QW.sub (S' := [(8, _), (20, _), (104, _), (105, _)]) ⟨rfl, rfl, rfl, rfl, trivial⟩ ?_
      refine QW.round1 (k + 1) ⟨rfl, trivial⟩ ⟨rfl, rfl, rfl, trivial⟩ ⟨by omega, hxwl132⟩ (by omega)
     ·refine CW.exit (QW.thenExit (QW.thenExit (QW.blockHit (QW.then_ (CW.seq (CW.region ?_))))))
      refine RG.call rfl rfl rfl rfl rfl rfl rfl en_5 (awake_ret _) ?_
      rintro _ w139 ⟨rfl, hx139⟩
      replace hxwl132 := Ex.tr hxwl132 hx139
      have hE140 := hx139
      refine RG.vl rfl rfl rfl (Ev.assign rfl rfl) ?_
      refine RG.done (QW.then_ (CW.ret ?_))
      refine QW.ret1 rfl rfl ?_
      have hB := (Ex.tr hR122 hxwl132)
      exact ⟨rfl, hB⟩
    ·refine CW.skip (QW.then_ (CW.seq (CW.seq ?_)))
     obtain ⟨rfl, rfl⟩ := (dr_all hdr hwr).1 (by omega)
     have hn0 : ([] : List Br).length = 0 := rfl
     refine CW.region ?_
     refine RG.vl rfl rfl rfl (Ev.move rfl rfl) ?_
     refine RG.vl rfl rfl rfl (Ev.move rfl rfl) ?_
     refine RG.vl rfl rfl rfl (Ev.isF (Ev.neI rfl rfl rfl) (fun h => h rfl)) ?_
     refine RG.vl rfl rfl rfl (Ev.move rfl rfl) ?_
     refine RG.vl rfl rfl rfl (Ev.move rfl rfl) ?_
     refine RG.vl rfl rfl rfl (Ev.lenL rfl rfl rfl Tryz.underlying24 (((Own.ext hod hxwl43).rdl Br.c_len))) ?_
     refine RG.vl rfl rfl rfl (Ev.move rfl rfl) ?_
     refine RG.vl rfl rfl rfl (Ev.lenSlice rfl rfl rfl Tryz.underlying34) ?_
     refine RG.vl rfl rfl rfl (Ev.isF (Ev.neI rfl rfl rfl) (fun h => h rfl)) ?_
     refine RG.vl rfl rfl rfl (Ev.pickF rfl rfl rfl) ?_
     refine RG.done ?_
     refine QW.sub (S' := [(8, _), (20, _), (102, _)]) ⟨rfl, rfl, rfl, trivial⟩ ?_
     refine QW.then_ ?_
     refine CW.condF rfl ?_
     refine CW.skip (QW.then_ (CW.seq (CW.seq (CW.region ?_))))
     refine RG.vl rfl rfl rfl (Ev.move rfl rfl) ?_
     refine RG.vl rfl rfl rfl (Ev.lenL rfl rfl rfl Tryz.underlying24 (((Own.ext hod hxwl43).rdl Br.c_len))) ?_
     refine RG.vl rfl rfl rfl (Ev.move rfl rfl) ?_
     refine RG.done (QW.then_ (CW.block ?_))
     replace hl := (hl.ext hxwl43)
     replace hb1 := (hb1.ext hxwl43)
     replace hown17 := (Own.ext hown17 hxwl43)
     replace hus := (Own.ext hus hxwl43)
     replace hod := (Own.ext hod hxwl43)
     replace hoy := (Own.ext hoy hxwl43)
     replace hoz := (Own.ext hoz hxwl43)
     replace hb27 := (hb27.ext hxwl43)
     replace hG := (Own.ext hG hE89)
     replace hb78 := (hb78.ext hE97)
     replace hqy := (Own.ext hqy hE114)
     replace hqz := (Own.ext hqz hE114)
     replace hb98 := (hb98.ext hE116)
     have hR141 := (Ex.tr hR39 hxwl43)
     have hR142 := (Ex.tr hR40 hxwl43)
     have hR143 := (Ex.tr hR41 hxwl43)
     have hR144 := (Ex.tr hR42 hxwl43)
     have hR145 := hxwl43
     have hR146 := hE89
     have hR147 := hE97
     have hR148 := hE116
     have hR149 := hE118
     refine CW.loop1 [(8, _), (20, _), (104, _)] ⟨rfl, rfl, rfl, trivial⟩ (fun (k : Nat) => [(105, .int .i64 (k : Int))]) (fun k w' => (k ≤ 64) ∧ Ex w117 w') (fun k => 65 - k) (0) ⟨rfl, trivial⟩ ⟨Nat.zero_le _, (Ex.rfl_ _)⟩ ?_
     rintro k wl150 ⟨hk64, hxwl150⟩
     refine CW.sub (S' := [(105, _), (8, _), (20, _), (104, _)]) ⟨rfl, rfl, rfl, rfl, trivial⟩ ?_
     refine CW.seq (CW.region ?_)
     refine RG.vl rfl rfl rfl (Ev.lss rfl rfl rfl) ?_
     refine RG.done (QW.then_ (CW.seq ?_))
     refine CW.condP rfl (fun hc151 => ?_) (fun hc151 => ?_)
     ·refine CW.skip (QW.then_ (CW.seq (CW.block (CW.seq ?_))))
      exfalso; omega
     ·refine CW.exit (QW.thenExit (QW.thenExit (QW.blockHit (QW.then_ (CW.seq (CW.region ?_))))))
      refine RG.call rfl rfl rfl rfl rfl rfl rfl en_5 (awake_ret _) ?_
      rintro _ w152 ⟨rfl, hx152⟩
      replace hxwl150 := Ex.tr hxwl150 hx152
      have hE153 := hx152
      refine RG.vl rfl rfl rfl (Ev.assign rfl rfl) ?_
      refine RG.done (QW.then_ (CW.ret ?_))
      refine QW.ret1 rfl rfl ?_
      have hB := (Ex.tr hR141 hxwl150)
      exact ⟨rfl, hB⟩

end Go.Proofs.YtgjnchjkjdnidaaGreat

