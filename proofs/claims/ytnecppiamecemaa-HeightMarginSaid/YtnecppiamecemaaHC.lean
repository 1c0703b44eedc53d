/- Chapter 21: walks (HC). Written by program. -/
import Derived.Test.YtnecppiamecemaaT
import Derived.Test.YtnecppiamecemaaHB
namespace Go.Proofs.Ytnecppiamecemaa
open Go.RowKit
set_option maxRecDepth 100000 in
set_option maxHeartbeats 1000000 in
theorem rread_ret (s : Su) (v : Value) (l : List Br) (w : World) (hl : RdL w 3 Br.c v l) (hlen : l.length ≤ 1000) :
    Ret Try.prog 12 [s.v, v] w (fun v w' => v = .tuple #[.string ⟨(readOf s l).toArray⟩, .int .i64 (errOf s l)] ∧ Ex w w') := by
  have hB0 : Ex w w := Ex.rfl_ _
  refine Ret.of Try.func12 rfl Try.ntmps12 rfl ?_
  refine CW.seq ?_
  refine CW.region ?_
  refine RG.box rfl rfl rfl rfl rfl (fun g1 w1 eg1 hx1 hb1 => ?_)
  have hE2 := hx1
  refine RG.vl rfl rfl rfl (Ev.assign rfl rfl) ?_
  refine RG.vl rfl rfl rfl (Ev.assign rfl rfl) ?_
  refine RG.done ?_
  refine QW.then_ ?_
  refine CW.seq ?_
  refine CW.seq ?_
  refine CW.region ?_
  refine RG.vl rfl rfl rfl (Ev.ldAgg rfl rfl Try.underlying31 rfl sz_31 rfl (hb1.cells)) ?_
  refine RG.vl rfl rfl rfl (Ev.move rfl rfl) ?_
  refine RG.call rfl rfl rfl rfl rfl rfl rfl en_28 (error_ret _ _ _ _ ((hl.ext hE2)) (by omega)) ?_
  rintro _ w3 ⟨rfl, hx3⟩
  replace hE2 := Ex.tr hE2 hx3
  have hE4 := hx3
  refine RG.vl rfl rfl rfl (Ev.assign rfl rfl) ?_
  refine RG.done ?_
  refine QW.then_ ?_
  refine CW.seq ?_
  refine CW.region ?_
  refine RG.vl rfl rfl rfl (Ev.move rfl rfl) ?_
  refine RG.vl rfl rfl rfl (Ev.neI rfl rfl rfl) ?_
  refine RG.done ?_
  refine QW.then_ ?_
  refine CW.condP rfl (fun hc5 => ?_) (fun hc5 => ?_)
  · refine CW.seq ?_
    refine CW.region ?_
    refine RG.vl rfl rfl rfl (Ev.move rfl rfl) ?_
    refine RG.vl rfl rfl rfl (Ev.assign rfl rfl) ?_
    refine RG.vl rfl rfl rfl (Ev.assign rfl rfl) ?_
    refine RG.done ?_
    refine QW.then_ ?_
    refine CW.ret ?_
    refine QW.thenRet ?_
    refine QW.ret2 rfl rfl rfl ?_
    have hB := (Ex.tr hB0 hE2)
    exact ⟨by unfold readOf; rw [if_neg (by omega)], hB⟩
  · refine CW.skip ?_
    refine QW.then_ ?_
    refine CW.seq ?_
    obtain ⟨hl4, hs, hin, hfit⟩ := (err0_iff s l).1 (by omega)
    have hpl := hs.1
    have hpl2 := hs.2.1
    refine CW.region ?_
    refine RG.vl rfl rfl rfl (Ev.assign rfl rfl) ?_
    refine RG.done ?_
    refine QW.then_ ?_
    refine CW.seq ?_
    refine CW.seq ?_
    refine CW.region ?_
    refine RG.vl rfl rfl rfl (Ev.assign rfl rfl) ?_
    refine RG.done ?_
    refine QW.then_ ?_
    refine CW.block ?_
    replace hl := (hl.ext hE2)
    replace hb1 := (hb1.ext hE4)
    have hR6 := (Ex.tr hB0 hE2)
    have hR7 := hE4
    refine CW.loop2 [(1, _), (2, _), (4, _), (5, _)] ⟨rfl, rfl, rfl, rfl, trivial⟩ (fun (k : Nat) (out : ByteArray) => [(8, .int .i64 k), (7, .string out)]) (fun k out w' => ((k : Int) ≤ s.pl ∧ out = ⟨((List.range k).map (letterAt s l)).toArray⟩) ∧ Ex w3 w') (fun k out => s.pl.toNat - k) (0) (⟨#[]⟩) ⟨rfl, rfl, trivial⟩ ⟨⟨by omega, rfl⟩, (Ex.rfl_ _)⟩ ?_
    rintro k out wl8 ⟨⟨hkp, hout⟩, hxwl8⟩
    refine CW.sub (S' := [(8, _), (7, _), (1, _), (2, _), (4, _), (5, _)]) ⟨rfl, rfl, rfl, rfl, rfl, rfl, trivial⟩ ?_
    refine CW.seq ?_
    refine CW.seq ?_
    refine CW.region ?_
    refine RG.vl rfl rfl rfl (Ev.move rfl rfl) ?_
    refine RG.vl rfl rfl rfl (Ev.fld rfl rfl fld_31_0) ?_
    refine RG.vl rfl rfl rfl (Ev.ldAt rfl rfl Try.underlying3 rfl ((hb1.ext hxwl8).cells) (rfl)) ?_
    refine RG.vl rfl rfl rfl (Ev.lss rfl rfl rfl) ?_
    refine RG.done ?_
    refine QW.then_ ?_
    refine CW.condP rfl (fun hc9 => ?_) (fun hc9 => ?_)
    · refine CW.skip ?_
      refine QW.then_ ?_
      refine CW.seq ?_
      refine CW.block ?_
      refine CW.seq ?_
      refine CW.region ?_
      refine RG.vl rfl rfl rfl (Ev.assign rfl rfl) ?_
      refine RG.done ?_
      refine QW.then_ ?_
      refine CW.seq ?_
      refine CW.seq ?_
      refine CW.region ?_
      refine RG.vl rfl rfl rfl (Ev.assign rfl rfl) ?_
      refine RG.done ?_
      refine QW.then_ ?_
      refine CW.block ?_
      replace hl := (hl.ext hxwl8)
      replace hb1 := (hb1.ext hxwl8)
      have hR10 := (Ex.tr hR6 hxwl8)
      have hR11 := (Ex.tr hR7 hxwl8)
      have hR12 := hxwl8
      refine CW.loop2 [(1, _), (2, _), (4, _), (5, _), (7, _), (8, _)] ⟨rfl, rfl, rfl, rfl, rfl, rfl, trivial⟩ (fun (i : Nat) (x : UInt8) => [(10, .int .i64 i), (9, .string ⟨#[x]⟩)]) (fun i x w' => (i ≤ l.length ∧ x = letterAt s (l.take i) k) ∧ Ex wl8 w') (fun i x => l.length - i) (0) (63) ⟨rfl, rfl, trivial⟩ ⟨⟨Nat.zero_le _, rfl⟩, (Ex.rfl_ _)⟩ ?_
      rintro i x wl13 ⟨⟨hi, hx⟩, hxwl13⟩
      refine CW.sub (S' := [(10, _), (9, _), (1, _), (2, _), (4, _), (5, _), (7, _), (8, _)]) ⟨rfl, rfl, rfl, rfl, rfl, rfl, rfl, rfl, trivial⟩ ?_
      refine CW.seq ?_
      refine CW.seq ?_
      refine CW.region ?_
      refine RG.vl rfl rfl rfl (Ev.move rfl rfl) ?_
      refine RG.vl rfl rfl rfl (Ev.move rfl rfl) ?_
      refine RG.vl rfl rfl rfl (Ev.lenL rfl rfl rfl Try.underlying34 ((hl.ext hxwl13))) ?_
      refine RG.vl rfl rfl rfl (Ev.lss rfl rfl rfl) ?_
      refine RG.done ?_
      refine QW.then_ ?_
      refine CW.condP rfl (fun hc14 => ?_) (fun hc14 => ?_)
      · refine CW.skip ?_
        refine QW.then_ ?_
        refine CW.seq ?_
        refine CW.block ?_
        refine CW.seq ?_
        obtain ⟨b, hk⟩ : ∃ b, l[i]? = some b := ⟨l[i]'(by omega), List.getElem?_eq_getElem _⟩
        have hib := hin b (List.mem_of_getElem? hk)
        refine CW.draw [] (.ex) 7 rfl mixed (fun wd15 hxwd15 => ?_)
        replace hxwl13 := Ex.tr hxwl13 hxwd15
        have hE16 := hxwd15
        refine AG.take 0 rfl (by kernel_rfl) (by kernel_rfl) rfl rfl rfl (fun wq hq => Ev.ldAgg rfl rfl Try.underlying31 rfl sz_31 rfl (((hb1.ext hxwl13).ext hq).cells)) ?_
        refine AG.takeW 1 rfl (by kernel_rfl) (by kernel_rfl) rfl rfl rfl (fun _ => Ev.move rfl rfl) ?_
        refine AG.takeW 2 rfl (by kernel_rfl) (by kernel_rfl) rfl rfl rfl (fun _ => Ev.move rfl rfl) ?_
        refine AG.idxL _ 3 rfl (by kernel_rfl) (by kernel_rfl) rfl rfl rfl rfl rfl rfl Try.underlying34 sz_47 ((hl.ext hxwl13)) (hk) (fun p17 hp17b hp17 => ?_)
        refine AG.take 4 rfl (by kernel_rfl) (by kernel_rfl) rfl rfl rfl (fun wq hq => Ev.ldAgg rfl rfl Try.underlying47 rfl sz_47 rfl (hp17.ext hq hp17b)) ?_
        refine AG.takeW 5 rfl (by kernel_rfl) (by kernel_rfl) rfl rfl rfl (fun _ => Ev.move rfl rfl) ?_
        refine AG.only 6 rfl (by kernel_rfl) ?_
        refine RG.call rfl rfl rfl rfl rfl rfl rfl en_29 (stands_ret _ _ _ _ hs (by assumption) (by omega) (by omega)) ?_
        rintro _ w19 ⟨rfl, hx19⟩
        replace hxwl13 := Ex.tr hxwl13 hx19
        replace hE16 := Ex.tr hE16 hx19
        have hE20 := hx19
        refine RG.done ?_
        refine QW.an (fun _ => hE20) ?_
        refine AG.done (by kernel_rfl) ?_
        refine QW.then_ ?_
        refine CW.condP rfl (fun hc21 => ?_) (fun hc21 => ?_)
        · have hst : Stand s b k := by assumption
          refine CW.draw [] (.ex) 7 rfl mixed (fun wd22 hxwd22 => ?_)
          replace hxwl13 := Ex.tr hxwl13 hxwd22
          replace hE16 := Ex.tr hE16 hxwd22
          replace hE20 := Ex.tr hE20 hxwd22
          refine AG.take 0 rfl (by kernel_rfl) (by kernel_rfl) rfl rfl rfl (fun wq hq => Ev.ldAgg rfl rfl Try.underlying31 rfl sz_31 rfl (((hb1.ext hxwl13).ext hq).cells)) ?_
          refine AG.takeW 1 rfl (by kernel_rfl) (by kernel_rfl) rfl rfl rfl (fun _ => Ev.move rfl rfl) ?_
          refine AG.takeW 2 rfl (by kernel_rfl) (by kernel_rfl) rfl rfl rfl (fun _ => Ev.move rfl rfl) ?_
          refine AG.idxL _ 3 rfl (by kernel_rfl) (by kernel_rfl) rfl rfl rfl rfl rfl rfl Try.underlying34 sz_47 ((hl.ext hxwl13)) (hk) (fun p23 hp23b hp23 => ?_)
          refine AG.take 4 rfl (by kernel_rfl) (by kernel_rfl) rfl rfl rfl (fun wq hq => Ev.ldAgg rfl rfl Try.underlying47 rfl sz_47 rfl (hp23.ext hq hp23b)) ?_
          refine AG.only 5 rfl (by kernel_rfl) ?_
          refine RG.call rfl rfl rfl rfl rfl rfl rfl en_30 (letter_ret _ _ _) ?_
          rintro _ w25 ⟨rfl, hx25⟩
          replace hxwl13 := Ex.tr hxwl13 hx25
          replace hE16 := Ex.tr hE16 hx25
          replace hE20 := Ex.tr hE20 hx25
          have hE26 := hx25
          refine RG.done ?_
          refine QW.an (fun _ => hE26) ?_
          refine AG.takeW 6 rfl (by kernel_rfl) (by kernel_rfl) rfl rfl rfl (fun _ => Ev.assign rfl rfl) ?_
          refine AG.done (by kernel_rfl) ?_
          refine QW.sub (S' := [(1, _), (2, _), (4, _), (5, _), (7, _), (8, _), (9, _), (10, _)]) ⟨rfl, rfl, rfl, rfl, rfl, rfl, rfl, rfl, trivial⟩ ?_
          refine QW.blockN ?_
          refine QW.then_ ?_
          refine CW.region ?_
          refine RG.vl rfl rfl rfl (Ev.move rfl rfl) ?_
          refine RG.vl rfl rfl rfl (Ev.addI rfl rfl rfl (by omega)) ?_
          refine RG.vl rfl rfl rfl (Ev.assign rfl rfl) ?_
          refine RG.done ?_
          refine QW.round2 (i + 1) (letter s b) ⟨rfl, rfl, trivial⟩ ⟨rfl, rfl, rfl, rfl, rfl, rfl, trivial⟩ ⟨⟨by omega, (letterAt_hit s l i k b hfit hk ((stand_iff s b k hs (by omega) (by omega)).1 hst)).symm⟩, hxwl13⟩ (by omega)
        · refine CW.skip ?_
          refine QW.blockN ?_
          refine QW.then_ ?_
          refine CW.region ?_
          refine RG.vl rfl rfl rfl (Ev.move rfl rfl) ?_
          refine RG.vl rfl rfl rfl (Ev.addI rfl rfl rfl (by omega)) ?_
          refine RG.vl rfl rfl rfl (Ev.assign rfl rfl) ?_
          refine RG.done ?_
          refine QW.sub (S' := [(1, _), (2, _), (4, _), (5, _), (7, _), (8, _), (9, _), (10, _)]) ⟨rfl, rfl, rfl, rfl, rfl, rfl, rfl, rfl, trivial⟩ ?_
          refine QW.round2 (i + 1) (x) ⟨rfl, rfl, trivial⟩ ⟨rfl, rfl, rfl, rfl, rfl, rfl, trivial⟩ ⟨⟨by omega, by rw [letterAt_miss s l i k b hk (fun e => absurd ((stand_iff s b k hs (by omega) (by omega)).2 e) (by assumption))]; exact hx⟩, hxwl13⟩ (by omega)
      · refine CW.exit ?_
        refine QW.thenExit ?_
        refine QW.thenExit ?_
        refine QW.blockHit ?_
        refine QW.then_ ?_
        refine CW.region ?_
        refine RG.vl rfl rfl rfl (Ev.move rfl rfl) ?_
        refine RG.vl rfl rfl rfl (Ev.move rfl rfl) ?_
        refine RG.vl rfl rfl rfl (Ev.cat rfl rfl rfl (by rw [hout, size_bytes]; simp; show _ + 1 ≤ _; omega)) ?_
        refine RG.vl rfl rfl rfl (Ev.assign rfl rfl) ?_
        refine RG.done ?_
        refine QW.blockN ?_
        refine QW.then_ ?_
        refine CW.region ?_
        refine RG.vl rfl rfl rfl (Ev.move rfl rfl) ?_
        refine RG.vl rfl rfl rfl (Ev.addI rfl rfl rfl (by omega)) ?_
        refine RG.vl rfl rfl rfl (Ev.assign rfl rfl) ?_
        refine RG.done ?_
        refine QW.round2 (k + 1) (out ++ ⟨#[x]⟩) ⟨rfl, rfl, trivial⟩ ⟨rfl, rfl, rfl, rfl, trivial⟩ ⟨⟨by omega, by have e : i = l.length := (by omega); subst e; rw [List.take_length] at hx; rw [hout, hx, bytes_snoc, List.range_succ, List.map_append]; rfl⟩, (Ex.tr hR12 hxwl13)⟩ (by omega)
    · refine CW.exit ?_
      refine QW.thenExit ?_
      refine QW.thenExit ?_
      refine QW.blockHit ?_
      refine QW.then_ ?_
      refine CW.seq ?_
      refine CW.region ?_
      refine RG.vl rfl rfl rfl (Ev.move rfl rfl) ?_
      refine RG.vl rfl rfl rfl (Ev.assign rfl rfl) ?_
      refine RG.vl rfl rfl rfl (Ev.assign rfl rfl) ?_
      refine RG.done ?_
      refine QW.then_ ?_
      refine CW.ret ?_
      refine QW.ret2 rfl rfl rfl ?_
      have hB := (Ex.tr hR6 hxwl8)
      have e : k = s.pl.toNat := by omega
      subst e
      exact ⟨by unfold readOf textOf; rw [if_pos (by omega), hout, show errOf s l = 0 by omega], hB⟩

set_option maxRecDepth 100000 in
set_option maxHeartbeats 1000000 in
theorem rmargin_ret (s : Su) (v : Value) (l : List Br) (w : World) (hl : RdL w 3 Br.c v l) (hlen : l.length ≤ 1000) :
    Ret Try.prog 14 [s.v, v] w (fun v w' => v = .tuple #[.int .i64 (marginR s l), .int .i64 (errOf s l)] ∧ Ex w w') := by
  have hB0 : Ex w w := Ex.rfl_ _
  refine Ret.of Try.func14 rfl Try.ntmps14 rfl ?_
  refine CW.seq ?_
  refine CW.region ?_
  refine RG.box rfl rfl rfl rfl rfl (fun g1 w1 eg1 hx1 hb1 => ?_)
  have hE2 := hx1
  refine RG.vl rfl rfl rfl (Ev.assign rfl rfl) ?_
  refine RG.vl rfl rfl rfl (Ev.assign rfl rfl) ?_
  refine RG.done ?_
  refine QW.then_ ?_
  refine CW.seq ?_
  refine CW.seq ?_
  refine CW.region ?_
  refine RG.vl rfl rfl rfl (Ev.ldAgg rfl rfl Try.underlying31 rfl sz_31 rfl (hb1.cells)) ?_
  refine RG.vl rfl rfl rfl (Ev.move rfl rfl) ?_
  refine RG.call rfl rfl rfl rfl rfl rfl rfl en_28 (error_ret _ _ _ _ ((hl.ext hE2)) (by omega)) ?_
  rintro _ w3 ⟨rfl, hx3⟩
  replace hE2 := Ex.tr hE2 hx3
  have hE4 := hx3
  refine RG.vl rfl rfl rfl (Ev.assign rfl rfl) ?_
  refine RG.done ?_
  refine QW.then_ ?_
  refine CW.seq ?_
  refine CW.region ?_
  refine RG.vl rfl rfl rfl (Ev.move rfl rfl) ?_
  refine RG.vl rfl rfl rfl (Ev.neI rfl rfl rfl) ?_
  refine RG.done ?_
  refine QW.then_ ?_
  refine CW.condP rfl (fun hc5 => ?_) (fun hc5 => ?_)
  · refine CW.seq ?_
    refine CW.region ?_
    refine RG.vl rfl rfl rfl (Ev.move rfl rfl) ?_
    refine RG.vl rfl rfl rfl (Ev.assign rfl rfl) ?_
    refine RG.vl rfl rfl rfl (Ev.assign rfl rfl) ?_
    refine RG.done ?_
    refine QW.then_ ?_
    refine CW.ret ?_
    refine QW.thenRet ?_
    refine QW.ret2 rfl rfl rfl ?_
    have hB := (Ex.tr hB0 hE2)
    exact ⟨by unfold marginR; rw [if_neg (by omega)], hB⟩
  · refine CW.skip ?_
    refine QW.then_ ?_
    refine CW.seq ?_
    obtain ⟨hl4, hs, hin, hfit⟩ := (err0_iff s l).1 (by omega)
    have hpl := hs.1
    have hpl2 := hs.2.1
    obtain ⟨a1, a2, a3, a4, a5, a6, a7, a8, a9, a10, a11⟩ := id hs
    refine CW.region ?_
    refine RG.vl rfl rfl rfl (Ev.assign rfl rfl) ?_
    refine RG.done ?_
    refine QW.then_ ?_
    refine CW.seq ?_
    refine CW.seq ?_
    refine CW.region ?_
    refine RG.vl rfl rfl rfl (Ev.assign rfl rfl) ?_
    refine RG.done ?_
    refine QW.then_ ?_
    refine CW.block ?_
    replace hl := (hl.ext hE2)
    replace hb1 := (hb1.ext hE4)
    have hR6 := (Ex.tr hB0 hE2)
    have hR7 := hE4
    refine CW.loop2 [(1, _), (2, _), (4, _), (5, _)] ⟨rfl, rfl, rfl, rfl, trivial⟩ (fun (i : Nat) (m : Int) => [(8, .int .i64 i), (7, .int .i64 m)]) (fun i m w' => (i ≤ l.length ∧ m = marginOf s (l.take i)) ∧ Ex w3 w') (fun i m => l.length - i) (0) (1048576) ⟨rfl, rfl, trivial⟩ ⟨⟨Nat.zero_le _, rfl⟩, (Ex.rfl_ _)⟩ ?_
    rintro i m wl8 ⟨⟨hi, hm⟩, hxwl8⟩
    refine CW.sub (S' := [(8, _), (7, _), (1, _), (2, _), (4, _), (5, _)]) ⟨rfl, rfl, rfl, rfl, rfl, rfl, trivial⟩ ?_
    refine CW.seq ?_
    refine CW.seq ?_
    refine CW.region ?_
    refine RG.vl rfl rfl rfl (Ev.move rfl rfl) ?_
    refine RG.vl rfl rfl rfl (Ev.move rfl rfl) ?_
    refine RG.vl rfl rfl rfl (Ev.lenL rfl rfl rfl Try.underlying34 ((hl.ext hxwl8))) ?_
    refine RG.vl rfl rfl rfl (Ev.lss rfl rfl rfl) ?_
    refine RG.done ?_
    refine QW.then_ ?_
    refine CW.condP rfl (fun hc9 => ?_) (fun hc9 => ?_)
    · refine CW.skip ?_
      refine QW.then_ ?_
      refine CW.seq ?_
      refine CW.block ?_
      refine CW.seq ?_
      refine CW.seq ?_
      obtain ⟨b, hk⟩ : ∃ b, l[i]? = some b := ⟨l[i]'(by omega), List.getElem?_eq_getElem _⟩
      have hib := hin b (List.mem_of_getElem? hk)
      obtain ⟨b1, b2, b3, b4, b5, b6⟩ := id hib
      obtain ⟨q, hq⟩ := Option.isSome_iff_exists.1 (hfit.1 b (List.mem_of_getElem? hk))
      have hqr := plc_range s b q hs hq
      refine CW.region ?_
      refine RG.vl rfl rfl rfl (Ev.assign rfl rfl) ?_
      refine RG.done ?_
      refine QW.then_ ?_
      refine CW.block ?_
      replace hl := (hl.ext hxwl8)
      replace hb1 := (hb1.ext hxwl8)
      have hR10 := (Ex.tr hR6 hxwl8)
      have hR11 := (Ex.tr hR7 hxwl8)
      have hR12 := hxwl8
      refine CW.loop2 [(1, _), (2, _), (4, _), (5, _), (8, _)] ⟨rfl, rfl, rfl, rfl, rfl, trivial⟩ (fun (k : Nat) (x : Int) => [(9, .int .i64 k), (7, .int .i64 x)]) (fun k x w' => ((k : Int) ≤ s.pl ∧ x = if q < k then min m (posB s b q) else m) ∧ Ex wl8 w') (fun k x => s.pl.toNat - k) (0) (m) ⟨rfl, rfl, trivial⟩ ⟨⟨by omega, by rw [if_neg (by omega)]⟩, (Ex.rfl_ _)⟩ ?_
      rintro k x wl13 ⟨⟨hk2, hx⟩, hxwl13⟩
      refine CW.sub (S' := [(9, _), (7, _), (1, _), (2, _), (4, _), (5, _), (8, _)]) ⟨rfl, rfl, rfl, rfl, rfl, rfl, rfl, trivial⟩ ?_
      refine CW.seq ?_
      refine CW.seq ?_
      refine CW.region ?_
      refine RG.vl rfl rfl rfl (Ev.move rfl rfl) ?_
      refine RG.vl rfl rfl rfl (Ev.fld rfl rfl fld_31_0) ?_
      refine RG.vl rfl rfl rfl (Ev.ldAt rfl rfl Try.underlying3 rfl ((hb1.ext hxwl13).cells) (rfl)) ?_
      refine RG.vl rfl rfl rfl (Ev.lss rfl rfl rfl) ?_
      refine RG.done ?_
      refine QW.then_ ?_
      refine CW.condP rfl (fun hc14 => ?_) (fun hc14 => ?_)
      · refine CW.skip ?_
        refine QW.then_ ?_
        refine CW.seq ?_
        refine CW.block ?_
        refine CW.seq ?_
        refine CW.draw [] (.ex) 7 rfl mixed (fun wd15 hxwd15 => ?_)
        replace hxwl13 := Ex.tr hxwl13 hxwd15
        have hE16 := hxwd15
        refine AG.take 0 rfl (by kernel_rfl) (by kernel_rfl) rfl rfl rfl (fun wq hq => Ev.ldAgg rfl rfl Try.underlying31 rfl sz_31 rfl (((hb1.ext hxwl13).ext hq).cells)) ?_
        refine AG.takeW 1 rfl (by kernel_rfl) (by kernel_rfl) rfl rfl rfl (fun _ => Ev.move rfl rfl) ?_
        refine AG.takeW 2 rfl (by kernel_rfl) (by kernel_rfl) rfl rfl rfl (fun _ => Ev.move rfl rfl) ?_
        refine AG.idxL _ 3 rfl (by kernel_rfl) (by kernel_rfl) rfl rfl rfl rfl rfl rfl Try.underlying34 sz_47 ((hl.ext hxwl13)) (hk) (fun p17 hp17b hp17 => ?_)
        refine AG.take 4 rfl (by kernel_rfl) (by kernel_rfl) rfl rfl rfl (fun wq hq => Ev.ldAgg rfl rfl Try.underlying47 rfl sz_47 rfl (hp17.ext hq hp17b)) ?_
        refine AG.takeW 5 rfl (by kernel_rfl) (by kernel_rfl) rfl rfl rfl (fun _ => Ev.move rfl rfl) ?_
        refine AG.only 6 rfl (by kernel_rfl) ?_
        refine RG.call rfl rfl rfl rfl rfl rfl rfl en_29 (stands_ret _ _ _ _ hs (by assumption) (by omega) (by omega)) ?_
        rintro _ w19 ⟨rfl, hx19⟩
        replace hxwl13 := Ex.tr hxwl13 hx19
        replace hE16 := Ex.tr hE16 hx19
        have hE20 := hx19
        refine RG.done ?_
        refine QW.an (fun _ => hE20) ?_
        refine AG.done (by kernel_rfl) ?_
        refine QW.then_ ?_
        refine CW.condP rfl (fun hc21 => ?_) (fun hc21 => ?_)
        · refine CW.seq ?_
          have hst : Stand s b k := by assumption
          have hkp := kpi s k hs (by omega) (by omega)
          have hqk : q = k := by have := (stand_iff s b k hs (by omega) (by omega)).1 hst; rw [hq] at this; injection this
          refine CW.region ?_
          refine RG.vl rfl rfl rfl (Ev.fld rfl rfl fld_31_1) ?_
          refine RG.vl rfl rfl rfl (Ev.ldAt rfl rfl Try.underlying3 rfl ((hb1.ext hxwl13).cells) (rfl)) ?_
          refine RG.vl rfl rfl rfl (Ev.move rfl rfl) ?_
          refine RG.vl rfl rfl rfl (Ev.fld rfl rfl fld_31_2) ?_
          refine RG.vl rfl rfl rfl (Ev.ldAt rfl rfl Try.underlying3 rfl ((hb1.ext hxwl13).cells) (rfl)) ?_
          refine RG.vl rfl rfl rfl (Ev.mulI rfl rfl rfl (by omega)) ?_
          refine RG.vl rfl rfl rfl (Ev.addI rfl rfl rfl (by omega)) ?_
          refine RG.vl rfl rfl rfl (Ev.assign rfl rfl) ?_
          refine RG.done ?_
          refine QW.sub (S' := [(1, _), (2, _), (4, _), (5, _), (7, _), (8, _), (9, _), (10, _)]) ⟨rfl, rfl, rfl, rfl, rfl, rfl, rfl, rfl, trivial⟩ ?_
          refine QW.then_ ?_
          refine CW.draw [] (.ex) 21 rfl mixed (fun wd22 hxwd22 => ?_)
          replace hxwl13 := Ex.tr hxwl13 hxwd22
          replace hE16 := Ex.tr hE16 hxwd22
          replace hE20 := Ex.tr hE20 hxwd22
          refine AG.takeW 0 rfl (by kernel_rfl) (by kernel_rfl) rfl rfl rfl (fun _ => Ev.move rfl rfl) ?_
          refine AG.takeW 1 rfl (by kernel_rfl) (by kernel_rfl) rfl rfl rfl (fun _ => Ev.fld rfl rfl fld_31_3) ?_
          refine AG.take 2 rfl (by kernel_rfl) (by kernel_rfl) rfl rfl rfl (fun wq hq => Ev.ldAt rfl rfl Try.underlying3 rfl (((hb1.ext hxwl13).ext hq).cells) (rfl)) ?_
          refine AG.takeW 3 rfl (by kernel_rfl) (by kernel_rfl) rfl rfl rfl (fun _ => Ev.move rfl rfl) ?_
          refine AG.takeW 4 rfl (by kernel_rfl) (by kernel_rfl) rfl rfl rfl (fun _ => Ev.move rfl rfl) ?_
          refine AG.takeW 5 rfl (by kernel_rfl) (by kernel_rfl) rfl rfl rfl (fun _ => Ev.move rfl rfl) ?_
          refine AG.idxL _ 6 rfl (by kernel_rfl) (by kernel_rfl) rfl rfl rfl rfl rfl rfl Try.underlying34 sz_47 ((hl.ext hxwl13)) (hk) (fun p23 hp23b hp23 => ?_)
          refine AG.takeW 7 rfl (by kernel_rfl) (by kernel_rfl) rfl rfl rfl (fun _ => Ev.fld rfl rfl fld_47_0) ?_
          refine AG.take 8 rfl (by kernel_rfl) (by kernel_rfl) rfl rfl rfl (fun wq hq => Ev.ldAt rfl rfl Try.underlying3 rfl (hp23.ext hq hp23b) (rfl)) ?_
          refine AG.takeW 9 rfl (by kernel_rfl) (by kernel_rfl) rfl rfl rfl (fun _ => Ev.subI rfl rfl rfl (by omega)) ?_
          refine AG.takeW 10 rfl (by kernel_rfl) (by kernel_rfl) rfl rfl rfl (fun _ => Ev.move rfl rfl) ?_
          refine AG.takeW 11 rfl (by kernel_rfl) (by kernel_rfl) rfl rfl rfl (fun _ => Ev.move rfl rfl) ?_
          refine AG.idxL _ 12 rfl (by kernel_rfl) (by kernel_rfl) rfl rfl rfl rfl rfl rfl Try.underlying34 sz_47 ((hl.ext hxwl13)) (hk) (fun p24 hp24b hp24 => ?_)
          refine AG.takeW 13 rfl (by kernel_rfl) (by kernel_rfl) rfl rfl rfl (fun _ => Ev.fld rfl rfl fld_47_0) ?_
          refine AG.take 14 rfl (by kernel_rfl) (by kernel_rfl) rfl rfl rfl (fun wq hq => Ev.ldAt rfl rfl Try.underlying3 rfl (hp24.ext hq hp24b) (rfl)) ?_
          refine AG.takeW 15 rfl (by kernel_rfl) (by kernel_rfl) rfl rfl rfl (fun _ => Ev.move rfl rfl) ?_
          refine AG.takeW 16 rfl (by kernel_rfl) (by kernel_rfl) rfl rfl rfl (fun _ => Ev.subI rfl rfl rfl (by omega)) ?_
          refine AG.takeW 17 rfl (by kernel_rfl) (by kernel_rfl) rfl rfl rfl (fun _ => Ev.max2 rfl rfl rfl rfl) ?_
          refine AG.takeW 18 rfl (by kernel_rfl) (by kernel_rfl) rfl rfl rfl (fun _ => Ev.subI rfl rfl rfl (by omega)) ?_
          refine AG.takeW 19 rfl (by kernel_rfl) (by kernel_rfl) rfl rfl rfl (fun _ => Ev.min2 rfl rfl rfl rfl) ?_
          refine AG.takeW 20 rfl (by kernel_rfl) (by kernel_rfl) rfl rfl rfl (fun _ => Ev.assign rfl rfl) ?_
          refine AG.done (by kernel_rfl) ?_
          refine QW.sub (S' := [(1, _), (2, _), (4, _), (5, _), (7, _), (8, _), (9, _)]) ⟨rfl, rfl, rfl, rfl, rfl, rfl, rfl, trivial⟩ ?_
          refine QW.blockN ?_
          refine QW.then_ ?_
          refine CW.region ?_
          refine RG.vl rfl rfl rfl (Ev.move rfl rfl) ?_
          refine RG.vl rfl rfl rfl (Ev.addI rfl rfl rfl (by omega)) ?_
          refine RG.vl rfl rfl rfl (Ev.assign rfl rfl) ?_
          refine RG.done ?_
          refine QW.round2 (k + 1) (min x (s.sl - max (s.og + k * s.pi - b.po) (b.po - (s.og + k * s.pi)))) ⟨rfl, rfl, trivial⟩ ⟨rfl, rfl, rfl, rfl, rfl, trivial⟩ ⟨⟨by omega, by rw [hx, if_neg (by omega), if_pos (by omega)]; unfold posB; rw [hqk]⟩, hxwl13⟩ (by omega)
        · refine CW.skip ?_
          refine QW.blockN ?_
          refine QW.then_ ?_
          refine CW.region ?_
          refine RG.vl rfl rfl rfl (Ev.move rfl rfl) ?_
          refine RG.vl rfl rfl rfl (Ev.addI rfl rfl rfl (by omega)) ?_
          refine RG.vl rfl rfl rfl (Ev.assign rfl rfl) ?_
          refine RG.done ?_
          refine QW.sub (S' := [(1, _), (2, _), (4, _), (5, _), (7, _), (8, _), (9, _)]) ⟨rfl, rfl, rfl, rfl, rfl, rfl, rfl, trivial⟩ ?_
          refine QW.round2 (k + 1) (x) ⟨rfl, rfl, trivial⟩ ⟨rfl, rfl, rfl, rfl, rfl, trivial⟩ ⟨⟨by omega, by have hne : q ≠ k := fun e => absurd ((stand_iff s b k hs (by omega) (by omega)).2 (by rw [hq, e])) (by assumption); rw [hx]; congr 1; simp; omega⟩, hxwl13⟩ (by omega)
      · refine CW.exit ?_
        refine QW.thenExit ?_
        refine QW.thenExit ?_
        refine QW.blockHit ?_
        refine QW.then_ ?_
        refine CW.draw [] (.ex) 17 rfl mixed (fun wd25 hxwd25 => ?_)
        replace hxwl13 := Ex.tr hxwl13 hxwd25
        have hE26 := hxwd25
        refine AG.takeW 0 rfl (by kernel_rfl) (by kernel_rfl) rfl rfl rfl (fun _ => Ev.move rfl rfl) ?_
        refine AG.take 1 rfl (by kernel_rfl) (by kernel_rfl) rfl rfl rfl (fun wq hq => Ev.ldAgg rfl rfl Try.underlying31 rfl sz_31 rfl (((hb1.ext hxwl13).ext hq).cells)) ?_
        refine AG.takeW 2 rfl (by kernel_rfl) (by kernel_rfl) rfl rfl rfl (fun _ => Ev.move rfl rfl) ?_
        refine AG.takeW 3 rfl (by kernel_rfl) (by kernel_rfl) rfl rfl rfl (fun _ => Ev.move rfl rfl) ?_
        refine AG.idxL _ 4 rfl (by kernel_rfl) (by kernel_rfl) rfl rfl rfl rfl rfl rfl Try.underlying34 sz_47 ((hl.ext hxwl13)) (hk) (fun p27 hp27b hp27 => ?_)
        refine AG.takeW 5 rfl (by kernel_rfl) (by kernel_rfl) rfl rfl rfl (fun _ => Ev.fld rfl rfl fld_47_1) ?_
        refine AG.take 6 rfl (by kernel_rfl) (by kernel_rfl) rfl rfl rfl (fun wq hq => Ev.ldAt rfl rfl Try.underlying3 rfl (hp27.ext hq hp27b) (rfl)) ?_
        refine AG.take 8 rfl (by kernel_rfl) (by kernel_rfl) rfl rfl rfl (fun wq hq => Ev.ldAgg rfl rfl Try.underlying31 rfl sz_31 rfl (((hb1.ext hxwl13).ext hq).cells)) ?_
        refine AG.takeW 9 rfl (by kernel_rfl) (by kernel_rfl) rfl rfl rfl (fun _ => Ev.move rfl rfl) ?_
        refine AG.takeW 10 rfl (by kernel_rfl) (by kernel_rfl) rfl rfl rfl (fun _ => Ev.move rfl rfl) ?_
        refine AG.idxL _ 11 rfl (by kernel_rfl) (by kernel_rfl) rfl rfl rfl rfl rfl rfl Try.underlying34 sz_47 ((hl.ext hxwl13)) (hk) (fun p28 hp28b hp28 => ?_)
        refine AG.takeW 12 rfl (by kernel_rfl) (by kernel_rfl) rfl rfl rfl (fun _ => Ev.fld rfl rfl fld_47_2) ?_
        refine AG.take 13 rfl (by kernel_rfl) (by kernel_rfl) rfl rfl rfl (fun wq hq => Ev.ldAt rfl rfl Try.underlying3 rfl (hp28.ext hq hp28b) (rfl)) ?_
        refine AG.only 7 rfl (by kernel_rfl) ?_
        refine RG.call rfl rfl rfl rfl rfl rfl rfl en_31 (room_ret _ _ _ (by omega) (by omega) (by omega) (by omega) (by omega) (by omega)) ?_
        rintro _ w30 ⟨rfl, hx30⟩
        replace hxwl13 := Ex.tr hxwl13 hx30
        replace hE26 := Ex.tr hE26 hx30
        have hE31 := hx30
        refine RG.done ?_
        refine QW.an (fun _ => hE31) ?_
        refine AG.only 14 rfl (by kernel_rfl) ?_
        refine RG.call rfl rfl rfl rfl rfl rfl rfl en_31 (room_ret _ _ _ (by omega) (by omega) (by omega) (by omega) (by omega) (by omega)) ?_
        rintro _ w33 ⟨rfl, hx33⟩
        replace hxwl13 := Ex.tr hxwl13 hx33
        replace hE26 := Ex.tr hE26 hx33
        replace hE31 := Ex.tr hE31 hx33
        have hE34 := hx33
        refine RG.done ?_
        refine QW.an (fun _ => hE34) ?_
        refine AG.takeW 15 rfl (by kernel_rfl) (by kernel_rfl) rfl rfl rfl (fun _ => Ev.min3 rfl rfl rfl rfl rfl) ?_
        refine AG.takeW 16 rfl (by kernel_rfl) (by kernel_rfl) rfl rfl rfl (fun _ => Ev.assign rfl rfl) ?_
        refine AG.done (by kernel_rfl) ?_
        refine QW.sub (S' := [(1, _), (2, _), (4, _), (5, _), (7, _), (8, _)]) ⟨rfl, rfl, rfl, rfl, rfl, rfl, trivial⟩ ?_
        refine QW.blockN ?_
        refine QW.then_ ?_
        refine CW.region ?_
        refine RG.vl rfl rfl rfl (Ev.move rfl rfl) ?_
        refine RG.vl rfl rfl rfl (Ev.addI rfl rfl rfl (by omega)) ?_
        refine RG.vl rfl rfl rfl (Ev.assign rfl rfl) ?_
        refine RG.done ?_
        refine QW.round2 (i + 1) (min (min x (room s b.up)) (room s b.dn)) ⟨rfl, rfl, trivial⟩ ⟨rfl, rfl, rfl, rfl, trivial⟩ ⟨⟨by omega, by rw [take_snoc l i b hk, marginOf_snoc, ← hm, hx, if_pos (by omega)]; unfold roomB; rw [hq]; simp only; omega⟩, (Ex.tr hR12 hxwl13)⟩ (by omega)
    · refine CW.exit ?_
      refine QW.thenExit ?_
      refine QW.thenExit ?_
      refine QW.blockHit ?_
      refine QW.then_ ?_
      refine CW.seq ?_
      refine CW.region ?_
      refine RG.vl rfl rfl rfl (Ev.move rfl rfl) ?_
      refine RG.vl rfl rfl rfl (Ev.assign rfl rfl) ?_
      refine RG.vl rfl rfl rfl (Ev.assign rfl rfl) ?_
      refine RG.done ?_
      refine QW.then_ ?_
      refine CW.ret ?_
      refine QW.ret2 rfl rfl rfl ?_
      have hB := (Ex.tr hR6 hxwl8)
      have e : i = l.length := by omega
      subst e
      rw [List.take_length] at hm
      exact ⟨by unfold marginR; rw [if_pos (by omega), hm, show errOf s l = 0 by omega], hB⟩

end Go.Proofs.Ytnecppiamecemaa
