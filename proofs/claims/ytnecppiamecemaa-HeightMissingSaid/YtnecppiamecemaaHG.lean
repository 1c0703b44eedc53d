/- Walks (HG). Written by program. -/
import Derived.Test.YtnecppiamecemaaT
import Derived.Test.YtnecppiamecemaaHF
namespace Go.Proofs.Ytnecppiamecemaa
open Go.RowKit
set_option maxRecDepth 100000 in
set_option maxHeartbeats 1000000 in
theorem read_ret (s : Su) (u : Value) (l : List Br) (w : World) (hl : RdL w 3 Br.c u l) (hlen : l.length ≤ 1000) :
    Ret Try.prog 10 [s.v, u] w (fun v w' => v = .tuple #[.string ⟨(readOf s l).toArray⟩, .int .i64 (errOf s l)] ∧ Ex w w') := by
  have hB0 : Ex w w := Ex.rfl_ _
  refine Ret.of Try.func10 rfl Try.ntmps10 rfl ?_
  refine CW.seq ?_
  refine CW.region ?_
  refine RG.box rfl rfl rfl rfl rfl (fun g1 w1 eg1 hx1 hb1 => ?_)
  have hE2 := hx1
  refine RG.vl rfl rfl rfl (Ev.assign rfl rfl) ?_
  refine RG.vl rfl rfl rfl (Ev.assign rfl rfl) ?_
  refine RG.done ?_
  refine QW.then_ ?_
  refine CW.seq ?_
  refine CW.region ?_
  refine RG.vl rfl rfl rfl (Ev.ldAgg rfl rfl Try.underlying23 rfl sz_23 rfl (hb1.cells)) ?_
  refine RG.vl rfl rfl rfl (Ev.move rfl rfl) ?_
  refine RG.call rfl rfl rfl rfl rfl rfl rfl en_25 (places_ret s _ l _ ((hl.ext hE2)) hlen) ?_
  rintro _ w3 ⟨mp3, rfl, hmap3, hx3⟩
  replace hE2 := Ex.tr hE2 hx3
  have hE4 := hx3
  refine RG.vl rfl rfl rfl (Ev.move rfl rfl) ?_
  refine RG.vl rfl rfl rfl (Ev.extract rfl rfl rfl) ?_
  refine RG.vl rfl rfl rfl (Ev.extract rfl rfl rfl) ?_
  refine RG.vl rfl rfl rfl (Ev.assign rfl rfl) ?_
  refine RG.vl rfl rfl rfl (Ev.assign rfl rfl) ?_
  refine RG.done ?_
  refine QW.then_ ?_
  refine CW.seq ?_
  refine CW.seq ?_
  refine CW.region ?_
  refine RG.vl rfl rfl rfl (Ev.move rfl rfl) ?_
  refine RG.vl rfl rfl rfl (Ev.neI rfl rfl rfl) ?_
  refine RG.done ?_
  refine QW.then_ ?_
  refine CW.condP rfl (fun hc5 => ?_) (fun hc5 => ?_)
  · refine CW.seq ?_
    refine CW.region ?_
    refine RG.vl rfl rfl rfl (Ev.move rfl rfl) ?_
    refine RG.vl rfl rfl rfl (Ev.assign rfl rfl) ?_
    refine RG.vl rfl rfl rfl (Ev.assign rfl rfl) ?_
    refine RG.done ?_
    refine QW.sub (S' := [(2, _), (4, _), (5, _), (6, _)]) ⟨rfl, rfl, rfl, rfl, trivial⟩ ?_
    refine QW.then_ ?_
    refine CW.ret ?_
    refine QW.thenRet ?_
    refine QW.ret2 rfl rfl rfl ?_
    have hB := (Ex.tr hB0 hE2)
    exact ⟨by unfold readOf; rw [if_neg (by omega)], hB⟩
  · refine CW.skip ?_
    refine QW.then_ ?_
    refine CW.seq ?_
    have he0 : errOf s l = 0 := by omega
    obtain ⟨gm, rfl, hgm, hmp⟩ := hmap3 he0
    obtain ⟨hl4, hs, hin, hfit⟩ := (err0_iff s l).1 he0
    obtain ⟨a1, a2, a3, a4, a5, a6, a7, a8, a9, a10, a11⟩ := id hs
    refine CW.region ?_
    refine RG.vl rfl rfl rfl (Ev.ldAgg rfl rfl Try.underlying23 rfl sz_23 rfl ((hb1.ext hE4).cells)) ?_
    refine RG.call rfl rfl rfl rfl rfl rfl rfl en_26 (halfBy_ret s _) ?_
    rintro _ w6 ⟨gc6, rfl, hle6, hcb6, hx6⟩
    replace hE2 := Ex.tr hE2 hx6
    replace hE4 := Ex.tr hE4 hx6
    have hE7 := hx6
    refine RG.call rfl rfl rfl rfl rfl rfl rfl en_27 (letters_ret _) ?_
    rintro _ w8 ⟨rfl, hx8⟩
    replace hE2 := Ex.tr hE2 hx8
    replace hE4 := Ex.tr hE4 hx8
    replace hE7 := Ex.tr hE7 hx8
    have hE9 := hx8
    refine RG.alloc_ rfl rfl rfl rfl inf_73 (fun g10 w10 eg10 hx10 hb10 => ?_)
    have hle11 : w.heap.size ≤ g10 := by have := hE2.size; omega
    have hle12 : w1.heap.size ≤ g10 := by have := hE4.size; omega
    have hle13 : w3.heap.size ≤ g10 := by have := hE7.size; omega
    have hle14 : w6.heap.size ≤ g10 := by have := hE9.size; omega
    have hle15 : w8.heap.size ≤ g10 := by have := (Ex.rfl_ w8).size; omega
    have hlt16 : g1 < g10 := by have := Blk.lt (hb1.ext hE4); omega
    have hlt17 : gm < g10 := by have := Mp.lt (hmp.ext hE7); omega
    have hlt18 : gc6 < g10 := by have := Blk.lt (hcb6.ext hE9); omega
    replace hE2 := Ex.tr hE2 hx10
    replace hE4 := Ex.tr hE4 hx10
    replace hE7 := Ex.tr hE7 hx10
    replace hE9 := Ex.tr hE9 hx10
    refine RG.vl rfl rfl rfl (Ev.assign rfl rfl) ?_
    refine RG.stAll (g := g10) rfl rfl rfl rfl rfl sz_73 rfl rfl rfl hb10 (fun ws19 hwws19 hbws19 => ?_)
    replace hE2 := Wr.below hE2 hwws19 hle11
    replace hE4 := Wr.below hE4 hwws19 hle12
    replace hE7 := Wr.below hE7 hwws19 hle13
    replace hE9 := Wr.below hE9 hwws19 hle14
    refine RG.done ?_
    refine QW.sub (S' := [(2, _), (4, _), (5, _), (6, _), (8, _), (9, _)]) ⟨rfl, rfl, rfl, rfl, rfl, rfl, trivial⟩ ?_
    refine QW.then_ ?_
    refine CW.seq ?_
    refine CW.region ?_
    refine RG.vl rfl rfl rfl (Ev.fld rfl rfl fld_23_0) ?_
    refine RG.vl rfl rfl rfl (Ev.ldAt rfl rfl Try.underlying3 rfl ((hb1.ext hE4).cells) (rfl)) ?_
    replace hl := (hl.ext hE2)
    replace hb1 := (hb1.ext hE4)
    replace hmp := (hmp.ext hE7)
    replace hcb6 := (hcb6.ext hE9)
    have hR20 := (Ex.tr hB0 hE2)
    refine RG.make1 (m := s.pl.toNat) rfl rfl rfl rfl rfl rfl (by omega) Try.underlying52 inf_5 rfl (by omega) (by simp only [maxLen]; omega) (fun gT w21 egT hx21 hb21 => ?_)
    have hle22 : ws19.heap.size ≤ gT := by have := (Ex.rfl_ ws19).size; omega
    have hlt23 : g1 < gT := by have := Blk.lt hb1; omega
    have hlt24 : gm < gT := by have := Mp.lt hmp; omega
    have hlt25 : gc6 < gT := by have := Blk.lt hcb6; omega
    have hlt26 : g10 < gT := by have := Blk.lt hbws19; omega
    have hE27 := hx21
    refine RG.vl rfl rfl rfl (Ev.assign rfl rfl) ?_
    refine RG.done ?_
    refine QW.then_ ?_
    refine CW.seq ?_
    refine CW.seq ?_
    refine CW.region ?_
    refine RG.vl rfl rfl rfl (Ev.move rfl rfl) ?_
    refine RG.vl rfl rfl rfl (Ev.lenSlice rfl rfl rfl Try.underlying52) ?_
    refine RG.vl rfl rfl rfl (Ev.move rfl rfl) ?_
    refine RG.done ?_
    refine QW.then_ ?_
    refine CW.block ?_
    refine CW.loop1 [(4, _), (5, _), (6, _), (8, _), (9, _), (10, _), (30, _)] ⟨rfl, rfl, rfl, rfl, rfl, rfl, rfl, trivial⟩ (fun (k : Nat) => [(31, .int .i64 k)]) (fun k w' => (k ≤ s.pl.toNat ∧ Blk w' gT 5 (txt s l k)) ∧ Ex ws19 w') (fun k => s.pl.toNat - k) (0) ⟨rfl, trivial⟩ ⟨⟨Nat.zero_le _, by rw [← txt_zero]; exact hb21⟩, hE27⟩ ?_
    rintro k wl28 ⟨⟨hkp, hT⟩, hxwl28⟩
    refine CW.sub (S' := [(31, _), (4, _), (5, _), (6, _), (8, _), (9, _), (10, _), (30, _)]) ⟨rfl, rfl, rfl, rfl, rfl, rfl, rfl, rfl, trivial⟩ ?_
    refine CW.seq ?_
    refine CW.region ?_
    refine RG.vl rfl rfl rfl (Ev.lss rfl rfl rfl) ?_
    refine RG.done ?_
    refine QW.then_ ?_
    refine CW.seq ?_
    refine CW.condP rfl (fun hc29 => ?_) (fun hc29 => ?_)
    · refine CW.skip ?_
      refine QW.then_ ?_
      refine CW.seq ?_
      refine CW.block ?_
      refine CW.seq ?_
      refine CW.region ?_
      refine RG.vl rfl rfl rfl (Ev.move rfl rfl) ?_
      refine RG.vl rfl rfl rfl (Ev.assign rfl rfl) ?_
      refine RG.done ?_
      refine QW.then_ ?_
      refine CW.seq ?_
      refine CW.region ?_
      refine RG.vl rfl rfl rfl (Ev.move rfl rfl) ?_
      refine RG.vl rfl rfl rfl (Ev.move rfl rfl) ?_
      refine RG.vl rfl rfl rfl (Ev.idxA (i := 2) rfl rfl rfl Try.underlying73 sz_72 (by omega)) ?_
      refine RG.vl rfl rfl rfl (Ev.idxA (i := 2) rfl rfl rfl Try.underlying72 sz_5 (by omega)) ?_
      refine RG.vl rfl rfl rfl (Ev.ldAA rfl rfl Try.underlying5 rfl ((hbws19.ext hxwl28).cells) (rfl)) ?_
      refine RG.vl rfl rfl rfl (Ev.idxN rfl rfl rfl Try.underlying52 sz_5 (by omega)) ?_
      refine RG.st (g := gT) (k := _) rfl rfl rfl rfl rfl sz_5 rfl hT (by rw [Nat.blt_eq, txt_len]; omega) (fun ws30 hwws30 hbws30 => ?_)
      replace hxwl28 := Wr.below hxwl28 hwws30 hle22
      refine RG.done ?_
      refine QW.then_ ?_
      refine CW.seq ?_
      refine CW.region ?_
      refine RG.vl rfl rfl rfl (Ev.move rfl rfl) ?_
      refine RG.vl rfl rfl rfl (Ev.move rfl rfl) ?_
      refine RG.vl rfl rfl rfl ((Ev.lookOk keyI rfl rfl rfl (hmp.ext hxwl28) Try.underlying67 Try.underlying3 inf_48).conv (found_look s l _ hfit.1)) ?_
      refine RG.vl rfl rfl rfl (Ev.move rfl rfl) ?_
      refine RG.vl rfl rfl rfl (Ev.extract rfl rfl rfl) ?_
      refine RG.vl rfl rfl rfl (Ev.extract rfl rfl rfl) ?_
      refine RG.local_ rfl rfl rfl rfl (fun _ => rfl) rfl rfl (fun _ => rfl) inf_48 rfl rfl rfl (fun g31 w31 eg31 hx31 hb31 => ?_)
      have hle32 : ws19.heap.size ≤ g31 := by have := hxwl28.size; omega
      have hle33 : ws30.heap.size ≤ g31 := by have := (Ex.rfl_ ws30).size; omega
      have hlt34 : g1 < g31 := by have := Blk.lt (hb1.ext hxwl28); omega
      have hlt35 : gm < g31 := by have := Mp.lt (hmp.ext hxwl28); omega
      have hlt36 : gc6 < g31 := by have := Blk.lt (hcb6.ext hxwl28); omega
      have hlt37 : g10 < g31 := by have := Blk.lt (hbws19.ext hxwl28); omega
      have hlt38 : gT < g31 := by have := Blk.lt hbws30; omega
      replace hxwl28 := Ex.tr hxwl28 hx31
      have hE39 := hx31
      refine RG.vl rfl rfl rfl (Ev.assign rfl rfl) ?_
      refine RG.done ?_
      refine QW.sub (S' := [(4, _), (5, _), (6, _), (8, _), (9, _), (10, _), (11, _), (12, _), (13, _), (30, _), (31, _)]) ⟨rfl, rfl, rfl, rfl, rfl, rfl, rfl, rfl, rfl, rfl, rfl, trivial⟩ ?_
      refine QW.then_ ?_
      refine CW.seq ?_
      refine CW.region ?_
      refine RG.vl rfl rfl rfl (Ev.move rfl rfl) ?_
      refine RG.done ?_
      refine QW.then_ ?_
      refine CW.cond rfl (fun hc40 => ?_) (fun hc40 => ?_)
      · refine CW.draw [] (.row gT) 15 rfl mixed (fun wd41 hxwd41 => ?_)
        replace hxwl28 := Ex.tr hxwl28 hxwd41
        replace hE39 := Ex.tr hE39 hxwd41
        have hE42 := hxwd41
        refine AG.takeW 0 rfl (by kernel_rfl) (by kernel_rfl) rfl rfl rfl (fun _ => Ev.move rfl rfl) ?_
        refine AG.takeW 1 rfl (by kernel_rfl) (by kernel_rfl) rfl rfl rfl (fun _ => Ev.move rfl rfl) ?_
        refine AG.takeW 2 rfl (by kernel_rfl) (by kernel_rfl) rfl rfl rfl (fun _ => Ev.move rfl rfl) ?_
        refine AG.takeW 3 rfl (by kernel_rfl) (by kernel_rfl) rfl rfl rfl (fun _ => Ev.fld rfl rfl fld_48_1) ?_
        refine AG.take 4 rfl (by kernel_rfl) (by kernel_rfl) rfl rfl rfl (fun wq hq => Ev.ldAt rfl rfl Try.underlying3 rfl ((Blk.grown (hb31.ext hE42) hq (by simp; omega)).cells) (rfl)) ?_
        refine AG.takeW 6 rfl (by kernel_rfl) (by kernel_rfl) rfl rfl rfl (fun _ => Ev.move rfl rfl) ?_
        refine AG.takeW 7 rfl (by kernel_rfl) (by kernel_rfl) rfl rfl rfl (fun _ => Ev.fld rfl rfl fld_48_2) ?_
        refine AG.take 8 rfl (by kernel_rfl) (by kernel_rfl) rfl rfl rfl (fun wq hq => Ev.ldAt rfl rfl Try.underlying3 rfl ((Blk.grown (hb31.ext hE42) hq (by simp; omega)).cells) (rfl)) ?_
        refine AG.only 5 rfl (by kernel_rfl) ?_
        refine RG.call rfl rfl rfl rfl rfl rfl rfl en_37 (half_ret s _ gc6 _ (hcb6.ext hxwl28)) ?_
        rintro _ w44 ⟨rfl, hx44⟩
        replace hxwl28 := Ex.tr hxwl28 hx44
        replace hE39 := Ex.tr hE39 hx44
        replace hE42 := Ex.tr hE42 hx44
        have hE45 := hx44
        refine RG.done ?_
        refine QW.an (fun _ => Rr.of_ex hE45) ?_
        refine AG.takeW 10 rfl (by kernel_rfl) (by kernel_rfl) rfl rfl rfl (fun _ => Ev.idxA rfl rfl rfl Try.underlying73 sz_72 (half_lt _ _)) ?_
        refine AG.only 9 rfl (by kernel_rfl) ?_
        refine RG.call rfl rfl rfl rfl rfl rfl rfl en_37 (half_ret s _ gc6 _ (hcb6.ext hxwl28)) ?_
        rintro _ w47 ⟨rfl, hx47⟩
        replace hxwl28 := Ex.tr hxwl28 hx47
        replace hE39 := Ex.tr hE39 hx47
        replace hE42 := Ex.tr hE42 hx47
        have hE48 := hx47
        refine RG.done ?_
        refine QW.an (fun _ => Rr.of_ex hE48) ?_
        refine AG.takeW 11 rfl (by kernel_rfl) (by kernel_rfl) rfl rfl rfl (fun _ => Ev.idxA rfl rfl rfl Try.underlying72 sz_5 (half_lt _ _)) ?_
        refine AG.take 12 rfl (by kernel_rfl) (by kernel_rfl) rfl rfl rfl (fun wq hq => Ev.ldAA rfl rfl Try.underlying5 rfl ((Blk.grown (hbws19.ext hxwl28) hq (by simp; omega)).cells) (letter_tbl s _ (by omega))) ?_
        refine AG.takeW 13 rfl (by kernel_rfl) (by kernel_rfl) rfl rfl rfl (fun _ => Ev.idxN rfl rfl rfl Try.underlying52 sz_5 (by omega)) ?_
        refine AG.only 14 rfl (by kernel_rfl) ?_
        refine RG.st (g := gT) (k := _) rfl rfl rfl rfl rfl sz_5 rfl (hbws30.ext hE39) (by rw [Nat.blt_eq, List.length_set, txt_len]; omega) (fun ws50 hwws50 hbws50 => ?_)
        replace hb31 := Blk.far (hb31.ext hE42) hwws50 (by omega)
        replace hxwl28 := Wr.below hxwl28 hwws50 hle22
        refine RG.done ?_
        refine QW.an (fun _ => Rr.of_wr hwws50) ?_
        refine AG.done (by kernel_rfl) ?_
        refine QW.sub (S' := [(4, _), (5, _), (6, _), (8, _), (9, _), (10, _), (30, _), (31, _)]) ⟨rfl, rfl, rfl, rfl, rfl, rfl, rfl, rfl, trivial⟩ ?_
        refine QW.blockN ?_
        refine QW.then_ ?_
        refine CW.region ?_
        refine RG.vl rfl rfl rfl (Ev.addI rfl rfl rfl (by omega)) ?_
        refine RG.vl rfl rfl rfl (Ev.move rfl rfl) ?_
        refine RG.done ?_
        refine QW.round1 (k + 1) ⟨rfl, trivial⟩ ⟨rfl, rfl, rfl, rfl, rfl, rfl, rfl, trivial⟩ ⟨⟨by omega, by rw [← txt_set2 s l k (.int .u8 63) (.int .u8 (letter s (fb s l k)).toNat) (by rw [(letterAt_fb s l k (by assumption)).1])]; exact hbws50⟩, hxwl28⟩ (by omega)
      · refine CW.skip ?_
        refine QW.blockN ?_
        refine QW.then_ ?_
        refine CW.region ?_
        refine RG.vl rfl rfl rfl (Ev.addI rfl rfl rfl (by omega)) ?_
        refine RG.vl rfl rfl rfl (Ev.move rfl rfl) ?_
        refine RG.done ?_
        refine QW.round1 (k + 1) ⟨rfl, trivial⟩ ⟨rfl, rfl, rfl, rfl, rfl, rfl, rfl, trivial⟩ ⟨⟨by omega, by rw [← txt_set s l k (.int .u8 63) (by rw [letterAt_no s l k (by assumption)]; rfl)]; exact (hbws30.ext hE39)⟩, hxwl28⟩ (by omega)
    · refine CW.exit ?_
      refine QW.thenExit ?_
      refine QW.thenExit ?_
      refine QW.blockHit ?_
      refine QW.then_ ?_
      refine CW.seq ?_
      obtain rfl : k = s.pl.toNat := by omega
      have hT9 := txt_rd s l hT a2
      refine CW.region ?_
      refine RG.vl rfl rfl rfl (Ev.move rfl rfl) ?_
      refine RG.vl rfl rfl rfl (Ev.toStr rfl rfl Try.underlying52 Try.underlying5 Try.underlying9 (hT9)) ?_
      refine RG.vl rfl rfl rfl (Ev.assign rfl rfl) ?_
      refine RG.vl rfl rfl rfl (Ev.assign rfl rfl) ?_
      refine RG.done ?_
      refine QW.then_ ?_
      refine CW.ret ?_
      refine QW.ret2 rfl rfl rfl ?_
      have hB := (Ex.tr hR20 hxwl28)
      exact ⟨by unfold readOf; rw [if_pos he0, he0], hB⟩

set_option maxRecDepth 100000 in
set_option maxHeartbeats 1000000 in
theorem margin_ret (s : Su) (u : Value) (l : List Br) (w : World) (hl : RdL w 3 Br.c u l) (hlen : l.length ≤ 1000) :
    Ret Try.prog 11 [s.v, u] w (fun v w' => v = .tuple #[.int .i64 (marginR s l), .int .i64 (errOf s l)] ∧ Ex w w') := by
  have hB0 : Ex w w := Ex.rfl_ _
  refine Ret.of Try.func11 rfl Try.ntmps11 rfl ?_
  refine CW.seq ?_
  refine CW.region ?_
  refine RG.box rfl rfl rfl rfl rfl (fun g1 w1 eg1 hx1 hb1 => ?_)
  have hE2 := hx1
  refine RG.vl rfl rfl rfl (Ev.assign rfl rfl) ?_
  refine RG.vl rfl rfl rfl (Ev.assign rfl rfl) ?_
  refine RG.done ?_
  refine QW.then_ ?_
  refine CW.seq ?_
  refine CW.region ?_
  refine RG.vl rfl rfl rfl (Ev.ldAgg rfl rfl Try.underlying23 rfl sz_23 rfl (hb1.cells)) ?_
  refine RG.vl rfl rfl rfl (Ev.move rfl rfl) ?_
  refine RG.call rfl rfl rfl rfl rfl rfl rfl en_25 (places_ret s _ l _ ((hl.ext hE2)) hlen) ?_
  rintro _ w3 ⟨mp3, rfl, hmap3, hx3⟩
  replace hE2 := Ex.tr hE2 hx3
  have hE4 := hx3
  refine RG.vl rfl rfl rfl (Ev.move rfl rfl) ?_
  refine RG.vl rfl rfl rfl (Ev.extract rfl rfl rfl) ?_
  refine RG.vl rfl rfl rfl (Ev.extract rfl rfl rfl) ?_
  refine RG.vl rfl rfl rfl (Ev.assign rfl rfl) ?_
  refine RG.vl rfl rfl rfl (Ev.assign rfl rfl) ?_
  refine RG.done ?_
  refine QW.then_ ?_
  refine CW.seq ?_
  refine CW.seq ?_
  refine CW.region ?_
  refine RG.vl rfl rfl rfl (Ev.move rfl rfl) ?_
  refine RG.vl rfl rfl rfl (Ev.neI rfl rfl rfl) ?_
  refine RG.done ?_
  refine QW.then_ ?_
  refine CW.condP rfl (fun hc5 => ?_) (fun hc5 => ?_)
  · refine CW.seq ?_
    refine CW.region ?_
    refine RG.vl rfl rfl rfl (Ev.move rfl rfl) ?_
    refine RG.vl rfl rfl rfl (Ev.assign rfl rfl) ?_
    refine RG.vl rfl rfl rfl (Ev.assign rfl rfl) ?_
    refine RG.done ?_
    refine QW.sub (S' := [(2, _), (4, _), (5, _), (6, _)]) ⟨rfl, rfl, rfl, rfl, trivial⟩ ?_
    refine QW.then_ ?_
    refine CW.ret ?_
    refine QW.thenRet ?_
    refine QW.ret2 rfl rfl rfl ?_
    have hB := (Ex.tr hB0 hE2)
    exact ⟨by unfold marginR; rw [if_neg (by omega)], hB⟩
  · refine CW.skip ?_
    refine QW.then_ ?_
    refine CW.seq ?_
    have he0 : errOf s l = 0 := by omega
    obtain ⟨gm, rfl, hgm, hmp⟩ := hmap3 he0
    obtain ⟨hl4, hs, hin, hfit⟩ := (err0_iff s l).1 he0
    obtain ⟨a1, a2, a3, a4, a5, a6, a7, a8, a9, a10, a11⟩ := id hs
    refine CW.region ?_
    refine RG.vl rfl rfl rfl (Ev.ldAgg rfl rfl Try.underlying23 rfl sz_23 rfl ((hb1.ext hE4).cells)) ?_
    refine RG.call rfl rfl rfl rfl rfl rfl rfl en_26 (halfBy_ret s _) ?_
    rintro _ w6 ⟨gc6, rfl, hle6, hcb6, hx6⟩
    replace hE2 := Ex.tr hE2 hx6
    replace hE4 := Ex.tr hE4 hx6
    have hE7 := hx6
    refine RG.vl rfl rfl rfl (Ev.assign rfl rfl) ?_
    refine RG.done ?_
    refine QW.sub (S' := [(2, _), (4, _), (5, _), (6, _), (8, _)]) ⟨rfl, rfl, rfl, rfl, rfl, trivial⟩ ?_
    refine QW.then_ ?_
    refine CW.seq ?_
    refine CW.region ?_
    refine RG.vl rfl rfl rfl (Ev.assign rfl rfl) ?_
    refine RG.done ?_
    refine QW.then_ ?_
    refine CW.seq ?_
    refine CW.seq ?_
    refine CW.region ?_
    refine RG.vl rfl rfl rfl (Ev.move rfl rfl) ?_
    replace hl := (hl.ext hE2)
    replace hb1 := (hb1.ext hE4)
    replace hmp := (hmp.ext hE7)
    have hR9 := (Ex.tr hB0 hE2)
    refine RG.mRange rfl rfl rfl rfl rfl Try.underlying67 hmp (fun gI w8 egI hx8 hb8 => ?_)
    have hle10 : w6.heap.size ≤ gI := by have := (Ex.rfl_ w6).size; omega
    have hlt11 : g1 < gI := by have := Blk.lt hb1; omega
    have hlt12 : gm < gI := by have := Mp.lt hmp; omega
    have hlt13 : gc6 < gI := by have := Blk.lt hcb6; omega
    have hE14 := hx8
    refine RG.done ?_
    refine QW.then_ ?_
    refine CW.block ?_
    refine CW.loop2 [(2, _), (4, _), (5, _), (8, _), (27, _)] ⟨rfl, rfl, rfl, rfl, rfl, trivial⟩ (fun (seen : List Nat) (m : Int) => [(9, .int .i64 m)]) (fun seen m w' => (seen.Nodup ∧ (∀ i ∈ seen, i < l.length) ∧ m = seenMin s l seen ∧ It w' gI gm (foundOf s l).length seen) ∧ Ex w6 w') (fun seen m => l.length - seen.length) ([]) (1048576) ⟨rfl, trivial⟩ ⟨⟨List.nodup_nil, by simp, rfl, hb8⟩, hE14⟩ ?_
    rintro seen m wl15 ⟨⟨hnd, hlt, hm, hit⟩, hxwl15⟩
    refine CW.sub (S' := [(9, _), (2, _), (4, _), (5, _), (8, _), (27, _)]) ⟨rfl, rfl, rfl, rfl, rfl, rfl, trivial⟩ ?_
    refine CW.seq ?_
    refine CW.region ?_
    refine RG.mNext rfl rfl rfl rfl rfl (hmp.ext hxwl15) hit (by omega) (fun hall => ?_) (fun ix kx vx wn16 hp hns hwn16 hiwn16 hmwn16 => ?_)
    · refine RG.vl rfl rfl rfl (Ev.extract rfl rfl rfl) ?_
      refine RG.done ?_
      refine QW.then_ ?_
      refine CW.seq ?_
      refine CW.condF rfl ?_
      refine CW.exit ?_
      refine QW.thenExit ?_
      refine QW.thenExit ?_
      refine QW.blockHit ?_
      refine QW.then_ ?_
      refine CW.seq ?_
      refine CW.region ?_
      refine RG.vl rfl rfl rfl (Ev.move rfl rfl) ?_
      refine RG.vl rfl rfl rfl (Ev.assign rfl rfl) ?_
      refine RG.vl rfl rfl rfl (Ev.assign rfl rfl) ?_
      refine RG.done ?_
      refine QW.then_ ?_
      refine CW.ret ?_
      refine QW.ret2 rfl rfl rfl ?_
      have hB := (Ex.tr hR9 hxwl15)
      exact ⟨by unfold marginR; rw [if_pos he0, hm, seen_all s l seen hnd hlt (by rw [found_len] at hall; exact hall), he0], hB⟩
    · replace hxwl15 := Wr.below hxwl15 hwn16 hle10
      refine RG.vl rfl rfl rfl (Ev.extract rfl rfl rfl) ?_
      refine RG.done ?_
      refine QW.then_ ?_
      refine CW.seq ?_
      refine CW.condT rfl ?_
      refine CW.skip ?_
      refine QW.then_ ?_
      refine CW.block ?_
      refine CW.seq ?_
      obtain ⟨b, hb, hq, rfl⟩ := found_at s l ix kx vx hfit.1 hp
      obtain ⟨b1, b2, b3, b4, b5, b6⟩ := hin b (List.mem_of_getElem? hb)
      obtain ⟨q1, q2⟩ := plc_range s b kx hs hq
      have hkp := kpi s kx hs q1 (by omega)
      have hnd2 : (seen ++ [ix]).Nodup := by rw [List.nodup_append]; exact ⟨hnd, by simp, fun a ha c hc e => by simp at hc; subst hc; subst e; exact hns ha⟩
      have hlt2 : ∀ i ∈ seen ++ [ix], i < l.length := fun i hi => by rcases List.mem_append.1 hi with h | h; exact hlt i h; simp at h; subst h; exact (List.getElem?_eq_some_iff.1 hb).1
      have hln := nodup_len hnd2 hlt2
      rw [List.length_append, List.length_singleton] at hln
      refine CW.region ?_
      refine RG.vl rfl rfl rfl (Ev.mEntry rfl rfl hmwn16 hiwn16 hp) ?_
      refine RG.vl rfl rfl rfl (Ev.extract rfl rfl rfl) ?_
      refine RG.vl rfl rfl rfl (Ev.extract rfl rfl rfl) ?_
      refine RG.alloc_ rfl rfl rfl rfl inf_48 (fun g17 w17 eg17 hx17 hb17 => ?_)
      have hle18 : w6.heap.size ≤ g17 := by have := hxwl15.size; omega
      have hle19 : wn16.heap.size ≤ g17 := by have := (Ex.rfl_ wn16).size; omega
      have hlt20 : g1 < g17 := by have := Blk.lt (hb1.ext hxwl15); omega
      have hlt21 : gm < g17 := by have := Mp.lt hmwn16; omega
      have hlt22 : gc6 < g17 := by have := Blk.lt (hcb6.ext hxwl15); omega
      have hlt23 : gI < g17 := by have := It.lt hiwn16; omega
      replace hxwl15 := Ex.tr hxwl15 hx17
      have hE24 := hx17
      refine RG.vl rfl rfl rfl (Ev.assign rfl rfl) ?_
      refine RG.stAll (g := g17) rfl rfl rfl rfl rfl sz_48 rfl rfl rfl hb17 (fun ws25 hwws25 hbws25 => ?_)
      replace hxwl15 := Wr.below hxwl15 hwws25 hle18
      replace hE24 := Wr.below hE24 hwws25 hle19
      refine RG.done ?_
      refine QW.then_ ?_
      refine CW.seq ?_
      refine CW.region ?_
      refine RG.vl rfl rfl rfl (Ev.fld rfl rfl fld_48_0) ?_
      refine RG.vl rfl rfl rfl (Ev.ldAt rfl rfl Try.underlying3 rfl (hbws25.cells) (rfl)) ?_
      refine RG.vl rfl rfl rfl (Ev.fld rfl rfl fld_23_1) ?_
      refine RG.vl rfl rfl rfl (Ev.ldAt rfl rfl Try.underlying3 rfl ((hb1.ext hxwl15).cells) (rfl)) ?_
      refine RG.vl rfl rfl rfl (Ev.move rfl rfl) ?_
      refine RG.vl rfl rfl rfl (Ev.fld rfl rfl fld_23_2) ?_
      refine RG.vl rfl rfl rfl (Ev.ldAt rfl rfl Try.underlying3 rfl ((hb1.ext hxwl15).cells) (rfl)) ?_
      refine RG.vl rfl rfl rfl (Ev.mulI rfl rfl rfl (by omega)) ?_
      refine RG.vl rfl rfl rfl (Ev.addI rfl rfl rfl (by omega)) ?_
      refine RG.vl rfl rfl rfl (Ev.subI rfl rfl rfl (by omega)) ?_
      refine RG.vl rfl rfl rfl (Ev.assign rfl rfl) ?_
      refine RG.done ?_
      refine QW.sub (S' := [(2, _), (4, _), (5, _), (8, _), (9, _), (11, _), (12, _), (27, _)]) ⟨rfl, rfl, rfl, rfl, rfl, rfl, rfl, rfl, trivial⟩ ?_
      refine QW.then_ ?_
      refine CW.seq ?_
      refine CW.region ?_
      refine RG.vl rfl rfl rfl (Ev.move rfl rfl) ?_
      refine RG.vl rfl rfl rfl (Ev.fld rfl rfl fld_23_3) ?_
      refine RG.vl rfl rfl rfl (Ev.ldAt rfl rfl Try.underlying3 rfl ((hb1.ext hxwl15).cells) (rfl)) ?_
      refine RG.vl rfl rfl rfl (Ev.move rfl rfl) ?_
      refine RG.vl rfl rfl rfl (Ev.move rfl rfl) ?_
      refine RG.vl rfl rfl rfl (Ev.negI rfl rfl (by omega)) ?_
      refine RG.vl rfl rfl rfl (Ev.max2 rfl rfl rfl rfl) ?_
      refine RG.vl rfl rfl rfl (Ev.subI rfl rfl rfl (by omega)) ?_
      refine RG.vl rfl rfl rfl (Ev.min2 rfl rfl rfl rfl) ?_
      refine RG.vl rfl rfl rfl (Ev.assign rfl rfl) ?_
      refine RG.done ?_
      refine QW.then_ ?_
      refine CW.seq ?_
      refine CW.region ?_
      refine RG.vl rfl rfl rfl (Ev.fld rfl rfl fld_48_1) ?_
      refine RG.vl rfl rfl rfl (Ev.ldAt rfl rfl Try.underlying3 rfl (hbws25.cells) (rfl)) ?_
      refine RG.vl rfl rfl rfl (Ev.fld rfl rfl fld_48_2) ?_
      refine RG.vl rfl rfl rfl (Ev.ldAt rfl rfl Try.underlying3 rfl (hbws25.cells) (rfl)) ?_
      refine RG.vl rfl rfl rfl (Ev.buildA (xs := [.tmp 53, .tmp 55]) rfl rfl rfl rfl Try.underlying76 sz_3 inf_76 rfl rfl) ?_
      refine RG.vl rfl rfl rfl (Ev.move rfl rfl) ?_
      refine RG.done ?_
      refine QW.sub (S' := [(2, _), (4, _), (5, _), (8, _), (9, _), (27, _), (56, _), (57, _)]) ⟨rfl, rfl, rfl, rfl, rfl, rfl, rfl, rfl, trivial⟩ ?_
      refine QW.then_ ?_
      refine CW.block ?_
      replace hl := (hl.ext hxwl15)
      replace hb1 := (hb1.ext hxwl15)
      replace hmwn16 := (hmwn16.ext hE24)
      replace hcb6 := (hcb6.ext hxwl15)
      replace hiwn16 := (hiwn16.ext hE24)
      have hR26 := (Ex.tr hR9 hxwl15)
      have hR27 := hxwl15
      refine CW.loop2 [(2, _), (4, _), (5, _), (8, _), (27, _), (56, _)] ⟨rfl, rfl, rfl, rfl, rfl, rfl, trivial⟩ (fun (j : Nat) (x : Int) => [(57, .int .i64 j), (9, .int .i64 x)]) (fun j x w' => (j ≤ 2 ∧ x = ([b.up, b.dn].take j).foldl (fun m h => min m (room s h)) (min m (posB s b kx))) ∧ Ex ws25 w') (fun j x => 2 - j) (0) (_) ⟨rfl, rfl, trivial⟩ ⟨⟨by omega, by simp only [List.take_zero, List.foldl_nil]; unfold posB; omega⟩, (Ex.rfl_ _)⟩ ?_
      rintro j x wl28 ⟨⟨hj, hx⟩, hxwl28⟩
      refine CW.sub (S' := [(57, _), (9, _), (2, _), (4, _), (5, _), (8, _), (27, _), (56, _)]) ⟨rfl, rfl, rfl, rfl, rfl, rfl, rfl, rfl, trivial⟩ ?_
      refine CW.seq ?_
      refine CW.region ?_
      refine RG.vl rfl rfl rfl (Ev.lss rfl rfl rfl) ?_
      refine RG.done ?_
      refine QW.then_ ?_
      refine CW.seq ?_
      refine CW.condP rfl (fun hc29 => ?_) (fun hc29 => ?_)
      · refine CW.skip ?_
        refine QW.then_ ?_
        refine CW.seq ?_
        refine CW.block ?_
        refine CW.seq ?_
        obtain ⟨h, hh2, hh, hh3, hh4⟩ : ∃ h, [b.up, b.dn][j]? = some h ∧ [Value.int .i64 b.up, .int .i64 b.dn][j]? = some (.int .i64 h) ∧ 0 ≤ h ∧ h ≤ 1048576 := by rcases (show j = 0 ∨ j = 1 by omega) with rfl | rfl; exact ⟨_, rfl, rfl, by omega, by omega⟩; exact ⟨_, rfl, rfl, by omega, by omega⟩
        refine CW.region ?_
        refine RG.vl rfl rfl rfl (Ev.idxArr rfl rfl rfl Try.underlying76 Try.underlying3 rfl sz_3 (by omega) (hh)) ?_
        refine RG.vl rfl rfl rfl (Ev.assign rfl rfl) ?_
        refine RG.done ?_
        refine QW.then_ ?_
        refine CW.seq ?_
        refine CW.region ?_
        refine RG.vl rfl rfl rfl (Ev.move rfl rfl) ?_
        refine RG.vl rfl rfl rfl (Ev.move rfl rfl) ?_
        refine RG.call rfl rfl rfl rfl rfl rfl rfl en_37 (half_ret s _ gc6 _ (hcb6.ext hxwl28)) ?_
        rintro _ w30 ⟨rfl, hx30⟩
        replace hxwl28 := Ex.tr hxwl28 hx30
        refine RG.done ?_
        refine QW.then_ ?_
        refine CW.block ?_
        refine CW.seq ?_
        refine CW.region ?_
        refine RG.vl rfl rfl rfl (Ev.eqI rfl rfl rfl) ?_
        refine RG.vl rfl rfl rfl (Ev.assign rfl rfl) ?_
        refine RG.done ?_
        refine QW.then_ ?_
        refine CW.condP rfl (fun hc31 => ?_) (fun hc31 => ?_)
        · refine CW.region ?_
          refine RG.vl rfl rfl rfl (Ev.move rfl rfl) ?_
          refine RG.vl rfl rfl rfl (Ev.fld rfl rfl fld_23_4) ?_
          refine RG.vl rfl rfl rfl (Ev.ldAt rfl rfl Try.underlying3 rfl ((hb1.ext hxwl28).cells) (rfl)) ?_
          refine RG.vl rfl rfl rfl (Ev.move rfl rfl) ?_
          refine RG.vl rfl rfl rfl (Ev.subI rfl rfl rfl (by omega)) ?_
          refine RG.vl rfl rfl rfl (Ev.min2 rfl rfl rfl rfl) ?_
          refine RG.vl rfl rfl rfl (Ev.assign rfl rfl) ?_
          refine RG.done ?_
          refine QW.sub (S' := [(2, _), (4, _), (5, _), (8, _), (9, _), (27, _), (56, _), (57, _)]) ⟨rfl, rfl, rfl, rfl, rfl, rfl, rfl, rfl, trivial⟩ ?_
          refine QW.blockN ?_
          refine QW.blockN ?_
          refine QW.then_ ?_
          refine CW.region ?_
          refine RG.vl rfl rfl rfl (Ev.addI rfl rfl rfl (by omega)) ?_
          refine RG.vl rfl rfl rfl (Ev.move rfl rfl) ?_
          refine RG.done ?_
          refine QW.round2 (j + 1) (min x (s.lo - h)) ⟨rfl, rfl, trivial⟩ ⟨rfl, rfl, rfl, rfl, rfl, rfl, trivial⟩ ⟨⟨by omega, by rw [take_snoc _ j h hh2, List.foldl_append, ← hx]; show _ = min x (room s h); rw [half0 s h (by assumption)]⟩, hxwl28⟩ (by omega)
        · refine CW.seq ?_
          refine CW.region ?_
          refine RG.vl rfl rfl rfl (Ev.eqI rfl rfl rfl) ?_
          refine RG.vl rfl rfl rfl (Ev.assign rfl rfl) ?_
          refine RG.done ?_
          refine QW.then_ ?_
          refine CW.condP rfl (fun hc32 => ?_) (fun hc32 => ?_)
          · refine CW.region ?_
            refine RG.vl rfl rfl rfl (Ev.move rfl rfl) ?_
            refine RG.vl rfl rfl rfl (Ev.move rfl rfl) ?_
            refine RG.vl rfl rfl rfl (Ev.fld rfl rfl fld_23_5) ?_
            refine RG.vl rfl rfl rfl (Ev.ldAt rfl rfl Try.underlying3 rfl ((hb1.ext hxwl28).cells) (rfl)) ?_
            refine RG.vl rfl rfl rfl (Ev.subI rfl rfl rfl (by omega)) ?_
            refine RG.vl rfl rfl rfl (Ev.min2 rfl rfl rfl rfl) ?_
            refine RG.vl rfl rfl rfl (Ev.assign rfl rfl) ?_
            refine RG.done ?_
            refine QW.sub (S' := [(2, _), (4, _), (5, _), (8, _), (9, _), (27, _), (56, _), (57, _)]) ⟨rfl, rfl, rfl, rfl, rfl, rfl, rfl, rfl, trivial⟩ ?_
            refine QW.blockN ?_
            refine QW.blockN ?_
            refine QW.then_ ?_
            refine CW.region ?_
            refine RG.vl rfl rfl rfl (Ev.addI rfl rfl rfl (by omega)) ?_
            refine RG.vl rfl rfl rfl (Ev.move rfl rfl) ?_
            refine RG.done ?_
            refine QW.round2 (j + 1) (min x (h - s.hi)) ⟨rfl, rfl, trivial⟩ ⟨rfl, rfl, rfl, rfl, rfl, rfl, trivial⟩ ⟨⟨by omega, by rw [take_snoc _ j h hh2, List.foldl_append, ← hx]; show _ = min x (room s h); rw [half1 s h (by assumption)]⟩, hxwl28⟩ (by omega)
          · refine CW.region ?_
            refine RG.vl rfl rfl rfl (Ev.move rfl rfl) ?_
            refine RG.vl rfl rfl rfl (Ev.fld rfl rfl fld_23_5) ?_
            refine RG.vl rfl rfl rfl (Ev.ldAt rfl rfl Try.underlying3 rfl ((hb1.ext hxwl28).cells) (rfl)) ?_
            refine RG.vl rfl rfl rfl (Ev.subI rfl rfl rfl (by omega)) ?_
            refine RG.vl rfl rfl rfl (Ev.move rfl rfl) ?_
            refine RG.vl rfl rfl rfl (Ev.subI rfl rfl rfl (by omega)) ?_
            refine RG.vl rfl rfl rfl (Ev.move rfl rfl) ?_
            refine RG.vl rfl rfl rfl (Ev.fld rfl rfl fld_23_4) ?_
            refine RG.vl rfl rfl rfl (Ev.ldAt rfl rfl Try.underlying3 rfl ((hb1.ext hxwl28).cells) (rfl)) ?_
            refine RG.vl rfl rfl rfl (Ev.addI rfl rfl rfl (by omega)) ?_
            refine RG.vl rfl rfl rfl (Ev.subI rfl rfl rfl (by omega)) ?_
            refine RG.vl rfl rfl rfl (Ev.min3 rfl rfl rfl rfl rfl) ?_
            refine RG.vl rfl rfl rfl (Ev.assign rfl rfl) ?_
            refine RG.done ?_
            refine QW.sub (S' := [(2, _), (4, _), (5, _), (8, _), (9, _), (27, _), (56, _), (57, _)]) ⟨rfl, rfl, rfl, rfl, rfl, rfl, rfl, rfl, trivial⟩ ?_
            refine QW.blockN ?_
            refine QW.blockN ?_
            refine QW.then_ ?_
            refine CW.region ?_
            refine RG.vl rfl rfl rfl (Ev.addI rfl rfl rfl (by omega)) ?_
            refine RG.vl rfl rfl rfl (Ev.move rfl rfl) ?_
            refine RG.done ?_
            refine QW.round2 (j + 1) (_) ⟨rfl, rfl, trivial⟩ ⟨rfl, rfl, rfl, rfl, rfl, rfl, trivial⟩ ⟨⟨by omega, by rw [take_snoc _ j h hh2, List.foldl_append, ← hx]; show _ = min x (room s h); rw [half2 s h (by assumption) (by assumption)]; omega⟩, hxwl28⟩ (by omega)
      · refine CW.exit ?_
        refine QW.thenExit ?_
        refine QW.thenExit ?_
        refine QW.blockHit ?_
        refine QW.blockN ?_
        refine QW.round2 (seen ++ [ix]) (x) ⟨rfl, trivial⟩ ⟨rfl, rfl, rfl, rfl, rfl, trivial⟩ ⟨⟨hnd2, hlt2, by have e : j = 2 := (by omega); subst e; simp only [List.take, List.foldl] at hx; rw [seen_snoc s l seen ix b hb, ← hm, hx]; unfold roomB; rw [hq]; simp only; omega, (hiwn16.ext hxwl28)⟩, (Ex.tr hR27 hxwl28)⟩ (by rw [List.length_append, List.length_singleton]; omega)

set_option maxRecDepth 100000 in
set_option maxHeartbeats 1000000 in
theorem draw_ret (s : Su) (t : ByteArray) (w : World) (hlen : t.size ≤ 1000) :
    Ret Try.prog 18 [s.v, .string t] w (fun v w' => ∃ u, v = .tuple #[u, .int .i64 (drawErr s t.data.toList)] ∧ RdL w' 3 Br.c u (drawOf s t.data.toList) ∧ Ex w w') := by
  have hB0 : Ex w w := Ex.rfl_ _
  refine Ret.of Try.func18 rfl Try.ntmps18 rfl ?_
  refine CW.seq ?_
  refine CW.region ?_
  refine RG.box rfl rfl rfl rfl rfl (fun g1 w1 eg1 hx1 hb1 => ?_)
  have hE2 := hx1
  refine RG.vl rfl rfl rfl (Ev.assign rfl rfl) ?_
  refine RG.vl rfl rfl rfl (Ev.assign rfl rfl) ?_
  refine RG.done ?_
  refine QW.then_ ?_
  refine CW.seq ?_
  refine CW.seq ?_
  refine CW.region ?_
  refine RG.vl rfl rfl rfl (Ev.ldAgg rfl rfl Try.underlying23 rfl sz_23 rfl (hb1.cells)) ?_
  refine RG.call rfl rfl rfl rfl rfl rfl rfl en_15 (right_ret _ _) ?_
  rintro _ w3 ⟨rfl, hx3⟩
  replace hE2 := Ex.tr hE2 hx3
  have hE4 := hx3
  refine RG.vl rfl rfl rfl (Ev.notP rfl rfl) ?_
  refine RG.vl rfl rfl rfl (Ev.move rfl rfl) ?_
  refine RG.split (d := 15) rfl (fun hg5 => ?_) (fun hg5 => ?_)
  · refine RG.pass rfl rfl rfl ?_
    refine RG.pass rfl rfl rfl ?_
    refine RG.pass rfl rfl rfl ?_
    refine RG.pass rfl rfl rfl ?_
    refine RG.pass rfl rfl rfl ?_
    refine RG.vl rfl rfl rfl (Ev.pickT rfl rfl rfl) ?_
    refine RG.done ?_
    refine QW.then_ ?_
    refine CW.condT rfl ?_
    refine CW.seq ?_
    refine CW.region ?_
    refine RG.vl rfl rfl rfl (Ev.assign rfl rfl) ?_
    refine RG.vl rfl rfl rfl (Ev.assign rfl rfl) ?_
    refine RG.done ?_
    refine QW.sub (S' := [(1, _), (2, _), (4, _), (5, _)]) ⟨rfl, rfl, rfl, rfl, trivial⟩ ?_
    refine QW.then_ ?_
    refine CW.ret ?_
    refine QW.thenRet ?_
    refine QW.ret2 rfl rfl rfl ?_
    have hB := (Ex.tr hB0 hE2)
    obtain ⟨e1, e2⟩ := drawErr_bad s t.data.toList (by rintro ⟨h1, h2, _⟩; first | exact absurd h1 (by assumption) | (rw [Array.length_toList] at h2; exact absurd (show (t.size : Int) = s.pl from h2) (by assumption)))
    exact ⟨_, by rw [e1], by rw [e2]; exact RdL.nil_ _, hB⟩
  · refine RG.vl rfl rfl rfl (Ev.move rfl rfl) ?_
    refine RG.vl rfl rfl rfl (Ev.lenStr rfl rfl rfl Try.underlying9) ?_
    refine RG.vl rfl rfl rfl (Ev.fld rfl rfl fld_23_0) ?_
    refine RG.vl rfl rfl rfl (Ev.ldAt rfl rfl Try.underlying3 rfl ((hb1.ext hE4).cells) (rfl)) ?_
    refine RG.vl rfl rfl rfl (Ev.neI rfl rfl rfl) ?_
    refine RG.vl rfl rfl rfl (Ev.pickF rfl rfl rfl) ?_
    refine RG.done ?_
    refine QW.then_ ?_
    refine CW.condP rfl (fun hc6 => ?_) (fun hc6 => ?_)
    · refine CW.seq ?_
      refine CW.region ?_
      refine RG.vl rfl rfl rfl (Ev.assign rfl rfl) ?_
      refine RG.vl rfl rfl rfl (Ev.assign rfl rfl) ?_
      refine RG.done ?_
      refine QW.sub (S' := [(1, _), (2, _), (4, _), (5, _)]) ⟨rfl, rfl, rfl, rfl, trivial⟩ ?_
      refine QW.then_ ?_
      refine CW.ret ?_
      refine QW.thenRet ?_
      refine QW.ret2 rfl rfl rfl ?_
      have hB := (Ex.tr hB0 hE2)
      obtain ⟨e1, e2⟩ := drawErr_bad s t.data.toList (by rintro ⟨h1, h2, _⟩; first | exact absurd h1 (by assumption) | (rw [Array.length_toList] at h2; exact absurd (show (t.size : Int) = s.pl from h2) (by assumption)))
      exact ⟨_, by rw [e1], by rw [e2]; exact RdL.nil_ _, hB⟩
    · refine CW.skip ?_
      refine QW.then_ ?_
      refine CW.seq ?_
      have hs : Okay s := Decidable.not_not.1 (by assumption)
      obtain ⟨a1, a2, a3, a4, a5, a6, a7, a8, a9, a10, a11⟩ := id hs
      have hlz : t.data.toList.length = t.size := Array.length_toList
      refine CW.region ?_
      refine RG.mkMap (fun b : Bool => Value.bool b) rfl rfl rfl rfl (fun gH w7 egH hx7 hb7 => ?_)
      have hle8 : w.heap.size ≤ gH := by have := hE2.size; omega
      have hle9 : w1.heap.size ≤ gH := by have := hE4.size; omega
      have hle10 : w3.heap.size ≤ gH := by have := (Ex.rfl_ w3).size; omega
      have hlt11 : g1 < gH := by have := Blk.lt (hb1.ext hE4); omega
      replace hE2 := Ex.tr hE2 hx7
      replace hE4 := Ex.tr hE4 hx7
      refine RG.vl rfl rfl rfl (Ev.fld rfl rfl fld_23_4) ?_
      refine RG.vl rfl rfl rfl (Ev.ldAt rfl rfl Try.underlying3 rfl ((hb1.ext hE4).cells) (rfl)) ?_
      refine RG.mapPut keyB rfl rfl (.inr rfl) rfl rfl rfl Try.underlying81 Try.underlying4 hb7 (rfl) (fun wm12 hwm12 hbwm12 => ?_)
      replace hE2 := Wr.below hE2 hwm12 hle8
      replace hE4 := Wr.below hE4 hwm12 hle9
      refine RG.vl rfl rfl rfl (Ev.fld rfl rfl fld_23_5) ?_
      refine RG.vl rfl rfl rfl (Ev.ldAt rfl rfl Try.underlying3 rfl ((hb1.ext hE4).cells) (rfl)) ?_
      refine RG.mapPut keyB rfl rfl (.inr rfl) rfl rfl rfl Try.underlying81 Try.underlying4 hbwm12 (rfl) (fun wm13 hwm13 hbwm13 => ?_)
      replace hE2 := Wr.below hE2 hwm13 hle8
      replace hE4 := Wr.below hE4 hwm13 hle9
      refine RG.vl rfl rfl rfl (Ev.move rfl rfl) ?_
      refine RG.vl rfl rfl rfl (Ev.assign rfl rfl) ?_
      refine RG.done ?_
      refine QW.sub (S' := [(1, _), (2, _), (4, _), (5, _), (6, _)]) ⟨rfl, rfl, rfl, rfl, rfl, trivial⟩ ?_
      refine QW.then_ ?_
      refine CW.seq ?_
      refine CW.region ?_
      refine RG.vl rfl rfl rfl (Ev.assign rfl rfl) ?_
      refine RG.done ?_
      refine QW.then_ ?_
      refine CW.seq ?_
      refine CW.seq ?_
      refine CW.region ?_
      refine RG.vl rfl rfl rfl (Ev.move rfl rfl) ?_
      refine RG.toBytes rfl rfl rfl rfl rfl Try.underlying9 Try.underlying52 Try.underlying5 (by simp only [maxLen]; omega) (fun v14 wk15 hxwk15 hrwk15 => ?_)
      replace hE2 := Ex.tr hE2 hxwk15
      replace hE4 := Ex.tr hE4 hxwk15
      have hE16 := hxwk15
      refine RG.vl rfl rfl rfl (Ev.lenL rfl rfl rfl Try.underlying52 (hrwk15)) ?_
      refine RG.vl rfl rfl rfl (Ev.move rfl rfl) ?_
      refine RG.done ?_
      refine QW.then_ ?_
      refine CW.block ?_
      replace hb1 := (hb1.ext hE4)
      replace hbwm13 := (hbwm13.ext hE16)
      have hR17 := (Ex.tr hB0 hE2)
      refine CW.loop2 [(2, _), (6, _), (29, _), (30, _)] ⟨rfl, rfl, rfl, rfl, trivial⟩ (fun (k : Nat) (u : Value) => [(31, .int .i64 k), (7, u)]) (fun k u w' => (k ≤ t.size ∧ w'.ownsRow wk15.heap.size 48 3 u (drawL s (t.data.toList.take k) 0).length ((drawL s (t.data.toList.take k) 0).flatMap Br.c) ∧ (t.data.toList.take k).all okLetter = true) ∧ Ex wk15 w') (fun k u => t.size - k) (0) (.slice none 0 0) ⟨rfl, rfl, trivial⟩ ⟨⟨Nat.zero_le _, own_nil _ _ _ _, rfl⟩, (Ex.rfl_ _)⟩ ?_
      rintro k u wl18 ⟨⟨hkl, hown, hall⟩, hxwl18⟩
      refine CW.sub (S' := [(31, _), (7, _), (2, _), (6, _), (29, _), (30, _)]) ⟨rfl, rfl, rfl, rfl, rfl, rfl, trivial⟩ ?_
      refine CW.seq ?_
      refine CW.region ?_
      refine RG.vl rfl rfl rfl (Ev.lss rfl rfl rfl) ?_
      refine RG.done ?_
      refine QW.then_ ?_
      refine CW.seq ?_
      refine CW.condP rfl (fun hc19 => ?_) (fun hc19 => ?_)
      · refine CW.skip ?_
        refine QW.then_ ?_
        refine CW.seq ?_
        refine CW.block ?_
        refine CW.seq ?_
        obtain ⟨c, hc⟩ : ∃ c, t.data.toList[k]? = some c := ⟨_, List.getElem?_eq_getElem (by omega)⟩
        have hkp := kpi s k hs (by omega) (by omega)
        have hdl := drawL_len s (t.data.toList.take k) 0
        rw [List.length_take] at hdl
        refine CW.region ?_
        refine RG.vl rfl rfl rfl (Ev.move rfl rfl) ?_
        refine RG.idxL rfl rfl rfl rfl rfl rfl Try.underlying52 sz_5 ((hrwk15.ext hxwl18)) (hc) (fun p20 hp20b hp20 => ?_)
        refine RG.vl rfl rfl rfl (Ev.ld0 rfl rfl Try.underlying5 rfl (hp20) (rfl)) ?_
        refine RG.vl rfl rfl rfl (Ev.assign rfl rfl) ?_
        refine RG.vl rfl rfl rfl (Ev.assign rfl rfl) ?_
        refine RG.done ?_
        refine QW.then_ ?_
        refine CW.seq ?_
        refine CW.seq ?_
        refine CW.region ?_
        refine RG.vl rfl rfl rfl (Ev.move rfl rfl) ?_
        refine RG.call rfl rfl rfl rfl rfl rfl rfl en_32 (idxb1_ret _ _ _) ?_
        rintro _ w21 ⟨rfl, hx21⟩
        replace hxwl18 := Ex.tr hxwl18 hx21
        have hE22 := hx21
        refine RG.vl rfl rfl rfl (Ev.lss rfl rfl rfl) ?_
        refine RG.done ?_
        refine QW.then_ ?_
        refine CW.condP rfl (fun hc23 => ?_) (fun hc23 => ?_)
        · refine CW.seq ?_
          refine CW.region ?_
          refine RG.vl rfl rfl rfl (Ev.assign rfl rfl) ?_
          refine RG.vl rfl rfl rfl (Ev.assign rfl rfl) ?_
          refine RG.done ?_
          refine QW.then_ ?_
          refine CW.ret ?_
          refine QW.thenRet ?_
          refine QW.blockR ?_
          refine QW.thenRet ?_
          refine QW.thenRet ?_
          refine QW.blockR ?_
          refine QW.thenRet ?_
          refine QW.ret2 rfl rfl rfl ?_
          have hB := (Ex.tr hR17 hxwl18)
          obtain ⟨e1, e2⟩ := drawErr_bad s t.data.toList (by rintro ⟨_, _, h3⟩; have := (List.all_eq_true.1 h3) c (List.mem_of_getElem? hc); rw [(idx_letters c).1 (by assumption)] at this; cases this)
          exact ⟨_, by rw [e1], by rw [e2]; exact RdL.nil_ _, hB⟩
        · refine CW.skip ?_
          refine QW.then_ ?_
          refine CW.seq ?_
          refine CW.region ?_
          refine RG.vl rfl rfl rfl (Ev.move rfl rfl) ?_
          refine RG.vl rfl rfl rfl (Ev.neI rfl rfl rfl) ?_
          refine RG.done ?_
          refine QW.then_ ?_
          refine CW.condP rfl (fun hc24 => ?_) (fun hc24 => ?_)
          · refine CW.seq ?_
            refine CW.region ?_
            refine RG.vl rfl rfl rfl (Ev.move rfl rfl) ?_
            refine RG.vl rfl rfl rfl (Ev.eqI rfl rfl rfl) ?_
            refine RG.vl rfl rfl rfl (Ev.move rfl rfl) ?_
            refine RG.split (d := 43) rfl (fun hg25 => ?_) (fun hg25 => ?_)
            · refine RG.pass rfl rfl rfl ?_
              refine RG.pass rfl rfl rfl ?_
              refine RG.vl rfl rfl rfl (Ev.pickT rfl rfl rfl) ?_
              refine RG.vl rfl rfl rfl (Ev.move rfl rfl) ?_
              refine RG.vl rfl rfl rfl (Ev.eqI rfl rfl rfl) ?_
              refine RG.vl rfl rfl rfl (Ev.move rfl rfl) ?_
              refine RG.split (d := 49) rfl (fun hg26 => ?_) (fun hg26 => ?_)
              · refine RG.pass rfl rfl rfl ?_
                refine RG.pass rfl rfl rfl ?_
                refine RG.vl rfl rfl rfl (Ev.pickT rfl rfl rfl) ?_
                refine RG.vl rfl rfl rfl (Ev.assign rfl rfl) ?_
                refine RG.vl rfl rfl rfl (Ev.assign rfl rfl) ?_
                refine RG.done ?_
                refine QW.sub (S' := [(2, _), (6, _), (7, _), (8, _), (10, _), (11, _), (29, _), (30, _), (31, _)]) ⟨rfl, rfl, rfl, rfl, rfl, rfl, rfl, rfl, rfl, trivial⟩ ?_
                refine QW.then_ ?_
                refine CW.region ?_
                refine RG.vl rfl rfl rfl (Ev.move rfl rfl) ?_
                refine RG.vl rfl rfl rfl (Ev.fld rfl rfl fld_23_1) ?_
                refine RG.vl rfl rfl rfl (Ev.ldAt rfl rfl Try.underlying3 rfl ((hb1.ext hxwl18).cells) (rfl)) ?_
                refine RG.vl rfl rfl rfl (Ev.move rfl rfl) ?_
                refine RG.vl rfl rfl rfl (Ev.fld rfl rfl fld_23_2) ?_
                refine RG.vl rfl rfl rfl (Ev.ldAt rfl rfl Try.underlying3 rfl ((hb1.ext hxwl18).cells) (rfl)) ?_
                refine RG.vl rfl rfl rfl (Ev.mulI rfl rfl rfl (by omega)) ?_
                refine RG.vl rfl rfl rfl (Ev.addI rfl rfl rfl (by omega)) ?_
                refine RG.vl rfl rfl rfl (Ev.move rfl rfl) ?_
                refine RG.vl rfl rfl rfl (Ev.move rfl rfl) ?_
                refine RG.vl rfl rfl rfl ((Ev.look1 keyB rfl rfl rfl (hbwm13.ext hxwl18) Try.underlying81 Try.underlying4 inf_3).conv (hts_look s.lo s.hi _)) ?_
                refine RG.vl rfl rfl rfl (Ev.move rfl rfl) ?_
                refine RG.vl rfl rfl rfl (Ev.move rfl rfl) ?_
                refine RG.vl rfl rfl rfl ((Ev.look1 keyB rfl rfl rfl (hbwm13.ext hxwl18) Try.underlying81 Try.underlying4 inf_3).conv (hts_look s.lo s.hi _)) ?_
                refine RG.vl rfl rfl rfl (Ev.build1 rfl rfl rfl inf_48 rfl rfl (by kernel_rfl) rfl) ?_
                refine RG.buildD (xs := [.tmp 67]) rfl rfl rfl rfl rfl rfl rfl Try.underlying24 inf_48 rfl rfl rfl rfl (fun g27 w27 eg27 hx27 hb27 => ?_)
                have hsep28 := own_new (own_ext hown hE22) eg27
                replace hxwl18 := Ex.tr hxwl18 hx27
                replace hE22 := Ex.tr hE22 hx27
                refine RG.app rfl rfl rfl rfl rfl rfl rfl Try.underlying24 inf_48 rfl rfl (own_ext hown hE22) rfl (fun _ => ⟨_, rfl, hb27.cells⟩) rfl (by simp only [maxLen]; omega) (by omega) (hxwl18.size) (fun v29 wa30 hown31 hgr32 hat33 => ?_)
                have hb34 := Blk.grown hb27 hgr32 hsep28.symm
                have hsep35 := sep_app hat33 hsep28 (Blk.lt hb27)
                replace hxwl18 := own_block (own_ext hown hE22) hxwl18 hgr32 (Nat.le_refl _) hxwl18.size
                refine RG.vl rfl rfl rfl (Ev.assign rfl rfl) ?_
                refine RG.done ?_
                refine QW.sub (S' := [(2, _), (6, _), (7, _), (29, _), (30, _), (31, _)]) ⟨rfl, rfl, rfl, rfl, rfl, rfl, trivial⟩ ?_
                refine QW.blockN ?_
                refine QW.then_ ?_
                refine CW.region ?_
                refine RG.vl rfl rfl rfl (Ev.addI rfl rfl rfl (by omega)) ?_
                refine RG.vl rfl rfl rfl (Ev.move rfl rfl) ?_
                refine RG.done ?_
                refine QW.round2 (k + 1) (v29) ⟨rfl, rfl, trivial⟩ ⟨rfl, rfl, rfl, rfl, trivial⟩ ⟨⟨by omega, by rw [drawL_step s _ k c hc (fun e => absurd (show (c.toNat : Int) = 63 by rw [e]; rfl) (by assumption)), mkb_eq s c k (true) (true) (selT c 65 (by assumption)) (selT c 68 (by assumption)), List.length_append, List.flatMap_append]; exact hown31, all_snoc _ k c _ hc hall (by have := mt (idx_letters c).2 (by assumption); simpa using this)⟩, hxwl18⟩ (by omega)
              · refine RG.vl rfl rfl rfl (Ev.move rfl rfl) ?_
                refine RG.vl rfl rfl rfl (Ev.eqI rfl rfl rfl) ?_
                refine RG.vl rfl rfl rfl (Ev.pickF rfl rfl rfl) ?_
                refine RG.vl rfl rfl rfl (Ev.assign rfl rfl) ?_
                refine RG.vl rfl rfl rfl (Ev.assign rfl rfl) ?_
                refine RG.done ?_
                refine QW.sub (S' := [(2, _), (6, _), (7, _), (8, _), (10, _), (11, _), (29, _), (30, _), (31, _)]) ⟨rfl, rfl, rfl, rfl, rfl, rfl, rfl, rfl, rfl, trivial⟩ ?_
                refine QW.then_ ?_
                refine CW.region ?_
                refine RG.vl rfl rfl rfl (Ev.move rfl rfl) ?_
                refine RG.vl rfl rfl rfl (Ev.fld rfl rfl fld_23_1) ?_
                refine RG.vl rfl rfl rfl (Ev.ldAt rfl rfl Try.underlying3 rfl ((hb1.ext hxwl18).cells) (rfl)) ?_
                refine RG.vl rfl rfl rfl (Ev.move rfl rfl) ?_
                refine RG.vl rfl rfl rfl (Ev.fld rfl rfl fld_23_2) ?_
                refine RG.vl rfl rfl rfl (Ev.ldAt rfl rfl Try.underlying3 rfl ((hb1.ext hxwl18).cells) (rfl)) ?_
                refine RG.vl rfl rfl rfl (Ev.mulI rfl rfl rfl (by omega)) ?_
                refine RG.vl rfl rfl rfl (Ev.addI rfl rfl rfl (by omega)) ?_
                refine RG.vl rfl rfl rfl (Ev.move rfl rfl) ?_
                refine RG.vl rfl rfl rfl (Ev.move rfl rfl) ?_
                refine RG.vl rfl rfl rfl ((Ev.look1 keyB rfl rfl rfl (hbwm13.ext hxwl18) Try.underlying81 Try.underlying4 inf_3).conv (hts_look s.lo s.hi _)) ?_
                refine RG.vl rfl rfl rfl (Ev.move rfl rfl) ?_
                refine RG.vl rfl rfl rfl (Ev.move rfl rfl) ?_
                refine RG.vl rfl rfl rfl ((Ev.look1 keyB rfl rfl rfl (hbwm13.ext hxwl18) Try.underlying81 Try.underlying4 inf_3).conv (hts_look s.lo s.hi _)) ?_
                refine RG.vl rfl rfl rfl (Ev.build1 rfl rfl rfl inf_48 rfl rfl (by kernel_rfl) rfl) ?_
                refine RG.buildD (xs := [.tmp 67]) rfl rfl rfl rfl rfl rfl rfl Try.underlying24 inf_48 rfl rfl rfl rfl (fun g36 w36 eg36 hx36 hb36 => ?_)
                have hsep37 := own_new (own_ext hown hE22) eg36
                replace hxwl18 := Ex.tr hxwl18 hx36
                replace hE22 := Ex.tr hE22 hx36
                refine RG.app rfl rfl rfl rfl rfl rfl rfl Try.underlying24 inf_48 rfl rfl (own_ext hown hE22) rfl (fun _ => ⟨_, rfl, hb36.cells⟩) rfl (by simp only [maxLen]; omega) (by omega) (hxwl18.size) (fun v38 wa39 hown40 hgr41 hat42 => ?_)
                have hb43 := Blk.grown hb36 hgr41 hsep37.symm
                have hsep44 := sep_app hat42 hsep37 (Blk.lt hb36)
                replace hxwl18 := own_block (own_ext hown hE22) hxwl18 hgr41 (Nat.le_refl _) hxwl18.size
                refine RG.vl rfl rfl rfl (Ev.assign rfl rfl) ?_
                refine RG.done ?_
                refine QW.sub (S' := [(2, _), (6, _), (7, _), (29, _), (30, _), (31, _)]) ⟨rfl, rfl, rfl, rfl, rfl, rfl, trivial⟩ ?_
                refine QW.blockN ?_
                refine QW.then_ ?_
                refine CW.region ?_
                refine RG.vl rfl rfl rfl (Ev.addI rfl rfl rfl (by omega)) ?_
                refine RG.vl rfl rfl rfl (Ev.move rfl rfl) ?_
                refine RG.done ?_
                refine QW.round2 (k + 1) (v38) ⟨rfl, rfl, trivial⟩ ⟨rfl, rfl, rfl, rfl, trivial⟩ ⟨⟨by omega, by rw [drawL_step s _ k c hc (fun e => absurd (show (c.toNat : Int) = 63 by rw [e]; rfl) (by assumption)), mkb_eq s c k (true) (decide ((c.toNat : Int) = 70)) (selT c 65 (by assumption)) (selF c 68 (by assumption)), List.length_append, List.flatMap_append]; exact hown40, all_snoc _ k c _ hc hall (by have := mt (idx_letters c).2 (by assumption); simpa using this)⟩, hxwl18⟩ (by omega)
            · refine RG.vl rfl rfl rfl (Ev.move rfl rfl) ?_
              refine RG.vl rfl rfl rfl (Ev.eqI rfl rfl rfl) ?_
              refine RG.vl rfl rfl rfl (Ev.pickF rfl rfl rfl) ?_
              refine RG.vl rfl rfl rfl (Ev.move rfl rfl) ?_
              refine RG.vl rfl rfl rfl (Ev.eqI rfl rfl rfl) ?_
              refine RG.vl rfl rfl rfl (Ev.move rfl rfl) ?_
              refine RG.split (d := 49) rfl (fun hg45 => ?_) (fun hg45 => ?_)
              · refine RG.pass rfl rfl rfl ?_
                refine RG.pass rfl rfl rfl ?_
                refine RG.vl rfl rfl rfl (Ev.pickT rfl rfl rfl) ?_
                refine RG.vl rfl rfl rfl (Ev.assign rfl rfl) ?_
                refine RG.vl rfl rfl rfl (Ev.assign rfl rfl) ?_
                refine RG.done ?_
                refine QW.sub (S' := [(2, _), (6, _), (7, _), (8, _), (10, _), (11, _), (29, _), (30, _), (31, _)]) ⟨rfl, rfl, rfl, rfl, rfl, rfl, rfl, rfl, rfl, trivial⟩ ?_
                refine QW.then_ ?_
                refine CW.region ?_
                refine RG.vl rfl rfl rfl (Ev.move rfl rfl) ?_
                refine RG.vl rfl rfl rfl (Ev.fld rfl rfl fld_23_1) ?_
                refine RG.vl rfl rfl rfl (Ev.ldAt rfl rfl Try.underlying3 rfl ((hb1.ext hxwl18).cells) (rfl)) ?_
                refine RG.vl rfl rfl rfl (Ev.move rfl rfl) ?_
                refine RG.vl rfl rfl rfl (Ev.fld rfl rfl fld_23_2) ?_
                refine RG.vl rfl rfl rfl (Ev.ldAt rfl rfl Try.underlying3 rfl ((hb1.ext hxwl18).cells) (rfl)) ?_
                refine RG.vl rfl rfl rfl (Ev.mulI rfl rfl rfl (by omega)) ?_
                refine RG.vl rfl rfl rfl (Ev.addI rfl rfl rfl (by omega)) ?_
                refine RG.vl rfl rfl rfl (Ev.move rfl rfl) ?_
                refine RG.vl rfl rfl rfl (Ev.move rfl rfl) ?_
                refine RG.vl rfl rfl rfl ((Ev.look1 keyB rfl rfl rfl (hbwm13.ext hxwl18) Try.underlying81 Try.underlying4 inf_3).conv (hts_look s.lo s.hi _)) ?_
                refine RG.vl rfl rfl rfl (Ev.move rfl rfl) ?_
                refine RG.vl rfl rfl rfl (Ev.move rfl rfl) ?_
                refine RG.vl rfl rfl rfl ((Ev.look1 keyB rfl rfl rfl (hbwm13.ext hxwl18) Try.underlying81 Try.underlying4 inf_3).conv (hts_look s.lo s.hi _)) ?_
                refine RG.vl rfl rfl rfl (Ev.build1 rfl rfl rfl inf_48 rfl rfl (by kernel_rfl) rfl) ?_
                refine RG.buildD (xs := [.tmp 67]) rfl rfl rfl rfl rfl rfl rfl Try.underlying24 inf_48 rfl rfl rfl rfl (fun g46 w46 eg46 hx46 hb46 => ?_)
                have hsep47 := own_new (own_ext hown hE22) eg46
                replace hxwl18 := Ex.tr hxwl18 hx46
                replace hE22 := Ex.tr hE22 hx46
                refine RG.app rfl rfl rfl rfl rfl rfl rfl Try.underlying24 inf_48 rfl rfl (own_ext hown hE22) rfl (fun _ => ⟨_, rfl, hb46.cells⟩) rfl (by simp only [maxLen]; omega) (by omega) (hxwl18.size) (fun v48 wa49 hown50 hgr51 hat52 => ?_)
                have hb53 := Blk.grown hb46 hgr51 hsep47.symm
                have hsep54 := sep_app hat52 hsep47 (Blk.lt hb46)
                replace hxwl18 := own_block (own_ext hown hE22) hxwl18 hgr51 (Nat.le_refl _) hxwl18.size
                refine RG.vl rfl rfl rfl (Ev.assign rfl rfl) ?_
                refine RG.done ?_
                refine QW.sub (S' := [(2, _), (6, _), (7, _), (29, _), (30, _), (31, _)]) ⟨rfl, rfl, rfl, rfl, rfl, rfl, trivial⟩ ?_
                refine QW.blockN ?_
                refine QW.then_ ?_
                refine CW.region ?_
                refine RG.vl rfl rfl rfl (Ev.addI rfl rfl rfl (by omega)) ?_
                refine RG.vl rfl rfl rfl (Ev.move rfl rfl) ?_
                refine RG.done ?_
                refine QW.round2 (k + 1) (v48) ⟨rfl, rfl, trivial⟩ ⟨rfl, rfl, rfl, rfl, trivial⟩ ⟨⟨by omega, by rw [drawL_step s _ k c hc (fun e => absurd (show (c.toNat : Int) = 63 by rw [e]; rfl) (by assumption)), mkb_eq s c k (decide ((c.toNat : Int) = 70)) (true) (selF c 65 (by assumption)) (selT c 68 (by assumption)), List.length_append, List.flatMap_append]; exact hown50, all_snoc _ k c _ hc hall (by have := mt (idx_letters c).2 (by assumption); simpa using this)⟩, hxwl18⟩ (by omega)
              · refine RG.vl rfl rfl rfl (Ev.move rfl rfl) ?_
                refine RG.vl rfl rfl rfl (Ev.eqI rfl rfl rfl) ?_
                refine RG.vl rfl rfl rfl (Ev.pickF rfl rfl rfl) ?_
                refine RG.vl rfl rfl rfl (Ev.assign rfl rfl) ?_
                refine RG.vl rfl rfl rfl (Ev.assign rfl rfl) ?_
                refine RG.done ?_
                refine QW.sub (S' := [(2, _), (6, _), (7, _), (8, _), (10, _), (11, _), (29, _), (30, _), (31, _)]) ⟨rfl, rfl, rfl, rfl, rfl, rfl, rfl, rfl, rfl, trivial⟩ ?_
                refine QW.then_ ?_
                refine CW.region ?_
                refine RG.vl rfl rfl rfl (Ev.move rfl rfl) ?_
                refine RG.vl rfl rfl rfl (Ev.fld rfl rfl fld_23_1) ?_
                refine RG.vl rfl rfl rfl (Ev.ldAt rfl rfl Try.underlying3 rfl ((hb1.ext hxwl18).cells) (rfl)) ?_
                refine RG.vl rfl rfl rfl (Ev.move rfl rfl) ?_
                refine RG.vl rfl rfl rfl (Ev.fld rfl rfl fld_23_2) ?_
                refine RG.vl rfl rfl rfl (Ev.ldAt rfl rfl Try.underlying3 rfl ((hb1.ext hxwl18).cells) (rfl)) ?_
                refine RG.vl rfl rfl rfl (Ev.mulI rfl rfl rfl (by omega)) ?_
                refine RG.vl rfl rfl rfl (Ev.addI rfl rfl rfl (by omega)) ?_
                refine RG.vl rfl rfl rfl (Ev.move rfl rfl) ?_
                refine RG.vl rfl rfl rfl (Ev.move rfl rfl) ?_
                refine RG.vl rfl rfl rfl ((Ev.look1 keyB rfl rfl rfl (hbwm13.ext hxwl18) Try.underlying81 Try.underlying4 inf_3).conv (hts_look s.lo s.hi _)) ?_
                refine RG.vl rfl rfl rfl (Ev.move rfl rfl) ?_
                refine RG.vl rfl rfl rfl (Ev.move rfl rfl) ?_
                refine RG.vl rfl rfl rfl ((Ev.look1 keyB rfl rfl rfl (hbwm13.ext hxwl18) Try.underlying81 Try.underlying4 inf_3).conv (hts_look s.lo s.hi _)) ?_
                refine RG.vl rfl rfl rfl (Ev.build1 rfl rfl rfl inf_48 rfl rfl (by kernel_rfl) rfl) ?_
                refine RG.buildD (xs := [.tmp 67]) rfl rfl rfl rfl rfl rfl rfl Try.underlying24 inf_48 rfl rfl rfl rfl (fun g55 w55 eg55 hx55 hb55 => ?_)
                have hsep56 := own_new (own_ext hown hE22) eg55
                replace hxwl18 := Ex.tr hxwl18 hx55
                replace hE22 := Ex.tr hE22 hx55
                refine RG.app rfl rfl rfl rfl rfl rfl rfl Try.underlying24 inf_48 rfl rfl (own_ext hown hE22) rfl (fun _ => ⟨_, rfl, hb55.cells⟩) rfl (by simp only [maxLen]; omega) (by omega) (hxwl18.size) (fun v57 wa58 hown59 hgr60 hat61 => ?_)
                have hb62 := Blk.grown hb55 hgr60 hsep56.symm
                have hsep63 := sep_app hat61 hsep56 (Blk.lt hb55)
                replace hxwl18 := own_block (own_ext hown hE22) hxwl18 hgr60 (Nat.le_refl _) hxwl18.size
                refine RG.vl rfl rfl rfl (Ev.assign rfl rfl) ?_
                refine RG.done ?_
                refine QW.sub (S' := [(2, _), (6, _), (7, _), (29, _), (30, _), (31, _)]) ⟨rfl, rfl, rfl, rfl, rfl, rfl, trivial⟩ ?_
                refine QW.blockN ?_
                refine QW.then_ ?_
                refine CW.region ?_
                refine RG.vl rfl rfl rfl (Ev.addI rfl rfl rfl (by omega)) ?_
                refine RG.vl rfl rfl rfl (Ev.move rfl rfl) ?_
                refine RG.done ?_
                refine QW.round2 (k + 1) (v57) ⟨rfl, rfl, trivial⟩ ⟨rfl, rfl, rfl, rfl, trivial⟩ ⟨⟨by omega, by rw [drawL_step s _ k c hc (fun e => absurd (show (c.toNat : Int) = 63 by rw [e]; rfl) (by assumption)), mkb_eq s c k (decide ((c.toNat : Int) = 70)) (decide ((c.toNat : Int) = 70)) (selF c 65 (by assumption)) (selF c 68 (by assumption)), List.length_append, List.flatMap_append]; exact hown59, all_snoc _ k c _ hc hall (by have := mt (idx_letters c).2 (by assumption); simpa using this)⟩, hxwl18⟩ (by omega)
          · refine CW.skip ?_
            refine QW.blockN ?_
            refine QW.then_ ?_
            refine CW.region ?_
            refine RG.vl rfl rfl rfl (Ev.addI rfl rfl rfl (by omega)) ?_
            refine RG.vl rfl rfl rfl (Ev.move rfl rfl) ?_
            refine RG.done ?_
            refine QW.round2 (k + 1) (u) ⟨rfl, rfl, trivial⟩ ⟨rfl, rfl, rfl, rfl, trivial⟩ ⟨⟨by omega, by rw [drawL_skip s _ k c hc (byte_eq (d := 63) (Decidable.not_not.1 (by assumption)))]; exact (own_ext hown hE22), all_snoc _ k c _ hc hall (by have := mt (idx_letters c).2 (by assumption); simpa using this)⟩, hxwl18⟩ (by omega)
      · refine CW.exit ?_
        refine QW.thenExit ?_
        refine QW.thenExit ?_
        refine QW.blockHit ?_
        refine QW.then_ ?_
        refine CW.seq ?_
        refine CW.region ?_
        refine RG.vl rfl rfl rfl (Ev.move rfl rfl) ?_
        refine RG.vl rfl rfl rfl (Ev.assign rfl rfl) ?_
        refine RG.vl rfl rfl rfl (Ev.assign rfl rfl) ?_
        refine RG.done ?_
        refine QW.then_ ?_
        refine CW.ret ?_
        refine QW.ret2 rfl rfl rfl ?_
        have hB := (Ex.tr hR17 hxwl18)
        have e : k = t.data.toList.length := by omega
        rw [e, List.take_length] at hown hall
        obtain ⟨e1, e2⟩ := drawErr_ok s t.data.toList ⟨hs, by omega, hall⟩
        exact ⟨_, by rw [e1], by rw [e2]; exact RdL.of_own Br.c_len hown, hB⟩

end Go.Proofs.Ytnecppiamecemaa
