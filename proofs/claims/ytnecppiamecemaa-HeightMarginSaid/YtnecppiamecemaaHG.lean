/- Walks (HG). Written by program. -/
import Derived.Test.YtnecppiamecemaaT
import Derived.Test.YtnecppiamecemaaHF
namespace Go.Proofs.Ytnecppiamecemaa
open Go.RowKit
set_option maxRecDepth 100000 in
set_option maxHeartbeats 1000000 in
theorem read_ret (s : Su) (u : Value) (l : List Br) (w : World) (hl : RdL w 3 Br.c u l) (hlen : l.length ≤ 1000) :
    Ret Try.prog 10 [s.v, u] w (fun v w' => v = .tuple #[.string ⟨(readOf s l).toArray⟩, .int .i64 (errOf s l)] ∧ Ex w w') := by
  have hB0 : Ex w w := Ex.rfl_ _
  refine Ret.of Try.func10 rfl Try.ntmps10 rfl ?_
  refine CW.seq ?_
  refine CW.region ?_
  refine RG.box rfl rfl rfl rfl rfl (fun g1 w1 eg1 hx1 hb1 => ?_)
  have hle2 : w.heap.size ≤ g1 := by have := (Ex.rfl_ w).size; omega
  have hE3 := hx1
  refine RG.vl rfl rfl rfl (Ev.assign rfl rfl) ?_
  refine RG.vl rfl rfl rfl (Ev.assign rfl rfl) ?_
  refine RG.done ?_
  refine QW.then_ ?_
  refine CW.seq ?_
  refine CW.region ?_
  refine RG.vl rfl rfl rfl (Ev.ldAgg rfl rfl Try.underlying23 rfl sz_23 rfl (hb1.cells)) ?_
  refine RG.vl rfl rfl rfl (Ev.move rfl rfl) ?_
  refine RG.call rfl rfl rfl rfl rfl rfl rfl en_25 (places_ret s _ l _ ((hl.ext hE3)) hlen) ?_
  rintro _ w4 ⟨mp4, rfl, hmap4, hx4⟩
  replace hE3 := Ex.tr hE3 hx4
  have hE5 := hx4
  refine RG.vl rfl rfl rfl (Ev.move rfl rfl) ?_
  refine RG.vl rfl rfl rfl (Ev.extract rfl rfl rfl) ?_
  refine RG.vl rfl rfl rfl (Ev.extract rfl rfl rfl) ?_
  refine RG.vl rfl rfl rfl (Ev.assign rfl rfl) ?_
  refine RG.vl rfl rfl rfl (Ev.assign rfl rfl) ?_
  refine RG.done ?_
  refine QW.then_ ?_
  refine CW.seq ?_
  refine CW.seq ?_
  refine CW.region ?_
  refine RG.vl rfl rfl rfl (Ev.move rfl rfl) ?_
  refine RG.vl rfl rfl rfl (Ev.neI rfl rfl rfl) ?_
  refine RG.done ?_
  refine QW.then_ ?_
  refine CW.condP rfl (fun hc6 => ?_) (fun hc6 => ?_)
  · refine CW.seq ?_
    refine CW.region ?_
    refine RG.vl rfl rfl rfl (Ev.move rfl rfl) ?_
    refine RG.vl rfl rfl rfl (Ev.assign rfl rfl) ?_
    refine RG.vl rfl rfl rfl (Ev.assign rfl rfl) ?_
    refine RG.done ?_
    refine QW.sub (S' := [(2, _), (4, _), (5, _), (6, _)]) ⟨rfl, rfl, rfl, rfl, trivial⟩ ?_
    refine QW.then_ ?_
    refine CW.ret ?_
    refine QW.thenRet ?_
    refine QW.ret2 rfl rfl rfl ?_
    have hB := (Ex.tr hB0 hE3)
    exact ⟨by unfold readOf; rw [if_neg (by omega)], hB⟩
  · refine CW.skip ?_
    refine QW.then_ ?_
    refine CW.seq ?_
    have he0 : errOf s l = 0 := by omega
    obtain ⟨gm, rfl, hgm, hmp⟩ := hmap4 he0
    obtain ⟨hl4, hs, hin, hfit⟩ := (err0_iff s l).1 he0
    obtain ⟨a1, a2, a3, a4, a5, a6, a7, a8, a9, a10, a11⟩ := id hs
    refine CW.region ?_
    refine RG.vl rfl rfl rfl (Ev.ldAgg rfl rfl Try.underlying23 rfl sz_23 rfl ((hb1.ext hE5).cells)) ?_
    refine RG.call rfl rfl rfl rfl rfl rfl rfl en_26 (halfBy_ret s _) ?_
    rintro _ w7 ⟨gc7, rfl, hle7, hcb7, hx7⟩
    replace hE3 := Ex.tr hE3 hx7
    replace hE5 := Ex.tr hE5 hx7
    have hE8 := hx7
    refine RG.call rfl rfl rfl rfl rfl rfl rfl en_27 (letters_ret _) ?_
    rintro _ w9 ⟨rfl, hx9⟩
    replace hE3 := Ex.tr hE3 hx9
    replace hE5 := Ex.tr hE5 hx9
    replace hE8 := Ex.tr hE8 hx9
    have hE10 := hx9
    refine RG.alloc_ rfl rfl rfl rfl inf_73 (fun g11 w11 eg11 hx11 hb11 => ?_)
    have hle12 : w.heap.size ≤ g11 := by have := hE3.size; omega
    have hle13 : w1.heap.size ≤ g11 := by have := hE5.size; omega
    have hle14 : w4.heap.size ≤ g11 := by have := hE8.size; omega
    have hle15 : w7.heap.size ≤ g11 := by have := hE10.size; omega
    have hle16 : w9.heap.size ≤ g11 := by have := (Ex.rfl_ w9).size; omega
    have hlt17 : g1 < g11 := by have := Blk.lt (hb1.ext hE5); omega
    have hlt18 : gm < g11 := by have := Mp.lt (hmp.ext hE8); omega
    have hlt19 : gc7 < g11 := by have := Blk.lt (hcb7.ext hE10); omega
    replace hE3 := Ex.tr hE3 hx11
    replace hE5 := Ex.tr hE5 hx11
    replace hE8 := Ex.tr hE8 hx11
    replace hE10 := Ex.tr hE10 hx11
    refine RG.vl rfl rfl rfl (Ev.assign rfl rfl) ?_
    refine RG.stAll (g := g11) rfl rfl rfl rfl rfl sz_73 rfl rfl rfl hb11 (fun ws20 hwws20 hbws20 => ?_)
    replace hE3 := Wr.below hE3 hwws20 hle12
    replace hE5 := Wr.below hE5 hwws20 hle13
    replace hE8 := Wr.below hE8 hwws20 hle14
    replace hE10 := Wr.below hE10 hwws20 hle15
    refine RG.done ?_
    refine QW.sub (S' := [(2, _), (4, _), (5, _), (6, _), (8, _), (9, _)]) ⟨rfl, rfl, rfl, rfl, rfl, rfl, trivial⟩ ?_
    refine QW.then_ ?_
    refine CW.seq ?_
    refine CW.region ?_
    refine RG.vl rfl rfl rfl (Ev.fld rfl rfl fld_23_0) ?_
    refine RG.vl rfl rfl rfl (Ev.ldAt rfl rfl Try.underlying3 rfl ((hb1.ext hE5).cells) (rfl)) ?_
    replace hl := (hl.ext hE3)
    replace hb1 := (hb1.ext hE5)
    replace hmp := (hmp.ext hE8)
    replace hcb7 := (hcb7.ext hE10)
    have hR21 := (Ex.tr hB0 hE3)
    have hR22 := hE5
    have hR23 := hE8
    have hR24 := hE10
    refine RG.make1 (m := s.pl.toNat) rfl rfl rfl rfl rfl rfl (by omega) Try.underlying52 inf_5 rfl (by omega) (by simp only [maxLen]; omega) (fun gT w25 egT hx25 hb25 => ?_)
    have hle26 : ws20.heap.size ≤ gT := by have := (Ex.rfl_ ws20).size; omega
    have hlt27 : g1 < gT := by have := Blk.lt hb1; omega
    have hlt28 : gm < gT := by have := Mp.lt hmp; omega
    have hlt29 : gc7 < gT := by have := Blk.lt hcb7; omega
    have hlt30 : g11 < gT := by have := Blk.lt hbws20; omega
    have hE31 := hx25
    refine RG.vl rfl rfl rfl (Ev.assign rfl rfl) ?_
    refine RG.done ?_
    refine QW.then_ ?_
    refine CW.seq ?_
    refine CW.seq ?_
    refine CW.region ?_
    refine RG.vl rfl rfl rfl (Ev.move rfl rfl) ?_
    refine RG.vl rfl rfl rfl (Ev.lenSlice rfl rfl rfl Try.underlying52) ?_
    refine RG.vl rfl rfl rfl (Ev.move rfl rfl) ?_
    refine RG.done ?_
    refine QW.then_ ?_
    refine CW.block ?_
    refine CW.loop1 [(4, _), (5, _), (6, _), (8, _), (9, _), (10, _), (30, _)] ⟨rfl, rfl, rfl, rfl, rfl, rfl, rfl, trivial⟩ (fun (k : Nat) => [(31, .int .i64 k)]) (fun k w' => (k ≤ s.pl.toNat ∧ Blk w' gT 5 (txt s l k)) ∧ Ex ws20 w') (fun k => s.pl.toNat - k) (0) ⟨rfl, trivial⟩ ⟨⟨Nat.zero_le _, by rw [← txt_zero]; exact hb25⟩, hE31⟩ ?_
    rintro k wl32 ⟨⟨hkp, hT⟩, hxwl32⟩
    refine CW.sub (S' := [(31, _), (4, _), (5, _), (6, _), (8, _), (9, _), (10, _), (30, _)]) ⟨rfl, rfl, rfl, rfl, rfl, rfl, rfl, rfl, trivial⟩ ?_
    refine CW.seq ?_
    refine CW.region ?_
    refine RG.vl rfl rfl rfl (Ev.lss rfl rfl rfl) ?_
    refine RG.done ?_
    refine QW.then_ ?_
    refine CW.seq ?_
    refine CW.condP rfl (fun hc33 => ?_) (fun hc33 => ?_)
    · refine CW.skip ?_
      refine QW.then_ ?_
      refine CW.seq ?_
      refine CW.block ?_
      refine CW.seq ?_
      refine CW.region ?_
      refine RG.vl rfl rfl rfl (Ev.move rfl rfl) ?_
      refine RG.vl rfl rfl rfl (Ev.assign rfl rfl) ?_
      refine RG.done ?_
      refine QW.then_ ?_
      refine CW.seq ?_
      refine CW.region ?_
      refine RG.vl rfl rfl rfl (Ev.move rfl rfl) ?_
      refine RG.vl rfl rfl rfl (Ev.move rfl rfl) ?_
      refine RG.vl rfl rfl rfl (Ev.idxA (i := 2) rfl rfl rfl Try.underlying73 sz_72 (by omega)) ?_
      refine RG.vl rfl rfl rfl (Ev.idxA (i := 2) rfl rfl rfl Try.underlying72 sz_5 (by omega)) ?_
      refine RG.vl rfl rfl rfl (Ev.ldAA rfl rfl Try.underlying5 rfl ((hbws20.ext hxwl32).cells) (rfl)) ?_
      refine RG.vl rfl rfl rfl (Ev.idxN rfl rfl rfl Try.underlying52 sz_5 (by omega)) ?_
      refine RG.st (g := gT) (k := _) rfl rfl rfl rfl rfl sz_5 rfl hT (by rw [Nat.blt_eq, txt_len]; omega) (fun ws34 hwws34 hbws34 => ?_)
      replace hxwl32 := Wr.below hxwl32 hwws34 hle26
      refine RG.done ?_
      refine QW.then_ ?_
      refine CW.seq ?_
      refine CW.region ?_
      refine RG.vl rfl rfl rfl (Ev.move rfl rfl) ?_
      refine RG.vl rfl rfl rfl (Ev.move rfl rfl) ?_
      refine RG.vl rfl rfl rfl ((Ev.lookOk keyI rfl rfl rfl (hmp.ext hxwl32) Try.underlying67 Try.underlying3 inf_48).conv (found_look s l _ hfit.1)) ?_
      refine RG.vl rfl rfl rfl (Ev.move rfl rfl) ?_
      refine RG.vl rfl rfl rfl (Ev.extract rfl rfl rfl) ?_
      refine RG.vl rfl rfl rfl (Ev.extract rfl rfl rfl) ?_
      refine RG.local_ rfl rfl rfl rfl (fun _ => rfl) rfl rfl (fun _ => rfl) inf_48 rfl rfl rfl (fun g35 w35 eg35 hx35 hb35 => ?_)
      have hle36 : ws20.heap.size ≤ g35 := by have := hxwl32.size; omega
      have hle37 : ws34.heap.size ≤ g35 := by have := (Ex.rfl_ ws34).size; omega
      have hlt38 : g1 < g35 := by have := Blk.lt (hb1.ext hxwl32); omega
      have hlt39 : gm < g35 := by have := Mp.lt (hmp.ext hxwl32); omega
      have hlt40 : gc7 < g35 := by have := Blk.lt (hcb7.ext hxwl32); omega
      have hlt41 : g11 < g35 := by have := Blk.lt (hbws20.ext hxwl32); omega
      have hlt42 : gT < g35 := by have := Blk.lt hbws34; omega
      replace hxwl32 := Ex.tr hxwl32 hx35
      have hE43 := hx35
      refine RG.vl rfl rfl rfl (Ev.assign rfl rfl) ?_
      refine RG.done ?_
      refine QW.sub (S' := [(4, _), (5, _), (6, _), (8, _), (9, _), (10, _), (11, _), (12, _), (13, _), (30, _), (31, _)]) ⟨rfl, rfl, rfl, rfl, rfl, rfl, rfl, rfl, rfl, rfl, rfl, trivial⟩ ?_
      refine QW.then_ ?_
      refine CW.seq ?_
      refine CW.region ?_
      refine RG.vl rfl rfl rfl (Ev.move rfl rfl) ?_
      refine RG.done ?_
      refine QW.then_ ?_
      refine CW.cond rfl (fun hc44 => ?_) (fun hc44 => ?_)
      · refine CW.draw [] (.row gT) 15 rfl mixed (fun wd45 hxwd45 => ?_)
        replace hxwl32 := Ex.tr hxwl32 hxwd45
        replace hE43 := Ex.tr hE43 hxwd45
        have hE46 := hxwd45
        refine AG.takeW 0 rfl (by kernel_rfl) (by kernel_rfl) rfl rfl rfl (fun _ => Ev.move rfl rfl) ?_
        refine AG.takeW 1 rfl (by kernel_rfl) (by kernel_rfl) rfl rfl rfl (fun _ => Ev.move rfl rfl) ?_
        refine AG.takeW 2 rfl (by kernel_rfl) (by kernel_rfl) rfl rfl rfl (fun _ => Ev.move rfl rfl) ?_
        refine AG.takeW 3 rfl (by kernel_rfl) (by kernel_rfl) rfl rfl rfl (fun _ => Ev.fld rfl rfl fld_48_1) ?_
        refine AG.take 4 rfl (by kernel_rfl) (by kernel_rfl) rfl rfl rfl (fun wq hq => Ev.ldAt rfl rfl Try.underlying3 rfl ((Blk.grown (hb35.ext hE46) hq (by simp; omega)).cells) (rfl)) ?_
        refine AG.takeW 6 rfl (by kernel_rfl) (by kernel_rfl) rfl rfl rfl (fun _ => Ev.move rfl rfl) ?_
        refine AG.takeW 7 rfl (by kernel_rfl) (by kernel_rfl) rfl rfl rfl (fun _ => Ev.fld rfl rfl fld_48_2) ?_
        refine AG.take 8 rfl (by kernel_rfl) (by kernel_rfl) rfl rfl rfl (fun wq hq => Ev.ldAt rfl rfl Try.underlying3 rfl ((Blk.grown (hb35.ext hE46) hq (by simp; omega)).cells) (rfl)) ?_
        refine AG.only 5 rfl (by kernel_rfl) ?_
        refine RG.call rfl rfl rfl rfl rfl rfl rfl en_37 (half_ret s _ gc7 _ (hcb7.ext hxwl32)) ?_
        rintro _ w48 ⟨rfl, hx48⟩
        replace hxwl32 := Ex.tr hxwl32 hx48
        replace hE43 := Ex.tr hE43 hx48
        replace hE46 := Ex.tr hE46 hx48
        have hE49 := hx48
        refine RG.done ?_
        refine QW.an (fun _ => Rr.of_ex hE49) ?_
        refine AG.takeW 10 rfl (by kernel_rfl) (by kernel_rfl) rfl rfl rfl (fun _ => Ev.idxA rfl rfl rfl Try.underlying73 sz_72 (half_lt _ _)) ?_
        refine AG.only 9 rfl (by kernel_rfl) ?_
        refine RG.call rfl rfl rfl rfl rfl rfl rfl en_37 (half_ret s _ gc7 _ (hcb7.ext hxwl32)) ?_
        rintro _ w51 ⟨rfl, hx51⟩
        replace hxwl32 := Ex.tr hxwl32 hx51
        replace hE43 := Ex.tr hE43 hx51
        replace hE46 := Ex.tr hE46 hx51
        replace hE49 := Ex.tr hE49 hx51
        have hE52 := hx51
        refine RG.done ?_
        refine QW.an (fun _ => Rr.of_ex hE52) ?_
        refine AG.takeW 11 rfl (by kernel_rfl) (by kernel_rfl) rfl rfl rfl (fun _ => Ev.idxA rfl rfl rfl Try.underlying72 sz_5 (half_lt _ _)) ?_
        refine AG.take 12 rfl (by kernel_rfl) (by kernel_rfl) rfl rfl rfl (fun wq hq => Ev.ldAA rfl rfl Try.underlying5 rfl ((Blk.grown (hbws20.ext hxwl32) hq (by simp; omega)).cells) (letter_tbl s _ (by omega))) ?_
        refine AG.takeW 13 rfl (by kernel_rfl) (by kernel_rfl) rfl rfl rfl (fun _ => Ev.idxN rfl rfl rfl Try.underlying52 sz_5 (by omega)) ?_
        refine AG.only 14 rfl (by kernel_rfl) ?_
        refine RG.st (g := gT) (k := _) rfl rfl rfl rfl rfl sz_5 rfl (hbws34.ext hE43) (by rw [Nat.blt_eq, List.length_set, txt_len]; omega) (fun ws54 hwws54 hbws54 => ?_)
        replace hb35 := Blk.far (hb35.ext hE46) hwws54 (by omega)
        replace hxwl32 := Wr.below hxwl32 hwws54 hle26
        refine RG.done ?_
        refine QW.an (fun _ => Rr.of_wr hwws54) ?_
        refine AG.done (by kernel_rfl) ?_
        refine QW.sub (S' := [(4, _), (5, _), (6, _), (8, _), (9, _), (10, _), (30, _), (31, _)]) ⟨rfl, rfl, rfl, rfl, rfl, rfl, rfl, rfl, trivial⟩ ?_
        refine QW.blockN ?_
        refine QW.then_ ?_
        refine CW.region ?_
        refine RG.vl rfl rfl rfl (Ev.addI rfl rfl rfl (by omega)) ?_
        refine RG.vl rfl rfl rfl (Ev.move rfl rfl) ?_
        refine RG.done ?_
        refine QW.round1 (k + 1) ⟨rfl, trivial⟩ ⟨rfl, rfl, rfl, rfl, rfl, rfl, rfl, trivial⟩ ⟨⟨by omega, by rw [← txt_set2 s l k (.int .u8 63) (.int .u8 (letter s (fb s l k)).toNat) (by rw [(letterAt_fb s l k (by assumption)).1])]; exact hbws54⟩, hxwl32⟩ (by omega)
      · refine CW.skip ?_
        refine QW.blockN ?_
        refine QW.then_ ?_
        refine CW.region ?_
        refine RG.vl rfl rfl rfl (Ev.addI rfl rfl rfl (by omega)) ?_
        refine RG.vl rfl rfl rfl (Ev.move rfl rfl) ?_
        refine RG.done ?_
        refine QW.round1 (k + 1) ⟨rfl, trivial⟩ ⟨rfl, rfl, rfl, rfl, rfl, rfl, rfl, trivial⟩ ⟨⟨by omega, by rw [← txt_set s l k (.int .u8 63) (by rw [letterAt_no s l k (by assumption)]; rfl)]; exact (hbws34.ext hE43)⟩, hxwl32⟩ (by omega)
    · refine CW.exit ?_
      refine QW.thenExit ?_
      refine QW.thenExit ?_
      refine QW.blockHit ?_
      refine QW.then_ ?_
      refine CW.seq ?_
      obtain rfl : k = s.pl.toNat := by omega
      have hT9 := txt_rd s l hT a2
      refine CW.region ?_
      refine RG.vl rfl rfl rfl (Ev.move rfl rfl) ?_
      refine RG.vl rfl rfl rfl (Ev.toStr rfl rfl Try.underlying52 Try.underlying5 Try.underlying9 (hT9)) ?_
      refine RG.vl rfl rfl rfl (Ev.assign rfl rfl) ?_
      refine RG.vl rfl rfl rfl (Ev.assign rfl rfl) ?_
      refine RG.done ?_
      refine QW.then_ ?_
      refine CW.ret ?_
      refine QW.ret2 rfl rfl rfl ?_
      have hB := (Ex.tr hR21 hxwl32)
      exact ⟨by unfold readOf; rw [if_pos he0, he0], hB⟩

set_option maxRecDepth 100000 in
set_option maxHeartbeats 1000000 in
theorem margin_ret (s : Su) (u : Value) (l : List Br) (w : World) (hl : RdL w 3 Br.c u l) (hlen : l.length ≤ 1000) :
    Ret Try.prog 11 [s.v, u] w (fun v w' => v = .tuple #[.int .i64 (marginR s l), .int .i64 (errOf s l)] ∧ Ex w w') := by
  have hB0 : Ex w w := Ex.rfl_ _
  refine Ret.of Try.func11 rfl Try.ntmps11 rfl ?_
  refine CW.seq ?_
  refine CW.region ?_
  refine RG.box rfl rfl rfl rfl rfl (fun g1 w1 eg1 hx1 hb1 => ?_)
  have hle2 : w.heap.size ≤ g1 := by have := (Ex.rfl_ w).size; omega
  have hE3 := hx1
  refine RG.vl rfl rfl rfl (Ev.assign rfl rfl) ?_
  refine RG.vl rfl rfl rfl (Ev.assign rfl rfl) ?_
  refine RG.done ?_
  refine QW.then_ ?_
  refine CW.seq ?_
  refine CW.region ?_
  refine RG.vl rfl rfl rfl (Ev.ldAgg rfl rfl Try.underlying23 rfl sz_23 rfl (hb1.cells)) ?_
  refine RG.vl rfl rfl rfl (Ev.move rfl rfl) ?_
  refine RG.call rfl rfl rfl rfl rfl rfl rfl en_25 (places_ret s _ l _ ((hl.ext hE3)) hlen) ?_
  rintro _ w4 ⟨mp4, rfl, hmap4, hx4⟩
  replace hE3 := Ex.tr hE3 hx4
  have hE5 := hx4
  refine RG.vl rfl rfl rfl (Ev.move rfl rfl) ?_
  refine RG.vl rfl rfl rfl (Ev.extract rfl rfl rfl) ?_
  refine RG.vl rfl rfl rfl (Ev.extract rfl rfl rfl) ?_
  refine RG.vl rfl rfl rfl (Ev.assign rfl rfl) ?_
  refine RG.vl rfl rfl rfl (Ev.assign rfl rfl) ?_
  refine RG.done ?_
  refine QW.then_ ?_
  refine CW.seq ?_
  refine CW.seq ?_
  refine CW.region ?_
  refine RG.vl rfl rfl rfl (Ev.move rfl rfl) ?_
  refine RG.vl rfl rfl rfl (Ev.neI rfl rfl rfl) ?_
  refine RG.done ?_
  refine QW.then_ ?_
  refine CW.condP rfl (fun hc6 => ?_) (fun hc6 => ?_)
  · refine CW.seq ?_
    refine CW.region ?_
    refine RG.vl rfl rfl rfl (Ev.move rfl rfl) ?_
    refine RG.vl rfl rfl rfl (Ev.assign rfl rfl) ?_
    refine RG.vl rfl rfl rfl (Ev.assign rfl rfl) ?_
    refine RG.done ?_
    refine QW.sub (S' := [(2, _), (4, _), (5, _), (6, _)]) ⟨rfl, rfl, rfl, rfl, trivial⟩ ?_
    refine QW.then_ ?_
    refine CW.ret ?_
    refine QW.thenRet ?_
    refine QW.ret2 rfl rfl rfl ?_
    have hB := (Ex.tr hB0 hE3)
    exact ⟨by unfold marginR; rw [if_neg (by omega)], hB⟩
  · refine CW.skip ?_
    refine QW.then_ ?_
    refine CW.seq ?_
    have he0 : errOf s l = 0 := by omega
    obtain ⟨gm, rfl, hgm, hmp⟩ := hmap4 he0
    obtain ⟨hl4, hs, hin, hfit⟩ := (err0_iff s l).1 he0
    obtain ⟨a1, a2, a3, a4, a5, a6, a7, a8, a9, a10, a11⟩ := id hs
    refine CW.region ?_
    refine RG.vl rfl rfl rfl (Ev.ldAgg rfl rfl Try.underlying23 rfl sz_23 rfl ((hb1.ext hE5).cells)) ?_
    refine RG.call rfl rfl rfl rfl rfl rfl rfl en_26 (halfBy_ret s _) ?_
    rintro _ w7 ⟨gc7, rfl, hle7, hcb7, hx7⟩
    replace hE3 := Ex.tr hE3 hx7
    replace hE5 := Ex.tr hE5 hx7
    have hE8 := hx7
    refine RG.vl rfl rfl rfl (Ev.assign rfl rfl) ?_
    refine RG.done ?_
    refine QW.sub (S' := [(2, _), (4, _), (5, _), (6, _), (8, _)]) ⟨rfl, rfl, rfl, rfl, rfl, trivial⟩ ?_
    refine QW.then_ ?_
    refine CW.seq ?_
    refine CW.region ?_
    refine RG.vl rfl rfl rfl (Ev.assign rfl rfl) ?_
    refine RG.done ?_
    refine QW.then_ ?_
    refine CW.seq ?_
    refine CW.seq ?_
    refine CW.region ?_
    refine RG.vl rfl rfl rfl (Ev.move rfl rfl) ?_
    replace hl := (hl.ext hE3)
    replace hb1 := (hb1.ext hE5)
    replace hmp := (hmp.ext hE8)
    have hR10 := (Ex.tr hB0 hE3)
    have hR11 := hE5
    have hR12 := hE8
    refine RG.mRange rfl rfl rfl rfl rfl Try.underlying67 hmp (fun gI w9 egI hx9 hb9 => ?_)
    have hle13 : w7.heap.size ≤ gI := by have := (Ex.rfl_ w7).size; omega
    have hlt14 : g1 < gI := by have := Blk.lt hb1; omega
    have hlt15 : gm < gI := by have := Mp.lt hmp; omega
    have hlt16 : gc7 < gI := by have := Blk.lt hcb7; omega
    have hE17 := hx9
    refine RG.done ?_
    refine QW.then_ ?_
    refine CW.block ?_
    refine CW.loop2 [(2, _), (4, _), (5, _), (8, _), (27, _)] ⟨rfl, rfl, rfl, rfl, rfl, trivial⟩ (fun (seen : List Nat) (m : Int) => [(9, .int .i64 m)]) (fun seen m w' => (seen.Nodup ∧ (∀ i ∈ seen, i < l.length) ∧ m = seenMin s l seen ∧ It w' gI gm (foundOf s l).length seen) ∧ Ex w7 w') (fun seen m => l.length - seen.length) ([]) (1048576) ⟨rfl, trivial⟩ ⟨⟨List.nodup_nil, by simp, rfl, hb9⟩, hE17⟩ ?_
    rintro seen m wl18 ⟨⟨hnd, hlt, hm, hit⟩, hxwl18⟩
    refine CW.sub (S' := [(9, _), (2, _), (4, _), (5, _), (8, _), (27, _)]) ⟨rfl, rfl, rfl, rfl, rfl, rfl, trivial⟩ ?_
    refine CW.seq ?_
    refine CW.region ?_
    refine RG.mNext rfl rfl rfl rfl rfl (hmp.ext hxwl18) hit (by omega) (fun hall => ?_) (fun ix kx vx wn19 hp hns hwn19 hiwn19 hmwn19 => ?_)
    · refine RG.vl rfl rfl rfl (Ev.extract rfl rfl rfl) ?_
      refine RG.done ?_
      refine QW.then_ ?_
      refine CW.seq ?_
      refine CW.condF rfl ?_
      refine CW.exit ?_
      refine QW.thenExit ?_
      refine QW.thenExit ?_
      refine QW.blockHit ?_
      refine QW.then_ ?_
      refine CW.seq ?_
      refine CW.region ?_
      refine RG.vl rfl rfl rfl (Ev.move rfl rfl) ?_
      refine RG.vl rfl rfl rfl (Ev.assign rfl rfl) ?_
      refine RG.vl rfl rfl rfl (Ev.assign rfl rfl) ?_
      refine RG.done ?_
      refine QW.then_ ?_
      refine CW.ret ?_
      refine QW.ret2 rfl rfl rfl ?_
      have hB := (Ex.tr hR10 hxwl18)
      exact ⟨by unfold marginR; rw [if_pos he0, hm, seen_all s l seen hnd hlt (by rw [found_len] at hall; exact hall), he0], hB⟩
    · replace hxwl18 := Wr.below hxwl18 hwn19 hle13
      refine RG.vl rfl rfl rfl (Ev.extract rfl rfl rfl) ?_
      refine RG.done ?_
      refine QW.then_ ?_
      refine CW.seq ?_
      refine CW.condT rfl ?_
      refine CW.skip ?_
      refine QW.then_ ?_
      refine CW.block ?_
      refine CW.seq ?_
      obtain ⟨b, hb, hq, rfl⟩ := found_at s l ix kx vx hfit.1 hp
      obtain ⟨b1, b2, b3, b4, b5, b6⟩ := hin b (List.mem_of_getElem? hb)
      obtain ⟨q1, q2⟩ := plc_range s b kx hs hq
      have hkp := kpi s kx hs q1 (by omega)
      have hnd2 : (seen ++ [ix]).Nodup := by rw [List.nodup_append]; exact ⟨hnd, by simp, fun a ha c hc e => by simp at hc; subst hc; subst e; exact hns ha⟩
      have hlt2 : ∀ i ∈ seen ++ [ix], i < l.length := fun i hi => by rcases List.mem_append.1 hi with h | h; exact hlt i h; simp at h; subst h; exact (List.getElem?_eq_some_iff.1 hb).1
      have hln := nodup_len hnd2 hlt2
      rw [List.length_append, List.length_singleton] at hln
      refine CW.region ?_
      refine RG.vl rfl rfl rfl (Ev.mEntry rfl rfl hmwn19 hiwn19 hp) ?_
      refine RG.vl rfl rfl rfl (Ev.extract rfl rfl rfl) ?_
      refine RG.vl rfl rfl rfl (Ev.extract rfl rfl rfl) ?_
      refine RG.alloc_ rfl rfl rfl rfl inf_48 (fun g20 w20 eg20 hx20 hb20 => ?_)
      have hle21 : w7.heap.size ≤ g20 := by have := hxwl18.size; omega
      have hle22 : wn19.heap.size ≤ g20 := by have := (Ex.rfl_ wn19).size; omega
      have hlt23 : g1 < g20 := by have := Blk.lt (hb1.ext hxwl18); omega
      have hlt24 : gm < g20 := by have := Mp.lt hmwn19; omega
      have hlt25 : gc7 < g20 := by have := Blk.lt (hcb7.ext hxwl18); omega
      have hlt26 : gI < g20 := by have := It.lt hiwn19; omega
      replace hxwl18 := Ex.tr hxwl18 hx20
      have hE27 := hx20
      refine RG.vl rfl rfl rfl (Ev.assign rfl rfl) ?_
      refine RG.stAll (g := g20) rfl rfl rfl rfl rfl sz_48 rfl rfl rfl hb20 (fun ws28 hwws28 hbws28 => ?_)
      replace hxwl18 := Wr.below hxwl18 hwws28 hle21
      replace hE27 := Wr.below hE27 hwws28 hle22
      refine RG.done ?_
      refine QW.then_ ?_
      refine CW.seq ?_
      refine CW.region ?_
      refine RG.vl rfl rfl rfl (Ev.fld rfl rfl fld_48_0) ?_
      refine RG.vl rfl rfl rfl (Ev.ldAt rfl rfl Try.underlying3 rfl (hbws28.cells) (rfl)) ?_
      refine RG.vl rfl rfl rfl (Ev.fld rfl rfl fld_23_1) ?_
      refine RG.vl rfl rfl rfl (Ev.ldAt rfl rfl Try.underlying3 rfl ((hb1.ext hxwl18).cells) (rfl)) ?_
      refine RG.vl rfl rfl rfl (Ev.move rfl rfl) ?_
      refine RG.vl rfl rfl rfl (Ev.fld rfl rfl fld_23_2) ?_
      refine RG.vl rfl rfl rfl (Ev.ldAt rfl rfl Try.underlying3 rfl ((hb1.ext hxwl18).cells) (rfl)) ?_
      refine RG.vl rfl rfl rfl (Ev.mulI rfl rfl rfl (by omega)) ?_
      refine RG.vl rfl rfl rfl (Ev.addI rfl rfl rfl (by omega)) ?_
      refine RG.vl rfl rfl rfl (Ev.subI rfl rfl rfl (by omega)) ?_
      refine RG.vl rfl rfl rfl (Ev.assign rfl rfl) ?_
      refine RG.done ?_
      refine QW.sub (S' := [(2, _), (4, _), (5, _), (8, _), (9, _), (11, _), (12, _), (27, _)]) ⟨rfl, rfl, rfl, rfl, rfl, rfl, rfl, rfl, trivial⟩ ?_
      refine QW.then_ ?_
      refine CW.seq ?_
      refine CW.region ?_
      refine RG.vl rfl rfl rfl (Ev.move rfl rfl) ?_
      refine RG.vl rfl rfl rfl (Ev.fld rfl rfl fld_23_3) ?_
      refine RG.vl rfl rfl rfl (Ev.ldAt rfl rfl Try.underlying3 rfl ((hb1.ext hxwl18).cells) (rfl)) ?_
      refine RG.vl rfl rfl rfl (Ev.move rfl rfl) ?_
      refine RG.vl rfl rfl rfl (Ev.move rfl rfl) ?_
      refine RG.vl rfl rfl rfl (Ev.negI rfl rfl (by omega)) ?_
      refine RG.vl rfl rfl rfl (Ev.max2 rfl rfl rfl rfl) ?_
      refine RG.vl rfl rfl rfl (Ev.subI rfl rfl rfl (by omega)) ?_
      refine RG.vl rfl rfl rfl (Ev.min2 rfl rfl rfl rfl) ?_
      refine RG.vl rfl rfl rfl (Ev.assign rfl rfl) ?_
      refine RG.done ?_
      refine QW.then_ ?_
      refine CW.seq ?_
      refine CW.region ?_
      refine RG.vl rfl rfl rfl (Ev.fld rfl rfl fld_48_1) ?_
      refine RG.vl rfl rfl rfl (Ev.ldAt rfl rfl Try.underlying3 rfl (hbws28.cells) (rfl)) ?_
      refine RG.vl rfl rfl rfl (Ev.fld rfl rfl fld_48_2) ?_
      refine RG.vl rfl rfl rfl (Ev.ldAt rfl rfl Try.underlying3 rfl (hbws28.cells) (rfl)) ?_
      refine RG.vl rfl rfl rfl (Ev.buildA (xs := [.tmp 53, .tmp 55]) rfl rfl rfl rfl Try.underlying76 sz_3 inf_76 rfl rfl) ?_
      refine RG.vl rfl rfl rfl (Ev.move rfl rfl) ?_
      refine RG.done ?_
      refine QW.sub (S' := [(2, _), (4, _), (5, _), (8, _), (9, _), (27, _), (56, _), (57, _)]) ⟨rfl, rfl, rfl, rfl, rfl, rfl, rfl, rfl, trivial⟩ ?_
      refine QW.then_ ?_
      refine CW.block ?_
      replace hl := (hl.ext hxwl18)
      replace hb1 := (hb1.ext hxwl18)
      replace hmwn19 := (hmwn19.ext hE27)
      replace hcb7 := (hcb7.ext hxwl18)
      replace hiwn19 := (hiwn19.ext hE27)
      have hR29 := (Ex.tr hR10 hxwl18)
      have hR30 := (Ex.tr hR11 hxwl18)
      have hR31 := (Ex.tr hR12 hxwl18)
      have hR32 := hxwl18
      refine CW.loop2 [(2, _), (4, _), (5, _), (8, _), (27, _), (56, _)] ⟨rfl, rfl, rfl, rfl, rfl, rfl, trivial⟩ (fun (j : Nat) (x : Int) => [(57, .int .i64 j), (9, .int .i64 x)]) (fun j x w' => (j ≤ 2 ∧ x = ([b.up, b.dn].take j).foldl (fun m h => min m (room s h)) (min m (posB s b kx))) ∧ Ex ws28 w') (fun j x => 2 - j) (0) (_) ⟨rfl, rfl, trivial⟩ ⟨⟨by omega, by simp only [List.take_zero, List.foldl_nil]; unfold posB; omega⟩, (Ex.rfl_ _)⟩ ?_
      rintro j x wl33 ⟨⟨hj, hx⟩, hxwl33⟩
      refine CW.sub (S' := [(57, _), (9, _), (2, _), (4, _), (5, _), (8, _), (27, _), (56, _)]) ⟨rfl, rfl, rfl, rfl, rfl, rfl, rfl, rfl, trivial⟩ ?_
      refine CW.seq ?_
      refine CW.region ?_
      refine RG.vl rfl rfl rfl (Ev.lss rfl rfl rfl) ?_
      refine RG.done ?_
      refine QW.then_ ?_
      refine CW.seq ?_
      refine CW.condP rfl (fun hc34 => ?_) (fun hc34 => ?_)
      · refine CW.skip ?_
        refine QW.then_ ?_
        refine CW.seq ?_
        refine CW.block ?_
        refine CW.seq ?_
        obtain ⟨h, hh2, hh, hh3, hh4⟩ : ∃ h, [b.up, b.dn][j]? = some h ∧ [Value.int .i64 b.up, .int .i64 b.dn][j]? = some (.int .i64 h) ∧ 0 ≤ h ∧ h ≤ 1048576 := by rcases (show j = 0 ∨ j = 1 by omega) with rfl | rfl; exact ⟨_, rfl, rfl, by omega, by omega⟩; exact ⟨_, rfl, rfl, by omega, by omega⟩
        refine CW.region ?_
        refine RG.vl rfl rfl rfl (Ev.idxArr rfl rfl rfl Try.underlying76 Try.underlying3 rfl sz_3 (by omega) (hh)) ?_
        refine RG.vl rfl rfl rfl (Ev.assign rfl rfl) ?_
        refine RG.done ?_
        refine QW.then_ ?_
        refine CW.seq ?_
        refine CW.region ?_
        refine RG.vl rfl rfl rfl (Ev.move rfl rfl) ?_
        refine RG.vl rfl rfl rfl (Ev.move rfl rfl) ?_
        refine RG.call rfl rfl rfl rfl rfl rfl rfl en_37 (half_ret s _ gc7 _ (hcb7.ext hxwl33)) ?_
        rintro _ w35 ⟨rfl, hx35⟩
        replace hxwl33 := Ex.tr hxwl33 hx35
        have hE36 := hx35
        refine RG.done ?_
        refine QW.then_ ?_
        refine CW.block ?_
        refine CW.seq ?_
        refine CW.region ?_
        refine RG.vl rfl rfl rfl (Ev.eqI rfl rfl rfl) ?_
        refine RG.vl rfl rfl rfl (Ev.assign rfl rfl) ?_
        refine RG.done ?_
        refine QW.then_ ?_
        refine CW.condP rfl (fun hc37 => ?_) (fun hc37 => ?_)
        · refine CW.region ?_
          refine RG.vl rfl rfl rfl (Ev.move rfl rfl) ?_
          refine RG.vl rfl rfl rfl (Ev.fld rfl rfl fld_23_4) ?_
          refine RG.vl rfl rfl rfl (Ev.ldAt rfl rfl Try.underlying3 rfl ((hb1.ext hxwl33).cells) (rfl)) ?_
          refine RG.vl rfl rfl rfl (Ev.move rfl rfl) ?_
          refine RG.vl rfl rfl rfl (Ev.subI rfl rfl rfl (by omega)) ?_
          refine RG.vl rfl rfl rfl (Ev.min2 rfl rfl rfl rfl) ?_
          refine RG.vl rfl rfl rfl (Ev.assign rfl rfl) ?_
          refine RG.done ?_
          refine QW.sub (S' := [(2, _), (4, _), (5, _), (8, _), (9, _), (27, _), (56, _), (57, _)]) ⟨rfl, rfl, rfl, rfl, rfl, rfl, rfl, rfl, trivial⟩ ?_
          refine QW.blockN ?_
          refine QW.blockN ?_
          refine QW.then_ ?_
          refine CW.region ?_
          refine RG.vl rfl rfl rfl (Ev.addI rfl rfl rfl (by omega)) ?_
          refine RG.vl rfl rfl rfl (Ev.move rfl rfl) ?_
          refine RG.done ?_
          refine QW.round2 (j + 1) (min x (s.lo - h)) ⟨rfl, rfl, trivial⟩ ⟨rfl, rfl, rfl, rfl, rfl, rfl, trivial⟩ ⟨⟨by omega, by rw [take_snoc _ j h hh2, List.foldl_append, ← hx]; show _ = min x (room s h); rw [half0 s h (by assumption)]⟩, hxwl33⟩ (by omega)
        · refine CW.seq ?_
          refine CW.region ?_
          refine RG.vl rfl rfl rfl (Ev.eqI rfl rfl rfl) ?_
          refine RG.vl rfl rfl rfl (Ev.assign rfl rfl) ?_
          refine RG.done ?_
          refine QW.then_ ?_
          refine CW.condP rfl (fun hc38 => ?_) (fun hc38 => ?_)
          · refine CW.region ?_
            refine RG.vl rfl rfl rfl (Ev.move rfl rfl) ?_
            refine RG.vl rfl rfl rfl (Ev.move rfl rfl) ?_
            refine RG.vl rfl rfl rfl (Ev.fld rfl rfl fld_23_5) ?_
            refine RG.vl rfl rfl rfl (Ev.ldAt rfl rfl Try.underlying3 rfl ((hb1.ext hxwl33).cells) (rfl)) ?_
            refine RG.vl rfl rfl rfl (Ev.subI rfl rfl rfl (by omega)) ?_
            refine RG.vl rfl rfl rfl (Ev.min2 rfl rfl rfl rfl) ?_
            refine RG.vl rfl rfl rfl (Ev.assign rfl rfl) ?_
            refine RG.done ?_
            refine QW.sub (S' := [(2, _), (4, _), (5, _), (8, _), (9, _), (27, _), (56, _), (57, _)]) ⟨rfl, rfl, rfl, rfl, rfl, rfl, rfl, rfl, trivial⟩ ?_
            refine QW.blockN ?_
            refine QW.blockN ?_
            refine QW.then_ ?_
            refine CW.region ?_
            refine RG.vl rfl rfl rfl (Ev.addI rfl rfl rfl (by omega)) ?_
            refine RG.vl rfl rfl rfl (Ev.move rfl rfl) ?_
            refine RG.done ?_
            refine QW.round2 (j + 1) (min x (h - s.hi)) ⟨rfl, rfl, trivial⟩ ⟨rfl, rfl, rfl, rfl, rfl, rfl, trivial⟩ ⟨⟨by omega, by rw [take_snoc _ j h hh2, List.foldl_append, ← hx]; show _ = min x (room s h); rw [half1 s h (by assumption)]⟩, hxwl33⟩ (by omega)
          · refine CW.region ?_
            refine RG.vl rfl rfl rfl (Ev.move rfl rfl) ?_
            refine RG.vl rfl rfl rfl (Ev.fld rfl rfl fld_23_5) ?_
            refine RG.vl rfl rfl rfl (Ev.ldAt rfl rfl Try.underlying3 rfl ((hb1.ext hxwl33).cells) (rfl)) ?_
            refine RG.vl rfl rfl rfl (Ev.subI rfl rfl rfl (by omega)) ?_
            refine RG.vl rfl rfl rfl (Ev.move rfl rfl) ?_
            refine RG.vl rfl rfl rfl (Ev.subI rfl rfl rfl (by omega)) ?_
            refine RG.vl rfl rfl rfl (Ev.move rfl rfl) ?_
            refine RG.vl rfl rfl rfl (Ev.fld rfl rfl fld_23_4) ?_
            refine RG.vl rfl rfl rfl (Ev.ldAt rfl rfl Try.underlying3 rfl ((hb1.ext hxwl33).cells) (rfl)) ?_
            refine RG.vl rfl rfl rfl (Ev.addI rfl rfl rfl (by omega)) ?_
            refine RG.vl rfl rfl rfl (Ev.subI rfl rfl rfl (by omega)) ?_
            refine RG.vl rfl rfl rfl (Ev.min3 rfl rfl rfl rfl rfl) ?_
            refine RG.vl rfl rfl rfl (Ev.assign rfl rfl) ?_
            refine RG.done ?_
            refine QW.sub (S' := [(2, _), (4, _), (5, _), (8, _), (9, _), (27, _), (56, _), (57, _)]) ⟨rfl, rfl, rfl, rfl, rfl, rfl, rfl, rfl, trivial⟩ ?_
            refine QW.blockN ?_
            refine QW.blockN ?_
            refine QW.then_ ?_
            refine CW.region ?_
            refine RG.vl rfl rfl rfl (Ev.addI rfl rfl rfl (by omega)) ?_
            refine RG.vl rfl rfl rfl (Ev.move rfl rfl) ?_
            refine RG.done ?_
            refine QW.round2 (j + 1) (_) ⟨rfl, rfl, trivial⟩ ⟨rfl, rfl, rfl, rfl, rfl, rfl, trivial⟩ ⟨⟨by omega, by rw [take_snoc _ j h hh2, List.foldl_append, ← hx]; show _ = min x (room s h); rw [half2 s h (by assumption) (by assumption)]; omega⟩, hxwl33⟩ (by omega)
      · refine CW.exit ?_
        refine QW.thenExit ?_
        refine QW.thenExit ?_
        refine QW.blockHit ?_
        refine QW.blockN ?_
        refine QW.round2 (seen ++ [ix]) (x) ⟨rfl, trivial⟩ ⟨rfl, rfl, rfl, rfl, rfl, trivial⟩ ⟨⟨hnd2, hlt2, by have e : j = 2 := (by omega); subst e; simp only [List.take, List.foldl] at hx; rw [seen_snoc s l seen ix b hb, ← hm, hx]; unfold roomB; rw [hq]; simp only; omega, (hiwn19.ext hxwl33)⟩, (Ex.tr hR32 hxwl33)⟩ (by rw [List.length_append, List.length_singleton]; omega)

set_option maxRecDepth 100000 in
set_option maxHeartbeats 1000000 in
theorem draw_ret (s : Su) (t : ByteArray) (w : World) (hlen : t.size ≤ 1000) :
    Ret Try.prog 18 [s.v, .string t] w (fun v w' => ∃ u, v = .tuple #[u, .int .i64 (drawErr s t.data.toList)] ∧ RdL w' 3 Br.c u (drawOf s t.data.toList) ∧ Ex w w') := by
  have hB0 : Ex w w := Ex.rfl_ _
  refine Ret.of Try.func18 rfl Try.ntmps18 rfl ?_
  refine CW.seq ?_
  refine CW.region ?_
  refine RG.box rfl rfl rfl rfl rfl (fun g1 w1 eg1 hx1 hb1 => ?_)
  have hle2 : w.heap.size ≤ g1 := by have := (Ex.rfl_ w).size; omega
  have hE3 := hx1
  refine RG.vl rfl rfl rfl (Ev.assign rfl rfl) ?_
  refine RG.vl rfl rfl rfl (Ev.assign rfl rfl) ?_
  refine RG.done ?_
  refine QW.then_ ?_
  refine CW.seq ?_
  refine CW.seq ?_
  refine CW.region ?_
  refine RG.vl rfl rfl rfl (Ev.ldAgg rfl rfl Try.underlying23 rfl sz_23 rfl (hb1.cells)) ?_
  refine RG.call rfl rfl rfl rfl rfl rfl rfl en_15 (right_ret _ _) ?_
  rintro _ w4 ⟨rfl, hx4⟩
  replace hE3 := Ex.tr hE3 hx4
  have hE5 := hx4
  refine RG.vl rfl rfl rfl (Ev.notP rfl rfl) ?_
  refine RG.vl rfl rfl rfl (Ev.move rfl rfl) ?_
  refine RG.split (d := 15) rfl (fun hg6 => ?_) (fun hg6 => ?_)
  · refine RG.pass rfl rfl rfl ?_
    refine RG.pass rfl rfl rfl ?_
    refine RG.pass rfl rfl rfl ?_
    refine RG.pass rfl rfl rfl ?_
    refine RG.pass rfl rfl rfl ?_
    refine RG.vl rfl rfl rfl (Ev.pickT rfl rfl rfl) ?_
    refine RG.done ?_
    refine QW.then_ ?_
    refine CW.condT rfl ?_
    refine CW.seq ?_
    refine CW.region ?_
    refine RG.vl rfl rfl rfl (Ev.assign rfl rfl) ?_
    refine RG.vl rfl rfl rfl (Ev.assign rfl rfl) ?_
    refine RG.done ?_
    refine QW.sub (S' := [(1, _), (2, _), (4, _), (5, _)]) ⟨rfl, rfl, rfl, rfl, trivial⟩ ?_
    refine QW.then_ ?_
    refine CW.ret ?_
    refine QW.thenRet ?_
    refine QW.ret2 rfl rfl rfl ?_
    have hB := (Ex.tr hB0 hE3)
    obtain ⟨e1, e2⟩ := drawErr_bad s t.data.toList (by rintro ⟨h1, h2, _⟩; first | exact absurd h1 (by assumption) | (rw [Array.length_toList] at h2; exact absurd (show (t.size : Int) = s.pl from h2) (by assumption)))
    exact ⟨_, by rw [e1], by rw [e2]; exact RdL.nil_ _, hB⟩
  · refine RG.vl rfl rfl rfl (Ev.move rfl rfl) ?_
    refine RG.vl rfl rfl rfl (Ev.lenStr rfl rfl rfl Try.underlying9) ?_
    refine RG.vl rfl rfl rfl (Ev.fld rfl rfl fld_23_0) ?_
    refine RG.vl rfl rfl rfl (Ev.ldAt rfl rfl Try.underlying3 rfl ((hb1.ext hE5).cells) (rfl)) ?_
    refine RG.vl rfl rfl rfl (Ev.neI rfl rfl rfl) ?_
    refine RG.vl rfl rfl rfl (Ev.pickF rfl rfl rfl) ?_
    refine RG.done ?_
    refine QW.then_ ?_
    refine CW.condP rfl (fun hc7 => ?_) (fun hc7 => ?_)
    · refine CW.seq ?_
      refine CW.region ?_
      refine RG.vl rfl rfl rfl (Ev.assign rfl rfl) ?_
      refine RG.vl rfl rfl rfl (Ev.assign rfl rfl) ?_
      refine RG.done ?_
      refine QW.sub (S' := [(1, _), (2, _), (4, _), (5, _)]) ⟨rfl, rfl, rfl, rfl, trivial⟩ ?_
      refine QW.then_ ?_
      refine CW.ret ?_
      refine QW.thenRet ?_
      refine QW.ret2 rfl rfl rfl ?_
      have hB := (Ex.tr hB0 hE3)
      obtain ⟨e1, e2⟩ := drawErr_bad s t.data.toList (by rintro ⟨h1, h2, _⟩; first | exact absurd h1 (by assumption) | (rw [Array.length_toList] at h2; exact absurd (show (t.size : Int) = s.pl from h2) (by assumption)))
      exact ⟨_, by rw [e1], by rw [e2]; exact RdL.nil_ _, hB⟩
    · refine CW.skip ?_
      refine QW.then_ ?_
      refine CW.seq ?_
      have hs : Okay s := Decidable.not_not.1 (by assumption)
      obtain ⟨a1, a2, a3, a4, a5, a6, a7, a8, a9, a10, a11⟩ := id hs
      have hlz : t.data.toList.length = t.size := Array.length_toList
      refine CW.region ?_
      refine RG.mkMap (fun b : Bool => Value.bool b) rfl rfl rfl rfl (fun gH w8 egH hx8 hb8 => ?_)
      have hle9 : w.heap.size ≤ gH := by have := hE3.size; omega
      have hle10 : w1.heap.size ≤ gH := by have := hE5.size; omega
      have hle11 : w4.heap.size ≤ gH := by have := (Ex.rfl_ w4).size; omega
      have hlt12 : g1 < gH := by have := Blk.lt (hb1.ext hE5); omega
      replace hE3 := Ex.tr hE3 hx8
      replace hE5 := Ex.tr hE5 hx8
      refine RG.vl rfl rfl rfl (Ev.fld rfl rfl fld_23_4) ?_
      refine RG.vl rfl rfl rfl (Ev.ldAt rfl rfl Try.underlying3 rfl ((hb1.ext hE5).cells) (rfl)) ?_
      refine RG.mapPut keyB rfl rfl (.inr rfl) rfl rfl rfl Try.underlying81 Try.underlying4 hb8 (rfl) (fun wm13 hwm13 hbwm13 => ?_)
      replace hE3 := Wr.below hE3 hwm13 hle9
      replace hE5 := Wr.below hE5 hwm13 hle10
      refine RG.vl rfl rfl rfl (Ev.fld rfl rfl fld_23_5) ?_
      refine RG.vl rfl rfl rfl (Ev.ldAt rfl rfl Try.underlying3 rfl ((hb1.ext hE5).cells) (rfl)) ?_
      refine RG.mapPut keyB rfl rfl (.inr rfl) rfl rfl rfl Try.underlying81 Try.underlying4 hbwm13 (rfl) (fun wm14 hwm14 hbwm14 => ?_)
      replace hE3 := Wr.below hE3 hwm14 hle9
      replace hE5 := Wr.below hE5 hwm14 hle10
      refine RG.vl rfl rfl rfl (Ev.move rfl rfl) ?_
      refine RG.vl rfl rfl rfl (Ev.assign rfl rfl) ?_
      refine RG.done ?_
      refine QW.sub (S' := [(1, _), (2, _), (4, _), (5, _), (6, _)]) ⟨rfl, rfl, rfl, rfl, rfl, trivial⟩ ?_
      refine QW.then_ ?_
      refine CW.seq ?_
      refine CW.region ?_
      refine RG.vl rfl rfl rfl (Ev.assign rfl rfl) ?_
      refine RG.done ?_
      refine QW.then_ ?_
      refine CW.seq ?_
      refine CW.seq ?_
      refine CW.region ?_
      refine RG.vl rfl rfl rfl (Ev.move rfl rfl) ?_
      refine RG.toBytes rfl rfl rfl rfl rfl Try.underlying9 Try.underlying52 Try.underlying5 (by simp only [maxLen]; omega) (fun v15 wk16 hxwk16 hrwk16 => ?_)
      replace hE3 := Ex.tr hE3 hxwk16
      replace hE5 := Ex.tr hE5 hxwk16
      have hE17 := hxwk16
      refine RG.vl rfl rfl rfl (Ev.lenL rfl rfl rfl Try.underlying52 (hrwk16)) ?_
      refine RG.vl rfl rfl rfl (Ev.move rfl rfl) ?_
      refine RG.done ?_
      refine QW.then_ ?_
      refine CW.block ?_
      replace hb1 := (hb1.ext hE5)
      replace hbwm14 := (hbwm14.ext hE17)
      have hR18 := (Ex.tr hB0 hE3)
      have hR19 := hE5
      refine CW.loop2 [(2, _), (6, _), (29, _), (30, _)] ⟨rfl, rfl, rfl, rfl, trivial⟩ (fun (k : Nat) (u : Value) => [(31, .int .i64 k), (7, u)]) (fun k u w' => (k ≤ t.size ∧ w'.ownsRow wk16.heap.size 48 3 u (drawL s (t.data.toList.take k) 0).length ((drawL s (t.data.toList.take k) 0).flatMap Br.c) ∧ (t.data.toList.take k).all okLetter = true) ∧ Ex wk16 w') (fun k u => t.size - k) (0) (.slice none 0 0) ⟨rfl, rfl, trivial⟩ ⟨⟨Nat.zero_le _, own_nil _ _ _ _, rfl⟩, (Ex.rfl_ _)⟩ ?_
      rintro k u wl20 ⟨⟨hkl, hown, hall⟩, hxwl20⟩
      refine CW.sub (S' := [(31, _), (7, _), (2, _), (6, _), (29, _), (30, _)]) ⟨rfl, rfl, rfl, rfl, rfl, rfl, trivial⟩ ?_
      refine CW.seq ?_
      refine CW.region ?_
      refine RG.vl rfl rfl rfl (Ev.lss rfl rfl rfl) ?_
      refine RG.done ?_
      refine QW.then_ ?_
      refine CW.seq ?_
      refine CW.condP rfl (fun hc21 => ?_) (fun hc21 => ?_)
      · refine CW.skip ?_
        refine QW.then_ ?_
        refine CW.seq ?_
        refine CW.block ?_
        refine CW.seq ?_
        obtain ⟨c, hc⟩ : ∃ c, t.data.toList[k]? = some c := ⟨_, List.getElem?_eq_getElem (by omega)⟩
        have hkp := kpi s k hs (by omega) (by omega)
        have hdl := drawL_len s (t.data.toList.take k) 0
        rw [List.length_take] at hdl
        refine CW.region ?_
        refine RG.vl rfl rfl rfl (Ev.move rfl rfl) ?_
        refine RG.idxL rfl rfl rfl rfl rfl rfl Try.underlying52 sz_5 ((hrwk16.ext hxwl20)) (hc) (fun p22 hp22b hp22 => ?_)
        refine RG.vl rfl rfl rfl (Ev.ld0 rfl rfl Try.underlying5 rfl (hp22) (rfl)) ?_
        refine RG.vl rfl rfl rfl (Ev.assign rfl rfl) ?_
        refine RG.vl rfl rfl rfl (Ev.assign rfl rfl) ?_
        refine RG.done ?_
        refine QW.then_ ?_
        refine CW.seq ?_
        refine CW.seq ?_
        refine CW.region ?_
        refine RG.vl rfl rfl rfl (Ev.move rfl rfl) ?_
        refine RG.call rfl rfl rfl rfl rfl rfl rfl en_32 (idxb1_ret _ _ _) ?_
        rintro _ w23 ⟨rfl, hx23⟩
        replace hxwl20 := Ex.tr hxwl20 hx23
        have hE24 := hx23
        refine RG.vl rfl rfl rfl (Ev.lss rfl rfl rfl) ?_
        refine RG.done ?_
        refine QW.then_ ?_
        refine CW.condP rfl (fun hc25 => ?_) (fun hc25 => ?_)
        · refine CW.seq ?_
          refine CW.region ?_
          refine RG.vl rfl rfl rfl (Ev.assign rfl rfl) ?_
          refine RG.vl rfl rfl rfl (Ev.assign rfl rfl) ?_
          refine RG.done ?_
          refine QW.then_ ?_
          refine CW.ret ?_
          refine QW.thenRet ?_
          refine QW.blockR ?_
          refine QW.thenRet ?_
          refine QW.thenRet ?_
          refine QW.blockR ?_
          refine QW.thenRet ?_
          refine QW.ret2 rfl rfl rfl ?_
          have hB := (Ex.tr hR18 hxwl20)
          obtain ⟨e1, e2⟩ := drawErr_bad s t.data.toList (by rintro ⟨_, _, h3⟩; have := (List.all_eq_true.1 h3) c (List.mem_of_getElem? hc); rw [(idx_letters c).1 (by assumption)] at this; cases this)
          exact ⟨_, by rw [e1], by rw [e2]; exact RdL.nil_ _, hB⟩
        · refine CW.skip ?_
          refine QW.then_ ?_
          refine CW.seq ?_
          refine CW.region ?_
          refine RG.vl rfl rfl rfl (Ev.move rfl rfl) ?_
          refine RG.vl rfl rfl rfl (Ev.neI rfl rfl rfl) ?_
          refine RG.done ?_
          refine QW.then_ ?_
          refine CW.condP rfl (fun hc26 => ?_) (fun hc26 => ?_)
          · refine CW.seq ?_
            refine CW.region ?_
            refine RG.vl rfl rfl rfl (Ev.move rfl rfl) ?_
            refine RG.vl rfl rfl rfl (Ev.eqI rfl rfl rfl) ?_
            refine RG.vl rfl rfl rfl (Ev.move rfl rfl) ?_
            refine RG.split (d := 43) rfl (fun hg27 => ?_) (fun hg27 => ?_)
            · refine RG.pass rfl rfl rfl ?_
              refine RG.pass rfl rfl rfl ?_
              refine RG.vl rfl rfl rfl (Ev.pickT rfl rfl rfl) ?_
              refine RG.vl rfl rfl rfl (Ev.move rfl rfl) ?_
              refine RG.vl rfl rfl rfl (Ev.eqI rfl rfl rfl) ?_
              refine RG.vl rfl rfl rfl (Ev.move rfl rfl) ?_
              refine RG.split (d := 49) rfl (fun hg28 => ?_) (fun hg28 => ?_)
              · refine RG.pass rfl rfl rfl ?_
                refine RG.pass rfl rfl rfl ?_
                refine RG.vl rfl rfl rfl (Ev.pickT rfl rfl rfl) ?_
                refine RG.vl rfl rfl rfl (Ev.assign rfl rfl) ?_
                refine RG.vl rfl rfl rfl (Ev.assign rfl rfl) ?_
                refine RG.done ?_
                refine QW.sub (S' := [(2, _), (6, _), (7, _), (8, _), (10, _), (11, _), (29, _), (30, _), (31, _)]) ⟨rfl, rfl, rfl, rfl, rfl, rfl, rfl, rfl, rfl, trivial⟩ ?_
                refine QW.then_ ?_
                refine CW.region ?_
                refine RG.vl rfl rfl rfl (Ev.move rfl rfl) ?_
                refine RG.vl rfl rfl rfl (Ev.fld rfl rfl fld_23_1) ?_
                refine RG.vl rfl rfl rfl (Ev.ldAt rfl rfl Try.underlying3 rfl ((hb1.ext hxwl20).cells) (rfl)) ?_
                refine RG.vl rfl rfl rfl (Ev.move rfl rfl) ?_
                refine RG.vl rfl rfl rfl (Ev.fld rfl rfl fld_23_2) ?_
                refine RG.vl rfl rfl rfl (Ev.ldAt rfl rfl Try.underlying3 rfl ((hb1.ext hxwl20).cells) (rfl)) ?_
                refine RG.vl rfl rfl rfl (Ev.mulI rfl rfl rfl (by omega)) ?_
                refine RG.vl rfl rfl rfl (Ev.addI rfl rfl rfl (by omega)) ?_
                refine RG.vl rfl rfl rfl (Ev.move rfl rfl) ?_
                refine RG.vl rfl rfl rfl (Ev.move rfl rfl) ?_
                refine RG.vl rfl rfl rfl ((Ev.look1 keyB rfl rfl rfl (hbwm14.ext hxwl20) Try.underlying81 Try.underlying4 inf_3).conv (hts_look s.lo s.hi _)) ?_
                refine RG.vl rfl rfl rfl (Ev.move rfl rfl) ?_
                refine RG.vl rfl rfl rfl (Ev.move rfl rfl) ?_
                refine RG.vl rfl rfl rfl ((Ev.look1 keyB rfl rfl rfl (hbwm14.ext hxwl20) Try.underlying81 Try.underlying4 inf_3).conv (hts_look s.lo s.hi _)) ?_
                refine RG.vl rfl rfl rfl (Ev.build1 rfl rfl rfl inf_48 rfl rfl (by kernel_rfl) rfl) ?_
                refine RG.buildD (xs := [.tmp 67]) rfl rfl rfl rfl rfl rfl rfl Try.underlying24 inf_48 rfl rfl rfl rfl (fun g29 w29 eg29 hx29 hb29 => ?_)
                have hsep30 := own_new (own_ext hown hE24) eg29
                replace hxwl20 := Ex.tr hxwl20 hx29
                replace hE24 := Ex.tr hE24 hx29
                refine RG.app rfl rfl rfl rfl rfl rfl rfl Try.underlying24 inf_48 rfl rfl (own_ext hown hE24) rfl (fun _ => ⟨_, rfl, hb29.cells⟩) rfl (by simp only [maxLen]; omega) (by omega) (hxwl20.size) (fun v31 wa32 hown33 hgr34 hat35 => ?_)
                have hb36 := Blk.grown hb29 hgr34 hsep30.symm
                have hsep37 := sep_app hat35 hsep30 (Blk.lt hb29)
                replace hxwl20 := own_block (own_ext hown hE24) hxwl20 hgr34 (Nat.le_refl _) hxwl20.size
                refine RG.vl rfl rfl rfl (Ev.assign rfl rfl) ?_
                refine RG.done ?_
                refine QW.sub (S' := [(2, _), (6, _), (7, _), (29, _), (30, _), (31, _)]) ⟨rfl, rfl, rfl, rfl, rfl, rfl, trivial⟩ ?_
                refine QW.blockN ?_
                refine QW.then_ ?_
                refine CW.region ?_
                refine RG.vl rfl rfl rfl (Ev.addI rfl rfl rfl (by omega)) ?_
                refine RG.vl rfl rfl rfl (Ev.move rfl rfl) ?_
                refine RG.done ?_
                refine QW.round2 (k + 1) (v31) ⟨rfl, rfl, trivial⟩ ⟨rfl, rfl, rfl, rfl, trivial⟩ ⟨⟨by omega, by rw [drawL_step s _ k c hc (fun e => absurd (show (c.toNat : Int) = 63 by rw [e]; rfl) (by assumption)), mkb_eq s c k (true) (true) (selT c 65 (by assumption)) (selT c 68 (by assumption)), List.length_append, List.flatMap_append]; exact hown33, all_snoc _ k c _ hc hall (by have := mt (idx_letters c).2 (by assumption); simpa using this)⟩, hxwl20⟩ (by omega)
              · refine RG.vl rfl rfl rfl (Ev.move rfl rfl) ?_
                refine RG.vl rfl rfl rfl (Ev.eqI rfl rfl rfl) ?_
                refine RG.vl rfl rfl rfl (Ev.pickF rfl rfl rfl) ?_
                refine RG.vl rfl rfl rfl (Ev.assign rfl rfl) ?_
                refine RG.vl rfl rfl rfl (Ev.assign rfl rfl) ?_
                refine RG.done ?_
                refine QW.sub (S' := [(2, _), (6, _), (7, _), (8, _), (10, _), (11, _), (29, _), (30, _), (31, _)]) ⟨rfl, rfl, rfl, rfl, rfl, rfl, rfl, rfl, rfl, trivial⟩ ?_
                refine QW.then_ ?_
                refine CW.region ?_
                refine RG.vl rfl rfl rfl (Ev.move rfl rfl) ?_
                refine RG.vl rfl rfl rfl (Ev.fld rfl rfl fld_23_1) ?_
                refine RG.vl rfl rfl rfl (Ev.ldAt rfl rfl Try.underlying3 rfl ((hb1.ext hxwl20).cells) (rfl)) ?_
                refine RG.vl rfl rfl rfl (Ev.move rfl rfl) ?_
                refine RG.vl rfl rfl rfl (Ev.fld rfl rfl fld_23_2) ?_
                refine RG.vl rfl rfl rfl (Ev.ldAt rfl rfl Try.underlying3 rfl ((hb1.ext hxwl20).cells) (rfl)) ?_
                refine RG.vl rfl rfl rfl (Ev.mulI rfl rfl rfl (by omega)) ?_
                refine RG.vl rfl rfl rfl (Ev.addI rfl rfl rfl (by omega)) ?_
                refine RG.vl rfl rfl rfl (Ev.move rfl rfl) ?_
                refine RG.vl rfl rfl rfl (Ev.move rfl rfl) ?_
                refine RG.vl rfl rfl rfl ((Ev.look1 keyB rfl rfl rfl (hbwm14.ext hxwl20) Try.underlying81 Try.underlying4 inf_3).conv (hts_look s.lo s.hi _)) ?_
                refine RG.vl rfl rfl rfl (Ev.move rfl rfl) ?_
                refine RG.vl rfl rfl rfl (Ev.move rfl rfl) ?_
                refine RG.vl rfl rfl rfl ((Ev.look1 keyB rfl rfl rfl (hbwm14.ext hxwl20) Try.underlying81 Try.underlying4 inf_3).conv (hts_look s.lo s.hi _)) ?_
                refine RG.vl rfl rfl rfl (Ev.build1 rfl rfl rfl inf_48 rfl rfl (by kernel_rfl) rfl) ?_
                refine RG.buildD (xs := [.tmp 67]) rfl rfl rfl rfl rfl rfl rfl Try.underlying24 inf_48 rfl rfl rfl rfl (fun g38 w38 eg38 hx38 hb38 => ?_)
                have hsep39 := own_new (own_ext hown hE24) eg38
                replace hxwl20 := Ex.tr hxwl20 hx38
                replace hE24 := Ex.tr hE24 hx38
                refine RG.app rfl rfl rfl rfl rfl rfl rfl Try.underlying24 inf_48 rfl rfl (own_ext hown hE24) rfl (fun _ => ⟨_, rfl, hb38.cells⟩) rfl (by simp only [maxLen]; omega) (by omega) (hxwl20.size) (fun v40 wa41 hown42 hgr43 hat44 => ?_)
                have hb45 := Blk.grown hb38 hgr43 hsep39.symm
                have hsep46 := sep_app hat44 hsep39 (Blk.lt hb38)
                replace hxwl20 := own_block (own_ext hown hE24) hxwl20 hgr43 (Nat.le_refl _) hxwl20.size
                refine RG.vl rfl rfl rfl (Ev.assign rfl rfl) ?_
                refine RG.done ?_
                refine QW.sub (S' := [(2, _), (6, _), (7, _), (29, _), (30, _), (31, _)]) ⟨rfl, rfl, rfl, rfl, rfl, rfl, trivial⟩ ?_
                refine QW.blockN ?_
                refine QW.then_ ?_
                refine CW.region ?_
                refine RG.vl rfl rfl rfl (Ev.addI rfl rfl rfl (by omega)) ?_
                refine RG.vl rfl rfl rfl (Ev.move rfl rfl) ?_
                refine RG.done ?_
                refine QW.round2 (k + 1) (v40) ⟨rfl, rfl, trivial⟩ ⟨rfl, rfl, rfl, rfl, trivial⟩ ⟨⟨by omega, by rw [drawL_step s _ k c hc (fun e => absurd (show (c.toNat : Int) = 63 by rw [e]; rfl) (by assumption)), mkb_eq s c k (true) (decide ((c.toNat : Int) = 70)) (selT c 65 (by assumption)) (selF c 68 (by assumption)), List.length_append, List.flatMap_append]; exact hown42, all_snoc _ k c _ hc hall (by have := mt (idx_letters c).2 (by assumption); simpa using this)⟩, hxwl20⟩ (by omega)
            · refine RG.vl rfl rfl rfl (Ev.move rfl rfl) ?_
              refine RG.vl rfl rfl rfl (Ev.eqI rfl rfl rfl) ?_
              refine RG.vl rfl rfl rfl (Ev.pickF rfl rfl rfl) ?_
              refine RG.vl rfl rfl rfl (Ev.move rfl rfl) ?_
              refine RG.vl rfl rfl rfl (Ev.eqI rfl rfl rfl) ?_
              refine RG.vl rfl rfl rfl (Ev.move rfl rfl) ?_
              refine RG.split (d := 49) rfl (fun hg47 => ?_) (fun hg47 => ?_)
              · refine RG.pass rfl rfl rfl ?_
                refine RG.pass rfl rfl rfl ?_
                refine RG.vl rfl rfl rfl (Ev.pickT rfl rfl rfl) ?_
                refine RG.vl rfl rfl rfl (Ev.assign rfl rfl) ?_
                refine RG.vl rfl rfl rfl (Ev.assign rfl rfl) ?_
                refine RG.done ?_
                refine QW.sub (S' := [(2, _), (6, _), (7, _), (8, _), (10, _), (11, _), (29, _), (30, _), (31, _)]) ⟨rfl, rfl, rfl, rfl, rfl, rfl, rfl, rfl, rfl, trivial⟩ ?_
                refine QW.then_ ?_
                refine CW.region ?_
                refine RG.vl rfl rfl rfl (Ev.move rfl rfl) ?_
                refine RG.vl rfl rfl rfl (Ev.fld rfl rfl fld_23_1) ?_
                refine RG.vl rfl rfl rfl (Ev.ldAt rfl rfl Try.underlying3 rfl ((hb1.ext hxwl20).cells) (rfl)) ?_
                refine RG.vl rfl rfl rfl (Ev.move rfl rfl) ?_
                refine RG.vl rfl rfl rfl (Ev.fld rfl rfl fld_23_2) ?_
                refine RG.vl rfl rfl rfl (Ev.ldAt rfl rfl Try.underlying3 rfl ((hb1.ext hxwl20).cells) (rfl)) ?_
                refine RG.vl rfl rfl rfl (Ev.mulI rfl rfl rfl (by omega)) ?_
                refine RG.vl rfl rfl rfl (Ev.addI rfl rfl rfl (by omega)) ?_
                refine RG.vl rfl rfl rfl (Ev.move rfl rfl) ?_
                refine RG.vl rfl rfl rfl (Ev.move rfl rfl) ?_
                refine RG.vl rfl rfl rfl ((Ev.look1 keyB rfl rfl rfl (hbwm14.ext hxwl20) Try.underlying81 Try.underlying4 inf_3).conv (hts_look s.lo s.hi _)) ?_
                refine RG.vl rfl rfl rfl (Ev.move rfl rfl) ?_
                refine RG.vl rfl rfl rfl (Ev.move rfl rfl) ?_
                refine RG.vl rfl rfl rfl ((Ev.look1 keyB rfl rfl rfl (hbwm14.ext hxwl20) Try.underlying81 Try.underlying4 inf_3).conv (hts_look s.lo s.hi _)) ?_
                refine RG.vl rfl rfl rfl (Ev.build1 rfl rfl rfl inf_48 rfl rfl (by kernel_rfl) rfl) ?_
                refine RG.buildD (xs := [.tmp 67]) rfl rfl rfl rfl rfl rfl rfl Try.underlying24 inf_48 rfl rfl rfl rfl (fun g48 w48 eg48 hx48 hb48 => ?_)
                have hsep49 := own_new (own_ext hown hE24) eg48
                replace hxwl20 := Ex.tr hxwl20 hx48
                replace hE24 := Ex.tr hE24 hx48
                refine RG.app rfl rfl rfl rfl rfl rfl rfl Try.underlying24 inf_48 rfl rfl (own_ext hown hE24) rfl (fun _ => ⟨_, rfl, hb48.cells⟩) rfl (by simp only [maxLen]; omega) (by omega) (hxwl20.size) (fun v50 wa51 hown52 hgr53 hat54 => ?_)
                have hb55 := Blk.grown hb48 hgr53 hsep49.symm
                have hsep56 := sep_app hat54 hsep49 (Blk.lt hb48)
                replace hxwl20 := own_block (own_ext hown hE24) hxwl20 hgr53 (Nat.le_refl _) hxwl20.size
                refine RG.vl rfl rfl rfl (Ev.assign rfl rfl) ?_
                refine RG.done ?_
                refine QW.sub (S' := [(2, _), (6, _), (7, _), (29, _), (30, _), (31, _)]) ⟨rfl, rfl, rfl, rfl, rfl, rfl, trivial⟩ ?_
                refine QW.blockN ?_
                refine QW.then_ ?_
                refine CW.region ?_
                refine RG.vl rfl rfl rfl (Ev.addI rfl rfl rfl (by omega)) ?_
                refine RG.vl rfl rfl rfl (Ev.move rfl rfl) ?_
                refine RG.done ?_
                refine QW.round2 (k + 1) (v50) ⟨rfl, rfl, trivial⟩ ⟨rfl, rfl, rfl, rfl, trivial⟩ ⟨⟨by omega, by rw [drawL_step s _ k c hc (fun e => absurd (show (c.toNat : Int) = 63 by rw [e]; rfl) (by assumption)), mkb_eq s c k (decide ((c.toNat : Int) = 70)) (true) (selF c 65 (by assumption)) (selT c 68 (by assumption)), List.length_append, List.flatMap_append]; exact hown52, all_snoc _ k c _ hc hall (by have := mt (idx_letters c).2 (by assumption); simpa using this)⟩, hxwl20⟩ (by omega)
              · refine RG.vl rfl rfl rfl (Ev.move rfl rfl) ?_
                refine RG.vl rfl rfl rfl (Ev.eqI rfl rfl rfl) ?_
                refine RG.vl rfl rfl rfl (Ev.pickF rfl rfl rfl) ?_
                refine RG.vl rfl rfl rfl (Ev.assign rfl rfl) ?_
                refine RG.vl rfl rfl rfl (Ev.assign rfl rfl) ?_
                refine RG.done ?_
                refine QW.sub (S' := [(2, _), (6, _), (7, _), (8, _), (10, _), (11, _), (29, _), (30, _), (31, _)]) ⟨rfl, rfl, rfl, rfl, rfl, rfl, rfl, rfl, rfl, trivial⟩ ?_
                refine QW.then_ ?_
                refine CW.region ?_
                refine RG.vl rfl rfl rfl (Ev.move rfl rfl) ?_
                refine RG.vl rfl rfl rfl (Ev.fld rfl rfl fld_23_1) ?_
                refine RG.vl rfl rfl rfl (Ev.ldAt rfl rfl Try.underlying3 rfl ((hb1.ext hxwl20).cells) (rfl)) ?_
                refine RG.vl rfl rfl rfl (Ev.move rfl rfl) ?_
                refine RG.vl rfl rfl rfl (Ev.fld rfl rfl fld_23_2) ?_
                refine RG.vl rfl rfl rfl (Ev.ldAt rfl rfl Try.underlying3 rfl ((hb1.ext hxwl20).cells) (rfl)) ?_
                refine RG.vl rfl rfl rfl (Ev.mulI rfl rfl rfl (by omega)) ?_
                refine RG.vl rfl rfl rfl (Ev.addI rfl rfl rfl (by omega)) ?_
                refine RG.vl rfl rfl rfl (Ev.move rfl rfl) ?_
                refine RG.vl rfl rfl rfl (Ev.move rfl rfl) ?_
                refine RG.vl rfl rfl rfl ((Ev.look1 keyB rfl rfl rfl (hbwm14.ext hxwl20) Try.underlying81 Try.underlying4 inf_3).conv (hts_look s.lo s.hi _)) ?_
                refine RG.vl rfl rfl rfl (Ev.move rfl rfl) ?_
                refine RG.vl rfl rfl rfl (Ev.move rfl rfl) ?_
                refine RG.vl rfl rfl rfl ((Ev.look1 keyB rfl rfl rfl (hbwm14.ext hxwl20) Try.underlying81 Try.underlying4 inf_3).conv (hts_look s.lo s.hi _)) ?_
                refine RG.vl rfl rfl rfl (Ev.build1 rfl rfl rfl inf_48 rfl rfl (by kernel_rfl) rfl) ?_
                refine RG.buildD (xs := [.tmp 67]) rfl rfl rfl rfl rfl rfl rfl Try.underlying24 inf_48 rfl rfl rfl rfl (fun g57 w57 eg57 hx57 hb57 => ?_)
                have hsep58 := own_new (own_ext hown hE24) eg57
                replace hxwl20 := Ex.tr hxwl20 hx57
                replace hE24 := Ex.tr hE24 hx57
                refine RG.app rfl rfl rfl rfl rfl rfl rfl Try.underlying24 inf_48 rfl rfl (own_ext hown hE24) rfl (fun _ => ⟨_, rfl, hb57.cells⟩) rfl (by simp only [maxLen]; omega) (by omega) (hxwl20.size) (fun v59 wa60 hown61 hgr62 hat63 => ?_)
                have hb64 := Blk.grown hb57 hgr62 hsep58.symm
                have hsep65 := sep_app hat63 hsep58 (Blk.lt hb57)
                replace hxwl20 := own_block (own_ext hown hE24) hxwl20 hgr62 (Nat.le_refl _) hxwl20.size
                refine RG.vl rfl rfl rfl (Ev.assign rfl rfl) ?_
                refine RG.done ?_
                refine QW.sub (S' := [(2, _), (6, _), (7, _), (29, _), (30, _), (31, _)]) ⟨rfl, rfl, rfl, rfl, rfl, rfl, trivial⟩ ?_
                refine QW.blockN ?_
                refine QW.then_ ?_
                refine CW.region ?_
                refine RG.vl rfl rfl rfl (Ev.addI rfl rfl rfl (by omega)) ?_
                refine RG.vl rfl rfl rfl (Ev.move rfl rfl) ?_
                refine RG.done ?_
                refine QW.round2 (k + 1) (v59) ⟨rfl, rfl, trivial⟩ ⟨rfl, rfl, rfl, rfl, trivial⟩ ⟨⟨by omega, by rw [drawL_step s _ k c hc (fun e => absurd (show (c.toNat : Int) = 63 by rw [e]; rfl) (by assumption)), mkb_eq s c k (decide ((c.toNat : Int) = 70)) (decide ((c.toNat : Int) = 70)) (selF c 65 (by assumption)) (selF c 68 (by assumption)), List.length_append, List.flatMap_append]; exact hown61, all_snoc _ k c _ hc hall (by have := mt (idx_letters c).2 (by assumption); simpa using this)⟩, hxwl20⟩ (by omega)
          · refine CW.skip ?_
            refine QW.blockN ?_
            refine QW.then_ ?_
            refine CW.region ?_
            refine RG.vl rfl rfl rfl (Ev.addI rfl rfl rfl (by omega)) ?_
            refine RG.vl rfl rfl rfl (Ev.move rfl rfl) ?_
            refine RG.done ?_
            refine QW.round2 (k + 1) (u) ⟨rfl, rfl, trivial⟩ ⟨rfl, rfl, rfl, rfl, trivial⟩ ⟨⟨by omega, by rw [drawL_skip s _ k c hc (byte_eq (d := 63) (Decidable.not_not.1 (by assumption)))]; exact (own_ext hown hE24), all_snoc _ k c _ hc hall (by have := mt (idx_letters c).2 (by assumption); simpa using this)⟩, hxwl20⟩ (by omega)
      · refine CW.exit ?_
        refine QW.thenExit ?_
        refine QW.thenExit ?_
        refine QW.blockHit ?_
        refine QW.then_ ?_
        refine CW.seq ?_
        refine CW.region ?_
        refine RG.vl rfl rfl rfl (Ev.move rfl rfl) ?_
        refine RG.vl rfl rfl rfl (Ev.assign rfl rfl) ?_
        refine RG.vl rfl rfl rfl (Ev.assign rfl rfl) ?_
        refine RG.done ?_
        refine QW.then_ ?_
        refine CW.ret ?_
        refine QW.ret2 rfl rfl rfl ?_
        have hB := (Ex.tr hR18 hxwl20)
        have e : k = t.data.toList.length := by omega
        rw [e, List.take_length] at hown hall
        obtain ⟨e1, e2⟩ := drawErr_ok s t.data.toList ⟨hs, by omega, hall⟩
        exact ⟨_, by rw [e1], by rw [e2]; exact RdL.of_own Br.c_len hown, hB⟩

end Go.Proofs.Ytnecppiamecemaa
