/- Walks (HJ). Written by program. -/
import Derived.Test.YtnecppiamecemaaT
import Derived.Test.YtnecppiamecemaaHS
namespace Go.Proofs.Ytnecppiamecemaa
open Go.RowKit
set_option maxRecDepth 100000 in
set_option maxHeartbeats 1000000 in
theorem setup_ret (f : Fm) (w : World) (hf : f.Ok) :
    Ret Try.prog 20 [f.v] w (fun v w' => v = (setupOf f).v ∧ Ex w w') := by
  obtain ⟨⟨f1, f2⟩, ⟨f3, f4⟩, ⟨f5, f6⟩, ⟨f7, f8⟩, ⟨f9, f10⟩, f11, f12⟩ := id hf
  have hB0 : Ex w w := Ex.rfl_ _
  refine Ret.of Try.func20 rfl Try.ntmps20 rfl ?_
  refine CW.seq ?_
  refine CW.region ?_
  refine RG.box rfl rfl rfl rfl rfl (fun g1 w1 eg1 hx1 hb1 => ?_)
  have hle2 : w.heap.size ≤ g1 := by have := (Ex.rfl_ w).size; omega
  have hE3 := hx1
  refine RG.alloc_ rfl rfl rfl rfl inf_23 (fun g4 w4 eg4 hx4 hb4 => ?_)
  have hle5 : w.heap.size ≤ g4 := by have := hE3.size; omega
  have hle6 : w1.heap.size ≤ g4 := by have := (Ex.rfl_ w1).size; omega
  have hlt7 : g1 < g4 := by have := Blk.lt hb1; omega
  replace hE3 := Ex.tr hE3 hx4
  have hE8 := hx4
  refine RG.done ?_
  refine QW.then_ ?_
  refine CW.seq ?_
  refine CW.region ?_
  refine RG.vl rfl rfl rfl (Ev.fld rfl rfl fld_51_0) ?_
  refine RG.vl rfl rfl rfl (Ev.ldAt rfl rfl Try.underlying5 rfl ((hb1.ext hE8).cells) (rfl)) ?_
  refine RG.vl rfl rfl rfl (Ev.to64 rfl rfl Try.underlying5 Try.underlying3 (by omega)) ?_
  refine RG.vl rfl rfl rfl (Ev.remI rfl rfl rfl (by omega)) ?_
  refine RG.vl rfl rfl rfl (Ev.addI rfl rfl rfl (by omega)) ?_
  refine RG.vl rfl rfl rfl (Ev.fld rfl rfl fld_51_1) ?_
  refine RG.vl rfl rfl rfl (Ev.ldAt rfl rfl Try.underlying5 rfl ((hb1.ext hE8).cells) (rfl)) ?_
  refine RG.vl rfl rfl rfl (Ev.to64 rfl rfl Try.underlying5 Try.underlying3 (by omega)) ?_
  refine RG.vl rfl rfl rfl (Ev.addI rfl rfl rfl (by omega)) ?_
  refine RG.vl rfl rfl rfl (Ev.fld rfl rfl fld_51_2) ?_
  refine RG.vl rfl rfl rfl (Ev.ldAt rfl rfl Try.underlying5 rfl ((hb1.ext hE8).cells) (rfl)) ?_
  refine RG.vl rfl rfl rfl (Ev.to64 rfl rfl Try.underlying5 Try.underlying3 (by omega)) ?_
  refine RG.vl rfl rfl rfl (Ev.addI rfl rfl rfl (by omega)) ?_
  refine RG.vl rfl rfl rfl (Ev.fld rfl rfl fld_51_4) ?_
  refine RG.vl rfl rfl rfl (Ev.ldAt rfl rfl Try.underlying5 rfl ((hb1.ext hE8).cells) (rfl)) ?_
  refine RG.vl rfl rfl rfl (Ev.to64 rfl rfl Try.underlying5 Try.underlying3 (by omega)) ?_
  refine RG.vl rfl rfl rfl (Ev.fld rfl rfl fld_51_4) ?_
  refine RG.vl rfl rfl rfl (Ev.ldAt rfl rfl Try.underlying5 rfl ((hb1.ext hE8).cells) (rfl)) ?_
  refine RG.vl rfl rfl rfl (Ev.to64 rfl rfl Try.underlying5 Try.underlying3 (by omega)) ?_
  refine RG.vl rfl rfl rfl (Ev.addI rfl rfl rfl (by omega)) ?_
  refine RG.vl rfl rfl rfl (Ev.fld rfl rfl fld_51_5) ?_
  refine RG.vl rfl rfl rfl (Ev.ldAt rfl rfl Try.underlying5 rfl ((hb1.ext hE8).cells) (rfl)) ?_
  refine RG.vl rfl rfl rfl (Ev.to64 rfl rfl Try.underlying5 Try.underlying3 (by omega)) ?_
  refine RG.vl rfl rfl rfl (Ev.remI rfl rfl rfl (by omega)) ?_
  refine RG.vl rfl rfl rfl (Ev.addI rfl rfl rfl (by omega)) ?_
  refine RG.vl rfl rfl rfl (Ev.build1 rfl rfl rfl inf_23 rfl rfl (by kernel_rfl) rfl) ?_
  refine RG.local_ rfl rfl rfl rfl (fun _ => rfl) rfl rfl (fun _ => rfl) inf_23 rfl rfl rfl (fun g9 w9 eg9 hx9 hb9 => ?_)
  have hle10 : w.heap.size ≤ g9 := by have := hE3.size; omega
  have hle11 : w1.heap.size ≤ g9 := by have := hE8.size; omega
  have hle12 : w4.heap.size ≤ g9 := by have := (Ex.rfl_ w4).size; omega
  have hlt13 : g1 < g9 := by have := Blk.lt (hb1.ext hE8); omega
  have hlt14 : g4 < g9 := by have := Blk.lt hb4; omega
  replace hE3 := Ex.tr hE3 hx9
  replace hE8 := Ex.tr hE8 hx9
  have hE15 := hx9
  refine RG.done ?_
  refine QW.sub (S' := [(1, _), (2, _), (3, _)]) ⟨rfl, rfl, rfl, trivial⟩ ?_
  refine QW.then_ ?_
  refine CW.seq ?_
  refine CW.region ?_
  refine RG.vl rfl rfl rfl (Ev.fld rfl rfl fld_51_3) ?_
  refine RG.vl rfl rfl rfl (Ev.ldAt rfl rfl Try.underlying5 rfl ((hb1.ext hE8).cells) (rfl)) ?_
  refine RG.vl rfl rfl rfl (Ev.to64 rfl rfl Try.underlying5 Try.underlying3 (by omega)) ?_
  refine RG.vl rfl rfl rfl (Ev.fld rfl rfl fld_23_2) ?_
  refine RG.vl rfl rfl rfl (Ev.ldAt rfl rfl Try.underlying3 rfl (hb9.cells) (rfl)) ?_
  refine RG.vl rfl rfl rfl (Ev.addI rfl rfl rfl (by omega)) ?_
  refine RG.vl rfl rfl rfl (Ev.quoI rfl rfl rfl (by omega)) ?_
  refine RG.vl rfl rfl rfl (Ev.remI rfl rfl rfl (by omega)) ?_
  refine RG.vl rfl rfl rfl (Ev.fld rfl rfl fld_23_3) ?_
  refine RG.st (g := g9) (k := 3) rfl rfl rfl rfl rfl sz_3 rfl hb9 rfl (fun ws16 hwws16 hbws16 => ?_)
  replace hE3 := Wr.below hE3 hwws16 hle10
  replace hE8 := Wr.below hE8 hwws16 hle11
  replace hE15 := Wr.below hE15 hwws16 hle12
  refine RG.done ?_
  refine QW.then_ ?_
  refine CW.seq ?_
  refine CW.region ?_
  refine RG.vl rfl rfl rfl (Ev.ldAgg rfl rfl Try.underlying23 rfl sz_23 rfl (hbws16.cells)) ?_
  refine RG.stAll (g := g4) rfl rfl rfl rfl rfl sz_23 rfl rfl rfl (hb4.ext hE15) (fun ws17 hwws17 hbws17 => ?_)
  replace hbws16 := Blk.far hbws16 hwws17 (by omega)
  replace hE3 := Wr.below hE3 hwws17 hle5
  replace hE8 := Wr.below hE8 hwws17 hle6
  refine RG.done ?_
  refine QW.then_ ?_
  refine CW.ret ?_
  refine QW.retC rfl rfl Try.underlying23 rfl sz_23 rfl hbws17 ?_
  have hB := (Ex.tr hB0 hE3)
  exact ⟨rfl, hB⟩

set_option maxRecDepth 100000 in
set_option maxHeartbeats 1000000 in
theorem text_ret (s : Su) (u : Value) (l : List UInt8) (w : World) (hs : Okay s) (hl : RdL w 1 encB u l) :
    Ret Try.prog 21 [s.v, u] w (fun v w' => v = .string ⟨(wantT s l).toArray⟩ ∧ Ex w w') := by
  obtain ⟨a1, a2, _⟩ := id hs
  have hB0 : Ex w w := Ex.rfl_ _
  refine Ret.of Try.func21 rfl Try.ntmps21 rfl ?_
  refine CW.seq ?_
  refine CW.region ?_
  refine RG.box rfl rfl rfl rfl rfl (fun g1 w1 eg1 hx1 hb1 => ?_)
  have hle2 : w.heap.size ≤ g1 := by have := (Ex.rfl_ w).size; omega
  have hE3 := hx1
  refine RG.vl rfl rfl rfl (Ev.assign rfl rfl) ?_
  refine RG.done ?_
  refine QW.then_ ?_
  refine CW.seq ?_
  refine CW.region ?_
  refine RG.vl rfl rfl rfl (Ev.fld rfl rfl fld_23_0) ?_
  refine RG.vl rfl rfl rfl (Ev.ldAt rfl rfl Try.underlying3 rfl (hb1.cells) (rfl)) ?_
  replace hl := (hl.ext hE3)
  have hR4 := (Ex.tr hB0 hE3)
  refine RG.make1 (m := s.pl.toNat) rfl rfl rfl rfl rfl rfl (by omega) Try.underlying52 inf_5 rfl (by omega) (by simp only [maxLen]; omega) (fun gT w5 egT hx5 hb5 => ?_)
  have hle6 : w1.heap.size ≤ gT := by have := (Ex.rfl_ w1).size; omega
  have hlt7 : g1 < gT := by have := Blk.lt hb1; omega
  have hE8 := hx5
  refine RG.vl rfl rfl rfl (Ev.assign rfl rfl) ?_
  refine RG.done ?_
  refine QW.then_ ?_
  refine CW.seq ?_
  refine CW.seq ?_
  refine CW.region ?_
  refine RG.vl rfl rfl rfl (Ev.move rfl rfl) ?_
  refine RG.vl rfl rfl rfl (Ev.lenSlice rfl rfl rfl Try.underlying52) ?_
  refine RG.vl rfl rfl rfl (Ev.move rfl rfl) ?_
  refine RG.done ?_
  refine QW.then_ ?_
  refine CW.block ?_
  refine CW.loop1 [(1, _), (4, _), (5, _), (11, _)] ⟨rfl, rfl, rfl, rfl, trivial⟩ (fun (k : Nat) => [(12, .int .i64 k)]) (fun k w' => (k ≤ s.pl.toNat ∧ Blk w' gT 5 (wtx s l k)) ∧ Ex w1 w') (fun k => s.pl.toNat - k) (0) ⟨rfl, trivial⟩ ⟨⟨Nat.zero_le _, by rw [← wtx_zero]; exact hb5⟩, hE8⟩ ?_
  rintro k wl9 ⟨⟨hkp, hT⟩, hxwl9⟩
  refine CW.sub (S' := [(12, _), (1, _), (4, _), (5, _), (11, _)]) ⟨rfl, rfl, rfl, rfl, rfl, trivial⟩ ?_
  refine CW.seq ?_
  refine CW.region ?_
  refine RG.vl rfl rfl rfl (Ev.lss rfl rfl rfl) ?_
  refine RG.done ?_
  refine QW.then_ ?_
  refine CW.seq ?_
  refine CW.condP rfl (fun hc10 => ?_) (fun hc10 => ?_)
  · refine CW.skip ?_
    refine QW.then_ ?_
    refine CW.seq ?_
    refine CW.block ?_
    refine CW.seq ?_
    refine CW.region ?_
    refine RG.vl rfl rfl rfl (Ev.move rfl rfl) ?_
    refine RG.vl rfl rfl rfl (Ev.assign rfl rfl) ?_
    refine RG.done ?_
    refine QW.then_ ?_
    refine CW.seq ?_
    refine CW.region ?_
    refine RG.vl rfl rfl rfl (Ev.move rfl rfl) ?_
    refine RG.vl rfl rfl rfl (Ev.move rfl rfl) ?_
    refine RG.vl rfl rfl rfl (Ev.idxN rfl rfl rfl Try.underlying52 sz_5 (by omega)) ?_
    refine RG.st (g := gT) (k := _) rfl rfl rfl rfl rfl sz_5 rfl hT (by rw [Nat.blt_eq, wtx_len]; omega) (fun ws11 hwws11 hbws11 => ?_)
    replace hxwl9 := Wr.below hxwl9 hwws11 hle6
    refine RG.done ?_
    refine QW.then_ ?_
    refine CW.seq ?_
    refine CW.region ?_
    refine RG.vl rfl rfl rfl (Ev.move rfl rfl) ?_
    refine RG.vl rfl rfl rfl (Ev.move rfl rfl) ?_
    refine RG.vl rfl rfl rfl (Ev.lenL rfl rfl rfl Try.underlying52 ((hl.ext hxwl9))) ?_
    refine RG.vl rfl rfl rfl (Ev.lss rfl rfl rfl) ?_
    refine RG.done ?_
    refine QW.then_ ?_
    refine CW.condP rfl (fun hc12 => ?_) (fun hc12 => ?_)
    · obtain ⟨c, hc⟩ : ∃ c, l[k]? = some c := ⟨_, List.getElem?_eq_getElem (by omega)⟩
      refine CW.region ?_
      refine RG.vl rfl rfl rfl (Ev.move rfl rfl) ?_
      refine RG.vl rfl rfl rfl (Ev.move rfl rfl) ?_
      refine RG.vl rfl rfl rfl (Ev.move rfl rfl) ?_
      refine RG.vl rfl rfl rfl (Ev.move rfl rfl) ?_
      refine RG.idxL rfl rfl rfl rfl rfl rfl Try.underlying52 sz_5 ((hl.ext hxwl9)) (hc) (fun p13 hp13b hp13 => ?_)
      refine RG.vl rfl rfl rfl (Ev.ld0 rfl rfl Try.underlying5 rfl (hp13) (rfl)) ?_
      refine RG.vl rfl rfl rfl (Ev.rem8 rfl rfl rfl (by omega)) ?_
      refine RG.vl rfl rfl rfl (Ev.byteAt rfl rfl rfl Try.underlying9 (by omega) (pick_at c)) ?_
      refine RG.vl rfl rfl rfl (Ev.idxN rfl rfl rfl Try.underlying52 sz_5 (by omega)) ?_
      refine RG.st (g := gT) (k := _) rfl rfl rfl rfl rfl sz_5 rfl hbws11 (by rw [Nat.blt_eq, List.length_set, wtx_len]; omega) (fun ws14 hwws14 hbws14 => ?_)
      replace hxwl9 := Wr.below hxwl9 hwws14 hle6
      refine RG.done ?_
      refine QW.sub (S' := [(1, _), (4, _), (5, _), (11, _), (12, _)]) ⟨rfl, rfl, rfl, rfl, rfl, trivial⟩ ?_
      refine QW.blockN ?_
      refine QW.then_ ?_
      refine CW.region ?_
      refine RG.vl rfl rfl rfl (Ev.addI rfl rfl rfl (by omega)) ?_
      refine RG.vl rfl rfl rfl (Ev.move rfl rfl) ?_
      refine RG.done ?_
      refine QW.round1 (k + 1) ⟨rfl, trivial⟩ ⟨rfl, rfl, rfl, rfl, trivial⟩ ⟨⟨by omega, by rw [← wtx_set2 s l k (.int .u8 84) (.int .u8 (pickL c).toNat) (by rw [hc])]; exact hbws14⟩, hxwl9⟩ (by omega)
    · refine CW.skip ?_
      refine QW.blockN ?_
      refine QW.then_ ?_
      refine CW.region ?_
      refine RG.vl rfl rfl rfl (Ev.addI rfl rfl rfl (by omega)) ?_
      refine RG.vl rfl rfl rfl (Ev.move rfl rfl) ?_
      refine RG.done ?_
      refine QW.round1 (k + 1) ⟨rfl, trivial⟩ ⟨rfl, rfl, rfl, rfl, trivial⟩ ⟨⟨by omega, by rw [← wtx_set s l k (.int .u8 84) (by rw [List.getElem?_eq_none (by omega)]; rfl)]; exact hbws11⟩, hxwl9⟩ (by omega)
  · refine CW.exit ?_
    refine QW.thenExit ?_
    refine QW.thenExit ?_
    refine QW.blockHit ?_
    refine QW.then_ ?_
    refine CW.seq ?_
    obtain rfl : k = s.pl.toNat := by omega
    have hT9 := wtx_rd s l hT a2
    refine CW.region ?_
    refine RG.vl rfl rfl rfl (Ev.move rfl rfl) ?_
    refine RG.vl rfl rfl rfl (Ev.toStr rfl rfl Try.underlying52 Try.underlying5 Try.underlying9 (hT9)) ?_
    refine RG.vl rfl rfl rfl (Ev.assign rfl rfl) ?_
    refine RG.done ?_
    refine QW.then_ ?_
    refine CW.ret ?_
    refine QW.ret1 rfl rfl ?_
    have hB := (Ex.tr hR4 hxwl9)
    exact ⟨rfl, hB⟩

end Go.Proofs.Ytnecppiamecemaa
