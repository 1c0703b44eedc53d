/- Walks (HJ). Written by program. -/
import Derived.Test.YtnecppiamecemaaT
import Derived.Test.YtnecppiamecemaaHS
namespace Go.Proofs.Ytnecppiamecemaa
open Go.RowKit
set_option maxRecDepth 100000 in
set_option maxHeartbeats 1000000 in
theorem setup_ret (f : Fm) (w : World) (hf : f.Ok) :
    Ret Try.prog 20 [f.v] w (fun v w' => v = (setupOf f).v ∧ Ex w w') := by
  obtain ⟨⟨f1, f2⟩, ⟨f3, f4⟩, ⟨f5, f6⟩, ⟨f7, f8⟩, ⟨f9, f10⟩, f11, f12⟩ := id hf
  have hB0 : Ex w w := Ex.rfl_ _
  refine Ret.of Try.func20 rfl Try.ntmps20 rfl ?_
  refine CW.seq ?_
  refine CW.region ?_
  refine RG.box rfl rfl rfl rfl rfl (fun g1 w1 eg1 hx1 hb1 => ?_)
  have hE2 := hx1
  refine RG.alloc_ rfl rfl rfl rfl inf_23 (fun g3 w3 eg3 hx3 hb3 => ?_)
  have hle4 : w.heap.size ≤ g3 := by have := hE2.size; omega
  have hle5 : w1.heap.size ≤ g3 := by have := (Ex.rfl_ w1).size; omega
  have hlt6 : g1 < g3 := by have := Blk.lt hb1; omega
  replace hE2 := Ex.tr hE2 hx3
  have hE7 := hx3
  refine RG.done ?_
  refine QW.then_ ?_
  refine CW.seq ?_
  refine CW.region ?_
  refine RG.vl rfl rfl rfl (Ev.fld rfl rfl fld_51_0) ?_
  refine RG.vl rfl rfl rfl (Ev.ldAt rfl rfl Try.underlying5 rfl ((hb1.ext hE7).cells) (rfl)) ?_
  refine RG.vl rfl rfl rfl (Ev.to64 rfl rfl Try.underlying5 Try.underlying3 (by omega)) ?_
  refine RG.vl rfl rfl rfl (Ev.remI rfl rfl rfl (by omega)) ?_
  refine RG.vl rfl rfl rfl (Ev.addI rfl rfl rfl (by omega)) ?_
  refine RG.vl rfl rfl rfl (Ev.fld rfl rfl fld_51_1) ?_
  refine RG.vl rfl rfl rfl (Ev.ldAt rfl rfl Try.underlying5 rfl ((hb1.ext hE7).cells) (rfl)) ?_
  refine RG.vl rfl rfl rfl (Ev.to64 rfl rfl Try.underlying5 Try.underlying3 (by omega)) ?_
  refine RG.vl rfl rfl rfl (Ev.addI rfl rfl rfl (by omega)) ?_
  refine RG.vl rfl rfl rfl (Ev.fld rfl rfl fld_51_2) ?_
  refine RG.vl rfl rfl rfl (Ev.ldAt rfl rfl Try.underlying5 rfl ((hb1.ext hE7).cells) (rfl)) ?_
  refine RG.vl rfl rfl rfl (Ev.to64 rfl rfl Try.underlying5 Try.underlying3 (by omega)) ?_
  refine RG.vl rfl rfl rfl (Ev.addI rfl rfl rfl (by omega)) ?_
  refine RG.vl rfl rfl rfl (Ev.fld rfl rfl fld_51_4) ?_
  refine RG.vl rfl rfl rfl (Ev.ldAt rfl rfl Try.underlying5 rfl ((hb1.ext hE7).cells) (rfl)) ?_
  refine RG.vl rfl rfl rfl (Ev.to64 rfl rfl Try.underlying5 Try.underlying3 (by omega)) ?_
  refine RG.vl rfl rfl rfl (Ev.fld rfl rfl fld_51_4) ?_
  refine RG.vl rfl rfl rfl (Ev.ldAt rfl rfl Try.underlying5 rfl ((hb1.ext hE7).cells) (rfl)) ?_
  refine RG.vl rfl rfl rfl (Ev.to64 rfl rfl Try.underlying5 Try.underlying3 (by omega)) ?_
  refine RG.vl rfl rfl rfl (Ev.addI rfl rfl rfl (by omega)) ?_
  refine RG.vl rfl rfl rfl (Ev.fld rfl rfl fld_51_5) ?_
  refine RG.vl rfl rfl rfl (Ev.ldAt rfl rfl Try.underlying5 rfl ((hb1.ext hE7).cells) (rfl)) ?_
  refine RG.vl rfl rfl rfl (Ev.to64 rfl rfl Try.underlying5 Try.underlying3 (by omega)) ?_
  refine RG.vl rfl rfl rfl (Ev.remI rfl rfl rfl (by omega)) ?_
  refine RG.vl rfl rfl rfl (Ev.addI rfl rfl rfl (by omega)) ?_
  refine RG.vl rfl rfl rfl (Ev.build1 rfl rfl rfl inf_23 rfl rfl (by kernel_rfl) rfl) ?_
  refine RG.local_ rfl rfl rfl rfl (fun _ => rfl) rfl rfl (fun _ => rfl) inf_23 rfl rfl rfl (fun g8 w8 eg8 hx8 hb8 => ?_)
  have hle9 : w.heap.size ≤ g8 := by have := hE2.size; omega
  have hle10 : w1.heap.size ≤ g8 := by have := hE7.size; omega
  have hle11 : w3.heap.size ≤ g8 := by have := (Ex.rfl_ w3).size; omega
  have hlt12 : g1 < g8 := by have := Blk.lt (hb1.ext hE7); omega
  have hlt13 : g3 < g8 := by have := Blk.lt hb3; omega
  replace hE2 := Ex.tr hE2 hx8
  replace hE7 := Ex.tr hE7 hx8
  have hE14 := hx8
  refine RG.done ?_
  refine QW.sub (S' := [(1, _), (2, _), (3, _)]) ⟨rfl, rfl, rfl, trivial⟩ ?_
  refine QW.then_ ?_
  refine CW.seq ?_
  refine CW.region ?_
  refine RG.vl rfl rfl rfl (Ev.fld rfl rfl fld_51_3) ?_
  refine RG.vl rfl rfl rfl (Ev.ldAt rfl rfl Try.underlying5 rfl ((hb1.ext hE7).cells) (rfl)) ?_
  refine RG.vl rfl rfl rfl (Ev.to64 rfl rfl Try.underlying5 Try.underlying3 (by omega)) ?_
  refine RG.vl rfl rfl rfl (Ev.fld rfl rfl fld_23_2) ?_
  refine RG.vl rfl rfl rfl (Ev.ldAt rfl rfl Try.underlying3 rfl (hb8.cells) (rfl)) ?_
  refine RG.vl rfl rfl rfl (Ev.addI rfl rfl rfl (by omega)) ?_
  refine RG.vl rfl rfl rfl (Ev.quoI rfl rfl rfl (by omega)) ?_
  refine RG.vl rfl rfl rfl (Ev.remI rfl rfl rfl (by omega)) ?_
  refine RG.vl rfl rfl rfl (Ev.fld rfl rfl fld_23_3) ?_
  refine RG.st (g := g8) (k := 3) rfl rfl rfl rfl rfl sz_3 rfl hb8 rfl (fun ws15 hwws15 hbws15 => ?_)
  replace hE2 := Wr.below hE2 hwws15 hle9
  replace hE7 := Wr.below hE7 hwws15 hle10
  replace hE14 := Wr.below hE14 hwws15 hle11
  refine RG.done ?_
  refine QW.then_ ?_
  refine CW.seq ?_
  refine CW.region ?_
  refine RG.vl rfl rfl rfl (Ev.ldAgg rfl rfl Try.underlying23 rfl sz_23 rfl (hbws15.cells)) ?_
  refine RG.stAll (g := g3) rfl rfl rfl rfl rfl sz_23 rfl rfl rfl (hb3.ext hE14) (fun ws16 hwws16 hbws16 => ?_)
  replace hbws15 := Blk.far hbws15 hwws16 (by omega)
  replace hE2 := Wr.below hE2 hwws16 hle4
  replace hE7 := Wr.below hE7 hwws16 hle5
  refine RG.done ?_
  refine QW.then_ ?_
  refine CW.ret ?_
  refine QW.retC rfl rfl Try.underlying23 rfl sz_23 rfl hbws16 ?_
  have hB := (Ex.tr hB0 hE2)
  exact ⟨rfl, hB⟩

set_option maxRecDepth 100000 in
set_option maxHeartbeats 1000000 in
theorem text_ret (s : Su) (u : Value) (l : List UInt8) (w : World) (hs : Okay s) (hl : RdL w 1 encB u l) :
    Ret Try.prog 21 [s.v, u] w (fun v w' => v = .string ⟨(wantT s l).toArray⟩ ∧ Ex w w') := by
  obtain ⟨a1, a2, _⟩ := id hs
  have hB0 : Ex w w := Ex.rfl_ _
  refine Ret.of Try.func21 rfl Try.ntmps21 rfl ?_
  refine CW.seq ?_
  refine CW.region ?_
  refine RG.box rfl rfl rfl rfl rfl (fun g1 w1 eg1 hx1 hb1 => ?_)
  have hE2 := hx1
  refine RG.vl rfl rfl rfl (Ev.assign rfl rfl) ?_
  refine RG.done ?_
  refine QW.then_ ?_
  refine CW.seq ?_
  refine CW.region ?_
  refine RG.vl rfl rfl rfl (Ev.fld rfl rfl fld_23_0) ?_
  refine RG.vl rfl rfl rfl (Ev.ldAt rfl rfl Try.underlying3 rfl (hb1.cells) (rfl)) ?_
  replace hl := (hl.ext hE2)
  have hR3 := (Ex.tr hB0 hE2)
  refine RG.make1 (m := s.pl.toNat) rfl rfl rfl rfl rfl rfl (by omega) Try.underlying52 inf_5 rfl (by omega) (by simp only [maxLen]; omega) (fun gT w4 egT hx4 hb4 => ?_)
  have hle5 : w1.heap.size ≤ gT := by have := (Ex.rfl_ w1).size; omega
  have hlt6 : g1 < gT := by have := Blk.lt hb1; omega
  have hE7 := hx4
  refine RG.vl rfl rfl rfl (Ev.assign rfl rfl) ?_
  refine RG.done ?_
  refine QW.then_ ?_
  refine CW.seq ?_
  refine CW.seq ?_
  refine CW.region ?_
  refine RG.vl rfl rfl rfl (Ev.move rfl rfl) ?_
  refine RG.vl rfl rfl rfl (Ev.lenSlice rfl rfl rfl Try.underlying52) ?_
  refine RG.vl rfl rfl rfl (Ev.move rfl rfl) ?_
  refine RG.done ?_
  refine QW.then_ ?_
  refine CW.block ?_
  refine CW.loop1 [(1, _), (4, _), (5, _), (11, _)] ⟨rfl, rfl, rfl, rfl, trivial⟩ (fun (k : Nat) => [(12, .int .i64 k)]) (fun k w' => (k ≤ s.pl.toNat ∧ Blk w' gT 5 (wtx s l k)) ∧ Ex w1 w') (fun k => s.pl.toNat - k) (0) ⟨rfl, trivial⟩ ⟨⟨Nat.zero_le _, by rw [← wtx_zero]; exact hb4⟩, hE7⟩ ?_
  rintro k wl8 ⟨⟨hkp, hT⟩, hxwl8⟩
  refine CW.sub (S' := [(12, _), (1, _), (4, _), (5, _), (11, _)]) ⟨rfl, rfl, rfl, rfl, rfl, trivial⟩ ?_
  refine CW.seq ?_
  refine CW.region ?_
  refine RG.vl rfl rfl rfl (Ev.lss rfl rfl rfl) ?_
  refine RG.done ?_
  refine QW.then_ ?_
  refine CW.seq ?_
  refine CW.condP rfl (fun hc9 => ?_) (fun hc9 => ?_)
  · refine CW.skip ?_
    refine QW.then_ ?_
    refine CW.seq ?_
    refine CW.block ?_
    refine CW.seq ?_
    refine CW.region ?_
    refine RG.vl rfl rfl rfl (Ev.move rfl rfl) ?_
    refine RG.vl rfl rfl rfl (Ev.assign rfl rfl) ?_
    refine RG.done ?_
    refine QW.then_ ?_
    refine CW.seq ?_
    refine CW.region ?_
    refine RG.vl rfl rfl rfl (Ev.move rfl rfl) ?_
    refine RG.vl rfl rfl rfl (Ev.move rfl rfl) ?_
    refine RG.vl rfl rfl rfl (Ev.idxN rfl rfl rfl Try.underlying52 sz_5 (by omega)) ?_
    refine RG.st (g := gT) (k := _) rfl rfl rfl rfl rfl sz_5 rfl hT (by rw [Nat.blt_eq, wtx_len]; omega) (fun ws10 hwws10 hbws10 => ?_)
    replace hxwl8 := Wr.below hxwl8 hwws10 hle5
    refine RG.done ?_
    refine QW.then_ ?_
    refine CW.seq ?_
    refine CW.region ?_
    refine RG.vl rfl rfl rfl (Ev.move rfl rfl) ?_
    refine RG.vl rfl rfl rfl (Ev.move rfl rfl) ?_
    refine RG.vl rfl rfl rfl (Ev.lenL rfl rfl rfl Try.underlying52 ((hl.ext hxwl8))) ?_
    refine RG.vl rfl rfl rfl (Ev.lss rfl rfl rfl) ?_
    refine RG.done ?_
    refine QW.then_ ?_
    refine CW.condP rfl (fun hc11 => ?_) (fun hc11 => ?_)
    · obtain ⟨c, hc⟩ : ∃ c, l[k]? = some c := ⟨_, List.getElem?_eq_getElem (by omega)⟩
      refine CW.region ?_
      refine RG.vl rfl rfl rfl (Ev.move rfl rfl) ?_
      refine RG.vl rfl rfl rfl (Ev.move rfl rfl) ?_
      refine RG.vl rfl rfl rfl (Ev.move rfl rfl) ?_
      refine RG.vl rfl rfl rfl (Ev.move rfl rfl) ?_
      refine RG.idxL rfl rfl rfl rfl rfl rfl Try.underlying52 sz_5 ((hl.ext hxwl8)) (hc) (fun p12 hp12b hp12 => ?_)
      refine RG.vl rfl rfl rfl (Ev.ld0 rfl rfl Try.underlying5 rfl (hp12) (rfl)) ?_
      refine RG.vl rfl rfl rfl (Ev.rem8 rfl rfl rfl (by omega)) ?_
      refine RG.vl rfl rfl rfl (Ev.byteAt rfl rfl rfl Try.underlying9 (by omega) (pick_at c)) ?_
      refine RG.vl rfl rfl rfl (Ev.idxN rfl rfl rfl Try.underlying52 sz_5 (by omega)) ?_
      refine RG.st (g := gT) (k := _) rfl rfl rfl rfl rfl sz_5 rfl hbws10 (by rw [Nat.blt_eq, List.length_set, wtx_len]; omega) (fun ws13 hwws13 hbws13 => ?_)
      replace hxwl8 := Wr.below hxwl8 hwws13 hle5
      refine RG.done ?_
      refine QW.sub (S' := [(1, _), (4, _), (5, _), (11, _), (12, _)]) ⟨rfl, rfl, rfl, rfl, rfl, trivial⟩ ?_
      refine QW.blockN ?_
      refine QW.then_ ?_
      refine CW.region ?_
      refine RG.vl rfl rfl rfl (Ev.addI rfl rfl rfl (by omega)) ?_
      refine RG.vl rfl rfl rfl (Ev.move rfl rfl) ?_
      refine RG.done ?_
      refine QW.round1 (k + 1) ⟨rfl, trivial⟩ ⟨rfl, rfl, rfl, rfl, trivial⟩ ⟨⟨by omega, by rw [← wtx_set2 s l k (.int .u8 84) (.int .u8 (pickL c).toNat) (by rw [hc])]; exact hbws13⟩, hxwl8⟩ (by omega)
    · refine CW.skip ?_
      refine QW.blockN ?_
      refine QW.then_ ?_
      refine CW.region ?_
      refine RG.vl rfl rfl rfl (Ev.addI rfl rfl rfl (by omega)) ?_
      refine RG.vl rfl rfl rfl (Ev.move rfl rfl) ?_
      refine RG.done ?_
      refine QW.round1 (k + 1) ⟨rfl, trivial⟩ ⟨rfl, rfl, rfl, rfl, trivial⟩ ⟨⟨by omega, by rw [← wtx_set s l k (.int .u8 84) (by rw [List.getElem?_eq_none (by omega)]; rfl)]; exact hbws10⟩, hxwl8⟩ (by omega)
  · refine CW.exit ?_
    refine QW.thenExit ?_
    refine QW.thenExit ?_
    refine QW.blockHit ?_
    refine QW.then_ ?_
    refine CW.seq ?_
    obtain rfl : k = s.pl.toNat := by omega
    have hT9 := wtx_rd s l hT a2
    refine CW.region ?_
    refine RG.vl rfl rfl rfl (Ev.move rfl rfl) ?_
    refine RG.vl rfl rfl rfl (Ev.toStr rfl rfl Try.underlying52 Try.underlying5 Try.underlying9 (hT9)) ?_
    refine RG.vl rfl rfl rfl (Ev.assign rfl rfl) ?_
    refine RG.done ?_
    refine QW.then_ ?_
    refine CW.ret ?_
    refine QW.ret1 rfl rfl ?_
    have hB := (Ex.tr hR3 hxwl8)
    exact ⟨rfl, hB⟩

end Go.Proofs.Ytnecppiamecemaa
