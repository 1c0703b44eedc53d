/- Walks (HO). Written by program. -/
import Derived.Test.YtnecppiamecemaaT
import Derived.Test.YtnecppiamecemaaHN
namespace Go.Proofs.Ytnecppiamecemaa
open Go.RowKit
set_option maxRecDepth 100000 in
set_option maxHeartbeats 8000000 in
theorem heightBack_ret (f : Fm) (u um un : Value) (l : List UInt8) (lm ln : List I8) (tb : Bool) (w : World) (hf : f.Ok) (hl : RdL w 1 encB u l) (hm : RdL w 1 encS um lm) (hn : RdL w 1 encS un ln) :
    Ret Try.prog 5 [f.v, u, um, un, .bool tb] w (fun v w' => v = .bool true ∧ Ex w w') := by
  have hok := setup_okay f hf
  have hsm := setup_small f hf
  have hset := fun w => setup_ret f w hf
  generalize setupOf f = s at hok hsm hset
  obtain ⟨s1, s2, s3, s4, s5⟩ := hsm
  obtain ⟨a1, a2, a3, a4, a5, a6, a7, a8, a9, a10, a11⟩ := id hok
  have hB0 : Ex w w := Ex.rfl_ _
  refine Ret.of Try.func5 rfl Try.ntmps5 rfl ?_
  refine CW.seq ?_
  refine CW.region ?_
  refine RG.box rfl rfl rfl rfl rfl (fun g1 w1 eg1 hx1 hb1 => ?_)
  have hle2 : w.heap.size ≤ g1 := by have := (Ex.rfl_ w).size; omega
  have hE3 := hx1
  refine RG.vl rfl rfl rfl (Ev.assign rfl rfl) ?_
  refine RG.done ?_
  refine QW.then_ ?_
  refine CW.seq ?_
  refine CW.region ?_
  refine RG.vl rfl rfl rfl (Ev.ldAgg rfl rfl Try.underlying51 rfl sz_51 rfl (hb1.cells)) ?_
  refine RG.call rfl rfl rfl rfl rfl rfl rfl en_20 (hset _) ?_
  rintro _ w4 ⟨rfl, hx4⟩
  replace hE3 := Ex.tr hE3 hx4
  have hE5 := hx4
  refine RG.local_ rfl rfl rfl rfl (fun _ => rfl) rfl rfl (fun _ => rfl) inf_23 rfl rfl rfl (fun gS w6 egS hx6 hb6 => ?_)
  have hle7 : w.heap.size ≤ gS := by have := hE3.size; omega
  have hle8 : w1.heap.size ≤ gS := by have := hE5.size; omega
  have hle9 : w4.heap.size ≤ gS := by have := (Ex.rfl_ w4).size; omega
  have hlt10 : g1 < gS := by have := Blk.lt (hb1.ext hE5); omega
  replace hE3 := Ex.tr hE3 hx6
  replace hE5 := Ex.tr hE5 hx6
  refine RG.done ?_
  refine QW.then_ ?_
  refine CW.seq ?_
  refine CW.region ?_
  refine RG.vl rfl rfl rfl (Ev.ldAgg rfl rfl Try.underlying23 rfl sz_23 rfl (hb6.cells)) ?_
  refine RG.vl rfl rfl rfl (Ev.move rfl rfl) ?_
  refine RG.call rfl rfl rfl rfl rfl rfl rfl en_21 (text_any s _ l _ hok ((hl.ext hE3))) ?_
  rintro _ w11 ⟨T, rfl, hT1, hT2, hx11⟩
  replace hE3 := Ex.tr hE3 hx11
  replace hE5 := Ex.tr hE5 hx11
  have hE12 := hx11
  refine RG.vl rfl rfl rfl (Ev.assign rfl rfl) ?_
  refine RG.done ?_
  refine QW.then_ ?_
  refine CW.seq ?_
  refine CW.region ?_
  refine RG.vl rfl rfl rfl (Ev.ldAgg rfl rfl Try.underlying23 rfl sz_23 rfl ((hb6.ext hE12).cells)) ?_
  refine RG.vl rfl rfl rfl (Ev.move rfl rfl) ?_
  replace hl := (hl.ext hE3)
  replace hm := (hm.ext hE3)
  replace hn := (hn.ext hE3)
  replace hb1 := (hb1.ext hE5)
  replace hb6 := (hb6.ext hE12)
  have hR13 := (Ex.tr hB0 hE3)
  have hR14 := hE5
  have hR15 := hE12
  refine RG.call rfl rfl rfl rfl rfl rfl rfl en_18 (draw_any_own s T _ hok (by omega) hT1 hT2) ?_
  have hpre16 := hR13
  rintro _ w16 ⟨ud, bs, rfl, hbs, hR, hbl, hmk, hx16⟩
  have hE17 := hx16
  refine RG.vl rfl rfl rfl (Ev.move rfl rfl) ?_
  refine RG.vl rfl rfl rfl (Ev.extract rfl rfl rfl) ?_
  refine RG.vl rfl rfl rfl (Ev.extract rfl rfl rfl) ?_
  refine RG.vl rfl rfl rfl (Ev.assign rfl rfl) ?_
  refine RG.vl rfl rfl rfl (Ev.assign rfl rfl) ?_
  refine RG.done ?_
  refine QW.sub (S' := [(2, _), (3, _), (4, _), (10, _), (11, _), (12, _), (13, _), (14, _)]) ⟨rfl, rfl, rfl, rfl, rfl, rfl, rfl, rfl, trivial⟩ ?_
  refine QW.then_ ?_
  refine CW.seq ?_
  have he0 := hR.err hok
  have ht0 := hR.read hok
  refine CW.region ?_
  refine RG.vl rfl rfl rfl (Ev.ldAgg rfl rfl Try.underlying23 rfl sz_23 rfl ((hb6.ext hE17).cells)) ?_
  refine RG.vl rfl rfl rfl (Ev.move rfl rfl) ?_
  refine RG.call rfl rfl rfl rfl rfl rfl rfl en_10 (read_is s _ bs _ ((hbs.rdl Br.c_len)) (by omega) he0 ht0) ?_
  rintro _ w18 ⟨rfl, hx18⟩
  replace hE17 := Ex.tr hE17 hx18
  have hE19 := hx18
  refine RG.vl rfl rfl rfl (Ev.move rfl rfl) ?_
  refine RG.vl rfl rfl rfl (Ev.extract rfl rfl rfl) ?_
  refine RG.vl rfl rfl rfl (Ev.extract rfl rfl rfl) ?_
  refine RG.vl rfl rfl rfl (Ev.assign rfl rfl) ?_
  refine RG.vl rfl rfl rfl (Ev.assign rfl rfl) ?_
  refine RG.done ?_
  refine QW.then_ ?_
  refine CW.seq ?_
  refine CW.seq ?_
  refine CW.region ?_
  refine RG.vl rfl rfl rfl (Ev.move rfl rfl) ?_
  refine RG.vl rfl rfl rfl (Ev.isF (Ev.neI rfl rfl rfl) (fun h => h rfl)) ?_
  refine RG.vl rfl rfl rfl (Ev.move rfl rfl) ?_
  refine RG.vl rfl rfl rfl (Ev.move rfl rfl) ?_
  refine RG.vl rfl rfl rfl (Ev.isF (Ev.neI rfl rfl rfl) (fun h => h rfl)) ?_
  refine RG.vl rfl rfl rfl (Ev.pickF rfl rfl rfl) ?_
  refine RG.vl rfl rfl rfl (Ev.move rfl rfl) ?_
  refine RG.vl rfl rfl rfl (Ev.move rfl rfl) ?_
  refine RG.vl rfl rfl rfl (Ev.move rfl rfl) ?_
  refine RG.vl rfl rfl rfl (Ev.isF (Ev.neS rfl rfl rfl) (fun h => h rfl)) ?_
  refine RG.vl rfl rfl rfl (Ev.pickF rfl rfl rfl) ?_
  refine RG.done ?_
  refine QW.sub (S' := [(2, _), (3, _), (4, _), (10, _), (11, _), (12, _), (13, _), (16, _), (61, _)]) ⟨rfl, rfl, rfl, rfl, rfl, rfl, rfl, rfl, rfl, trivial⟩ ?_
  refine QW.then_ ?_
  refine CW.condF rfl ?_
  refine CW.skip ?_
  refine QW.then_ ?_
  refine CW.seq ?_
  refine CW.region ?_
  refine RG.vl rfl rfl rfl (Ev.assign rfl rfl) ?_
  refine RG.done ?_
  refine QW.then_ ?_
  refine CW.seq ?_
  refine CW.seq ?_
  refine CW.region ?_
  refine RG.vl rfl rfl rfl (Ev.move rfl rfl) ?_
  refine RG.vl rfl rfl rfl (Ev.lenL rfl rfl rfl Try.underlying24 (((Own.ext hbs hE19).rdl Br.c_len))) ?_
  refine RG.vl rfl rfl rfl (Ev.move rfl rfl) ?_
  refine RG.done ?_
  refine QW.then_ ?_
  refine CW.block ?_
  refine CW.loop2 [(2, _), (3, _), (4, _), (10, _), (11, _), (12, _), (13, _), (16, _), (17, _), (63, _)] ⟨rfl, rfl, rfl, rfl, rfl, rfl, rfl, rfl, rfl, rfl, trivial⟩ (fun (i : Nat) (L : List Br) => [(64, .int .i64 i)]) (fun i L w' => (i ≤ bs.length ∧ L.length = bs.length ∧ (∀ (j : Nat) (b b' : Br), bs[j]? = some b → L[j]? = some b' → Len s b b') ∧ (∀ j, i ≤ j → L[j]? = bs[j]?) ∧ Own w' w11.heap.size 48 3 Br.c ud L) ∧ Ex w11 w') (fun i L => bs.length - i) (0) (bs) ⟨rfl, trivial⟩ ⟨⟨Nat.zero_le _, rfl, len_start bs (by omega), fun _ _ => rfl, (Own.ext hbs hE19)⟩, hE17⟩ ?_
  rintro i L wl20 ⟨⟨hi, hLl, hLen, hLt, hbs⟩, hxwl20⟩
  refine CW.sub (S' := [(64, _), (2, _), (3, _), (4, _), (10, _), (11, _), (12, _), (13, _), (16, _), (17, _), (63, _)]) ⟨rfl, rfl, rfl, rfl, rfl, rfl, rfl, rfl, rfl, rfl, rfl, trivial⟩ ?_
  refine CW.seq ?_
  refine CW.region ?_
  refine RG.vl rfl rfl rfl (Ev.lss rfl rfl rfl) ?_
  refine RG.done ?_
  refine QW.then_ ?_
  refine CW.seq ?_
  refine CW.condP rfl (fun hc21 => ?_) (fun hc21 => ?_)
  · refine CW.skip ?_
    refine QW.then_ ?_
    refine CW.seq ?_
    refine CW.block ?_
    refine CW.seq ?_
    refine CW.region ?_
    refine RG.vl rfl rfl rfl (Ev.move rfl rfl) ?_
    refine RG.vl rfl rfl rfl (Ev.assign rfl rfl) ?_
    refine RG.done ?_
    refine QW.then_ ?_
    refine CW.seq ?_
    obtain ⟨b, hb⟩ : ∃ b, bs[i]? = some b := ⟨_, List.getElem?_eq_getElem (by omega)⟩
    have hLb : L[i]? = some b := by rw [hLt i (Nat.le_refl _), hb]
    obtain ⟨jx, cx, hj1, hj2, hj3, hbe⟩ := hmk i b hb
    have hhal := mkb_halves s cx jx
    rw [← hbe] at hhal
    refine CW.draw [] (.ex) 11 rfl mixed (fun wd22 hxwd22 => ?_)
    replace hxwl20 := Ex.tr hxwl20 hxwd22
    have hE23 := hxwd22
    refine AG.takeW 0 rfl (by kernel_rfl) (by kernel_rfl) rfl rfl rfl (fun _ => Ev.move rfl rfl) ?_
    refine AG.takeW 1 rfl (by kernel_rfl) (by kernel_rfl) rfl rfl rfl (fun _ => Ev.move rfl rfl) ?_
    refine AG.idxO _ 2 rfl (by kernel_rfl) (by kernel_rfl) rfl rfl rfl rfl rfl rfl Try.underlying24 sz_48 Br.c_len ((Own.ext hbs hE23)) (hLb) (fun g25 hg25 hBg25 hp24b hp24 => ?_)
    refine AG.takeW 3 rfl (by kernel_rfl) (by kernel_rfl) rfl rfl rfl (fun _ => Ev.fld rfl rfl fld_48_1) ?_
    refine AG.takeW 4 rfl (by kernel_rfl) (by kernel_rfl) rfl rfl rfl (fun _ => Ev.move rfl rfl) ?_
    refine AG.takeW 5 rfl (by kernel_rfl) (by kernel_rfl) rfl rfl rfl (fun _ => Ev.move rfl rfl) ?_
    refine AG.idxO _ 6 rfl (by kernel_rfl) (by kernel_rfl) rfl rfl rfl rfl rfl rfl Try.underlying24 sz_48 Br.c_len ((Own.ext hbs hE23)) (hLb) (fun g27 hg27 hBg27 hp26b hp26 => ?_)
    refine AG.takeW 7 rfl (by kernel_rfl) (by kernel_rfl) rfl rfl rfl (fun _ => Ev.fld rfl rfl fld_48_2) ?_
    refine AG.takeW 10 rfl (by kernel_rfl) (by kernel_rfl) rfl rfl rfl (fun _ => Ev.move rfl rfl) ?_
    refine AG.only 8 rfl (by kernel_rfl) ?_
    refine RG.buildD (xs := [.tmp 70, .tmp 74]) rfl rfl rfl rfl rfl rfl rfl Try.underlying59 inf_58 rfl rfl rfl rfl (fun gP w29 egP hx29 hb29 => ?_)
    have hsb30 := fun e => sep_new (g := gP) (Own.ext hbs hE23) egP e
    have hle31 : w11.heap.size ≤ gP := by have := hxwl20.size; omega
    have hle32 : wl20.heap.size ≤ gP := by have := hE23.size; omega
    have hle33 : wd22.heap.size ≤ gP := by have := (Ex.rfl_ wd22).size; omega
    have hlt34 : g1 < gP := by have := Blk.lt (hb1.ext hxwl20); omega
    have hlt35 : gS < gP := by have := Blk.lt (hb6.ext hxwl20); omega
    replace hxwl20 := Ex.tr hxwl20 hx29
    replace hE23 := Ex.tr hE23 hx29
    have hE36 := hx29
    refine RG.done ?_
    refine QW.an (fun _ => hE36) ?_
    refine AG.takeW 9 rfl (by kernel_rfl) (by kernel_rfl) rfl rfl rfl (fun _ => Ev.lenSlice rfl rfl rfl Try.underlying59) ?_
    refine AG.done (by kernel_rfl) ?_
    refine QW.sub (S' := [(2, _), (3, _), (4, _), (10, _), (11, _), (12, _), (13, _), (16, _), (17, _), (18, _), (63, _), (64, _), (75, _), (76, _), (77, _)]) ⟨rfl, rfl, rfl, rfl, rfl, rfl, rfl, rfl, rfl, rfl, rfl, rfl, rfl, rfl, rfl, trivial⟩ ?_
    refine QW.then_ ?_
    refine CW.block ?_
    refine CW.loop2 [(2, _), (3, _), (4, _), (10, _), (11, _), (12, _), (13, _), (16, _), (17, _), (18, _), (63, _), (64, _), (75, _), (76, _)] ⟨rfl, rfl, rfl, rfl, rfl, rfl, rfl, rfl, rfl, rfl, rfl, rfl, rfl, rfl, trivial⟩ (fun (k : Nat) (cur : Br) => [(77, .int .i64 k)]) (fun k cur w' => (k ≤ 2 ∧ cur.po = b.po ∧ (k = 0 → cur.up = b.up) ∧ (k ≤ 1 → cur.dn = b.dn) ∧ LenOk s b.up cur.up ∧ LenOk s b.dn cur.dn ∧ Own w' w11.heap.size 48 3 Br.c ud (L.set i cur) ∧ Blk w' gP 58 [.pointer (some (((⟨g25, 0, none⟩ : Addr).add (i * 3)).add 1)), .pointer (some (((⟨g27, 0, none⟩ : Addr).add (i * 3)).add 2))]) ∧ Ex w11 w') (fun k cur => 2 - k) (0) (b) ⟨rfl, trivial⟩ ⟨⟨by omega, rfl, fun _ => rfl, fun _ => rfl, lenok_self (by omega), lenok_self (by omega), by rw [set_same hLb]; exact (Own.ext hbs hE23), hb29⟩, hxwl20⟩ ?_
    rintro k cur wl37 ⟨⟨hk2, hcp, hq1, hq2, hlu, hld, hbs, hgP⟩, hxwl37⟩
    refine CW.sub (S' := [(77, _), (2, _), (3, _), (4, _), (10, _), (11, _), (12, _), (13, _), (16, _), (17, _), (18, _), (63, _), (64, _), (75, _), (76, _)]) ⟨rfl, rfl, rfl, rfl, rfl, rfl, rfl, rfl, rfl, rfl, rfl, rfl, rfl, rfl, rfl, trivial⟩ ?_
    have hcur : (L.set i cur)[i]? = some cur := by rw [List.getElem?_set_self (by omega)]
    refine CW.seq ?_
    refine CW.region ?_
    refine RG.vl rfl rfl rfl (Ev.lss rfl rfl rfl) ?_
    refine RG.done ?_
    refine QW.then_ ?_
    refine CW.seq ?_
    refine CW.condP rfl (fun hc38 => ?_) (fun hc38 => ?_)
    · refine CW.skip ?_
      refine QW.then_ ?_
      refine CW.seq ?_
      refine CW.block ?_
      refine CW.seq ?_
      rcases (show k = 0 ∨ k = 1 by omega) with rfl | rfl
      · refine CW.region ?_
        refine RG.vl rfl rfl rfl (Ev.move rfl rfl) ?_
        refine RG.vl rfl rfl rfl (Ev.idxN rfl rfl rfl Try.underlying59 sz_58 (by omega)) ?_
        refine RG.vl rfl rfl rfl (Ev.ldAt rfl rfl Try.underlying58 rfl (hgP.cells) (rfl)) ?_
        have hpc := Own.cells hbs Br.c_len hg25 hcur
        have hpcb : (((⟨g25, 0, none⟩ : Addr).add (i * 3)).block < wl37.heap.size) := by rw [block_of_add]; exact Own.lt hbs hg25
        have hcv : cur.up = b.up := hq1 (by decide)
        refine RG.vl rfl rfl rfl (Ev.assign rfl rfl) ?_
        refine RG.vl rfl rfl rfl (Ev.assign rfl rfl) ?_
        refine RG.done ?_
        refine QW.then_ ?_
        refine CW.seq ?_
        refine CW.region ?_
        refine RG.vl rfl rfl rfl (Ev.move rfl rfl) ?_
        refine RG.vl rfl rfl rfl (Ev.move rfl rfl) ?_
        refine RG.vl rfl rfl rfl (Ev.move rfl rfl) ?_
        refine RG.vl rfl rfl rfl (Ev.mulI rfl rfl rfl (by omega)) ?_
        refine RG.vl rfl rfl rfl (Ev.move rfl rfl) ?_
        refine RG.vl rfl rfl rfl (Ev.addI rfl rfl rfl (by omega)) ?_
        refine RG.call rfl rfl rfl rfl rfl rfl rfl en_22 (push_ret _ lm _ _ ((hm.ext hxwl37)) (by omega)) ?_
        rintro _ w39 ⟨nv, rfl, hn0, hn1, hx39⟩
        replace hxwl37 := Ex.tr hxwl37 hx39
        have hE40 := hx39
        refine RG.vl rfl rfl rfl (Ev.assign rfl rfl) ?_
        refine RG.done ?_
        refine QW.sub (S' := [(2, _), (3, _), (4, _), (10, _), (11, _), (12, _), (13, _), (16, _), (17, _), (18, _), (20, _), (21, _), (63, _), (64, _), (75, _), (76, _), (77, _)]) ⟨rfl, rfl, rfl, rfl, rfl, rfl, rfl, rfl, rfl, rfl, rfl, rfl, rfl, rfl, rfl, rfl, rfl, trivial⟩ ?_
        refine QW.then_ ?_
        refine CW.seq ?_
        refine CW.draw [] (.ex) 6 rfl mixed (fun wd41 hxwd41 => ?_)
        replace hxwl37 := Ex.tr hxwl37 hxwd41
        replace hE40 := Ex.tr hE40 hxwd41
        refine AG.takeW 0 rfl (by kernel_rfl) (by kernel_rfl) rfl rfl rfl (fun _ => Ev.move rfl rfl) ?_
        refine AG.takeW 1 rfl (by kernel_rfl) (by kernel_rfl) rfl rfl rfl (fun _ => Ev.nilC rfl rfl) ?_
        refine AG.take 2 rfl (by kernel_rfl) (by kernel_rfl) rfl rfl rfl (fun wq hq => Ev.ldAt rfl rfl Try.underlying3 rfl ((hpc.ext hE40 hpcb).ext hq (Nat.lt_of_lt_of_le hpcb hE40.size)) (rfl)) ?_
        refine AG.takeW 3 rfl (by kernel_rfl) (by kernel_rfl) rfl rfl rfl (fun _ => Ev.fld rfl rfl fld_23_5) ?_
        refine AG.take 4 rfl (by kernel_rfl) (by kernel_rfl) rfl rfl rfl (fun wq hq => Ev.ldAt rfl rfl Try.underlying3 rfl (((hb6.ext hxwl37).ext hq).cells) (rfl)) ?_
        refine AG.takeW 5 rfl (by kernel_rfl) (by kernel_rfl) rfl rfl rfl (fun _ => Ev.geq rfl rfl rfl) ?_
        refine AG.done (by kernel_rfl) ?_
        refine QW.then_ ?_
        refine CW.condP rfl (fun hc42 => ?_) (fun hc42 => ?_)
        · refine CW.region ?_
          refine RG.vl rfl rfl rfl (Ev.move rfl rfl) ?_
          refine RG.vl rfl rfl rfl (Ev.nilC rfl rfl) ?_
          refine RG.vl rfl rfl rfl (Ev.ldAt rfl rfl Try.underlying3 rfl ((hpc.ext hE40 hpcb)) (rfl)) ?_
          refine RG.vl rfl rfl rfl (Ev.move rfl rfl) ?_
          refine RG.vl rfl rfl rfl (Ev.addI rfl rfl rfl (by omega)) ?_
          refine RG.vl rfl rfl rfl (Ev.nilC rfl rfl) ?_
          refine RG.stOw (g := g25) (⟨cur.po, cur.up + nv, cur.dn⟩) rfl rfl rfl rfl rfl sz_3 rfl (fun _ => rfl) (Own.ext hbs hE40) hg25 (hcur) rfl (rfl) (fun ws43 hwws43 hown44 => ?_)
          rw [List.set_set] at hown44
          replace hgP := Blk.far (hgP.ext hE40) hwws43 (fun e => hsb30 (by rw [e]; exact hg25))
          replace hxwl37 := Wr.below hxwl37 hwws43 hBg25
          refine RG.done ?_
          refine QW.blockN ?_
          refine QW.then_ ?_
          refine CW.region ?_
          refine RG.vl rfl rfl rfl (Ev.addI rfl rfl rfl (by omega)) ?_
          refine RG.vl rfl rfl rfl (Ev.move rfl rfl) ?_
          refine RG.done ?_
          refine QW.sub (S' := [(2, _), (3, _), (4, _), (10, _), (11, _), (12, _), (13, _), (16, _), (17, _), (18, _), (63, _), (64, _), (75, _), (76, _), (77, _)]) ⟨rfl, rfl, rfl, rfl, rfl, rfl, rfl, rfl, rfl, rfl, rfl, rfl, rfl, rfl, rfl, trivial⟩ ?_
          refine QW.round2 (0 + 1) (⟨cur.po, cur.up + nv, cur.dn⟩) ⟨rfl, trivial⟩ ⟨rfl, rfl, rfl, rfl, rfl, rfl, rfl, rfl, rfl, rfl, rfl, rfl, rfl, rfl, trivial⟩ ⟨⟨by omega, hcp, fun h => absurd h (by decide), fun _ => hq2 (by decide), by show LenOk s b.up _; rw [show cur.up = b.up from hcv]; exact lenok_up (by omega) (by omega) (by omega) (by omega), hld, hown44, hgP⟩, hxwl37⟩ (by omega)
        · refine CW.region ?_
          refine RG.vl rfl rfl rfl (Ev.move rfl rfl) ?_
          refine RG.vl rfl rfl rfl (Ev.move rfl rfl) ?_
          refine RG.vl rfl rfl rfl (Ev.nilC rfl rfl) ?_
          refine RG.vl rfl rfl rfl (Ev.ldAt rfl rfl Try.underlying3 rfl ((hpc.ext hE40 hpcb)) (rfl)) ?_
          refine RG.vl rfl rfl rfl (Ev.move rfl rfl) ?_
          refine RG.vl rfl rfl rfl (Ev.subI rfl rfl rfl (by omega)) ?_
          refine RG.vl rfl rfl rfl (Ev.max2 rfl rfl rfl rfl) ?_
          refine RG.vl rfl rfl rfl (Ev.nilC rfl rfl) ?_
          refine RG.stOw (g := g25) (⟨cur.po, max (cur.up - nv) 0, cur.dn⟩) rfl rfl rfl rfl rfl sz_3 rfl (fun _ => rfl) (Own.ext hbs hE40) hg25 (hcur) rfl (rfl) (fun ws45 hwws45 hown46 => ?_)
          rw [List.set_set] at hown46
          replace hgP := Blk.far (hgP.ext hE40) hwws45 (fun e => hsb30 (by rw [e]; exact hg25))
          replace hxwl37 := Wr.below hxwl37 hwws45 hBg25
          refine RG.done ?_
          refine QW.sub (S' := [(2, _), (3, _), (4, _), (10, _), (11, _), (12, _), (13, _), (16, _), (17, _), (18, _), (63, _), (64, _), (75, _), (76, _), (77, _)]) ⟨rfl, rfl, rfl, rfl, rfl, rfl, rfl, rfl, rfl, rfl, rfl, rfl, rfl, rfl, rfl, trivial⟩ ?_
          refine QW.blockN ?_
          refine QW.then_ ?_
          refine CW.region ?_
          refine RG.vl rfl rfl rfl (Ev.addI rfl rfl rfl (by omega)) ?_
          refine RG.vl rfl rfl rfl (Ev.move rfl rfl) ?_
          refine RG.done ?_
          refine QW.round2 (0 + 1) (⟨cur.po, max (cur.up - nv) 0, cur.dn⟩) ⟨rfl, trivial⟩ ⟨rfl, rfl, rfl, rfl, rfl, rfl, rfl, rfl, rfl, rfl, rfl, rfl, rfl, rfl, trivial⟩ ⟨⟨by omega, hcp, fun h => absurd h (by decide), fun _ => hq2 (by decide), by show LenOk s b.up _; rw [show cur.up = b.up from hcv]; exact lenok_dn (by omega) (by omega) (by omega) (by omega), hld, hown46, hgP⟩, hxwl37⟩ (by omega)
      · refine CW.region ?_
        refine RG.vl rfl rfl rfl (Ev.move rfl rfl) ?_
        refine RG.vl rfl rfl rfl (Ev.idxN rfl rfl rfl Try.underlying59 sz_58 (by omega)) ?_
        refine RG.vl rfl rfl rfl (Ev.ldAt rfl rfl Try.underlying58 rfl (hgP.cells) (rfl)) ?_
        have hpc := Own.cells hbs Br.c_len hg27 hcur
        have hpcb : (((⟨g27, 0, none⟩ : Addr).add (i * 3)).block < wl37.heap.size) := by rw [block_of_add]; exact Own.lt hbs hg27
        have hcv : cur.dn = b.dn := hq2 (by decide)
        refine RG.vl rfl rfl rfl (Ev.assign rfl rfl) ?_
        refine RG.vl rfl rfl rfl (Ev.assign rfl rfl) ?_
        refine RG.done ?_
        refine QW.then_ ?_
        refine CW.seq ?_
        refine CW.region ?_
        refine RG.vl rfl rfl rfl (Ev.move rfl rfl) ?_
        refine RG.vl rfl rfl rfl (Ev.move rfl rfl) ?_
        refine RG.vl rfl rfl rfl (Ev.move rfl rfl) ?_
        refine RG.vl rfl rfl rfl (Ev.mulI rfl rfl rfl (by omega)) ?_
        refine RG.vl rfl rfl rfl (Ev.move rfl rfl) ?_
        refine RG.vl rfl rfl rfl (Ev.addI rfl rfl rfl (by omega)) ?_
        refine RG.call rfl rfl rfl rfl rfl rfl rfl en_22 (push_ret _ lm _ _ ((hm.ext hxwl37)) (by omega)) ?_
        rintro _ w47 ⟨nv, rfl, hn0, hn1, hx47⟩
        replace hxwl37 := Ex.tr hxwl37 hx47
        have hE48 := hx47
        refine RG.vl rfl rfl rfl (Ev.assign rfl rfl) ?_
        refine RG.done ?_
        refine QW.sub (S' := [(2, _), (3, _), (4, _), (10, _), (11, _), (12, _), (13, _), (16, _), (17, _), (18, _), (20, _), (21, _), (63, _), (64, _), (75, _), (76, _), (77, _)]) ⟨rfl, rfl, rfl, rfl, rfl, rfl, rfl, rfl, rfl, rfl, rfl, rfl, rfl, rfl, rfl, rfl, rfl, trivial⟩ ?_
        refine QW.then_ ?_
        refine CW.seq ?_
        refine CW.draw [] (.ex) 6 rfl mixed (fun wd49 hxwd49 => ?_)
        replace hxwl37 := Ex.tr hxwl37 hxwd49
        replace hE48 := Ex.tr hE48 hxwd49
        refine AG.takeW 0 rfl (by kernel_rfl) (by kernel_rfl) rfl rfl rfl (fun _ => Ev.move rfl rfl) ?_
        refine AG.takeW 1 rfl (by kernel_rfl) (by kernel_rfl) rfl rfl rfl (fun _ => Ev.nilC rfl rfl) ?_
        refine AG.take 2 rfl (by kernel_rfl) (by kernel_rfl) rfl rfl rfl (fun wq hq => Ev.ldAt rfl rfl Try.underlying3 rfl ((hpc.ext hE48 hpcb).ext hq (Nat.lt_of_lt_of_le hpcb hE48.size)) (rfl)) ?_
        refine AG.takeW 3 rfl (by kernel_rfl) (by kernel_rfl) rfl rfl rfl (fun _ => Ev.fld rfl rfl fld_23_5) ?_
        refine AG.take 4 rfl (by kernel_rfl) (by kernel_rfl) rfl rfl rfl (fun wq hq => Ev.ldAt rfl rfl Try.underlying3 rfl (((hb6.ext hxwl37).ext hq).cells) (rfl)) ?_
        refine AG.takeW 5 rfl (by kernel_rfl) (by kernel_rfl) rfl rfl rfl (fun _ => Ev.geq rfl rfl rfl) ?_
        refine AG.done (by kernel_rfl) ?_
        refine QW.then_ ?_
        refine CW.condP rfl (fun hc50 => ?_) (fun hc50 => ?_)
        · refine CW.region ?_
          refine RG.vl rfl rfl rfl (Ev.move rfl rfl) ?_
          refine RG.vl rfl rfl rfl (Ev.nilC rfl rfl) ?_
          refine RG.vl rfl rfl rfl (Ev.ldAt rfl rfl Try.underlying3 rfl ((hpc.ext hE48 hpcb)) (rfl)) ?_
          refine RG.vl rfl rfl rfl (Ev.move rfl rfl) ?_
          refine RG.vl rfl rfl rfl (Ev.addI rfl rfl rfl (by omega)) ?_
          refine RG.vl rfl rfl rfl (Ev.nilC rfl rfl) ?_
          refine RG.stOw (g := g27) (⟨cur.po, cur.up, cur.dn + nv⟩) rfl rfl rfl rfl rfl sz_3 rfl (fun _ => rfl) (Own.ext hbs hE48) hg27 (hcur) rfl (rfl) (fun ws51 hwws51 hown52 => ?_)
          rw [List.set_set] at hown52
          replace hgP := Blk.far (hgP.ext hE48) hwws51 (fun e => hsb30 (by rw [e]; exact hg27))
          replace hxwl37 := Wr.below hxwl37 hwws51 hBg27
          refine RG.done ?_
          refine QW.blockN ?_
          refine QW.then_ ?_
          refine CW.region ?_
          refine RG.vl rfl rfl rfl (Ev.addI rfl rfl rfl (by omega)) ?_
          refine RG.vl rfl rfl rfl (Ev.move rfl rfl) ?_
          refine RG.done ?_
          refine QW.sub (S' := [(2, _), (3, _), (4, _), (10, _), (11, _), (12, _), (13, _), (16, _), (17, _), (18, _), (63, _), (64, _), (75, _), (76, _), (77, _)]) ⟨rfl, rfl, rfl, rfl, rfl, rfl, rfl, rfl, rfl, rfl, rfl, rfl, rfl, rfl, rfl, trivial⟩ ?_
          refine QW.round2 (1 + 1) (⟨cur.po, cur.up, cur.dn + nv⟩) ⟨rfl, trivial⟩ ⟨rfl, rfl, rfl, rfl, rfl, rfl, rfl, rfl, rfl, rfl, rfl, rfl, rfl, rfl, trivial⟩ ⟨⟨by omega, hcp, fun h => absurd h (by decide), fun h => absurd h (by decide), hlu, by show LenOk s b.dn _; rw [show cur.dn = b.dn from hcv]; exact lenok_up (by omega) (by omega) (by omega) (by omega), hown52, hgP⟩, hxwl37⟩ (by omega)
        · refine CW.region ?_
          refine RG.vl rfl rfl rfl (Ev.move rfl rfl) ?_
          refine RG.vl rfl rfl rfl (Ev.move rfl rfl) ?_
          refine RG.vl rfl rfl rfl (Ev.nilC rfl rfl) ?_
          refine RG.vl rfl rfl rfl (Ev.ldAt rfl rfl Try.underlying3 rfl ((hpc.ext hE48 hpcb)) (rfl)) ?_
          refine RG.vl rfl rfl rfl (Ev.move rfl rfl) ?_
          refine RG.vl rfl rfl rfl (Ev.subI rfl rfl rfl (by omega)) ?_
          refine RG.vl rfl rfl rfl (Ev.max2 rfl rfl rfl rfl) ?_
          refine RG.vl rfl rfl rfl (Ev.nilC rfl rfl) ?_
          refine RG.stOw (g := g27) (⟨cur.po, cur.up, max (cur.dn - nv) 0⟩) rfl rfl rfl rfl rfl sz_3 rfl (fun _ => rfl) (Own.ext hbs hE48) hg27 (hcur) rfl (rfl) (fun ws53 hwws53 hown54 => ?_)
          rw [List.set_set] at hown54
          replace hgP := Blk.far (hgP.ext hE48) hwws53 (fun e => hsb30 (by rw [e]; exact hg27))
          replace hxwl37 := Wr.below hxwl37 hwws53 hBg27
          refine RG.done ?_
          refine QW.sub (S' := [(2, _), (3, _), (4, _), (10, _), (11, _), (12, _), (13, _), (16, _), (17, _), (18, _), (63, _), (64, _), (75, _), (76, _), (77, _)]) ⟨rfl, rfl, rfl, rfl, rfl, rfl, rfl, rfl, rfl, rfl, rfl, rfl, rfl, rfl, rfl, trivial⟩ ?_
          refine QW.blockN ?_
          refine QW.then_ ?_
          refine CW.region ?_
          refine RG.vl rfl rfl rfl (Ev.addI rfl rfl rfl (by omega)) ?_
          refine RG.vl rfl rfl rfl (Ev.move rfl rfl) ?_
          refine RG.done ?_
          refine QW.round2 (1 + 1) (⟨cur.po, cur.up, max (cur.dn - nv) 0⟩) ⟨rfl, trivial⟩ ⟨rfl, rfl, rfl, rfl, rfl, rfl, rfl, rfl, rfl, rfl, rfl, rfl, rfl, rfl, trivial⟩ ⟨⟨by omega, hcp, fun h => absurd h (by decide), fun h => absurd h (by decide), hlu, by show LenOk s b.dn _; rw [show cur.dn = b.dn from hcv]; exact lenok_dn (by omega) (by omega) (by omega) (by omega), hown54, hgP⟩, hxwl37⟩ (by omega)
    · refine CW.exit ?_
      refine QW.thenExit ?_
      refine QW.thenExit ?_
      refine QW.blockHit ?_
      refine QW.blockN ?_
      refine QW.then_ ?_
      refine CW.region ?_
      refine RG.vl rfl rfl rfl (Ev.addI rfl rfl rfl (by omega)) ?_
      refine RG.vl rfl rfl rfl (Ev.move rfl rfl) ?_
      refine RG.done ?_
      refine QW.round2 (i + 1) (L.set i cur) ⟨rfl, trivial⟩ ⟨rfl, rfl, rfl, rfl, rfl, rfl, rfl, rfl, rfl, rfl, trivial⟩ ⟨⟨by omega, by rw [List.length_set]; exact hLl, rel_step hLen hb ⟨hcp, hlu, hld⟩, tail_step hLt, hbs⟩, hxwl37⟩ (by omega)
  · refine CW.exit ?_
    refine QW.thenExit ?_
    refine QW.thenExit ?_
    refine QW.blockHit ?_
    refine QW.then_ ?_
    refine CW.seq ?_
    obtain ⟨hRL, hmg0, hbd⟩ := back_len hok (by omega) (by omega) (by omega) (by omega) hR hT1 hmk hLl hLen
    have he1 := hRL.err hok
    have ht1 := hRL.read hok
    have hmgt := margin_top s L
    refine CW.region ?_
    refine RG.vl rfl rfl rfl (Ev.ldAgg rfl rfl Try.underlying23 rfl sz_23 rfl ((hb6.ext hxwl20).cells)) ?_
    refine RG.vl rfl rfl rfl (Ev.move rfl rfl) ?_
    refine RG.call rfl rfl rfl rfl rfl rfl rfl en_11 (margin_is s _ L _ ((hbs.rdl Br.c_len)) (by omega) he1) ?_
    rintro _ w55 ⟨rfl, hx55⟩
    replace hxwl20 := Ex.tr hxwl20 hx55
    have hE56 := hx55
    refine RG.vl rfl rfl rfl (Ev.move rfl rfl) ?_
    refine RG.vl rfl rfl rfl (Ev.extract rfl rfl rfl) ?_
    refine RG.vl rfl rfl rfl (Ev.extract rfl rfl rfl) ?_
    refine RG.vl rfl rfl rfl (Ev.assign rfl rfl) ?_
    refine RG.vl rfl rfl rfl (Ev.assign rfl rfl) ?_
    refine RG.done ?_
    refine QW.then_ ?_
    refine CW.seq ?_
    refine CW.region ?_
    refine RG.vl rfl rfl rfl (Ev.ldAgg rfl rfl Try.underlying23 rfl sz_23 rfl ((hb6.ext hxwl20).cells)) ?_
    refine RG.vl rfl rfl rfl (Ev.move rfl rfl) ?_
    refine RG.call rfl rfl rfl rfl rfl rfl rfl en_10 (read_is s _ L _ (((Own.ext hbs hE56).rdl Br.c_len)) (by omega) he1 ht1) ?_
    rintro _ w57 ⟨rfl, hx57⟩
    replace hxwl20 := Ex.tr hxwl20 hx57
    replace hE56 := Ex.tr hE56 hx57
    have hE58 := hx57
    refine RG.vl rfl rfl rfl (Ev.move rfl rfl) ?_
    refine RG.vl rfl rfl rfl (Ev.extract rfl rfl rfl) ?_
    refine RG.vl rfl rfl rfl (Ev.extract rfl rfl rfl) ?_
    refine RG.vl rfl rfl rfl (Ev.assign rfl rfl) ?_
    refine RG.vl rfl rfl rfl (Ev.assign rfl rfl) ?_
    refine RG.done ?_
    refine QW.sub (S' := [(3, _), (4, _), (10, _), (11, _), (12, _), (13, _), (16, _), (22, _), (23, _), (24, _)]) ⟨rfl, rfl, rfl, rfl, rfl, rfl, rfl, rfl, rfl, rfl, trivial⟩ ?_
    refine QW.then_ ?_
    refine CW.seq ?_
    refine CW.seq ?_
    refine CW.region ?_
    refine RG.vl rfl rfl rfl (Ev.move rfl rfl) ?_
    refine RG.vl rfl rfl rfl (Ev.isF (Ev.neI rfl rfl rfl) (fun h => h rfl)) ?_
    refine RG.vl rfl rfl rfl (Ev.move rfl rfl) ?_
    refine RG.vl rfl rfl rfl (Ev.move rfl rfl) ?_
    refine RG.vl rfl rfl rfl (Ev.isF (Ev.neI rfl rfl rfl) (fun h => h rfl)) ?_
    refine RG.vl rfl rfl rfl (Ev.pickF rfl rfl rfl) ?_
    refine RG.vl rfl rfl rfl (Ev.move rfl rfl) ?_
    refine RG.vl rfl rfl rfl (Ev.move rfl rfl) ?_
    refine RG.vl rfl rfl rfl (Ev.move rfl rfl) ?_
    refine RG.vl rfl rfl rfl (Ev.isF (Ev.neS rfl rfl rfl) (fun h => h rfl)) ?_
    refine RG.vl rfl rfl rfl (Ev.pickF rfl rfl rfl) ?_
    refine RG.vl rfl rfl rfl (Ev.move rfl rfl) ?_
    refine RG.vl rfl rfl rfl (Ev.move rfl rfl) ?_
    refine RG.vl rfl rfl rfl (Ev.isF (Ev.lss rfl rfl rfl) (by omega)) ?_
    refine RG.vl rfl rfl rfl (Ev.pickF rfl rfl rfl) ?_
    refine RG.done ?_
    refine QW.sub (S' := [(3, _), (4, _), (10, _), (11, _), (12, _), (13, _), (22, _), (137, _)]) ⟨rfl, rfl, rfl, rfl, rfl, rfl, rfl, rfl, trivial⟩ ?_
    refine QW.then_ ?_
    refine CW.condF rfl ?_
    refine CW.skip ?_
    refine QW.then_ ?_
    refine CW.seq ?_
    have hnil : ([] : List Br).length = 0 := rfl
    refine CW.region ?_
    replace hl := (hl.ext hxwl20)
    replace hm := (hm.ext hxwl20)
    replace hn := (hn.ext hxwl20)
    replace hb1 := (hb1.ext hxwl20)
    replace hb6 := (hb6.ext hxwl20)
    replace hbs := (Own.ext hbs hE56)
    have hR62 := (Ex.tr hR13 hxwl20)
    have hR63 := (Ex.tr hR14 hxwl20)
    have hR64 := (Ex.tr hR15 hxwl20)
    have hR65 := hxwl20
    have hR66 := hE56
    have hR67 := hE58
    refine RG.build0O (enc := Br.c) rfl rfl rfl rfl rfl Try.underlying24 sz_48 (fun ue wk59 hxwk59 hown60 hnew61 => ?_)
    have hsep68 : Sep ue _ := Sep.of_new hbs hnew61
    have hE69 := hxwk59
    refine RG.vl rfl rfl rfl (Ev.move rfl rfl) ?_
    refine RG.appO rfl rfl rfl rfl rfl rfl rfl Try.underlying24 inf_48 rfl rfl Br.c_len (fun _ => rfl) hown60 (((Own.ext hbs hE69).rdl Br.c_len)) (by simp only [maxLen]; omega) (by omega) (hE69.size) (fun us wa70 hown71 hgr72 hat73 => ?_)
    replace hE69 := own_block hown60 hE69 hgr72 (Nat.le_refl _) hE69.size
    have hus := hown71
    rw [List.nil_append] at hus
    refine RG.vl rfl rfl rfl (Ev.assign rfl rfl) ?_
    refine RG.done ?_
    refine QW.then_ ?_
    refine CW.seq ?_
    refine CW.seq ?_
    refine CW.region ?_
    refine RG.vl rfl rfl rfl (Ev.move rfl rfl) ?_
    refine RG.vl rfl rfl rfl (Ev.lenL rfl rfl rfl Try.underlying24 ((hus.rdl Br.c_len))) ?_
    refine RG.vl rfl rfl rfl (Ev.move rfl rfl) ?_
    refine RG.done ?_
    refine QW.then_ ?_
    refine CW.block ?_
    refine CW.loop2 [(3, _), (4, _), (10, _), (11, _), (12, _), (22, _), (25, _), (142, _)] ⟨rfl, rfl, rfl, rfl, rfl, rfl, rfl, rfl, trivial⟩ (fun (i : Nat) (M : List Br) => [(143, .int .i64 i)]) (fun i M w' => (i ≤ L.length ∧ M.length = L.length ∧ (∀ (j : Nat) (b b' : Br), L[j]? = some b → M[j]? = some b' → ShkB (marginOf s L) b b') ∧ (∀ j, i ≤ j → M[j]? = L[j]?) ∧ Own w' w57.heap.size 48 3 Br.c us M) ∧ Ex w57 w') (fun i M => L.length - i) (0) (L) ⟨rfl, trivial⟩ ⟨⟨Nat.zero_le _, rfl, shk_start hmg0 hbd, fun _ _ => rfl, hus⟩, hE69⟩ ?_
    rintro i M wl74 ⟨⟨hi, hMl, hShk, hMt, hus⟩, hxwl74⟩
    refine CW.sub (S' := [(143, _), (3, _), (4, _), (10, _), (11, _), (12, _), (22, _), (25, _), (142, _)]) ⟨rfl, rfl, rfl, rfl, rfl, rfl, rfl, rfl, rfl, trivial⟩ ?_
    refine CW.seq ?_
    refine CW.region ?_
    refine RG.vl rfl rfl rfl (Ev.lss rfl rfl rfl) ?_
    refine RG.done ?_
    refine QW.then_ ?_
    refine CW.seq ?_
    refine CW.condP rfl (fun hc75 => ?_) (fun hc75 => ?_)
    · refine CW.skip ?_
      refine QW.then_ ?_
      refine CW.seq ?_
      refine CW.block ?_
      refine CW.seq ?_
      refine CW.region ?_
      refine RG.vl rfl rfl rfl (Ev.move rfl rfl) ?_
      refine RG.vl rfl rfl rfl (Ev.assign rfl rfl) ?_
      refine RG.done ?_
      refine QW.then_ ?_
      refine CW.seq ?_
      obtain ⟨b, hb⟩ : ∃ b, L[i]? = some b := ⟨_, List.getElem?_eq_getElem (by omega)⟩
      have hMb : M[i]? = some b := by rw [hMt i (Nat.le_refl _), hb]
      obtain ⟨⟨bb1, bb2⟩, ⟨bb3, bb4⟩, bb5, bb6⟩ := hbd b (List.mem_of_getElem? hb)
      refine CW.draw [] (.ex) 15 rfl mixed (fun wd76 hxwd76 => ?_)
      replace hxwl74 := Ex.tr hxwl74 hxwd76
      have hE77 := hxwd76
      refine AG.takeW 0 rfl (by kernel_rfl) (by kernel_rfl) rfl rfl rfl (fun _ => Ev.move rfl rfl) ?_
      refine AG.takeW 1 rfl (by kernel_rfl) (by kernel_rfl) rfl rfl rfl (fun _ => Ev.move rfl rfl) ?_
      refine AG.idxO _ 2 rfl (by kernel_rfl) (by kernel_rfl) rfl rfl rfl rfl rfl rfl Try.underlying24 sz_48 Br.c_len ((Own.ext hus hE77)) (hMb) (fun g79 hg79 hBg79 hp78b hp78 => ?_)
      refine AG.takeW 3 rfl (by kernel_rfl) (by kernel_rfl) rfl rfl rfl (fun _ => Ev.fld rfl rfl fld_48_0) ?_
      refine AG.takeW 4 rfl (by kernel_rfl) (by kernel_rfl) rfl rfl rfl (fun _ => Ev.move rfl rfl) ?_
      refine AG.takeW 5 rfl (by kernel_rfl) (by kernel_rfl) rfl rfl rfl (fun _ => Ev.move rfl rfl) ?_
      refine AG.idxO _ 6 rfl (by kernel_rfl) (by kernel_rfl) rfl rfl rfl rfl rfl rfl Try.underlying24 sz_48 Br.c_len ((Own.ext hus hE77)) (hMb) (fun g81 hg81 hBg81 hp80b hp80 => ?_)
      refine AG.takeW 7 rfl (by kernel_rfl) (by kernel_rfl) rfl rfl rfl (fun _ => Ev.fld rfl rfl fld_48_1) ?_
      refine AG.takeW 8 rfl (by kernel_rfl) (by kernel_rfl) rfl rfl rfl (fun _ => Ev.move rfl rfl) ?_
      refine AG.takeW 9 rfl (by kernel_rfl) (by kernel_rfl) rfl rfl rfl (fun _ => Ev.move rfl rfl) ?_
      refine AG.idxO _ 10 rfl (by kernel_rfl) (by kernel_rfl) rfl rfl rfl rfl rfl rfl Try.underlying24 sz_48 Br.c_len ((Own.ext hus hE77)) (hMb) (fun g83 hg83 hBg83 hp82b hp82 => ?_)
      refine AG.takeW 11 rfl (by kernel_rfl) (by kernel_rfl) rfl rfl rfl (fun _ => Ev.fld rfl rfl fld_48_2) ?_
      refine AG.takeW 14 rfl (by kernel_rfl) (by kernel_rfl) rfl rfl rfl (fun _ => Ev.move rfl rfl) ?_
      refine AG.only 12 rfl (by kernel_rfl) ?_
      refine RG.buildD (xs := [.tmp 149, .tmp 153, .tmp 157]) rfl rfl rfl rfl rfl rfl rfl Try.underlying59 inf_58 rfl rfl rfl rfl (fun gQ w85 egQ hx85 hb85 => ?_)
      have hsb86 := fun e => sep_new (g := gQ) (Own.ext hbs hxwl74) egQ e
      have hsb87 := fun e => sep_new (g := gQ) (Own.ext hus hE77) egQ e
      have hle88 : w57.heap.size ≤ gQ := by have := hxwl74.size; omega
      have hle89 : wl74.heap.size ≤ gQ := by have := hE77.size; omega
      have hle90 : wd76.heap.size ≤ gQ := by have := (Ex.rfl_ wd76).size; omega
      have hlt91 : g1 < gQ := by have := Blk.lt (hb1.ext hxwl74); omega
      have hlt92 : gS < gQ := by have := Blk.lt (hb6.ext hxwl74); omega
      replace hxwl74 := Ex.tr hxwl74 hx85
      replace hE77 := Ex.tr hE77 hx85
      have hE93 := hx85
      refine RG.done ?_
      refine QW.an (fun _ => hE93) ?_
      refine AG.takeW 13 rfl (by kernel_rfl) (by kernel_rfl) rfl rfl rfl (fun _ => Ev.lenSlice rfl rfl rfl Try.underlying59) ?_
      refine AG.done (by kernel_rfl) ?_
      refine QW.sub (S' := [(3, _), (4, _), (10, _), (11, _), (12, _), (22, _), (25, _), (26, _), (142, _), (143, _), (158, _), (159, _), (160, _)]) ⟨rfl, rfl, rfl, rfl, rfl, rfl, rfl, rfl, rfl, rfl, rfl, rfl, rfl, trivial⟩ ?_
      refine QW.then_ ?_
      refine CW.block ?_
      refine CW.loop2 [(3, _), (4, _), (10, _), (11, _), (12, _), (22, _), (25, _), (26, _), (142, _), (143, _), (158, _), (159, _)] ⟨rfl, rfl, rfl, rfl, rfl, rfl, rfl, rfl, rfl, rfl, rfl, rfl, trivial⟩ (fun (k : Nat) (cur : Br) => [(160, .int .i64 k)]) (fun k cur w' => (k ≤ 3 ∧ (k = 0 → cur.po = b.po) ∧ (k ≤ 1 → cur.up = b.up) ∧ (k ≤ 2 → cur.dn = b.dn) ∧ Shk (marginOf s L) b.po cur.po ∧ Shk (marginOf s L) b.up cur.up ∧ Shk (marginOf s L) b.dn cur.dn ∧ Own w' w57.heap.size 48 3 Br.c us (M.set i cur) ∧ Blk w' gQ 58 [.pointer (some (((⟨g79, 0, none⟩ : Addr).add (i * 3)).add 0)), .pointer (some (((⟨g81, 0, none⟩ : Addr).add (i * 3)).add 1)), .pointer (some (((⟨g83, 0, none⟩ : Addr).add (i * 3)).add 2))]) ∧ Ex w57 w') (fun k cur => 3 - k) (0) (b) ⟨rfl, trivial⟩ ⟨⟨by omega, fun _ => rfl, fun _ => rfl, fun _ => rfl, shk_self (by omega) hmg0, shk_self (by omega) hmg0, shk_self (by omega) hmg0, by rw [set_same hMb]; exact (Own.ext hus hE77), hb85⟩, hxwl74⟩ ?_
      rintro k cur wl94 ⟨⟨hk3, hq0, hq1, hq2, hs0, hs1, hs2, hus, hgQ⟩, hxwl94⟩
      refine CW.sub (S' := [(160, _), (3, _), (4, _), (10, _), (11, _), (12, _), (22, _), (25, _), (26, _), (142, _), (143, _), (158, _), (159, _)]) ⟨rfl, rfl, rfl, rfl, rfl, rfl, rfl, rfl, rfl, rfl, rfl, rfl, rfl, trivial⟩ ?_
      have hcur : (M.set i cur)[i]? = some cur := by rw [List.getElem?_set_self (by omega)]
      refine CW.seq ?_
      refine CW.region ?_
      refine RG.vl rfl rfl rfl (Ev.lss rfl rfl rfl) ?_
      refine RG.done ?_
      refine QW.then_ ?_
      refine CW.seq ?_
      refine CW.condP rfl (fun hc95 => ?_) (fun hc95 => ?_)
      · refine CW.skip ?_
        refine QW.then_ ?_
        refine CW.seq ?_
        refine CW.block ?_
        refine CW.seq ?_
        rcases (show k = 0 ∨ k = 1 ∨ k = 2 by omega) with rfl | rfl | rfl
        · refine CW.region ?_
          refine RG.vl rfl rfl rfl (Ev.move rfl rfl) ?_
          refine RG.vl rfl rfl rfl (Ev.idxN rfl rfl rfl Try.underlying59 sz_58 (by omega)) ?_
          refine RG.vl rfl rfl rfl (Ev.ldAt rfl rfl Try.underlying58 rfl (hgQ.cells) (rfl)) ?_
          have hpc := Own.cells hus Br.c_len hg79 hcur
          have hpcb : (((⟨g79, 0, none⟩ : Addr).add (i * 3)).block < wl94.heap.size) := by rw [block_of_add]; exact Own.lt hus hg79
          have hcv : cur.po = b.po := hq0 rfl
          refine RG.vl rfl rfl rfl (Ev.assign rfl rfl) ?_
          refine RG.vl rfl rfl rfl (Ev.assign rfl rfl) ?_
          refine RG.done ?_
          refine QW.then_ ?_
          refine CW.seq ?_
          refine CW.region ?_
          refine RG.vl rfl rfl rfl (Ev.move rfl rfl) ?_
          refine RG.vl rfl rfl rfl (Ev.lenL rfl rfl rfl Try.underlying53 ((hn.ext hxwl94))) ?_
          refine RG.vl rfl rfl rfl (Ev.gtr rfl rfl rfl) ?_
          refine RG.done ?_
          refine QW.then_ ?_
          refine CW.condP rfl (fun hc96 => ?_) (fun hc96 => ?_)
          · refine CW.seq ?_
            obtain ⟨kk, hkk⟩ : ∃ kk : Nat, (3 * (i : Int) + ((0 : Nat) : Int)) % (ln.length : Int) = (kk : Int) := ⟨((3 * (i : Int) + ((0 : Nat) : Int)) % (ln.length : Int)).toNat, by have := Int.emod_nonneg (3 * (i : Int) + ((0 : Nat) : Int)) (show (ln.length : Int) ≠ 0 by omega); omega⟩
            have hkl := Int.emod_lt_of_pos (3 * (i : Int) + ((0 : Nat) : Int)) (show (0 : Int) < (ln.length : Int) by omega)
            obtain ⟨x, hx⟩ : ∃ x, ln[kk]? = some x := ⟨_, List.getElem?_eq_getElem (by omega)⟩
            obtain ⟨x1, x2⟩ := bounds_i8 x.2
            refine CW.region ?_
            refine RG.vl rfl rfl rfl (Ev.move rfl rfl) ?_
            refine RG.vl rfl rfl rfl (Ev.move rfl rfl) ?_
            refine RG.vl rfl rfl rfl (Ev.mulI rfl rfl rfl (by omega)) ?_
            refine RG.vl rfl rfl rfl (Ev.move rfl rfl) ?_
            refine RG.vl rfl rfl rfl (Ev.addI rfl rfl rfl (by omega)) ?_
            refine RG.vl rfl rfl rfl (Ev.move rfl rfl) ?_
            refine RG.vl rfl rfl rfl (Ev.lenL rfl rfl rfl Try.underlying53 ((hn.ext hxwl94))) ?_
            refine RG.vl rfl rfl rfl ((Ev.remI rfl rfl rfl (by omega)).conv (congrArg (Value.int .i64) hkk)) ?_
            refine RG.idxL rfl rfl rfl rfl rfl rfl Try.underlying53 sz_56 ((hn.ext hxwl94)) (hx) (fun p97 hp97b hp97 => ?_)
            refine RG.vl rfl rfl rfl (Ev.ld0 rfl rfl Try.underlying56 rfl (hp97) (rfl)) ?_
            refine RG.vl rfl rfl rfl (Ev.to64 rfl rfl Try.underlying56 Try.underlying3 (by omega)) ?_
            refine RG.vl rfl rfl rfl (Ev.assign rfl rfl) ?_
            refine RG.done ?_
            refine QW.sub (S' := [(3, _), (4, _), (10, _), (11, _), (12, _), (22, _), (25, _), (26, _), (28, _), (29, _), (142, _), (143, _), (158, _), (159, _), (160, _)]) ⟨rfl, rfl, rfl, rfl, rfl, rfl, rfl, rfl, rfl, rfl, rfl, rfl, rfl, rfl, rfl, trivial⟩ ?_
            refine QW.then_ ?_
            refine CW.region ?_
            refine RG.vl rfl rfl rfl (Ev.move rfl rfl) ?_
            refine RG.vl rfl rfl rfl (Ev.move rfl rfl) ?_
            refine RG.vl rfl rfl rfl (Ev.nilC rfl rfl) ?_
            refine RG.vl rfl rfl rfl (Ev.ldAt rfl rfl Try.underlying3 rfl (hpc) (rfl)) ?_
            refine RG.vl rfl rfl rfl (Ev.move rfl rfl) ?_
            refine RG.vl rfl rfl rfl (Ev.negI rfl rfl (by omega)) ?_
            refine RG.vl rfl rfl rfl (Ev.move rfl rfl) ?_
            refine RG.vl rfl rfl rfl (Ev.move rfl rfl) ?_
            refine RG.vl rfl rfl rfl (Ev.min2 rfl rfl rfl rfl) ?_
            refine RG.vl rfl rfl rfl (Ev.max2 rfl rfl rfl rfl) ?_
            refine RG.vl rfl rfl rfl (Ev.addI rfl rfl rfl (by omega)) ?_
            refine RG.vl rfl rfl rfl (Ev.max2 rfl rfl rfl rfl) ?_
            refine RG.vl rfl rfl rfl (Ev.nilC rfl rfl) ?_
            refine RG.stOw (g := g79) (⟨max (cur.po + max (-marginOf s L) (min x.1 (marginOf s L))) 0, cur.up, cur.dn⟩) rfl rfl rfl rfl rfl sz_3 rfl (fun _ => rfl) hus hg79 (hcur) rfl (rfl) (fun ws98 hwws98 hown99 => ?_)
            rw [List.set_set] at hown99
            replace hgQ := Blk.far hgQ hwws98 (fun e => hsb87 (by rw [e]; exact hg79))
            replace hxwl94 := Wr.below hxwl94 hwws98 hBg79
            refine RG.done ?_
            refine QW.blockN ?_
            refine QW.then_ ?_
            refine CW.region ?_
            refine RG.vl rfl rfl rfl (Ev.addI rfl rfl rfl (by omega)) ?_
            refine RG.vl rfl rfl rfl (Ev.move rfl rfl) ?_
            refine RG.done ?_
            refine QW.sub (S' := [(3, _), (4, _), (10, _), (11, _), (12, _), (22, _), (25, _), (26, _), (142, _), (143, _), (158, _), (159, _), (160, _)]) ⟨rfl, rfl, rfl, rfl, rfl, rfl, rfl, rfl, rfl, rfl, rfl, rfl, rfl, trivial⟩ ?_
            refine QW.round2 (0 + 1) (⟨max (cur.po + max (-marginOf s L) (min x.1 (marginOf s L))) 0, cur.up, cur.dn⟩) ⟨rfl, trivial⟩ ⟨rfl, rfl, rfl, rfl, rfl, rfl, rfl, rfl, rfl, rfl, rfl, rfl, trivial⟩ ⟨⟨by omega, fun h => absurd h (by decide), fun _ => hq1 (by decide), fun _ => hq2 (by decide), by show Shk _ b.po _; rw [show cur.po = b.po from hcv]; exact shk_step (by omega) (by omega) (by omega) (by omega), hs1, hs2, hown99, hgQ⟩, hxwl94⟩ (by omega)
          · refine CW.skip ?_
            refine QW.blockN ?_
            refine QW.then_ ?_
            refine CW.region ?_
            refine RG.vl rfl rfl rfl (Ev.addI rfl rfl rfl (by omega)) ?_
            refine RG.vl rfl rfl rfl (Ev.move rfl rfl) ?_
            refine RG.done ?_
            refine QW.round2 (0 + 1) (cur) ⟨rfl, trivial⟩ ⟨rfl, rfl, rfl, rfl, rfl, rfl, rfl, rfl, rfl, rfl, rfl, rfl, trivial⟩ ⟨⟨by omega, fun h => absurd h (by omega), fun h => hq1 (by omega), fun h => hq2 (by omega), hs0, hs1, hs2, hus, hgQ⟩, hxwl94⟩ (by omega)
        · refine CW.region ?_
          refine RG.vl rfl rfl rfl (Ev.move rfl rfl) ?_
          refine RG.vl rfl rfl rfl (Ev.idxN rfl rfl rfl Try.underlying59 sz_58 (by omega)) ?_
          refine RG.vl rfl rfl rfl (Ev.ldAt rfl rfl Try.underlying58 rfl (hgQ.cells) (rfl)) ?_
          have hpc := Own.cells hus Br.c_len hg81 hcur
          have hpcb : (((⟨g81, 0, none⟩ : Addr).add (i * 3)).block < wl94.heap.size) := by rw [block_of_add]; exact Own.lt hus hg81
          have hcv : cur.up = b.up := hq1 (by decide)
          refine RG.vl rfl rfl rfl (Ev.assign rfl rfl) ?_
          refine RG.vl rfl rfl rfl (Ev.assign rfl rfl) ?_
          refine RG.done ?_
          refine QW.then_ ?_
          refine CW.seq ?_
          refine CW.region ?_
          refine RG.vl rfl rfl rfl (Ev.move rfl rfl) ?_
          refine RG.vl rfl rfl rfl (Ev.lenL rfl rfl rfl Try.underlying53 ((hn.ext hxwl94))) ?_
          refine RG.vl rfl rfl rfl (Ev.gtr rfl rfl rfl) ?_
          refine RG.done ?_
          refine QW.then_ ?_
          refine CW.condP rfl (fun hc100 => ?_) (fun hc100 => ?_)
          · refine CW.seq ?_
            obtain ⟨kk, hkk⟩ : ∃ kk : Nat, (3 * (i : Int) + ((1 : Nat) : Int)) % (ln.length : Int) = (kk : Int) := ⟨((3 * (i : Int) + ((1 : Nat) : Int)) % (ln.length : Int)).toNat, by have := Int.emod_nonneg (3 * (i : Int) + ((1 : Nat) : Int)) (show (ln.length : Int) ≠ 0 by omega); omega⟩
            have hkl := Int.emod_lt_of_pos (3 * (i : Int) + ((1 : Nat) : Int)) (show (0 : Int) < (ln.length : Int) by omega)
            obtain ⟨x, hx⟩ : ∃ x, ln[kk]? = some x := ⟨_, List.getElem?_eq_getElem (by omega)⟩
            obtain ⟨x1, x2⟩ := bounds_i8 x.2
            refine CW.region ?_
            refine RG.vl rfl rfl rfl (Ev.move rfl rfl) ?_
            refine RG.vl rfl rfl rfl (Ev.move rfl rfl) ?_
            refine RG.vl rfl rfl rfl (Ev.mulI rfl rfl rfl (by omega)) ?_
            refine RG.vl rfl rfl rfl (Ev.move rfl rfl) ?_
            refine RG.vl rfl rfl rfl (Ev.addI rfl rfl rfl (by omega)) ?_
            refine RG.vl rfl rfl rfl (Ev.move rfl rfl) ?_
            refine RG.vl rfl rfl rfl (Ev.lenL rfl rfl rfl Try.underlying53 ((hn.ext hxwl94))) ?_
            refine RG.vl rfl rfl rfl ((Ev.remI rfl rfl rfl (by omega)).conv (congrArg (Value.int .i64) hkk)) ?_
            refine RG.idxL rfl rfl rfl rfl rfl rfl Try.underlying53 sz_56 ((hn.ext hxwl94)) (hx) (fun p101 hp101b hp101 => ?_)
            refine RG.vl rfl rfl rfl (Ev.ld0 rfl rfl Try.underlying56 rfl (hp101) (rfl)) ?_
            refine RG.vl rfl rfl rfl (Ev.to64 rfl rfl Try.underlying56 Try.underlying3 (by omega)) ?_
            refine RG.vl rfl rfl rfl (Ev.assign rfl rfl) ?_
            refine RG.done ?_
            refine QW.sub (S' := [(3, _), (4, _), (10, _), (11, _), (12, _), (22, _), (25, _), (26, _), (28, _), (29, _), (142, _), (143, _), (158, _), (159, _), (160, _)]) ⟨rfl, rfl, rfl, rfl, rfl, rfl, rfl, rfl, rfl, rfl, rfl, rfl, rfl, rfl, rfl, trivial⟩ ?_
            refine QW.then_ ?_
            refine CW.region ?_
            refine RG.vl rfl rfl rfl (Ev.move rfl rfl) ?_
            refine RG.vl rfl rfl rfl (Ev.move rfl rfl) ?_
            refine RG.vl rfl rfl rfl (Ev.nilC rfl rfl) ?_
            refine RG.vl rfl rfl rfl (Ev.ldAt rfl rfl Try.underlying3 rfl (hpc) (rfl)) ?_
            refine RG.vl rfl rfl rfl (Ev.move rfl rfl) ?_
            refine RG.vl rfl rfl rfl (Ev.negI rfl rfl (by omega)) ?_
            refine RG.vl rfl rfl rfl (Ev.move rfl rfl) ?_
            refine RG.vl rfl rfl rfl (Ev.move rfl rfl) ?_
            refine RG.vl rfl rfl rfl (Ev.min2 rfl rfl rfl rfl) ?_
            refine RG.vl rfl rfl rfl (Ev.max2 rfl rfl rfl rfl) ?_
            refine RG.vl rfl rfl rfl (Ev.addI rfl rfl rfl (by omega)) ?_
            refine RG.vl rfl rfl rfl (Ev.max2 rfl rfl rfl rfl) ?_
            refine RG.vl rfl rfl rfl (Ev.nilC rfl rfl) ?_
            refine RG.stOw (g := g81) (⟨cur.po, max (cur.up + max (-marginOf s L) (min x.1 (marginOf s L))) 0, cur.dn⟩) rfl rfl rfl rfl rfl sz_3 rfl (fun _ => rfl) hus hg81 (hcur) rfl (rfl) (fun ws102 hwws102 hown103 => ?_)
            rw [List.set_set] at hown103
            replace hgQ := Blk.far hgQ hwws102 (fun e => hsb87 (by rw [e]; exact hg81))
            replace hxwl94 := Wr.below hxwl94 hwws102 hBg81
            refine RG.done ?_
            refine QW.blockN ?_
            refine QW.then_ ?_
            refine CW.region ?_
            refine RG.vl rfl rfl rfl (Ev.addI rfl rfl rfl (by omega)) ?_
            refine RG.vl rfl rfl rfl (Ev.move rfl rfl) ?_
            refine RG.done ?_
            refine QW.sub (S' := [(3, _), (4, _), (10, _), (11, _), (12, _), (22, _), (25, _), (26, _), (142, _), (143, _), (158, _), (159, _), (160, _)]) ⟨rfl, rfl, rfl, rfl, rfl, rfl, rfl, rfl, rfl, rfl, rfl, rfl, rfl, trivial⟩ ?_
            refine QW.round2 (1 + 1) (⟨cur.po, max (cur.up + max (-marginOf s L) (min x.1 (marginOf s L))) 0, cur.dn⟩) ⟨rfl, trivial⟩ ⟨rfl, rfl, rfl, rfl, rfl, rfl, rfl, rfl, rfl, rfl, rfl, rfl, trivial⟩ ⟨⟨by omega, fun h => absurd h (by decide), fun h => absurd h (by decide), fun _ => hq2 (by decide), hs0, by show Shk _ b.up _; rw [show cur.up = b.up from hcv]; exact shk_step (by omega) (by omega) (by omega) (by omega), hs2, hown103, hgQ⟩, hxwl94⟩ (by omega)
          · refine CW.skip ?_
            refine QW.blockN ?_
            refine QW.then_ ?_
            refine CW.region ?_
            refine RG.vl rfl rfl rfl (Ev.addI rfl rfl rfl (by omega)) ?_
            refine RG.vl rfl rfl rfl (Ev.move rfl rfl) ?_
            refine RG.done ?_
            refine QW.round2 (1 + 1) (cur) ⟨rfl, trivial⟩ ⟨rfl, rfl, rfl, rfl, rfl, rfl, rfl, rfl, rfl, rfl, rfl, rfl, trivial⟩ ⟨⟨by omega, fun h => absurd h (by omega), fun h => hq1 (by omega), fun h => hq2 (by omega), hs0, hs1, hs2, hus, hgQ⟩, hxwl94⟩ (by omega)
        · refine CW.region ?_
          refine RG.vl rfl rfl rfl (Ev.move rfl rfl) ?_
          refine RG.vl rfl rfl rfl (Ev.idxN rfl rfl rfl Try.underlying59 sz_58 (by omega)) ?_
          refine RG.vl rfl rfl rfl (Ev.ldAt rfl rfl Try.underlying58 rfl (hgQ.cells) (rfl)) ?_
          have hpc := Own.cells hus Br.c_len hg83 hcur
          have hpcb : (((⟨g83, 0, none⟩ : Addr).add (i * 3)).block < wl94.heap.size) := by rw [block_of_add]; exact Own.lt hus hg83
          have hcv : cur.dn = b.dn := hq2 (by decide)
          refine RG.vl rfl rfl rfl (Ev.assign rfl rfl) ?_
          refine RG.vl rfl rfl rfl (Ev.assign rfl rfl) ?_
          refine RG.done ?_
          refine QW.then_ ?_
          refine CW.seq ?_
          refine CW.region ?_
          refine RG.vl rfl rfl rfl (Ev.move rfl rfl) ?_
          refine RG.vl rfl rfl rfl (Ev.lenL rfl rfl rfl Try.underlying53 ((hn.ext hxwl94))) ?_
          refine RG.vl rfl rfl rfl (Ev.gtr rfl rfl rfl) ?_
          refine RG.done ?_
          refine QW.then_ ?_
          refine CW.condP rfl (fun hc104 => ?_) (fun hc104 => ?_)
          · refine CW.seq ?_
            obtain ⟨kk, hkk⟩ : ∃ kk : Nat, (3 * (i : Int) + ((2 : Nat) : Int)) % (ln.length : Int) = (kk : Int) := ⟨((3 * (i : Int) + ((2 : Nat) : Int)) % (ln.length : Int)).toNat, by have := Int.emod_nonneg (3 * (i : Int) + ((2 : Nat) : Int)) (show (ln.length : Int) ≠ 0 by omega); omega⟩
            have hkl := Int.emod_lt_of_pos (3 * (i : Int) + ((2 : Nat) : Int)) (show (0 : Int) < (ln.length : Int) by omega)
            obtain ⟨x, hx⟩ : ∃ x, ln[kk]? = some x := ⟨_, List.getElem?_eq_getElem (by omega)⟩
            obtain ⟨x1, x2⟩ := bounds_i8 x.2
            refine CW.region ?_
            refine RG.vl rfl rfl rfl (Ev.move rfl rfl) ?_
            refine RG.vl rfl rfl rfl (Ev.move rfl rfl) ?_
            refine RG.vl rfl rfl rfl (Ev.mulI rfl rfl rfl (by omega)) ?_
            refine RG.vl rfl rfl rfl (Ev.move rfl rfl) ?_
            refine RG.vl rfl rfl rfl (Ev.addI rfl rfl rfl (by omega)) ?_
            refine RG.vl rfl rfl rfl (Ev.move rfl rfl) ?_
            refine RG.vl rfl rfl rfl (Ev.lenL rfl rfl rfl Try.underlying53 ((hn.ext hxwl94))) ?_
            refine RG.vl rfl rfl rfl ((Ev.remI rfl rfl rfl (by omega)).conv (congrArg (Value.int .i64) hkk)) ?_
            refine RG.idxL rfl rfl rfl rfl rfl rfl Try.underlying53 sz_56 ((hn.ext hxwl94)) (hx) (fun p105 hp105b hp105 => ?_)
            refine RG.vl rfl rfl rfl (Ev.ld0 rfl rfl Try.underlying56 rfl (hp105) (rfl)) ?_
            refine RG.vl rfl rfl rfl (Ev.to64 rfl rfl Try.underlying56 Try.underlying3 (by omega)) ?_
            refine RG.vl rfl rfl rfl (Ev.assign rfl rfl) ?_
            refine RG.done ?_
            refine QW.sub (S' := [(3, _), (4, _), (10, _), (11, _), (12, _), (22, _), (25, _), (26, _), (28, _), (29, _), (142, _), (143, _), (158, _), (159, _), (160, _)]) ⟨rfl, rfl, rfl, rfl, rfl, rfl, rfl, rfl, rfl, rfl, rfl, rfl, rfl, rfl, rfl, trivial⟩ ?_
            refine QW.then_ ?_
            refine CW.region ?_
            refine RG.vl rfl rfl rfl (Ev.move rfl rfl) ?_
            refine RG.vl rfl rfl rfl (Ev.move rfl rfl) ?_
            refine RG.vl rfl rfl rfl (Ev.nilC rfl rfl) ?_
            refine RG.vl rfl rfl rfl (Ev.ldAt rfl rfl Try.underlying3 rfl (hpc) (rfl)) ?_
            refine RG.vl rfl rfl rfl (Ev.move rfl rfl) ?_
            refine RG.vl rfl rfl rfl (Ev.negI rfl rfl (by omega)) ?_
            refine RG.vl rfl rfl rfl (Ev.move rfl rfl) ?_
            refine RG.vl rfl rfl rfl (Ev.move rfl rfl) ?_
            refine RG.vl rfl rfl rfl (Ev.min2 rfl rfl rfl rfl) ?_
            refine RG.vl rfl rfl rfl (Ev.max2 rfl rfl rfl rfl) ?_
            refine RG.vl rfl rfl rfl (Ev.addI rfl rfl rfl (by omega)) ?_
            refine RG.vl rfl rfl rfl (Ev.max2 rfl rfl rfl rfl) ?_
            refine RG.vl rfl rfl rfl (Ev.nilC rfl rfl) ?_
            refine RG.stOw (g := g83) (⟨cur.po, cur.up, max (cur.dn + max (-marginOf s L) (min x.1 (marginOf s L))) 0⟩) rfl rfl rfl rfl rfl sz_3 rfl (fun _ => rfl) hus hg83 (hcur) rfl (rfl) (fun ws106 hwws106 hown107 => ?_)
            rw [List.set_set] at hown107
            replace hgQ := Blk.far hgQ hwws106 (fun e => hsb87 (by rw [e]; exact hg83))
            replace hxwl94 := Wr.below hxwl94 hwws106 hBg83
            refine RG.done ?_
            refine QW.blockN ?_
            refine QW.then_ ?_
            refine CW.region ?_
            refine RG.vl rfl rfl rfl (Ev.addI rfl rfl rfl (by omega)) ?_
            refine RG.vl rfl rfl rfl (Ev.move rfl rfl) ?_
            refine RG.done ?_
            refine QW.sub (S' := [(3, _), (4, _), (10, _), (11, _), (12, _), (22, _), (25, _), (26, _), (142, _), (143, _), (158, _), (159, _), (160, _)]) ⟨rfl, rfl, rfl, rfl, rfl, rfl, rfl, rfl, rfl, rfl, rfl, rfl, rfl, trivial⟩ ?_
            refine QW.round2 (2 + 1) (⟨cur.po, cur.up, max (cur.dn + max (-marginOf s L) (min x.1 (marginOf s L))) 0⟩) ⟨rfl, trivial⟩ ⟨rfl, rfl, rfl, rfl, rfl, rfl, rfl, rfl, rfl, rfl, rfl, rfl, trivial⟩ ⟨⟨by omega, fun h => absurd h (by decide), fun h => absurd h (by decide), fun h => absurd h (by decide), hs0, hs1, by show Shk _ b.dn _; rw [show cur.dn = b.dn from hcv]; exact shk_step (by omega) (by omega) (by omega) (by omega), hown107, hgQ⟩, hxwl94⟩ (by omega)
          · refine CW.skip ?_
            refine QW.blockN ?_
            refine QW.then_ ?_
            refine CW.region ?_
            refine RG.vl rfl rfl rfl (Ev.addI rfl rfl rfl (by omega)) ?_
            refine RG.vl rfl rfl rfl (Ev.move rfl rfl) ?_
            refine RG.done ?_
            refine QW.round2 (2 + 1) (cur) ⟨rfl, trivial⟩ ⟨rfl, rfl, rfl, rfl, rfl, rfl, rfl, rfl, rfl, rfl, rfl, rfl, trivial⟩ ⟨⟨by omega, fun h => absurd h (by omega), fun h => hq1 (by omega), fun h => hq2 (by omega), hs0, hs1, hs2, hus, hgQ⟩, hxwl94⟩ (by omega)
      · refine CW.exit ?_
        refine QW.thenExit ?_
        refine QW.thenExit ?_
        refine QW.blockHit ?_
        refine QW.blockN ?_
        refine QW.then_ ?_
        refine CW.region ?_
        refine RG.vl rfl rfl rfl (Ev.addI rfl rfl rfl (by omega)) ?_
        refine RG.vl rfl rfl rfl (Ev.move rfl rfl) ?_
        refine RG.done ?_
        refine QW.round2 (i + 1) (M.set i cur) ⟨rfl, trivial⟩ ⟨rfl, rfl, rfl, rfl, rfl, rfl, rfl, rfl, trivial⟩ ⟨⟨by omega, by rw [List.length_set]; exact hMl, rel_step hShk hb ⟨hs0, hs1, hs2⟩, tail_step hMt, hus⟩, hxwl94⟩ (by omega)
    · refine CW.exit ?_
      refine QW.thenExit ?_
      refine QW.thenExit ?_
      refine QW.blockHit ?_
      refine QW.then_ ?_
      refine CW.seq ?_
      refine CW.seq ?_
      refine CW.region ?_
      refine RG.vl rfl rfl rfl (Ev.move rfl rfl) ?_
      refine RG.done ?_
      refine QW.then_ ?_
      refine CW.cond rfl (fun hc108 => ?_) (fun hc108 => ?_)
      · refine CW.seq ?_
        refine CW.region ?_
        refine RG.vl rfl rfl rfl (Ev.move rfl rfl) ?_
        refine RG.vl rfl rfl rfl (Ev.lenL rfl rfl rfl Try.underlying24 ((hus.rdl Br.c_len))) ?_
        refine RG.vl rfl rfl rfl (Ev.subI rfl rfl rfl (by omega)) ?_
        refine RG.vl rfl rfl rfl (Ev.assign rfl rfl) ?_
        refine RG.vl rfl rfl rfl (Ev.assign rfl rfl) ?_
        refine RG.done ?_
        refine QW.then_ ?_
        refine CW.block ?_
        refine CW.loop3 [(10, _), (11, _), (12, _), (25, _)] ⟨rfl, rfl, rfl, rfl, trivial⟩ (fun (i : Nat) (jj : Int) (N : List Br) => [(30, .int .i64 i), (31, .int .i64 jj)]) (fun i jj N w' => (jj = (M.length : Int) - 1 - i ∧ N.length = M.length ∧ (∀ j, N[j]? = swapped M i j) ∧ Own w' w57.heap.size 48 3 Br.c us N) ∧ Ex w57 w') (fun i jj N => M.length - i) (0) (_) (M) ⟨rfl, rfl, trivial⟩ ⟨⟨by simp, rfl, swap_start M, hus⟩, hxwl74⟩ ?_
        rintro i jj N wl109 ⟨⟨hjj, hNl, hsw, hus⟩, hxwl109⟩
        refine CW.sub (S' := [(30, _), (31, _), (10, _), (11, _), (12, _), (25, _)]) ⟨rfl, rfl, rfl, rfl, rfl, rfl, trivial⟩ ?_
        refine CW.seq ?_
        refine CW.seq ?_
        refine CW.region ?_
        refine RG.vl rfl rfl rfl (Ev.move rfl rfl) ?_
        refine RG.vl rfl rfl rfl (Ev.move rfl rfl) ?_
        refine RG.vl rfl rfl rfl (Ev.lss rfl rfl rfl) ?_
        refine RG.done ?_
        refine QW.then_ ?_
        refine CW.condP rfl (fun hc110 => ?_) (fun hc110 => ?_)
        · refine CW.skip ?_
          refine QW.then_ ?_
          refine CW.seq ?_
          refine CW.block ?_
          have hjn : jj = ((M.length - 1 - i : Nat) : Int) := by omega
          obtain ⟨b9, hb9⟩ : ∃ b9, N[i]? = some b9 := ⟨_, List.getElem?_eq_getElem (by omega)⟩
          obtain ⟨c9, hc9⟩ : ∃ c9, N[M.length - 1 - i]? = some c9 := ⟨_, List.getElem?_eq_getElem (by omega)⟩
          have hc10 : (N.set i c9)[M.length - 1 - i]? = some c9 := by rw [List.getElem?_set_ne (by omega)]; exact hc9
          refine CW.draw [13, 15] (.ex) 16 rfl mixed (fun wd111 hxwd111 => ?_)
          replace hxwl109 := Ex.tr hxwl109 hxwd111
          have hE112 := hxwd111
          refine AG.takeW 0 rfl (by kernel_rfl) (by kernel_rfl) rfl rfl rfl (fun _ => Ev.move rfl rfl) ?_
          refine AG.takeW 1 rfl (by kernel_rfl) (by kernel_rfl) rfl rfl rfl (fun _ => Ev.move rfl rfl) ?_
          refine AG.takeW 2 rfl (by kernel_rfl) (by kernel_rfl) rfl rfl rfl (fun _ => Ev.move rfl rfl) ?_
          refine AG.takeW 3 rfl (by kernel_rfl) (by kernel_rfl) rfl rfl rfl (fun _ => (Ev.move rfl rfl).conv (congrArg (Value.int .i64) hjn)) ?_
          refine AG.takeW 4 rfl (by kernel_rfl) (by kernel_rfl) rfl rfl rfl (fun _ => Ev.move rfl rfl) ?_
          refine AG.takeW 5 rfl (by kernel_rfl) (by kernel_rfl) rfl rfl rfl (fun _ => (Ev.move rfl rfl).conv (congrArg (Value.int .i64) hjn)) ?_
          refine AG.idxO _ 6 rfl (by kernel_rfl) (by kernel_rfl) rfl rfl rfl rfl rfl rfl Try.underlying24 sz_48 Br.c_len ((Own.ext hus hE112)) (hc9) (fun g114 hg114 hBg114 hp113b hp113 => ?_)
          refine AG.take 7 rfl (by kernel_rfl) (by kernel_rfl) rfl rfl rfl (fun wq hq => Ev.ldAgg rfl rfl Try.underlying48 rfl sz_48 rfl (hp113.ext hq hp113b)) ?_
          refine AG.takeW 8 rfl (by kernel_rfl) (by kernel_rfl) rfl rfl rfl (fun _ => Ev.move rfl rfl) ?_
          refine AG.takeW 9 rfl (by kernel_rfl) (by kernel_rfl) rfl rfl rfl (fun _ => Ev.move rfl rfl) ?_
          refine AG.idxO _ 10 rfl (by kernel_rfl) (by kernel_rfl) rfl rfl rfl rfl rfl rfl Try.underlying24 sz_48 Br.c_len ((Own.ext hus hE112)) (hb9) (fun g116 hg116 hBg116 hp115b hp115 => ?_)
          refine AG.take 11 rfl (by kernel_rfl) (by kernel_rfl) rfl rfl rfl (fun wq hq => Ev.ldAgg rfl rfl Try.underlying48 rfl sz_48 rfl (hp115.ext hq hp115b)) ?_
          refine AG.idxO _ 12 rfl (by kernel_rfl) (by kernel_rfl) rfl rfl rfl rfl rfl rfl Try.underlying24 sz_48 Br.c_len ((Own.ext hus hE112)) (hb9) (fun g118 hg118 hBg118 hp117b hp117 => ?_)
          refine AG.only 13 rfl (by kernel_rfl) ?_
          refine RG.stOwAll (g := g118) (c9) rfl rfl rfl rfl rfl sz_48 rfl rfl Br.c_len (Own.ext hus hE112) hg118 (hb9) (fun ws120 hwws120 hown121 => ?_)
          replace hxwl109 := Wr.below hxwl109 hwws120 hBg118
          refine RG.done ?_
          refine QW.an (fun h => by simp at h) ?_
          refine AG.idxO _ 14 rfl (by kernel_rfl) (by kernel_rfl) rfl rfl rfl rfl rfl rfl Try.underlying24 sz_48 Br.c_len (hown121) (hc10) (fun g123 hg123 hBg123 hp122b hp122 => ?_)
          refine AG.only 15 rfl (by kernel_rfl) ?_
          refine RG.stOwAll (g := g123) (b9) rfl rfl rfl rfl rfl sz_48 rfl rfl Br.c_len hown121 hg123 (hc10) (fun ws125 hwws125 hown126 => ?_)
          replace hxwl109 := Wr.below hxwl109 hwws125 hBg123
          refine RG.done ?_
          refine QW.an (fun h => by simp at h) ?_
          refine AG.done (by kernel_rfl) ?_
          refine QW.sub (S' := [(10, _), (11, _), (12, _), (25, _), (30, _), (31, _)]) ⟨rfl, rfl, rfl, rfl, rfl, rfl, trivial⟩ ?_
          refine QW.blockN ?_
          refine QW.then_ ?_
          refine CW.region ?_
          refine RG.vl rfl rfl rfl (Ev.move rfl rfl) ?_
          refine RG.vl rfl rfl rfl (Ev.addI rfl rfl rfl (by omega)) ?_
          refine RG.vl rfl rfl rfl (Ev.move rfl rfl) ?_
          refine RG.vl rfl rfl rfl (Ev.subI rfl rfl rfl (by omega)) ?_
          refine RG.vl rfl rfl rfl (Ev.assign rfl rfl) ?_
          refine RG.vl rfl rfl rfl (Ev.assign rfl rfl) ?_
          refine RG.done ?_
          refine QW.round3 (i + 1) (_) ((N.set i c9).set (M.length - 1 - i) b9) ⟨rfl, rfl, trivial⟩ ⟨rfl, rfl, rfl, rfl, trivial⟩ ⟨⟨by omega, by rw [List.length_set, List.length_set]; exact hNl, swap_step hNl (by omega) hsw hb9 hc9, hown126⟩, hxwl109⟩ (by omega)
        · refine CW.exit ?_
          refine QW.thenExit ?_
          refine QW.thenExit ?_
          refine QW.blockHit ?_
          refine QW.then_ ?_
          refine CW.seq ?_
          have hN : N = M.reverse := swap_end (by omega) hsw
          subst hN
          have hRV := reads_rev (back_shk hok hRL hbd hMl hShk)
          have heV := hRV.err hok
          have htV := hRV.read hok
          refine CW.region ?_
          refine RG.vl rfl rfl rfl (Ev.ldAgg rfl rfl Try.underlying23 rfl sz_23 rfl ((hb6.ext hxwl109).cells)) ?_
          refine RG.vl rfl rfl rfl (Ev.move rfl rfl) ?_
          refine RG.call rfl rfl rfl rfl rfl rfl rfl en_10 (read_is s _ (M.reverse) _ ((hus.rdl Br.c_len)) (by rw [List.length_reverse]; omega) heV htV) ?_
          rintro _ w127 ⟨rfl, hx127⟩
          replace hxwl109 := Ex.tr hxwl109 hx127
          have hE128 := hx127
          refine RG.vl rfl rfl rfl (Ev.move rfl rfl) ?_
          refine RG.vl rfl rfl rfl (Ev.extract rfl rfl rfl) ?_
          refine RG.vl rfl rfl rfl (Ev.extract rfl rfl rfl) ?_
          refine RG.vl rfl rfl rfl (Ev.assign rfl rfl) ?_
          refine RG.vl rfl rfl rfl (Ev.assign rfl rfl) ?_
          refine RG.done ?_
          refine QW.then_ ?_
          refine CW.seq ?_
          refine CW.region ?_
          refine RG.vl rfl rfl rfl (Ev.move rfl rfl) ?_
          refine RG.vl rfl rfl rfl (Ev.isT (Ev.eqI rfl rfl rfl) (rfl)) ?_
          refine RG.vl rfl rfl rfl (Ev.move rfl rfl) ?_
          refine RG.vl rfl rfl rfl (Ev.move rfl rfl) ?_
          refine RG.vl rfl rfl rfl (Ev.move rfl rfl) ?_
          refine RG.vl rfl rfl rfl (Ev.isT (Ev.eqS rfl rfl rfl) (rfl)) ?_
          refine RG.vl rfl rfl rfl (Ev.pickT rfl rfl rfl) ?_
          refine RG.vl rfl rfl rfl (Ev.move rfl rfl) ?_
          refine RG.call rfl rfl rfl rfl rfl rfl rfl en_9 (awake_ret _) ?_
          rintro _ w129 ⟨rfl, hx129⟩
          replace hxwl109 := Ex.tr hxwl109 hx129
          replace hE128 := Ex.tr hE128 hx129
          have hE130 := hx129
          refine RG.vl rfl rfl rfl (Ev.pickT rfl rfl rfl) ?_
          refine RG.vl rfl rfl rfl (Ev.assign rfl rfl) ?_
          refine RG.done ?_
          refine QW.sub (S' := [(10, _)]) ⟨rfl, trivial⟩ ?_
          refine QW.then_ ?_
          refine CW.ret ?_
          refine QW.ret1 rfl rfl ?_
          have hB := (Ex.tr hR62 hxwl109)
          exact ⟨rfl, hB⟩
      · refine CW.skip ?_
        refine QW.then_ ?_
        refine CW.seq ?_
        have hRV := back_shk hok hRL hbd hMl hShk
        have heV := hRV.err hok
        have htV := hRV.read hok
        refine CW.region ?_
        refine RG.vl rfl rfl rfl (Ev.ldAgg rfl rfl Try.underlying23 rfl sz_23 rfl ((hb6.ext hxwl74).cells)) ?_
        refine RG.vl rfl rfl rfl (Ev.move rfl rfl) ?_
        refine RG.call rfl rfl rfl rfl rfl rfl rfl en_10 (read_is s _ M _ ((hus.rdl Br.c_len)) (by omega) heV htV) ?_
        rintro _ w131 ⟨rfl, hx131⟩
        replace hxwl74 := Ex.tr hxwl74 hx131
        have hE132 := hx131
        refine RG.vl rfl rfl rfl (Ev.move rfl rfl) ?_
        refine RG.vl rfl rfl rfl (Ev.extract rfl rfl rfl) ?_
        refine RG.vl rfl rfl rfl (Ev.extract rfl rfl rfl) ?_
        refine RG.vl rfl rfl rfl (Ev.assign rfl rfl) ?_
        refine RG.vl rfl rfl rfl (Ev.assign rfl rfl) ?_
        refine RG.done ?_
        refine QW.then_ ?_
        refine CW.seq ?_
        refine CW.region ?_
        refine RG.vl rfl rfl rfl (Ev.move rfl rfl) ?_
        refine RG.vl rfl rfl rfl (Ev.isT (Ev.eqI rfl rfl rfl) (rfl)) ?_
        refine RG.vl rfl rfl rfl (Ev.move rfl rfl) ?_
        refine RG.vl rfl rfl rfl (Ev.move rfl rfl) ?_
        refine RG.vl rfl rfl rfl (Ev.move rfl rfl) ?_
        refine RG.vl rfl rfl rfl (Ev.isT (Ev.eqS rfl rfl rfl) (rfl)) ?_
        refine RG.vl rfl rfl rfl (Ev.pickT rfl rfl rfl) ?_
        refine RG.vl rfl rfl rfl (Ev.move rfl rfl) ?_
        refine RG.call rfl rfl rfl rfl rfl rfl rfl en_9 (awake_ret _) ?_
        rintro _ w133 ⟨rfl, hx133⟩
        replace hxwl74 := Ex.tr hxwl74 hx133
        replace hE132 := Ex.tr hE132 hx133
        have hE134 := hx133
        refine RG.vl rfl rfl rfl (Ev.pickT rfl rfl rfl) ?_
        refine RG.vl rfl rfl rfl (Ev.assign rfl rfl) ?_
        refine RG.done ?_
        refine QW.sub (S' := [(10, _)]) ⟨rfl, trivial⟩ ?_
        refine QW.then_ ?_
        refine CW.ret ?_
        refine QW.ret1 rfl rfl ?_
        have hB := (Ex.tr hR62 hxwl74)
        exact ⟨rfl, hB⟩

end Go.Proofs.Ytnecppiamecemaa
