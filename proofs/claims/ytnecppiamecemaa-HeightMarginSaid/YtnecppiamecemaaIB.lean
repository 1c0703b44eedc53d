/- Walks (IB). Written by program. -/
import Derived.Test.YtnecppiamecemaaT
import Derived.Test.YtnecppiamecemaaIA
namespace Go.Proofs.Ytnecppiamecemaa
open Go.RowKit
set_option maxRecDepth 100000 in
set_option maxHeartbeats 8000000 in
theorem heightMargin_ret (f : Fm) (u un : Value) (l : List UInt8) (ln : List I8) (w : World) (hf : f.Ok) (hl : RdL w 1 encB u l) (hn : RdL w 1 encS un ln) :
    Ret Try.prog 8 [f.v, u, un] w (fun v w' => v = .bool true ∧ Ex w w') := by
  have hok := setup_okay f hf
  have hsm := setup_small f hf
  have hset := fun w => setup_ret f w hf
  generalize setupOf f = s at hok hsm hset
  obtain ⟨s1, s2, s3, s4, s5⟩ := hsm
  obtain ⟨a1, a2, a3, a4, a5, a6, a7, a8, a9, a10, a11⟩ := id hok
  have hB0 : Ex w w := Ex.rfl_ _
  refine Ret.of Try.func8 rfl Try.ntmps8 rfl ?_
  refine CW.seq ?_
  refine CW.region ?_
  refine RG.box rfl rfl rfl rfl rfl (fun g1 w1 eg1 hx1 hb1 => ?_)
  have hle2 : w.heap.size ≤ g1 := by have := (Ex.rfl_ w).size; omega
  have hE3 := hx1
  refine RG.vl rfl rfl rfl (Ev.assign rfl rfl) ?_
  refine RG.done ?_
  refine QW.then_ ?_
  refine CW.seq ?_
  refine CW.region ?_
  refine RG.vl rfl rfl rfl (Ev.ldAgg rfl rfl Try.underlying51 rfl sz_51 rfl (hb1.cells)) ?_
  refine RG.call rfl rfl rfl rfl rfl rfl rfl en_20 (hset _) ?_
  rintro _ w4 ⟨rfl, hx4⟩
  replace hE3 := Ex.tr hE3 hx4
  have hE5 := hx4
  refine RG.local_ rfl rfl rfl rfl (fun _ => rfl) rfl rfl (fun _ => rfl) inf_23 rfl rfl rfl (fun gS w6 egS hx6 hb6 => ?_)
  have hle7 : w.heap.size ≤ gS := by have := hE3.size; omega
  have hle8 : w1.heap.size ≤ gS := by have := hE5.size; omega
  have hle9 : w4.heap.size ≤ gS := by have := (Ex.rfl_ w4).size; omega
  have hlt10 : g1 < gS := by have := Blk.lt (hb1.ext hE5); omega
  replace hE3 := Ex.tr hE3 hx6
  replace hE5 := Ex.tr hE5 hx6
  refine RG.done ?_
  refine QW.then_ ?_
  refine CW.seq ?_
  refine CW.region ?_
  refine RG.vl rfl rfl rfl (Ev.ldAgg rfl rfl Try.underlying23 rfl sz_23 rfl (hb6.cells)) ?_
  refine RG.vl rfl rfl rfl (Ev.move rfl rfl) ?_
  refine RG.call rfl rfl rfl rfl rfl rfl rfl en_21 (text_any s _ l _ hok ((hl.ext hE3))) ?_
  rintro _ w11 ⟨T, rfl, hT1, hT2, hx11⟩
  replace hE3 := Ex.tr hE3 hx11
  replace hE5 := Ex.tr hE5 hx11
  have hE12 := hx11
  refine RG.vl rfl rfl rfl (Ev.assign rfl rfl) ?_
  refine RG.done ?_
  refine QW.then_ ?_
  refine CW.seq ?_
  refine CW.region ?_
  refine RG.vl rfl rfl rfl (Ev.ldAgg rfl rfl Try.underlying23 rfl sz_23 rfl ((hb6.ext hE12).cells)) ?_
  refine RG.vl rfl rfl rfl (Ev.move rfl rfl) ?_
  replace hl := (hl.ext hE3)
  replace hn := (hn.ext hE3)
  replace hb1 := (hb1.ext hE5)
  replace hb6 := (hb6.ext hE12)
  have hR13 := (Ex.tr hB0 hE3)
  have hR14 := hE5
  have hR15 := hE12
  refine RG.call rfl rfl rfl rfl rfl rfl rfl en_18 (draw_any_own s T _ hok (by omega) hT1 hT2) ?_
  have hpre16 := hR13
  rintro _ w16 ⟨ud, bs, rfl, hbs, hR, hbl, hmk, hx16⟩
  have hE17 := hx16
  refine RG.vl rfl rfl rfl (Ev.move rfl rfl) ?_
  refine RG.vl rfl rfl rfl (Ev.extract rfl rfl rfl) ?_
  refine RG.vl rfl rfl rfl (Ev.extract rfl rfl rfl) ?_
  refine RG.vl rfl rfl rfl (Ev.assign rfl rfl) ?_
  refine RG.vl rfl rfl rfl (Ev.assign rfl rfl) ?_
  refine RG.done ?_
  refine QW.sub (S' := [(2, _), (6, _), (7, _), (8, _), (9, _), (10, _)]) ⟨rfl, rfl, rfl, rfl, rfl, rfl, trivial⟩ ?_
  refine QW.then_ ?_
  refine CW.seq ?_
  refine CW.seq ?_
  refine CW.region ?_
  refine RG.vl rfl rfl rfl (Ev.move rfl rfl) ?_
  refine RG.vl rfl rfl rfl (Ev.isF (Ev.neI rfl rfl rfl) (fun h => h rfl)) ?_
  refine RG.done ?_
  refine QW.then_ ?_
  refine CW.condF rfl ?_
  refine CW.skip ?_
  refine QW.then_ ?_
  refine CW.seq ?_
  refine CW.seq ?_
  refine CW.region ?_
  refine RG.vl rfl rfl rfl (Ev.move rfl rfl) ?_
  refine RG.vl rfl rfl rfl (Ev.lenL rfl rfl rfl Try.underlying24 ((hbs.rdl Br.c_len))) ?_
  refine RG.vl rfl rfl rfl (Ev.move rfl rfl) ?_
  refine RG.done ?_
  refine QW.then_ ?_
  refine CW.block ?_
  refine CW.loop2 [(2, _), (6, _), (7, _), (8, _), (9, _), (36, _)] ⟨rfl, rfl, rfl, rfl, rfl, rfl, trivial⟩ (fun (i : Nat) (L : List Br) => [(37, .int .i64 i)]) (fun i L w' => (i ≤ bs.length ∧ L.length = bs.length ∧ (∀ (j : Nat) (b b' : Br), bs[j]? = some b → L[j]? = some b' → Nz b b') ∧ (∀ j, i ≤ j → L[j]? = bs[j]?) ∧ Own w' w11.heap.size 48 3 Br.c ud L) ∧ Ex w11 w') (fun i L => bs.length - i) (0) (bs) ⟨rfl, trivial⟩ ⟨⟨Nat.zero_le _, rfl, nz_start hR, fun _ _ => rfl, hbs⟩, hE17⟩ ?_
  rintro i L wl18 ⟨⟨hi, hLl, hLen, hLt, hbs⟩, hxwl18⟩
  refine CW.sub (S' := [(37, _), (2, _), (6, _), (7, _), (8, _), (9, _), (36, _)]) ⟨rfl, rfl, rfl, rfl, rfl, rfl, rfl, trivial⟩ ?_
  refine CW.seq ?_
  refine CW.region ?_
  refine RG.vl rfl rfl rfl (Ev.lss rfl rfl rfl) ?_
  refine RG.done ?_
  refine QW.then_ ?_
  refine CW.seq ?_
  refine CW.condP rfl (fun hc19 => ?_) (fun hc19 => ?_)
  · refine CW.skip ?_
    refine QW.then_ ?_
    refine CW.seq ?_
    refine CW.block ?_
    refine CW.seq ?_
    refine CW.region ?_
    refine RG.vl rfl rfl rfl (Ev.move rfl rfl) ?_
    refine RG.vl rfl rfl rfl (Ev.assign rfl rfl) ?_
    refine RG.done ?_
    refine QW.then_ ?_
    refine CW.seq ?_
    refine CW.region ?_
    refine RG.vl rfl rfl rfl (Ev.move rfl rfl) ?_
    refine RG.vl rfl rfl rfl (Ev.lenL rfl rfl rfl Try.underlying53 ((hn.ext hxwl18))) ?_
    refine RG.vl rfl rfl rfl (Ev.gtr rfl rfl rfl) ?_
    refine RG.done ?_
    refine QW.then_ ?_
    refine CW.condP rfl (fun hc20 => ?_) (fun hc20 => ?_)
    · obtain ⟨b, hb⟩ : ∃ b, bs[i]? = some b := ⟨_, List.getElem?_eq_getElem (by omega)⟩
      have hLb : L[i]? = some b := by rw [hLt i (Nat.le_refl _), hb]
      have hib := hR.inb b (List.mem_of_getElem? hb)
      unfold InB at hib
      obtain ⟨kk, hkk⟩ : ∃ kk : Nat, (i : Int) % (ln.length : Int) = (kk : Int) := ⟨((i : Int) % (ln.length : Int)).toNat, by have := Int.emod_nonneg (i : Int) (show (ln.length : Int) ≠ 0 by omega); omega⟩
      have hkl := Int.emod_lt_of_pos (i : Int) (show (0 : Int) < (ln.length : Int) by omega)
      obtain ⟨x, hx⟩ : ∃ x, ln[kk]? = some x := ⟨_, List.getElem?_eq_getElem (by omega)⟩
      obtain ⟨x1, x2⟩ := bounds_i8 x.2
      refine CW.draw [19] (.ex) 20 rfl mixed (fun wd21 hxwd21 => ?_)
      replace hxwl18 := Ex.tr hxwl18 hxwd21
      have hE22 := hxwd21
      refine AG.takeW 0 rfl (by kernel_rfl) (by kernel_rfl) rfl rfl rfl (fun _ => Ev.move rfl rfl) ?_
      refine AG.takeW 1 rfl (by kernel_rfl) (by kernel_rfl) rfl rfl rfl (fun _ => Ev.move rfl rfl) ?_
      refine AG.takeW 2 rfl (by kernel_rfl) (by kernel_rfl) rfl rfl rfl (fun _ => Ev.move rfl rfl) ?_
      refine AG.takeW 3 rfl (by kernel_rfl) (by kernel_rfl) rfl rfl rfl (fun _ => Ev.move rfl rfl) ?_
      refine AG.idxO _ 4 rfl (by kernel_rfl) (by kernel_rfl) rfl rfl rfl rfl rfl rfl Try.underlying24 sz_48 Br.c_len ((Own.ext hbs hE22)) (hLb) (fun g24 hg24 hBg24 hp23b hp23 => ?_)
      refine AG.takeW 5 rfl (by kernel_rfl) (by kernel_rfl) rfl rfl rfl (fun _ => Ev.fld rfl rfl fld_48_1) ?_
      refine AG.take 6 rfl (by kernel_rfl) (by kernel_rfl) rfl rfl rfl (fun wq hq => Ev.ldAt rfl rfl Try.underlying3 rfl (hp23.ext hq hp23b) (rfl)) ?_
      refine AG.takeW 7 rfl (by kernel_rfl) (by kernel_rfl) rfl rfl rfl (fun _ => Ev.move rfl rfl) ?_
      refine AG.takeW 8 rfl (by kernel_rfl) (by kernel_rfl) rfl rfl rfl (fun _ => Ev.move rfl rfl) ?_
      refine AG.takeW 9 rfl (by kernel_rfl) (by kernel_rfl) rfl rfl rfl (fun _ => Ev.move rfl rfl) ?_
      refine AG.takeW 10 rfl (by kernel_rfl) (by kernel_rfl) rfl rfl rfl (fun _ => Ev.lenL rfl rfl rfl Try.underlying53 ((hn.ext hxwl18))) ?_
      refine AG.takeW 11 rfl (by kernel_rfl) (by kernel_rfl) rfl rfl rfl (fun _ => (Ev.remI rfl rfl rfl (by omega)).conv (congrArg (Value.int .i64) hkk)) ?_
      refine AG.idxL _ 12 rfl (by kernel_rfl) (by kernel_rfl) rfl rfl rfl rfl rfl rfl Try.underlying53 sz_56 ((hn.ext hxwl18)) (hx) (fun p25 hp25b hp25 => ?_)
      refine AG.take 13 rfl (by kernel_rfl) (by kernel_rfl) rfl rfl rfl (fun wq hq => Ev.ld0 rfl rfl Try.underlying56 rfl (hp25.ext hq hp25b) (rfl)) ?_
      refine AG.takeW 14 rfl (by kernel_rfl) (by kernel_rfl) rfl rfl rfl (fun _ => Ev.to64 rfl rfl Try.underlying56 Try.underlying3 (by omega)) ?_
      refine AG.takeW 15 rfl (by kernel_rfl) (by kernel_rfl) rfl rfl rfl (fun _ => Ev.addI rfl rfl rfl (by omega)) ?_
      refine AG.takeW 16 rfl (by kernel_rfl) (by kernel_rfl) rfl rfl rfl (fun _ => Ev.max2 rfl rfl rfl rfl) ?_
      refine AG.idxO _ 17 rfl (by kernel_rfl) (by kernel_rfl) rfl rfl rfl rfl rfl rfl Try.underlying24 sz_48 Br.c_len ((Own.ext hbs hE22)) (hLb) (fun g27 hg27 hBg27 hp26b hp26 => ?_)
      refine AG.takeW 18 rfl (by kernel_rfl) (by kernel_rfl) rfl rfl rfl (fun _ => Ev.fld rfl rfl fld_48_1) ?_
      refine AG.only 19 rfl (by kernel_rfl) ?_
      refine RG.stOw (g := g27) (⟨b.po, max (b.up + x.1) 0, b.dn⟩) rfl rfl rfl rfl rfl sz_3 rfl (fun _ => rfl) (Own.ext hbs hE22) hg27 (hLb) rfl (rfl) (fun ws29 hwws29 hown30 => ?_)
      replace hxwl18 := Wr.below hxwl18 hwws29 hBg27
      refine RG.done ?_
      refine QW.an (fun h => by simp at h) ?_
      refine AG.done (by kernel_rfl) ?_
      refine QW.sub (S' := [(2, _), (6, _), (7, _), (8, _), (9, _), (36, _), (37, _)]) ⟨rfl, rfl, rfl, rfl, rfl, rfl, rfl, trivial⟩ ?_
      refine QW.blockN ?_
      refine QW.then_ ?_
      refine CW.region ?_
      refine RG.vl rfl rfl rfl (Ev.addI rfl rfl rfl (by omega)) ?_
      refine RG.vl rfl rfl rfl (Ev.move rfl rfl) ?_
      refine RG.done ?_
      refine QW.round2 (i + 1) (L.set i ⟨b.po, max (b.up + x.1) 0, b.dn⟩) ⟨rfl, trivial⟩ ⟨rfl, rfl, rfl, rfl, rfl, rfl, trivial⟩ ⟨⟨by omega, by rw [List.length_set]; exact hLl, rel_step hLen hb (nz_step (by omega) (by omega)), tail_step hLt, hown30⟩, hxwl18⟩ (by omega)
    · refine CW.skip ?_
      refine QW.blockN ?_
      refine QW.then_ ?_
      refine CW.region ?_
      refine RG.vl rfl rfl rfl (Ev.addI rfl rfl rfl (by omega)) ?_
      refine RG.vl rfl rfl rfl (Ev.move rfl rfl) ?_
      refine RG.done ?_
      refine QW.round2 (i + 1) (L) ⟨rfl, trivial⟩ ⟨rfl, rfl, rfl, rfl, rfl, rfl, trivial⟩ ⟨⟨by omega, hLl, hLen, fun j hj => hLt j (by omega), hbs⟩, hxwl18⟩ (by omega)
  · refine CW.exit ?_
    refine QW.thenExit ?_
    refine QW.thenExit ?_
    refine QW.blockHit ?_
    refine QW.then_ ?_
    refine CW.seq ?_
    obtain ⟨heL, hmg0, hbd, hmid⟩ := nz_all hok (by omega) (by omega) (by omega) (by omega) hR hT1 hmk hLl hLen
    have hmgt := margin_top s L
    refine CW.region ?_
    refine RG.vl rfl rfl rfl (Ev.ldAgg rfl rfl Try.underlying23 rfl sz_23 rfl ((hb6.ext hxwl18).cells)) ?_
    refine RG.vl rfl rfl rfl (Ev.move rfl rfl) ?_
    refine RG.call rfl rfl rfl rfl rfl rfl rfl en_10 (read_is s _ L _ ((hbs.rdl Br.c_len)) (by omega) heL rfl) ?_
    rintro _ w31 ⟨rfl, hx31⟩
    replace hxwl18 := Ex.tr hxwl18 hx31
    have hE32 := hx31
    refine RG.vl rfl rfl rfl (Ev.move rfl rfl) ?_
    refine RG.vl rfl rfl rfl (Ev.extract rfl rfl rfl) ?_
    refine RG.vl rfl rfl rfl (Ev.extract rfl rfl rfl) ?_
    refine RG.vl rfl rfl rfl (Ev.assign rfl rfl) ?_
    refine RG.vl rfl rfl rfl (Ev.assign rfl rfl) ?_
    refine RG.done ?_
    refine QW.then_ ?_
    refine CW.seq ?_
    refine CW.region ?_
    refine RG.vl rfl rfl rfl (Ev.ldAgg rfl rfl Try.underlying23 rfl sz_23 rfl ((hb6.ext hxwl18).cells)) ?_
    refine RG.vl rfl rfl rfl (Ev.move rfl rfl) ?_
    refine RG.call rfl rfl rfl rfl rfl rfl rfl en_11 (margin_is s _ L _ (((Own.ext hbs hE32).rdl Br.c_len)) (by omega) heL) ?_
    rintro _ w33 ⟨rfl, hx33⟩
    replace hxwl18 := Ex.tr hxwl18 hx33
    replace hE32 := Ex.tr hE32 hx33
    have hE34 := hx33
    refine RG.vl rfl rfl rfl (Ev.move rfl rfl) ?_
    refine RG.vl rfl rfl rfl (Ev.extract rfl rfl rfl) ?_
    refine RG.vl rfl rfl rfl (Ev.extract rfl rfl rfl) ?_
    refine RG.vl rfl rfl rfl (Ev.assign rfl rfl) ?_
    refine RG.vl rfl rfl rfl (Ev.assign rfl rfl) ?_
    refine RG.done ?_
    refine QW.sub (S' := [(6, _), (7, _), (8, _), (9, _), (12, _), (13, _), (14, _)]) ⟨rfl, rfl, rfl, rfl, rfl, rfl, rfl, trivial⟩ ?_
    refine QW.then_ ?_
    refine CW.seq ?_
    refine CW.seq ?_
    refine CW.region ?_
    refine RG.vl rfl rfl rfl (Ev.move rfl rfl) ?_
    refine RG.vl rfl rfl rfl (Ev.isF (Ev.neI rfl rfl rfl) (fun h => h rfl)) ?_
    refine RG.vl rfl rfl rfl (Ev.move rfl rfl) ?_
    refine RG.vl rfl rfl rfl (Ev.move rfl rfl) ?_
    refine RG.vl rfl rfl rfl (Ev.isF (Ev.neI rfl rfl rfl) (fun h => h rfl)) ?_
    refine RG.vl rfl rfl rfl (Ev.pickF rfl rfl rfl) ?_
    refine RG.done ?_
    refine QW.then_ ?_
    refine CW.condF rfl ?_
    refine CW.skip ?_
    refine QW.then_ ?_
    refine CW.seq ?_
    refine CW.seq ?_
    refine CW.region ?_
    refine RG.vl rfl rfl rfl (Ev.move rfl rfl) ?_
    refine RG.vl rfl rfl rfl (Ev.lenL rfl rfl rfl Try.underlying24 (((Own.ext hbs hE32).rdl Br.c_len))) ?_
    refine RG.vl rfl rfl rfl (Ev.eqI rfl rfl rfl) ?_
    refine RG.done ?_
    refine QW.then_ ?_
    refine CW.condP rfl (fun hc35 => ?_) (fun hc35 => ?_)
    · refine CW.seq ?_
      have hm0 : marginOf s L = 1048576 := by rw [List.eq_nil_of_length_eq_zero (show L.length = 0 by omega)]; rfl
      refine CW.region ?_
      refine RG.vl rfl rfl rfl (Ev.move rfl rfl) ?_
      refine RG.vl rfl rfl rfl (Ev.isT (Ev.eqI rfl rfl rfl) (hm0)) ?_
      refine RG.vl rfl rfl rfl (Ev.move rfl rfl) ?_
      refine RG.call rfl rfl rfl rfl rfl rfl rfl en_9 (awake_ret _) ?_
      rintro _ w36 ⟨rfl, hx36⟩
      replace hxwl18 := Ex.tr hxwl18 hx36
      replace hE32 := Ex.tr hE32 hx36
      replace hE34 := Ex.tr hE34 hx36
      have hE37 := hx36
      refine RG.vl rfl rfl rfl (Ev.pickT rfl rfl rfl) ?_
      refine RG.vl rfl rfl rfl (Ev.assign rfl rfl) ?_
      refine RG.done ?_
      refine QW.sub (S' := [(6, _), (7, _), (8, _), (9, _), (13, _)]) ⟨rfl, rfl, rfl, rfl, rfl, trivial⟩ ?_
      refine QW.then_ ?_
      refine CW.ret ?_
      refine QW.thenRet ?_
      refine QW.ret1 rfl rfl ?_
      have hB := (Ex.tr hR13 hxwl18)
      exact ⟨rfl, hB⟩
    · refine CW.skip ?_
      refine QW.then_ ?_
      refine CW.seq ?_
      refine CW.seq ?_
      have hrl : (readOf s L).length ≤ 70 := by rw [readOf_text heL, textOf_len]; omega
      have hrs := size_bytes (readOf s L)
      have hrc : (readOf s L).count 63 ≤ (readOf s L).length := List.count_le_length
      refine CW.region ?_
      refine RG.vl rfl rfl rfl (Ev.move rfl rfl) ?_
      refine RG.vl rfl rfl rfl (Ev.lenStr rfl rfl rfl Try.underlying9) ?_
      refine RG.vl rfl rfl rfl (Ev.move rfl rfl) ?_
      refine RG.call rfl rfl rfl rfl rfl rfl rfl en_23 (count_ret (readOf s L) _) ?_
      rintro _ w38 ⟨rfl, hx38⟩
      replace hxwl18 := Ex.tr hxwl18 hx38
      replace hE32 := Ex.tr hE32 hx38
      replace hE34 := Ex.tr hE34 hx38
      have hE39 := hx38
      refine RG.vl rfl rfl rfl (Ev.subI rfl rfl rfl (by omega)) ?_
      refine RG.vl rfl rfl rfl (Ev.assign rfl rfl) ?_
      refine RG.done ?_
      refine QW.sub (S' := [(6, _), (7, _), (8, _), (9, _), (13, _), (15, _)]) ⟨rfl, rfl, rfl, rfl, rfl, rfl, trivial⟩ ?_
      refine QW.then_ ?_
      refine CW.seq ?_
      refine CW.region ?_
      refine RG.vl rfl rfl rfl (Ev.move rfl rfl) ?_
      refine RG.vl rfl rfl rfl (Ev.move rfl rfl) ?_
      refine RG.vl rfl rfl rfl (Ev.lenL rfl rfl rfl Try.underlying24 (((Own.ext hbs hE32).rdl Br.c_len))) ?_
      refine RG.vl rfl rfl rfl (Ev.neI rfl rfl rfl) ?_
      refine RG.done ?_
      refine QW.then_ ?_
      refine CW.condP rfl (fun hc40 => ?_) (fun hc40 => ?_)
      · refine CW.seq ?_
        refine CW.region ?_
        refine RG.call rfl rfl rfl rfl rfl rfl rfl en_9 (awake_ret _) ?_
        rintro _ w41 ⟨rfl, hx41⟩
        replace hxwl18 := Ex.tr hxwl18 hx41
        replace hE32 := Ex.tr hE32 hx41
        replace hE34 := Ex.tr hE34 hx41
        replace hE39 := Ex.tr hE39 hx41
        have hE42 := hx41
        refine RG.vl rfl rfl rfl (Ev.assign rfl rfl) ?_
        refine RG.done ?_
        refine QW.then_ ?_
        refine CW.ret ?_
        refine QW.thenRet ?_
        refine QW.ret1 rfl rfl ?_
        have hB := (Ex.tr hR13 hxwl18)
        exact ⟨rfl, hB⟩
      · refine CW.skip ?_
        refine QW.then_ ?_
        refine CW.seq ?_
        refine CW.seq ?_
        have h63 := count_all heL (by omega)
        refine CW.region ?_
        refine RG.vl rfl rfl rfl (Ev.move rfl rfl) ?_
        refine RG.vl rfl rfl rfl (Ev.lenL rfl rfl rfl Try.underlying24 (((Own.ext hbs hE32).rdl Br.c_len))) ?_
        refine RG.vl rfl rfl rfl (Ev.move rfl rfl) ?_
        refine RG.done ?_
        refine QW.then_ ?_
        refine CW.block ?_
        replace hl := (hl.ext hxwl18)
        replace hn := (hn.ext hxwl18)
        replace hb1 := (hb1.ext hxwl18)
        replace hb6 := (hb6.ext hxwl18)
        replace hbs := (Own.ext hbs hE32)
        have hR43 := (Ex.tr hR13 hxwl18)
        have hR44 := (Ex.tr hR14 hxwl18)
        have hR45 := (Ex.tr hR15 hxwl18)
        have hR46 := hxwl18
        have hR47 := hE32
        have hR48 := hE34
        have hR49 := hE39
        refine CW.loop1 [(7, _), (8, _), (9, _), (13, _), (100, _)] ⟨rfl, rfl, rfl, rfl, rfl, trivial⟩ (fun (i : Nat) => [(101, .int .i64 i)]) (fun i w' => (i ≤ L.length ∧ ∀ j, j < i → ∀ b, L[j]? = some b → ∀ k, k < 6 → Dul s L j b k) ∧ Ex w38 w') (fun i => L.length - i) (0) ⟨rfl, trivial⟩ ⟨⟨Nat.zero_le _, fun j h => absurd h (by omega)⟩, (Ex.rfl_ _)⟩ ?_
        rintro i wl50 ⟨⟨hi, hdl⟩, hxwl50⟩
        refine CW.sub (S' := [(101, _), (7, _), (8, _), (9, _), (13, _), (100, _)]) ⟨rfl, rfl, rfl, rfl, rfl, rfl, trivial⟩ ?_
        refine CW.seq ?_
        refine CW.region ?_
        refine RG.vl rfl rfl rfl (Ev.lss rfl rfl rfl) ?_
        refine RG.done ?_
        refine QW.then_ ?_
        refine CW.seq ?_
        refine CW.condP rfl (fun hc51 => ?_) (fun hc51 => ?_)
        · refine CW.skip ?_
          refine QW.then_ ?_
          refine CW.seq ?_
          refine CW.block ?_
          refine CW.seq ?_
          obtain ⟨b, hb⟩ : ∃ b, L[i]? = some b := ⟨_, List.getElem?_eq_getElem (by omega)⟩
          obtain ⟨⟨bb1, bb2⟩, ⟨bb3, bb4⟩, bb5, bb6⟩ := hbd b (List.mem_of_getElem? hb)
          refine CW.region ?_
          refine RG.vl rfl rfl rfl (Ev.move rfl rfl) ?_
          refine RG.vl rfl rfl rfl (Ev.assign rfl rfl) ?_
          refine RG.done ?_
          refine QW.then_ ?_
          refine CW.seq ?_
          refine CW.region ?_
          refine RG.vl rfl rfl rfl (Ev.move rfl rfl) ?_
          refine RG.done ?_
          refine QW.then_ ?_
          refine CW.block ?_
          replace hl := (hl.ext hxwl50)
          replace hn := (hn.ext hxwl50)
          replace hb1 := (hb1.ext hxwl50)
          replace hb6 := (hb6.ext hxwl50)
          replace hbs := (Own.ext hbs hxwl50)
          have hR52 := (Ex.tr hR43 hxwl50)
          have hR53 := (Ex.tr hR44 hxwl50)
          have hR54 := (Ex.tr hR45 hxwl50)
          have hR55 := (Ex.tr hR46 hxwl50)
          have hR56 := (Ex.tr hR47 hxwl50)
          have hR57 := (Ex.tr hR48 hxwl50)
          have hR58 := (Ex.tr hR49 hxwl50)
          have hR59 := hxwl50
          refine CW.loop1 [(7, _), (8, _), (9, _), (13, _), (16, _), (100, _), (101, _)] ⟨rfl, rfl, rfl, rfl, rfl, rfl, rfl, trivial⟩ (fun (k : Nat) => [(104, .int .i64 k)]) (fun k w' => (k ≤ 6 ∧ ∀ j, j < k → Dul s L i b j) ∧ Ex wl50 w') (fun k => 6 - k) (0) ⟨rfl, trivial⟩ ⟨⟨by omega, fun j h => absurd h (by omega)⟩, (Ex.rfl_ _)⟩ ?_
          rintro k wl60 ⟨⟨hk6, hdk⟩, hxwl60⟩
          refine CW.sub (S' := [(104, _), (7, _), (8, _), (9, _), (13, _), (16, _), (100, _), (101, _)]) ⟨rfl, rfl, rfl, rfl, rfl, rfl, rfl, rfl, trivial⟩ ?_
          refine CW.seq ?_
          refine CW.region ?_
          refine RG.vl rfl rfl rfl (Ev.lss rfl rfl rfl) ?_
          refine RG.done ?_
          refine QW.then_ ?_
          refine CW.seq ?_
          refine CW.condP rfl (fun hc61 => ?_) (fun hc61 => ?_)
          · refine CW.skip ?_
            refine QW.then_ ?_
            refine CW.seq ?_
            refine CW.block ?_
            refine CW.seq ?_
            refine CW.region ?_
            refine RG.vl rfl rfl rfl (Ev.move rfl rfl) ?_
            refine RG.vl rfl rfl rfl (Ev.assign rfl rfl) ?_
            refine RG.done ?_
            refine QW.then_ ?_
            refine CW.seq ?_
            have hnil : ([] : List Br).length = 0 := rfl
            refine CW.region ?_
            replace hl := (hl.ext hxwl60)
            replace hn := (hn.ext hxwl60)
            replace hb1 := (hb1.ext hxwl60)
            replace hb6 := (hb6.ext hxwl60)
            replace hbs := (Own.ext hbs hxwl60)
            have hR65 := (Ex.tr hR52 hxwl60)
            have hR66 := (Ex.tr hR53 hxwl60)
            have hR67 := (Ex.tr hR54 hxwl60)
            have hR68 := (Ex.tr hR55 hxwl60)
            have hR69 := (Ex.tr hR56 hxwl60)
            have hR70 := (Ex.tr hR57 hxwl60)
            have hR71 := (Ex.tr hR58 hxwl60)
            have hR72 := (Ex.tr hR59 hxwl60)
            have hR73 := hxwl60
            refine RG.build0O (enc := Br.c) rfl rfl rfl rfl rfl Try.underlying24 sz_48 (fun ue wk62 hxwk62 hown63 hnew64 => ?_)
            have hsep74 : Sep ue _ := Sep.of_new hbs hnew64
            have hE75 := hxwk62
            refine RG.vl rfl rfl rfl (Ev.move rfl rfl) ?_
            refine RG.appO rfl rfl rfl rfl rfl rfl rfl Try.underlying24 inf_48 rfl rfl Br.c_len (fun _ => rfl) hown63 (((Own.ext hbs hE75).rdl Br.c_len)) (by simp only [maxLen]; omega) (by omega) (hE75.size) (fun us wa76 hown77 hgr78 hat79 => ?_)
            replace hE75 := own_block hown63 hE75 hgr78 (Nat.le_refl _) hE75.size
            have hus := hown77
            rw [List.nil_append] at hus
            refine RG.vl rfl rfl rfl (Ev.assign rfl rfl) ?_
            refine RG.done ?_
            refine QW.then_ ?_
            refine CW.seq ?_
            rcases (show k = 0 ∨ k = 1 ∨ k = 2 ∨ k = 3 ∨ k = 4 ∨ k = 5 by omega) with rfl | rfl | rfl | rfl | rfl | rfl
            · refine CW.draw [] (.ex) 18 rfl mixed (fun wd80 hxwd80 => ?_)
              replace hE75 := Ex.tr hE75 hxwd80
              have hE81 := hxwd80
              refine AG.takeW 0 rfl (by kernel_rfl) (by kernel_rfl) rfl rfl rfl (fun _ => Ev.move rfl rfl) ?_
              refine AG.takeW 1 rfl (by kernel_rfl) (by kernel_rfl) rfl rfl rfl (fun _ => Ev.move rfl rfl) ?_
              refine AG.idxO _ 2 rfl (by kernel_rfl) (by kernel_rfl) rfl rfl rfl rfl rfl rfl Try.underlying24 sz_48 Br.c_len ((Own.ext hus hE81)) (hb) (fun g83 hg83 hBg83 hp82b hp82 => ?_)
              refine AG.takeW 3 rfl (by kernel_rfl) (by kernel_rfl) rfl rfl rfl (fun _ => Ev.fld rfl rfl fld_48_0) ?_
              refine AG.takeW 4 rfl (by kernel_rfl) (by kernel_rfl) rfl rfl rfl (fun _ => Ev.move rfl rfl) ?_
              refine AG.takeW 5 rfl (by kernel_rfl) (by kernel_rfl) rfl rfl rfl (fun _ => Ev.move rfl rfl) ?_
              refine AG.idxO _ 6 rfl (by kernel_rfl) (by kernel_rfl) rfl rfl rfl rfl rfl rfl Try.underlying24 sz_48 Br.c_len ((Own.ext hus hE81)) (hb) (fun g85 hg85 hBg85 hp84b hp84 => ?_)
              refine AG.takeW 7 rfl (by kernel_rfl) (by kernel_rfl) rfl rfl rfl (fun _ => Ev.fld rfl rfl fld_48_1) ?_
              refine AG.takeW 8 rfl (by kernel_rfl) (by kernel_rfl) rfl rfl rfl (fun _ => Ev.move rfl rfl) ?_
              refine AG.takeW 9 rfl (by kernel_rfl) (by kernel_rfl) rfl rfl rfl (fun _ => Ev.move rfl rfl) ?_
              refine AG.idxO _ 10 rfl (by kernel_rfl) (by kernel_rfl) rfl rfl rfl rfl rfl rfl Try.underlying24 sz_48 Br.c_len ((Own.ext hus hE81)) (hb) (fun g87 hg87 hBg87 hp86b hp86 => ?_)
              refine AG.takeW 11 rfl (by kernel_rfl) (by kernel_rfl) rfl rfl rfl (fun _ => Ev.fld rfl rfl fld_48_2) ?_
              refine AG.takeW 13 rfl (by kernel_rfl) (by kernel_rfl) rfl rfl rfl (fun _ => Ev.move rfl rfl) ?_
              refine AG.takeW 14 rfl (by kernel_rfl) (by kernel_rfl) rfl rfl rfl (fun _ => (Ev.quoI rfl rfl rfl (by omega)).conv (congrArg (Value.int .i64) (show ((0 : Nat) : Int) / 2 = ((0 : Nat) : Int) from by decide))) ?_
              refine AG.only 12 rfl (by kernel_rfl) ?_
              refine RG.buildD (xs := [.tmp 113, .tmp 117, .tmp 121]) rfl rfl rfl rfl rfl rfl rfl Try.underlying59 inf_58 rfl rfl rfl rfl (fun gQ w89 egQ hx89 hb89 => ?_)
              have hsb90 := fun e => sep_new (g := gQ) (Own.ext hbs hE75) egQ e
              have hsb91 := fun e => sep_new (g := gQ) (Own.ext hown77 hE81) egQ e
              have hsb92 := fun e => sep_new (g := gQ) (Own.ext hus hE81) egQ e
              have hle93 : wl60.heap.size ≤ gQ := by have := hE75.size; omega
              have hle94 : wa76.heap.size ≤ gQ := by have := hE81.size; omega
              have hle95 : wd80.heap.size ≤ gQ := by have := (Ex.rfl_ wd80).size; omega
              have hlt96 : g1 < gQ := by have := Blk.lt (hb1.ext hE75); omega
              have hlt97 : gS < gQ := by have := Blk.lt (hb6.ext hE75); omega
              replace hE75 := Ex.tr hE75 hx89
              replace hE81 := Ex.tr hE81 hx89
              have hE98 := hx89
              refine RG.done ?_
              refine QW.an (fun _ => hE98) ?_
              refine AG.takeW 15 rfl (by kernel_rfl) (by kernel_rfl) rfl rfl rfl (fun _ => Ev.idxN rfl rfl rfl Try.underlying59 sz_58 (by omega)) ?_
              refine AG.take 16 rfl (by kernel_rfl) (by kernel_rfl) rfl rfl rfl (fun wq hq => Ev.ldAt rfl rfl Try.underlying58 rfl ((hb89.ext hq).cells) (rfl)) ?_
              have hpc := Own.cells (Own.ext hus hE81) Br.c_len hg83 hb
              have hpcb : (((⟨g83, 0, none⟩ : Addr).add (i * 3)).block < w89.heap.size) := by rw [block_of_add]; exact Own.lt (Own.ext hus hE81) hg83
              refine AG.takeW 17 rfl (by kernel_rfl) (by kernel_rfl) rfl rfl rfl (fun _ => Ev.assign rfl rfl) ?_
              refine AG.done (by kernel_rfl) ?_
              refine QW.sub (S' := [(7, _), (8, _), (9, _), (13, _), (16, _), (17, _), (18, _), (19, _), (100, _), (101, _), (104, _)]) ⟨rfl, rfl, rfl, rfl, rfl, rfl, rfl, rfl, rfl, rfl, rfl, trivial⟩ ?_
              refine QW.then_ ?_
              refine CW.seq ?_
              refine CW.draw [15] (.ex) 16 rfl mixed (fun wd99 hxwd99 => ?_)
              replace hE75 := Ex.tr hE75 hxwd99
              replace hE81 := Ex.tr hE81 hxwd99
              replace hE98 := Ex.tr hE98 hxwd99
              have hE100 := hxwd99
              refine AG.takeW 0 rfl (by kernel_rfl) (by kernel_rfl) rfl rfl rfl (fun _ => Ev.move rfl rfl) ?_
              refine AG.takeW 1 rfl (by kernel_rfl) (by kernel_rfl) rfl rfl rfl (fun _ => Ev.nilC rfl rfl) ?_
              refine AG.take 2 rfl (by kernel_rfl) (by kernel_rfl) rfl rfl rfl (fun wq hq => Ev.ldAt rfl rfl Try.underlying3 rfl ((hpc.ext hE100 hpcb).ext hq (Nat.lt_of_lt_of_le hpcb hE100.size)) (rfl)) ?_
              refine AG.takeW 3 rfl (by kernel_rfl) (by kernel_rfl) rfl rfl rfl (fun _ => Ev.move rfl rfl) ?_
              refine AG.takeW 4 rfl (by kernel_rfl) (by kernel_rfl) rfl rfl rfl (fun _ => Ev.addI rfl rfl rfl (by omega)) ?_
              refine AG.takeW 5 rfl (by kernel_rfl) (by kernel_rfl) rfl rfl rfl (fun _ => Ev.move rfl rfl) ?_
              refine AG.takeW 6 rfl (by kernel_rfl) (by kernel_rfl) rfl rfl rfl (fun _ => Ev.negI rfl rfl (by omega)) ?_
              refine AG.takeW 7 rfl (by kernel_rfl) (by kernel_rfl) rfl rfl rfl (fun _ => Ev.subI rfl rfl rfl (by omega)) ?_
              refine AG.takeW 9 rfl (by kernel_rfl) (by kernel_rfl) rfl rfl rfl (fun _ => Ev.move rfl rfl) ?_
              refine AG.takeW 10 rfl (by kernel_rfl) (by kernel_rfl) rfl rfl rfl (fun _ => (Ev.remI rfl rfl rfl (by omega)).conv (congrArg (Value.int .i64) (show ((0 : Nat) : Int) % 2 = ((0 : Nat) : Int) from by decide))) ?_
              refine AG.only 8 rfl (by kernel_rfl) ?_
              refine RG.buildD (xs := [.tmp 131, .tmp 134]) rfl rfl rfl rfl rfl rfl rfl Try.underlying64 inf_3 rfl rfl rfl rfl (fun gR w102 egR hx102 hb102 => ?_)
              have hsb103 := fun e => sep_new (g := gR) (Own.ext hbs hE75) egR e
              have hsb104 := fun e => sep_new (g := gR) (Own.ext hown77 hE81) egR e
              have hsb105 := fun e => sep_new (g := gR) (Own.ext hus hE81) egR e
              have hle106 : wl60.heap.size ≤ gR := by have := hE75.size; omega
              have hle107 : wa76.heap.size ≤ gR := by have := hE81.size; omega
              have hle108 : wd80.heap.size ≤ gR := by have := hE98.size; omega
              have hle109 : w89.heap.size ≤ gR := by have := hE100.size; omega
              have hle110 : wd99.heap.size ≤ gR := by have := (Ex.rfl_ wd99).size; omega
              have hlt111 : g1 < gR := by have := Blk.lt (hb1.ext hE75); omega
              have hlt112 : gS < gR := by have := Blk.lt (hb6.ext hE75); omega
              have hlt113 : gQ < gR := by have := Blk.lt (hb89.ext hE100); omega
              replace hE75 := Ex.tr hE75 hx102
              replace hE81 := Ex.tr hE81 hx102
              replace hE98 := Ex.tr hE98 hx102
              replace hE100 := Ex.tr hE100 hx102
              have hE114 := hx102
              refine RG.done ?_
              refine QW.an (fun _ => hE114) ?_
              refine AG.takeW 11 rfl (by kernel_rfl) (by kernel_rfl) rfl rfl rfl (fun _ => Ev.idxN rfl rfl rfl Try.underlying64 sz_3 (by omega)) ?_
              refine AG.take 12 rfl (by kernel_rfl) (by kernel_rfl) rfl rfl rfl (fun wq hq => Ev.ldAt rfl rfl Try.underlying3 rfl ((hb102.ext hq).cells) (rfl)) ?_
              refine AG.takeW 13 rfl (by kernel_rfl) (by kernel_rfl) rfl rfl rfl (fun _ => Ev.addI rfl rfl rfl (by omega)) ?_
              refine AG.takeW 14 rfl (by kernel_rfl) (by kernel_rfl) rfl rfl rfl (fun _ => Ev.nilC rfl rfl) ?_
              refine AG.only 15 rfl (by kernel_rfl) ?_
              refine RG.stOw (g := g83) ((⟨b.po + (marginOf s L + 1), b.up, b.dn⟩ : Br)) rfl rfl rfl rfl rfl sz_3 rfl (fun _ => rfl) (Own.ext hus hE81) hg83 (hb) rfl (rfl) (fun ws116 hwws116 hown117 => ?_)
              replace hb89 := Blk.far (hb89.ext hE100) hwws116 (fun e => hsb92 (by rw [e]; exact hg83))
              replace hb102 := Blk.far hb102 hwws116 (fun e => hsb105 (by rw [e]; exact hg83))
              replace hE75 := Wr.below hE75 hwws116 hBg83
              have hpc := Own.cells hown117 Br.c_len hg83 (show (L.set i (⟨b.po + (marginOf s L + 1), b.up, b.dn⟩ : Br))[i]? = some (⟨b.po + (marginOf s L + 1), b.up, b.dn⟩ : Br) from by rw [List.getElem?_set_self (by omega)])
              have hpcb : (((⟨g83, 0, none⟩ : Addr).add (i * 3)).block < ws116.heap.size) := by rw [block_of_add]; exact Own.lt hown117 hg83
              refine RG.done ?_
              refine QW.an (fun h => by simp at h) ?_
              refine AG.done (by kernel_rfl) ?_
              refine QW.sub (S' := [(7, _), (8, _), (9, _), (13, _), (16, _), (18, _), (19, _), (100, _), (101, _), (104, _)]) ⟨rfl, rfl, rfl, rfl, rfl, rfl, rfl, rfl, rfl, rfl, trivial⟩ ?_
              refine QW.then_ ?_
              refine CW.seq ?_
              refine CW.seq ?_
              refine CW.region ?_
              refine RG.vl rfl rfl rfl (Ev.move rfl rfl) ?_
              refine RG.vl rfl rfl rfl (Ev.nilC rfl rfl) ?_
              refine RG.vl rfl rfl rfl (Ev.ldAt rfl rfl Try.underlying3 rfl (hpc) (rfl)) ?_
              refine RG.vl rfl rfl rfl (Ev.lss rfl rfl rfl) ?_
              refine RG.done ?_
              refine QW.then_ ?_
              refine CW.condP rfl (fun hc118 => ?_) (fun hc118 => ?_)
              · refine CW.exit ?_
                refine QW.thenExit ?_
                refine QW.blockHit ?_
                refine QW.then_ ?_
                refine CW.region ?_
                refine RG.vl rfl rfl rfl (Ev.addI rfl rfl rfl (by omega)) ?_
                refine RG.vl rfl rfl rfl (Ev.move rfl rfl) ?_
                refine RG.done ?_
                refine QW.round1 (0 + 1) ⟨rfl, trivial⟩ ⟨rfl, rfl, rfl, rfl, rfl, rfl, rfl, trivial⟩ ⟨⟨by omega, dul_step hdk (show Dul s L i b 0 from .inl (show b.po + (marginOf s L + 1) < 0 from by omega))⟩, (Ex.tr hR73 hE75)⟩ (by omega)
              · refine CW.skip ?_
                refine QW.then_ ?_
                refine CW.seq ?_
                refine CW.region ?_
                refine RG.vl rfl rfl rfl (Ev.ldAgg rfl rfl Try.underlying23 rfl sz_23 rfl ((hb6.ext hE75).cells)) ?_
                refine RG.vl rfl rfl rfl (Ev.move rfl rfl) ?_
                refine RG.call rfl rfl rfl rfl rfl rfl rfl en_10 (read_ret s _ (L.set i (⟨b.po + (marginOf s L + 1), b.up, b.dn⟩ : Br)) _ ((hown117.rdl Br.c_len)) (by rw [List.length_set]; omega)) ?_
                rintro _ w119 ⟨rfl, hx119⟩
                replace hE75 := Ex.tr hE75 hx119
                have hE120 := hx119
                refine RG.vl rfl rfl rfl (Ev.move rfl rfl) ?_
                refine RG.vl rfl rfl rfl (Ev.extract rfl rfl rfl) ?_
                refine RG.vl rfl rfl rfl (Ev.extract rfl rfl rfl) ?_
                refine RG.vl rfl rfl rfl (Ev.assign rfl rfl) ?_
                refine RG.vl rfl rfl rfl (Ev.assign rfl rfl) ?_
                refine RG.done ?_
                refine QW.then_ ?_
                refine CW.seq ?_
                refine CW.region ?_
                refine RG.vl rfl rfl rfl (Ev.move rfl rfl) ?_
                refine RG.vl rfl rfl rfl (Ev.neI rfl rfl rfl) ?_
                refine RG.vl rfl rfl rfl (Ev.move rfl rfl) ?_
                refine RG.split (d := 154) rfl (fun hg121 => ?_) (fun hg121 => ?_)
                · refine RG.pass rfl rfl rfl ?_
                  refine RG.pass rfl rfl rfl ?_
                  refine RG.pass rfl rfl rfl ?_
                  refine RG.vl rfl rfl rfl (Ev.pickT rfl rfl rfl) ?_
                  refine RG.done ?_
                  refine QW.sub (S' := [(7, _), (8, _), (9, _), (13, _), (16, _), (100, _), (101, _), (104, _), (158, _)]) ⟨rfl, rfl, rfl, rfl, rfl, rfl, rfl, rfl, rfl, trivial⟩ ?_
                  refine QW.then_ ?_
                  refine CW.condT rfl ?_
                  refine CW.seq ?_
                  refine CW.region ?_
                  refine RG.call rfl rfl rfl rfl rfl rfl rfl en_9 (awake_ret _) ?_
                  rintro _ w122 ⟨rfl, hx122⟩
                  replace hE75 := Ex.tr hE75 hx122
                  replace hE120 := Ex.tr hE120 hx122
                  have hE123 := hx122
                  refine RG.vl rfl rfl rfl (Ev.assign rfl rfl) ?_
                  refine RG.done ?_
                  refine QW.then_ ?_
                  refine CW.ret ?_
                  refine QW.blockR ?_
                  refine QW.thenRet ?_
                  refine QW.thenRet ?_
                  refine QW.blockR ?_
                  refine QW.blockR ?_
                  refine QW.thenRet ?_
                  refine QW.thenRet ?_
                  refine QW.blockR ?_
                  refine QW.thenRet ?_
                  refine QW.ret1 rfl rfl ?_
                  have hB := (Ex.tr hR65 hE75)
                  exact ⟨rfl, hB⟩
                · refine RG.vl rfl rfl rfl (Ev.move rfl rfl) ?_
                  refine RG.vl rfl rfl rfl (Ev.move rfl rfl) ?_
                  refine RG.vl rfl rfl rfl (Ev.neS rfl rfl rfl) ?_
                  refine RG.vl rfl rfl rfl (Ev.pickF rfl rfl rfl) ?_
                  refine RG.done ?_
                  refine QW.sub (S' := [(7, _), (8, _), (9, _), (13, _), (16, _), (100, _), (101, _), (104, _), (158, _)]) ⟨rfl, rfl, rfl, rfl, rfl, rfl, rfl, rfl, rfl, trivial⟩ ?_
                  refine QW.then_ ?_
                  refine CW.condP rfl (fun hc124 => ?_) (fun hc124 => ?_)
                  · refine CW.seq ?_
                    refine CW.region ?_
                    refine RG.call rfl rfl rfl rfl rfl rfl rfl en_9 (awake_ret _) ?_
                    rintro _ w125 ⟨rfl, hx125⟩
                    replace hE75 := Ex.tr hE75 hx125
                    replace hE120 := Ex.tr hE120 hx125
                    have hE126 := hx125
                    refine RG.vl rfl rfl rfl (Ev.assign rfl rfl) ?_
                    refine RG.done ?_
                    refine QW.then_ ?_
                    refine CW.ret ?_
                    refine QW.blockR ?_
                    refine QW.thenRet ?_
                    refine QW.thenRet ?_
                    refine QW.blockR ?_
                    refine QW.blockR ?_
                    refine QW.thenRet ?_
                    refine QW.thenRet ?_
                    refine QW.blockR ?_
                    refine QW.thenRet ?_
                    refine QW.ret1 rfl rfl ?_
                    have hB := (Ex.tr hR65 hE75)
                    exact ⟨rfl, hB⟩
                  · refine CW.skip ?_
                    refine QW.blockN ?_
                    refine QW.then_ ?_
                    refine CW.region ?_
                    refine RG.vl rfl rfl rfl (Ev.addI rfl rfl rfl (by omega)) ?_
                    refine RG.vl rfl rfl rfl (Ev.move rfl rfl) ?_
                    refine RG.done ?_
                    refine QW.round1 (0 + 1) ⟨rfl, trivial⟩ ⟨rfl, rfl, rfl, rfl, rfl, rfl, rfl, trivial⟩ ⟨⟨by omega, dul_step hdk (show Dul s L i b 0 from .inr ⟨show errOf s (L.set i (⟨b.po + (marginOf s L + 1), b.up, b.dn⟩ : Br)) = 0 from by omega, bytes_inj (Decidable.not_not.1 (by assumption))⟩)⟩, (Ex.tr hR73 hE75)⟩ (by omega)
            · refine CW.draw [] (.ex) 18 rfl mixed (fun wd127 hxwd127 => ?_)
              replace hE75 := Ex.tr hE75 hxwd127
              have hE128 := hxwd127
              refine AG.takeW 0 rfl (by kernel_rfl) (by kernel_rfl) rfl rfl rfl (fun _ => Ev.move rfl rfl) ?_
              refine AG.takeW 1 rfl (by kernel_rfl) (by kernel_rfl) rfl rfl rfl (fun _ => Ev.move rfl rfl) ?_
              refine AG.idxO _ 2 rfl (by kernel_rfl) (by kernel_rfl) rfl rfl rfl rfl rfl rfl Try.underlying24 sz_48 Br.c_len ((Own.ext hus hE128)) (hb) (fun g130 hg130 hBg130 hp129b hp129 => ?_)
              refine AG.takeW 3 rfl (by kernel_rfl) (by kernel_rfl) rfl rfl rfl (fun _ => Ev.fld rfl rfl fld_48_0) ?_
              refine AG.takeW 4 rfl (by kernel_rfl) (by kernel_rfl) rfl rfl rfl (fun _ => Ev.move rfl rfl) ?_
              refine AG.takeW 5 rfl (by kernel_rfl) (by kernel_rfl) rfl rfl rfl (fun _ => Ev.move rfl rfl) ?_
              refine AG.idxO _ 6 rfl (by kernel_rfl) (by kernel_rfl) rfl rfl rfl rfl rfl rfl Try.underlying24 sz_48 Br.c_len ((Own.ext hus hE128)) (hb) (fun g132 hg132 hBg132 hp131b hp131 => ?_)
              refine AG.takeW 7 rfl (by kernel_rfl) (by kernel_rfl) rfl rfl rfl (fun _ => Ev.fld rfl rfl fld_48_1) ?_
              refine AG.takeW 8 rfl (by kernel_rfl) (by kernel_rfl) rfl rfl rfl (fun _ => Ev.move rfl rfl) ?_
              refine AG.takeW 9 rfl (by kernel_rfl) (by kernel_rfl) rfl rfl rfl (fun _ => Ev.move rfl rfl) ?_
              refine AG.idxO _ 10 rfl (by kernel_rfl) (by kernel_rfl) rfl rfl rfl rfl rfl rfl Try.underlying24 sz_48 Br.c_len ((Own.ext hus hE128)) (hb) (fun g134 hg134 hBg134 hp133b hp133 => ?_)
              refine AG.takeW 11 rfl (by kernel_rfl) (by kernel_rfl) rfl rfl rfl (fun _ => Ev.fld rfl rfl fld_48_2) ?_
              refine AG.takeW 13 rfl (by kernel_rfl) (by kernel_rfl) rfl rfl rfl (fun _ => Ev.move rfl rfl) ?_
              refine AG.takeW 14 rfl (by kernel_rfl) (by kernel_rfl) rfl rfl rfl (fun _ => (Ev.quoI rfl rfl rfl (by omega)).conv (congrArg (Value.int .i64) (show ((1 : Nat) : Int) / 2 = ((0 : Nat) : Int) from by decide))) ?_
              refine AG.only 12 rfl (by kernel_rfl) ?_
              refine RG.buildD (xs := [.tmp 113, .tmp 117, .tmp 121]) rfl rfl rfl rfl rfl rfl rfl Try.underlying59 inf_58 rfl rfl rfl rfl (fun gQ w136 egQ hx136 hb136 => ?_)
              have hsb137 := fun e => sep_new (g := gQ) (Own.ext hbs hE75) egQ e
              have hsb138 := fun e => sep_new (g := gQ) (Own.ext hown77 hE128) egQ e
              have hsb139 := fun e => sep_new (g := gQ) (Own.ext hus hE128) egQ e
              have hle140 : wl60.heap.size ≤ gQ := by have := hE75.size; omega
              have hle141 : wa76.heap.size ≤ gQ := by have := hE128.size; omega
              have hle142 : wd127.heap.size ≤ gQ := by have := (Ex.rfl_ wd127).size; omega
              have hlt143 : g1 < gQ := by have := Blk.lt (hb1.ext hE75); omega
              have hlt144 : gS < gQ := by have := Blk.lt (hb6.ext hE75); omega
              replace hE75 := Ex.tr hE75 hx136
              replace hE128 := Ex.tr hE128 hx136
              have hE145 := hx136
              refine RG.done ?_
              refine QW.an (fun _ => hE145) ?_
              refine AG.takeW 15 rfl (by kernel_rfl) (by kernel_rfl) rfl rfl rfl (fun _ => Ev.idxN rfl rfl rfl Try.underlying59 sz_58 (by omega)) ?_
              refine AG.take 16 rfl (by kernel_rfl) (by kernel_rfl) rfl rfl rfl (fun wq hq => Ev.ldAt rfl rfl Try.underlying58 rfl ((hb136.ext hq).cells) (rfl)) ?_
              have hpc := Own.cells (Own.ext hus hE128) Br.c_len hg130 hb
              have hpcb : (((⟨g130, 0, none⟩ : Addr).add (i * 3)).block < w136.heap.size) := by rw [block_of_add]; exact Own.lt (Own.ext hus hE128) hg130
              refine AG.takeW 17 rfl (by kernel_rfl) (by kernel_rfl) rfl rfl rfl (fun _ => Ev.assign rfl rfl) ?_
              refine AG.done (by kernel_rfl) ?_
              refine QW.sub (S' := [(7, _), (8, _), (9, _), (13, _), (16, _), (17, _), (18, _), (19, _), (100, _), (101, _), (104, _)]) ⟨rfl, rfl, rfl, rfl, rfl, rfl, rfl, rfl, rfl, rfl, rfl, trivial⟩ ?_
              refine QW.then_ ?_
              refine CW.seq ?_
              refine CW.draw [15] (.ex) 16 rfl mixed (fun wd146 hxwd146 => ?_)
              replace hE75 := Ex.tr hE75 hxwd146
              replace hE128 := Ex.tr hE128 hxwd146
              replace hE145 := Ex.tr hE145 hxwd146
              have hE147 := hxwd146
              refine AG.takeW 0 rfl (by kernel_rfl) (by kernel_rfl) rfl rfl rfl (fun _ => Ev.move rfl rfl) ?_
              refine AG.takeW 1 rfl (by kernel_rfl) (by kernel_rfl) rfl rfl rfl (fun _ => Ev.nilC rfl rfl) ?_
              refine AG.take 2 rfl (by kernel_rfl) (by kernel_rfl) rfl rfl rfl (fun wq hq => Ev.ldAt rfl rfl Try.underlying3 rfl ((hpc.ext hE147 hpcb).ext hq (Nat.lt_of_lt_of_le hpcb hE147.size)) (rfl)) ?_
              refine AG.takeW 3 rfl (by kernel_rfl) (by kernel_rfl) rfl rfl rfl (fun _ => Ev.move rfl rfl) ?_
              refine AG.takeW 4 rfl (by kernel_rfl) (by kernel_rfl) rfl rfl rfl (fun _ => Ev.addI rfl rfl rfl (by omega)) ?_
              refine AG.takeW 5 rfl (by kernel_rfl) (by kernel_rfl) rfl rfl rfl (fun _ => Ev.move rfl rfl) ?_
              refine AG.takeW 6 rfl (by kernel_rfl) (by kernel_rfl) rfl rfl rfl (fun _ => Ev.negI rfl rfl (by omega)) ?_
              refine AG.takeW 7 rfl (by kernel_rfl) (by kernel_rfl) rfl rfl rfl (fun _ => Ev.subI rfl rfl rfl (by omega)) ?_
              refine AG.takeW 9 rfl (by kernel_rfl) (by kernel_rfl) rfl rfl rfl (fun _ => Ev.move rfl rfl) ?_
              refine AG.takeW 10 rfl (by kernel_rfl) (by kernel_rfl) rfl rfl rfl (fun _ => (Ev.remI rfl rfl rfl (by omega)).conv (congrArg (Value.int .i64) (show ((1 : Nat) : Int) % 2 = ((1 : Nat) : Int) from by decide))) ?_
              refine AG.only 8 rfl (by kernel_rfl) ?_
              refine RG.buildD (xs := [.tmp 131, .tmp 134]) rfl rfl rfl rfl rfl rfl rfl Try.underlying64 inf_3 rfl rfl rfl rfl (fun gR w149 egR hx149 hb149 => ?_)
              have hsb150 := fun e => sep_new (g := gR) (Own.ext hbs hE75) egR e
              have hsb151 := fun e => sep_new (g := gR) (Own.ext hown77 hE128) egR e
              have hsb152 := fun e => sep_new (g := gR) (Own.ext hus hE128) egR e
              have hle153 : wl60.heap.size ≤ gR := by have := hE75.size; omega
              have hle154 : wa76.heap.size ≤ gR := by have := hE128.size; omega
              have hle155 : wd127.heap.size ≤ gR := by have := hE145.size; omega
              have hle156 : w136.heap.size ≤ gR := by have := hE147.size; omega
              have hle157 : wd146.heap.size ≤ gR := by have := (Ex.rfl_ wd146).size; omega
              have hlt158 : g1 < gR := by have := Blk.lt (hb1.ext hE75); omega
              have hlt159 : gS < gR := by have := Blk.lt (hb6.ext hE75); omega
              have hlt160 : gQ < gR := by have := Blk.lt (hb136.ext hE147); omega
              replace hE75 := Ex.tr hE75 hx149
              replace hE128 := Ex.tr hE128 hx149
              replace hE145 := Ex.tr hE145 hx149
              replace hE147 := Ex.tr hE147 hx149
              have hE161 := hx149
              refine RG.done ?_
              refine QW.an (fun _ => hE161) ?_
              refine AG.takeW 11 rfl (by kernel_rfl) (by kernel_rfl) rfl rfl rfl (fun _ => Ev.idxN rfl rfl rfl Try.underlying64 sz_3 (by omega)) ?_
              refine AG.take 12 rfl (by kernel_rfl) (by kernel_rfl) rfl rfl rfl (fun wq hq => Ev.ldAt rfl rfl Try.underlying3 rfl ((hb149.ext hq).cells) (rfl)) ?_
              refine AG.takeW 13 rfl (by kernel_rfl) (by kernel_rfl) rfl rfl rfl (fun _ => Ev.addI rfl rfl rfl (by omega)) ?_
              refine AG.takeW 14 rfl (by kernel_rfl) (by kernel_rfl) rfl rfl rfl (fun _ => Ev.nilC rfl rfl) ?_
              refine AG.only 15 rfl (by kernel_rfl) ?_
              refine RG.stOw (g := g130) ((⟨b.po + (-marginOf s L - 1), b.up, b.dn⟩ : Br)) rfl rfl rfl rfl rfl sz_3 rfl (fun _ => rfl) (Own.ext hus hE128) hg130 (hb) rfl (rfl) (fun ws163 hwws163 hown164 => ?_)
              replace hb136 := Blk.far (hb136.ext hE147) hwws163 (fun e => hsb139 (by rw [e]; exact hg130))
              replace hb149 := Blk.far hb149 hwws163 (fun e => hsb152 (by rw [e]; exact hg130))
              replace hE75 := Wr.below hE75 hwws163 hBg130
              have hpc := Own.cells hown164 Br.c_len hg130 (show (L.set i (⟨b.po + (-marginOf s L - 1), b.up, b.dn⟩ : Br))[i]? = some (⟨b.po + (-marginOf s L - 1), b.up, b.dn⟩ : Br) from by rw [List.getElem?_set_self (by omega)])
              have hpcb : (((⟨g130, 0, none⟩ : Addr).add (i * 3)).block < ws163.heap.size) := by rw [block_of_add]; exact Own.lt hown164 hg130
              refine RG.done ?_
              refine QW.an (fun h => by simp at h) ?_
              refine AG.done (by kernel_rfl) ?_
              refine QW.sub (S' := [(7, _), (8, _), (9, _), (13, _), (16, _), (18, _), (19, _), (100, _), (101, _), (104, _)]) ⟨rfl, rfl, rfl, rfl, rfl, rfl, rfl, rfl, rfl, rfl, trivial⟩ ?_
              refine QW.then_ ?_
              refine CW.seq ?_
              refine CW.seq ?_
              refine CW.region ?_
              refine RG.vl rfl rfl rfl (Ev.move rfl rfl) ?_
              refine RG.vl rfl rfl rfl (Ev.nilC rfl rfl) ?_
              refine RG.vl rfl rfl rfl (Ev.ldAt rfl rfl Try.underlying3 rfl (hpc) (rfl)) ?_
              refine RG.vl rfl rfl rfl (Ev.lss rfl rfl rfl) ?_
              refine RG.done ?_
              refine QW.then_ ?_
              refine CW.condP rfl (fun hc165 => ?_) (fun hc165 => ?_)
              · refine CW.exit ?_
                refine QW.thenExit ?_
                refine QW.blockHit ?_
                refine QW.then_ ?_
                refine CW.region ?_
                refine RG.vl rfl rfl rfl (Ev.addI rfl rfl rfl (by omega)) ?_
                refine RG.vl rfl rfl rfl (Ev.move rfl rfl) ?_
                refine RG.done ?_
                refine QW.round1 (1 + 1) ⟨rfl, trivial⟩ ⟨rfl, rfl, rfl, rfl, rfl, rfl, rfl, trivial⟩ ⟨⟨by omega, dul_step hdk (show Dul s L i b 1 from .inl (show b.po + (-marginOf s L - 1) < 0 from by omega))⟩, (Ex.tr hR73 hE75)⟩ (by omega)
              · refine CW.skip ?_
                refine QW.then_ ?_
                refine CW.seq ?_
                refine CW.region ?_
                refine RG.vl rfl rfl rfl (Ev.ldAgg rfl rfl Try.underlying23 rfl sz_23 rfl ((hb6.ext hE75).cells)) ?_
                refine RG.vl rfl rfl rfl (Ev.move rfl rfl) ?_
                refine RG.call rfl rfl rfl rfl rfl rfl rfl en_10 (read_ret s _ (L.set i (⟨b.po + (-marginOf s L - 1), b.up, b.dn⟩ : Br)) _ ((hown164.rdl Br.c_len)) (by rw [List.length_set]; omega)) ?_
                rintro _ w166 ⟨rfl, hx166⟩
                replace hE75 := Ex.tr hE75 hx166
                have hE167 := hx166
                refine RG.vl rfl rfl rfl (Ev.move rfl rfl) ?_
                refine RG.vl rfl rfl rfl (Ev.extract rfl rfl rfl) ?_
                refine RG.vl rfl rfl rfl (Ev.extract rfl rfl rfl) ?_
                refine RG.vl rfl rfl rfl (Ev.assign rfl rfl) ?_
                refine RG.vl rfl rfl rfl (Ev.assign rfl rfl) ?_
                refine RG.done ?_
                refine QW.then_ ?_
                refine CW.seq ?_
                refine CW.region ?_
                refine RG.vl rfl rfl rfl (Ev.move rfl rfl) ?_
                refine RG.vl rfl rfl rfl (Ev.neI rfl rfl rfl) ?_
                refine RG.vl rfl rfl rfl (Ev.move rfl rfl) ?_
                refine RG.split (d := 154) rfl (fun hg168 => ?_) (fun hg168 => ?_)
                · refine RG.pass rfl rfl rfl ?_
                  refine RG.pass rfl rfl rfl ?_
                  refine RG.pass rfl rfl rfl ?_
                  refine RG.vl rfl rfl rfl (Ev.pickT rfl rfl rfl) ?_
                  refine RG.done ?_
                  refine QW.sub (S' := [(7, _), (8, _), (9, _), (13, _), (16, _), (100, _), (101, _), (104, _), (158, _)]) ⟨rfl, rfl, rfl, rfl, rfl, rfl, rfl, rfl, rfl, trivial⟩ ?_
                  refine QW.then_ ?_
                  refine CW.condT rfl ?_
                  refine CW.seq ?_
                  refine CW.region ?_
                  refine RG.call rfl rfl rfl rfl rfl rfl rfl en_9 (awake_ret _) ?_
                  rintro _ w169 ⟨rfl, hx169⟩
                  replace hE75 := Ex.tr hE75 hx169
                  replace hE167 := Ex.tr hE167 hx169
                  have hE170 := hx169
                  refine RG.vl rfl rfl rfl (Ev.assign rfl rfl) ?_
                  refine RG.done ?_
                  refine QW.then_ ?_
                  refine CW.ret ?_
                  refine QW.blockR ?_
                  refine QW.thenRet ?_
                  refine QW.thenRet ?_
                  refine QW.blockR ?_
                  refine QW.blockR ?_
                  refine QW.thenRet ?_
                  refine QW.thenRet ?_
                  refine QW.blockR ?_
                  refine QW.thenRet ?_
                  refine QW.ret1 rfl rfl ?_
                  have hB := (Ex.tr hR65 hE75)
                  exact ⟨rfl, hB⟩
                · refine RG.vl rfl rfl rfl (Ev.move rfl rfl) ?_
                  refine RG.vl rfl rfl rfl (Ev.move rfl rfl) ?_
                  refine RG.vl rfl rfl rfl (Ev.neS rfl rfl rfl) ?_
                  refine RG.vl rfl rfl rfl (Ev.pickF rfl rfl rfl) ?_
                  refine RG.done ?_
                  refine QW.sub (S' := [(7, _), (8, _), (9, _), (13, _), (16, _), (100, _), (101, _), (104, _), (158, _)]) ⟨rfl, rfl, rfl, rfl, rfl, rfl, rfl, rfl, rfl, trivial⟩ ?_
                  refine QW.then_ ?_
                  refine CW.condP rfl (fun hc171 => ?_) (fun hc171 => ?_)
                  · refine CW.seq ?_
                    refine CW.region ?_
                    refine RG.call rfl rfl rfl rfl rfl rfl rfl en_9 (awake_ret _) ?_
                    rintro _ w172 ⟨rfl, hx172⟩
                    replace hE75 := Ex.tr hE75 hx172
                    replace hE167 := Ex.tr hE167 hx172
                    have hE173 := hx172
                    refine RG.vl rfl rfl rfl (Ev.assign rfl rfl) ?_
                    refine RG.done ?_
                    refine QW.then_ ?_
                    refine CW.ret ?_
                    refine QW.blockR ?_
                    refine QW.thenRet ?_
                    refine QW.thenRet ?_
                    refine QW.blockR ?_
                    refine QW.blockR ?_
                    refine QW.thenRet ?_
                    refine QW.thenRet ?_
                    refine QW.blockR ?_
                    refine QW.thenRet ?_
                    refine QW.ret1 rfl rfl ?_
                    have hB := (Ex.tr hR65 hE75)
                    exact ⟨rfl, hB⟩
                  · refine CW.skip ?_
                    refine QW.blockN ?_
                    refine QW.then_ ?_
                    refine CW.region ?_
                    refine RG.vl rfl rfl rfl (Ev.addI rfl rfl rfl (by omega)) ?_
                    refine RG.vl rfl rfl rfl (Ev.move rfl rfl) ?_
                    refine RG.done ?_
                    refine QW.round1 (1 + 1) ⟨rfl, trivial⟩ ⟨rfl, rfl, rfl, rfl, rfl, rfl, rfl, trivial⟩ ⟨⟨by omega, dul_step hdk (show Dul s L i b 1 from .inr ⟨show errOf s (L.set i (⟨b.po + (-marginOf s L - 1), b.up, b.dn⟩ : Br)) = 0 from by omega, bytes_inj (Decidable.not_not.1 (by assumption))⟩)⟩, (Ex.tr hR73 hE75)⟩ (by omega)
            · refine CW.draw [] (.ex) 18 rfl mixed (fun wd174 hxwd174 => ?_)
              replace hE75 := Ex.tr hE75 hxwd174
              have hE175 := hxwd174
              refine AG.takeW 0 rfl (by kernel_rfl) (by kernel_rfl) rfl rfl rfl (fun _ => Ev.move rfl rfl) ?_
              refine AG.takeW 1 rfl (by kernel_rfl) (by kernel_rfl) rfl rfl rfl (fun _ => Ev.move rfl rfl) ?_
              refine AG.idxO _ 2 rfl (by kernel_rfl) (by kernel_rfl) rfl rfl rfl rfl rfl rfl Try.underlying24 sz_48 Br.c_len ((Own.ext hus hE175)) (hb) (fun g177 hg177 hBg177 hp176b hp176 => ?_)
              refine AG.takeW 3 rfl (by kernel_rfl) (by kernel_rfl) rfl rfl rfl (fun _ => Ev.fld rfl rfl fld_48_0) ?_
              refine AG.takeW 4 rfl (by kernel_rfl) (by kernel_rfl) rfl rfl rfl (fun _ => Ev.move rfl rfl) ?_
              refine AG.takeW 5 rfl (by kernel_rfl) (by kernel_rfl) rfl rfl rfl (fun _ => Ev.move rfl rfl) ?_
              refine AG.idxO _ 6 rfl (by kernel_rfl) (by kernel_rfl) rfl rfl rfl rfl rfl rfl Try.underlying24 sz_48 Br.c_len ((Own.ext hus hE175)) (hb) (fun g179 hg179 hBg179 hp178b hp178 => ?_)
              refine AG.takeW 7 rfl (by kernel_rfl) (by kernel_rfl) rfl rfl rfl (fun _ => Ev.fld rfl rfl fld_48_1) ?_
              refine AG.takeW 8 rfl (by kernel_rfl) (by kernel_rfl) rfl rfl rfl (fun _ => Ev.move rfl rfl) ?_
              refine AG.takeW 9 rfl (by kernel_rfl) (by kernel_rfl) rfl rfl rfl (fun _ => Ev.move rfl rfl) ?_
              refine AG.idxO _ 10 rfl (by kernel_rfl) (by kernel_rfl) rfl rfl rfl rfl rfl rfl Try.underlying24 sz_48 Br.c_len ((Own.ext hus hE175)) (hb) (fun g181 hg181 hBg181 hp180b hp180 => ?_)
              refine AG.takeW 11 rfl (by kernel_rfl) (by kernel_rfl) rfl rfl rfl (fun _ => Ev.fld rfl rfl fld_48_2) ?_
              refine AG.takeW 13 rfl (by kernel_rfl) (by kernel_rfl) rfl rfl rfl (fun _ => Ev.move rfl rfl) ?_
              refine AG.takeW 14 rfl (by kernel_rfl) (by kernel_rfl) rfl rfl rfl (fun _ => (Ev.quoI rfl rfl rfl (by omega)).conv (congrArg (Value.int .i64) (show ((2 : Nat) : Int) / 2 = ((1 : Nat) : Int) from by decide))) ?_
              refine AG.only 12 rfl (by kernel_rfl) ?_
              refine RG.buildD (xs := [.tmp 113, .tmp 117, .tmp 121]) rfl rfl rfl rfl rfl rfl rfl Try.underlying59 inf_58 rfl rfl rfl rfl (fun gQ w183 egQ hx183 hb183 => ?_)
              have hsb184 := fun e => sep_new (g := gQ) (Own.ext hbs hE75) egQ e
              have hsb185 := fun e => sep_new (g := gQ) (Own.ext hown77 hE175) egQ e
              have hsb186 := fun e => sep_new (g := gQ) (Own.ext hus hE175) egQ e
              have hle187 : wl60.heap.size ≤ gQ := by have := hE75.size; omega
              have hle188 : wa76.heap.size ≤ gQ := by have := hE175.size; omega
              have hle189 : wd174.heap.size ≤ gQ := by have := (Ex.rfl_ wd174).size; omega
              have hlt190 : g1 < gQ := by have := Blk.lt (hb1.ext hE75); omega
              have hlt191 : gS < gQ := by have := Blk.lt (hb6.ext hE75); omega
              replace hE75 := Ex.tr hE75 hx183
              replace hE175 := Ex.tr hE175 hx183
              have hE192 := hx183
              refine RG.done ?_
              refine QW.an (fun _ => hE192) ?_
              refine AG.takeW 15 rfl (by kernel_rfl) (by kernel_rfl) rfl rfl rfl (fun _ => Ev.idxN rfl rfl rfl Try.underlying59 sz_58 (by omega)) ?_
              refine AG.take 16 rfl (by kernel_rfl) (by kernel_rfl) rfl rfl rfl (fun wq hq => Ev.ldAt rfl rfl Try.underlying58 rfl ((hb183.ext hq).cells) (rfl)) ?_
              have hpc := Own.cells (Own.ext hus hE175) Br.c_len hg179 hb
              have hpcb : (((⟨g179, 0, none⟩ : Addr).add (i * 3)).block < w183.heap.size) := by rw [block_of_add]; exact Own.lt (Own.ext hus hE175) hg179
              refine AG.takeW 17 rfl (by kernel_rfl) (by kernel_rfl) rfl rfl rfl (fun _ => Ev.assign rfl rfl) ?_
              refine AG.done (by kernel_rfl) ?_
              refine QW.sub (S' := [(7, _), (8, _), (9, _), (13, _), (16, _), (17, _), (18, _), (19, _), (100, _), (101, _), (104, _)]) ⟨rfl, rfl, rfl, rfl, rfl, rfl, rfl, rfl, rfl, rfl, rfl, trivial⟩ ?_
              refine QW.then_ ?_
              refine CW.seq ?_
              refine CW.draw [15] (.ex) 16 rfl mixed (fun wd193 hxwd193 => ?_)
              replace hE75 := Ex.tr hE75 hxwd193
              replace hE175 := Ex.tr hE175 hxwd193
              replace hE192 := Ex.tr hE192 hxwd193
              have hE194 := hxwd193
              refine AG.takeW 0 rfl (by kernel_rfl) (by kernel_rfl) rfl rfl rfl (fun _ => Ev.move rfl rfl) ?_
              refine AG.takeW 1 rfl (by kernel_rfl) (by kernel_rfl) rfl rfl rfl (fun _ => Ev.nilC rfl rfl) ?_
              refine AG.take 2 rfl (by kernel_rfl) (by kernel_rfl) rfl rfl rfl (fun wq hq => Ev.ldAt rfl rfl Try.underlying3 rfl ((hpc.ext hE194 hpcb).ext hq (Nat.lt_of_lt_of_le hpcb hE194.size)) (rfl)) ?_
              refine AG.takeW 3 rfl (by kernel_rfl) (by kernel_rfl) rfl rfl rfl (fun _ => Ev.move rfl rfl) ?_
              refine AG.takeW 4 rfl (by kernel_rfl) (by kernel_rfl) rfl rfl rfl (fun _ => Ev.addI rfl rfl rfl (by omega)) ?_
              refine AG.takeW 5 rfl (by kernel_rfl) (by kernel_rfl) rfl rfl rfl (fun _ => Ev.move rfl rfl) ?_
              refine AG.takeW 6 rfl (by kernel_rfl) (by kernel_rfl) rfl rfl rfl (fun _ => Ev.negI rfl rfl (by omega)) ?_
              refine AG.takeW 7 rfl (by kernel_rfl) (by kernel_rfl) rfl rfl rfl (fun _ => Ev.subI rfl rfl rfl (by omega)) ?_
              refine AG.takeW 9 rfl (by kernel_rfl) (by kernel_rfl) rfl rfl rfl (fun _ => Ev.move rfl rfl) ?_
              refine AG.takeW 10 rfl (by kernel_rfl) (by kernel_rfl) rfl rfl rfl (fun _ => (Ev.remI rfl rfl rfl (by omega)).conv (congrArg (Value.int .i64) (show ((2 : Nat) : Int) % 2 = ((0 : Nat) : Int) from by decide))) ?_
              refine AG.only 8 rfl (by kernel_rfl) ?_
              refine RG.buildD (xs := [.tmp 131, .tmp 134]) rfl rfl rfl rfl rfl rfl rfl Try.underlying64 inf_3 rfl rfl rfl rfl (fun gR w196 egR hx196 hb196 => ?_)
              have hsb197 := fun e => sep_new (g := gR) (Own.ext hbs hE75) egR e
              have hsb198 := fun e => sep_new (g := gR) (Own.ext hown77 hE175) egR e
              have hsb199 := fun e => sep_new (g := gR) (Own.ext hus hE175) egR e
              have hle200 : wl60.heap.size ≤ gR := by have := hE75.size; omega
              have hle201 : wa76.heap.size ≤ gR := by have := hE175.size; omega
              have hle202 : wd174.heap.size ≤ gR := by have := hE192.size; omega
              have hle203 : w183.heap.size ≤ gR := by have := hE194.size; omega
              have hle204 : wd193.heap.size ≤ gR := by have := (Ex.rfl_ wd193).size; omega
              have hlt205 : g1 < gR := by have := Blk.lt (hb1.ext hE75); omega
              have hlt206 : gS < gR := by have := Blk.lt (hb6.ext hE75); omega
              have hlt207 : gQ < gR := by have := Blk.lt (hb183.ext hE194); omega
              replace hE75 := Ex.tr hE75 hx196
              replace hE175 := Ex.tr hE175 hx196
              replace hE192 := Ex.tr hE192 hx196
              replace hE194 := Ex.tr hE194 hx196
              have hE208 := hx196
              refine RG.done ?_
              refine QW.an (fun _ => hE208) ?_
              refine AG.takeW 11 rfl (by kernel_rfl) (by kernel_rfl) rfl rfl rfl (fun _ => Ev.idxN rfl rfl rfl Try.underlying64 sz_3 (by omega)) ?_
              refine AG.take 12 rfl (by kernel_rfl) (by kernel_rfl) rfl rfl rfl (fun wq hq => Ev.ldAt rfl rfl Try.underlying3 rfl ((hb196.ext hq).cells) (rfl)) ?_
              refine AG.takeW 13 rfl (by kernel_rfl) (by kernel_rfl) rfl rfl rfl (fun _ => Ev.addI rfl rfl rfl (by omega)) ?_
              refine AG.takeW 14 rfl (by kernel_rfl) (by kernel_rfl) rfl rfl rfl (fun _ => Ev.nilC rfl rfl) ?_
              refine AG.only 15 rfl (by kernel_rfl) ?_
              refine RG.stOw (g := g179) ((⟨b.po, b.up + (marginOf s L + 1), b.dn⟩ : Br)) rfl rfl rfl rfl rfl sz_3 rfl (fun _ => rfl) (Own.ext hus hE175) hg179 (hb) rfl (rfl) (fun ws210 hwws210 hown211 => ?_)
              replace hb183 := Blk.far (hb183.ext hE194) hwws210 (fun e => hsb186 (by rw [e]; exact hg179))
              replace hb196 := Blk.far hb196 hwws210 (fun e => hsb199 (by rw [e]; exact hg179))
              replace hE75 := Wr.below hE75 hwws210 hBg179
              have hpc := Own.cells hown211 Br.c_len hg179 (show (L.set i (⟨b.po, b.up + (marginOf s L + 1), b.dn⟩ : Br))[i]? = some (⟨b.po, b.up + (marginOf s L + 1), b.dn⟩ : Br) from by rw [List.getElem?_set_self (by omega)])
              have hpcb : (((⟨g179, 0, none⟩ : Addr).add (i * 3)).block < ws210.heap.size) := by rw [block_of_add]; exact Own.lt hown211 hg179
              refine RG.done ?_
              refine QW.an (fun h => by simp at h) ?_
              refine AG.done (by kernel_rfl) ?_
              refine QW.sub (S' := [(7, _), (8, _), (9, _), (13, _), (16, _), (18, _), (19, _), (100, _), (101, _), (104, _)]) ⟨rfl, rfl, rfl, rfl, rfl, rfl, rfl, rfl, rfl, rfl, trivial⟩ ?_
              refine QW.then_ ?_
              refine CW.seq ?_
              refine CW.seq ?_
              refine CW.region ?_
              refine RG.vl rfl rfl rfl (Ev.move rfl rfl) ?_
              refine RG.vl rfl rfl rfl (Ev.nilC rfl rfl) ?_
              refine RG.vl rfl rfl rfl (Ev.ldAt rfl rfl Try.underlying3 rfl (hpc) (rfl)) ?_
              refine RG.vl rfl rfl rfl (Ev.lss rfl rfl rfl) ?_
              refine RG.done ?_
              refine QW.then_ ?_
              refine CW.condP rfl (fun hc212 => ?_) (fun hc212 => ?_)
              · refine CW.exit ?_
                refine QW.thenExit ?_
                refine QW.blockHit ?_
                refine QW.then_ ?_
                refine CW.region ?_
                refine RG.vl rfl rfl rfl (Ev.addI rfl rfl rfl (by omega)) ?_
                refine RG.vl rfl rfl rfl (Ev.move rfl rfl) ?_
                refine RG.done ?_
                refine QW.round1 (2 + 1) ⟨rfl, trivial⟩ ⟨rfl, rfl, rfl, rfl, rfl, rfl, rfl, trivial⟩ ⟨⟨by omega, dul_step hdk (show Dul s L i b 2 from .inl (show b.up + (marginOf s L + 1) < 0 from by omega))⟩, (Ex.tr hR73 hE75)⟩ (by omega)
              · refine CW.skip ?_
                refine QW.then_ ?_
                refine CW.seq ?_
                refine CW.region ?_
                refine RG.vl rfl rfl rfl (Ev.ldAgg rfl rfl Try.underlying23 rfl sz_23 rfl ((hb6.ext hE75).cells)) ?_
                refine RG.vl rfl rfl rfl (Ev.move rfl rfl) ?_
                refine RG.call rfl rfl rfl rfl rfl rfl rfl en_10 (read_ret s _ (L.set i (⟨b.po, b.up + (marginOf s L + 1), b.dn⟩ : Br)) _ ((hown211.rdl Br.c_len)) (by rw [List.length_set]; omega)) ?_
                rintro _ w213 ⟨rfl, hx213⟩
                replace hE75 := Ex.tr hE75 hx213
                have hE214 := hx213
                refine RG.vl rfl rfl rfl (Ev.move rfl rfl) ?_
                refine RG.vl rfl rfl rfl (Ev.extract rfl rfl rfl) ?_
                refine RG.vl rfl rfl rfl (Ev.extract rfl rfl rfl) ?_
                refine RG.vl rfl rfl rfl (Ev.assign rfl rfl) ?_
                refine RG.vl rfl rfl rfl (Ev.assign rfl rfl) ?_
                refine RG.done ?_
                refine QW.then_ ?_
                refine CW.seq ?_
                refine CW.region ?_
                refine RG.vl rfl rfl rfl (Ev.move rfl rfl) ?_
                refine RG.vl rfl rfl rfl (Ev.neI rfl rfl rfl) ?_
                refine RG.vl rfl rfl rfl (Ev.move rfl rfl) ?_
                refine RG.split (d := 154) rfl (fun hg215 => ?_) (fun hg215 => ?_)
                · refine RG.pass rfl rfl rfl ?_
                  refine RG.pass rfl rfl rfl ?_
                  refine RG.pass rfl rfl rfl ?_
                  refine RG.vl rfl rfl rfl (Ev.pickT rfl rfl rfl) ?_
                  refine RG.done ?_
                  refine QW.sub (S' := [(7, _), (8, _), (9, _), (13, _), (16, _), (100, _), (101, _), (104, _), (158, _)]) ⟨rfl, rfl, rfl, rfl, rfl, rfl, rfl, rfl, rfl, trivial⟩ ?_
                  refine QW.then_ ?_
                  refine CW.condT rfl ?_
                  refine CW.seq ?_
                  refine CW.region ?_
                  refine RG.call rfl rfl rfl rfl rfl rfl rfl en_9 (awake_ret _) ?_
                  rintro _ w216 ⟨rfl, hx216⟩
                  replace hE75 := Ex.tr hE75 hx216
                  replace hE214 := Ex.tr hE214 hx216
                  have hE217 := hx216
                  refine RG.vl rfl rfl rfl (Ev.assign rfl rfl) ?_
                  refine RG.done ?_
                  refine QW.then_ ?_
                  refine CW.ret ?_
                  refine QW.blockR ?_
                  refine QW.thenRet ?_
                  refine QW.thenRet ?_
                  refine QW.blockR ?_
                  refine QW.blockR ?_
                  refine QW.thenRet ?_
                  refine QW.thenRet ?_
                  refine QW.blockR ?_
                  refine QW.thenRet ?_
                  refine QW.ret1 rfl rfl ?_
                  have hB := (Ex.tr hR65 hE75)
                  exact ⟨rfl, hB⟩
                · refine RG.vl rfl rfl rfl (Ev.move rfl rfl) ?_
                  refine RG.vl rfl rfl rfl (Ev.move rfl rfl) ?_
                  refine RG.vl rfl rfl rfl (Ev.neS rfl rfl rfl) ?_
                  refine RG.vl rfl rfl rfl (Ev.pickF rfl rfl rfl) ?_
                  refine RG.done ?_
                  refine QW.sub (S' := [(7, _), (8, _), (9, _), (13, _), (16, _), (100, _), (101, _), (104, _), (158, _)]) ⟨rfl, rfl, rfl, rfl, rfl, rfl, rfl, rfl, rfl, trivial⟩ ?_
                  refine QW.then_ ?_
                  refine CW.condP rfl (fun hc218 => ?_) (fun hc218 => ?_)
                  · refine CW.seq ?_
                    refine CW.region ?_
                    refine RG.call rfl rfl rfl rfl rfl rfl rfl en_9 (awake_ret _) ?_
                    rintro _ w219 ⟨rfl, hx219⟩
                    replace hE75 := Ex.tr hE75 hx219
                    replace hE214 := Ex.tr hE214 hx219
                    have hE220 := hx219
                    refine RG.vl rfl rfl rfl (Ev.assign rfl rfl) ?_
                    refine RG.done ?_
                    refine QW.then_ ?_
                    refine CW.ret ?_
                    refine QW.blockR ?_
                    refine QW.thenRet ?_
                    refine QW.thenRet ?_
                    refine QW.blockR ?_
                    refine QW.blockR ?_
                    refine QW.thenRet ?_
                    refine QW.thenRet ?_
                    refine QW.blockR ?_
                    refine QW.thenRet ?_
                    refine QW.ret1 rfl rfl ?_
                    have hB := (Ex.tr hR65 hE75)
                    exact ⟨rfl, hB⟩
                  · refine CW.skip ?_
                    refine QW.blockN ?_
                    refine QW.then_ ?_
                    refine CW.region ?_
                    refine RG.vl rfl rfl rfl (Ev.addI rfl rfl rfl (by omega)) ?_
                    refine RG.vl rfl rfl rfl (Ev.move rfl rfl) ?_
                    refine RG.done ?_
                    refine QW.round1 (2 + 1) ⟨rfl, trivial⟩ ⟨rfl, rfl, rfl, rfl, rfl, rfl, rfl, trivial⟩ ⟨⟨by omega, dul_step hdk (show Dul s L i b 2 from .inr ⟨show errOf s (L.set i (⟨b.po, b.up + (marginOf s L + 1), b.dn⟩ : Br)) = 0 from by omega, bytes_inj (Decidable.not_not.1 (by assumption))⟩)⟩, (Ex.tr hR73 hE75)⟩ (by omega)
            · refine CW.draw [] (.ex) 18 rfl mixed (fun wd221 hxwd221 => ?_)
              replace hE75 := Ex.tr hE75 hxwd221
              have hE222 := hxwd221
              refine AG.takeW 0 rfl (by kernel_rfl) (by kernel_rfl) rfl rfl rfl (fun _ => Ev.move rfl rfl) ?_
              refine AG.takeW 1 rfl (by kernel_rfl) (by kernel_rfl) rfl rfl rfl (fun _ => Ev.move rfl rfl) ?_
              refine AG.idxO _ 2 rfl (by kernel_rfl) (by kernel_rfl) rfl rfl rfl rfl rfl rfl Try.underlying24 sz_48 Br.c_len ((Own.ext hus hE222)) (hb) (fun g224 hg224 hBg224 hp223b hp223 => ?_)
              refine AG.takeW 3 rfl (by kernel_rfl) (by kernel_rfl) rfl rfl rfl (fun _ => Ev.fld rfl rfl fld_48_0) ?_
              refine AG.takeW 4 rfl (by kernel_rfl) (by kernel_rfl) rfl rfl rfl (fun _ => Ev.move rfl rfl) ?_
              refine AG.takeW 5 rfl (by kernel_rfl) (by kernel_rfl) rfl rfl rfl (fun _ => Ev.move rfl rfl) ?_
              refine AG.idxO _ 6 rfl (by kernel_rfl) (by kernel_rfl) rfl rfl rfl rfl rfl rfl Try.underlying24 sz_48 Br.c_len ((Own.ext hus hE222)) (hb) (fun g226 hg226 hBg226 hp225b hp225 => ?_)
              refine AG.takeW 7 rfl (by kernel_rfl) (by kernel_rfl) rfl rfl rfl (fun _ => Ev.fld rfl rfl fld_48_1) ?_
              refine AG.takeW 8 rfl (by kernel_rfl) (by kernel_rfl) rfl rfl rfl (fun _ => Ev.move rfl rfl) ?_
              refine AG.takeW 9 rfl (by kernel_rfl) (by kernel_rfl) rfl rfl rfl (fun _ => Ev.move rfl rfl) ?_
              refine AG.idxO _ 10 rfl (by kernel_rfl) (by kernel_rfl) rfl rfl rfl rfl rfl rfl Try.underlying24 sz_48 Br.c_len ((Own.ext hus hE222)) (hb) (fun g228 hg228 hBg228 hp227b hp227 => ?_)
              refine AG.takeW 11 rfl (by kernel_rfl) (by kernel_rfl) rfl rfl rfl (fun _ => Ev.fld rfl rfl fld_48_2) ?_
              refine AG.takeW 13 rfl (by kernel_rfl) (by kernel_rfl) rfl rfl rfl (fun _ => Ev.move rfl rfl) ?_
              refine AG.takeW 14 rfl (by kernel_rfl) (by kernel_rfl) rfl rfl rfl (fun _ => (Ev.quoI rfl rfl rfl (by omega)).conv (congrArg (Value.int .i64) (show ((3 : Nat) : Int) / 2 = ((1 : Nat) : Int) from by decide))) ?_
              refine AG.only 12 rfl (by kernel_rfl) ?_
              refine RG.buildD (xs := [.tmp 113, .tmp 117, .tmp 121]) rfl rfl rfl rfl rfl rfl rfl Try.underlying59 inf_58 rfl rfl rfl rfl (fun gQ w230 egQ hx230 hb230 => ?_)
              have hsb231 := fun e => sep_new (g := gQ) (Own.ext hbs hE75) egQ e
              have hsb232 := fun e => sep_new (g := gQ) (Own.ext hown77 hE222) egQ e
              have hsb233 := fun e => sep_new (g := gQ) (Own.ext hus hE222) egQ e
              have hle234 : wl60.heap.size ≤ gQ := by have := hE75.size; omega
              have hle235 : wa76.heap.size ≤ gQ := by have := hE222.size; omega
              have hle236 : wd221.heap.size ≤ gQ := by have := (Ex.rfl_ wd221).size; omega
              have hlt237 : g1 < gQ := by have := Blk.lt (hb1.ext hE75); omega
              have hlt238 : gS < gQ := by have := Blk.lt (hb6.ext hE75); omega
              replace hE75 := Ex.tr hE75 hx230
              replace hE222 := Ex.tr hE222 hx230
              have hE239 := hx230
              refine RG.done ?_
              refine QW.an (fun _ => hE239) ?_
              refine AG.takeW 15 rfl (by kernel_rfl) (by kernel_rfl) rfl rfl rfl (fun _ => Ev.idxN rfl rfl rfl Try.underlying59 sz_58 (by omega)) ?_
              refine AG.take 16 rfl (by kernel_rfl) (by kernel_rfl) rfl rfl rfl (fun wq hq => Ev.ldAt rfl rfl Try.underlying58 rfl ((hb230.ext hq).cells) (rfl)) ?_
              have hpc := Own.cells (Own.ext hus hE222) Br.c_len hg226 hb
              have hpcb : (((⟨g226, 0, none⟩ : Addr).add (i * 3)).block < w230.heap.size) := by rw [block_of_add]; exact Own.lt (Own.ext hus hE222) hg226
              refine AG.takeW 17 rfl (by kernel_rfl) (by kernel_rfl) rfl rfl rfl (fun _ => Ev.assign rfl rfl) ?_
              refine AG.done (by kernel_rfl) ?_
              refine QW.sub (S' := [(7, _), (8, _), (9, _), (13, _), (16, _), (17, _), (18, _), (19, _), (100, _), (101, _), (104, _)]) ⟨rfl, rfl, rfl, rfl, rfl, rfl, rfl, rfl, rfl, rfl, rfl, trivial⟩ ?_
              refine QW.then_ ?_
              refine CW.seq ?_
              refine CW.draw [15] (.ex) 16 rfl mixed (fun wd240 hxwd240 => ?_)
              replace hE75 := Ex.tr hE75 hxwd240
              replace hE222 := Ex.tr hE222 hxwd240
              replace hE239 := Ex.tr hE239 hxwd240
              have hE241 := hxwd240
              refine AG.takeW 0 rfl (by kernel_rfl) (by kernel_rfl) rfl rfl rfl (fun _ => Ev.move rfl rfl) ?_
              refine AG.takeW 1 rfl (by kernel_rfl) (by kernel_rfl) rfl rfl rfl (fun _ => Ev.nilC rfl rfl) ?_
              refine AG.take 2 rfl (by kernel_rfl) (by kernel_rfl) rfl rfl rfl (fun wq hq => Ev.ldAt rfl rfl Try.underlying3 rfl ((hpc.ext hE241 hpcb).ext hq (Nat.lt_of_lt_of_le hpcb hE241.size)) (rfl)) ?_
              refine AG.takeW 3 rfl (by kernel_rfl) (by kernel_rfl) rfl rfl rfl (fun _ => Ev.move rfl rfl) ?_
              refine AG.takeW 4 rfl (by kernel_rfl) (by kernel_rfl) rfl rfl rfl (fun _ => Ev.addI rfl rfl rfl (by omega)) ?_
              refine AG.takeW 5 rfl (by kernel_rfl) (by kernel_rfl) rfl rfl rfl (fun _ => Ev.move rfl rfl) ?_
              refine AG.takeW 6 rfl (by kernel_rfl) (by kernel_rfl) rfl rfl rfl (fun _ => Ev.negI rfl rfl (by omega)) ?_
              refine AG.takeW 7 rfl (by kernel_rfl) (by kernel_rfl) rfl rfl rfl (fun _ => Ev.subI rfl rfl rfl (by omega)) ?_
              refine AG.takeW 9 rfl (by kernel_rfl) (by kernel_rfl) rfl rfl rfl (fun _ => Ev.move rfl rfl) ?_
              refine AG.takeW 10 rfl (by kernel_rfl) (by kernel_rfl) rfl rfl rfl (fun _ => (Ev.remI rfl rfl rfl (by omega)).conv (congrArg (Value.int .i64) (show ((3 : Nat) : Int) % 2 = ((1 : Nat) : Int) from by decide))) ?_
              refine AG.only 8 rfl (by kernel_rfl) ?_
              refine RG.buildD (xs := [.tmp 131, .tmp 134]) rfl rfl rfl rfl rfl rfl rfl Try.underlying64 inf_3 rfl rfl rfl rfl (fun gR w243 egR hx243 hb243 => ?_)
              have hsb244 := fun e => sep_new (g := gR) (Own.ext hbs hE75) egR e
              have hsb245 := fun e => sep_new (g := gR) (Own.ext hown77 hE222) egR e
              have hsb246 := fun e => sep_new (g := gR) (Own.ext hus hE222) egR e
              have hle247 : wl60.heap.size ≤ gR := by have := hE75.size; omega
              have hle248 : wa76.heap.size ≤ gR := by have := hE222.size; omega
              have hle249 : wd221.heap.size ≤ gR := by have := hE239.size; omega
              have hle250 : w230.heap.size ≤ gR := by have := hE241.size; omega
              have hle251 : wd240.heap.size ≤ gR := by have := (Ex.rfl_ wd240).size; omega
              have hlt252 : g1 < gR := by have := Blk.lt (hb1.ext hE75); omega
              have hlt253 : gS < gR := by have := Blk.lt (hb6.ext hE75); omega
              have hlt254 : gQ < gR := by have := Blk.lt (hb230.ext hE241); omega
              replace hE75 := Ex.tr hE75 hx243
              replace hE222 := Ex.tr hE222 hx243
              replace hE239 := Ex.tr hE239 hx243
              replace hE241 := Ex.tr hE241 hx243
              have hE255 := hx243
              refine RG.done ?_
              refine QW.an (fun _ => hE255) ?_
              refine AG.takeW 11 rfl (by kernel_rfl) (by kernel_rfl) rfl rfl rfl (fun _ => Ev.idxN rfl rfl rfl Try.underlying64 sz_3 (by omega)) ?_
              refine AG.take 12 rfl (by kernel_rfl) (by kernel_rfl) rfl rfl rfl (fun wq hq => Ev.ldAt rfl rfl Try.underlying3 rfl ((hb243.ext hq).cells) (rfl)) ?_
              refine AG.takeW 13 rfl (by kernel_rfl) (by kernel_rfl) rfl rfl rfl (fun _ => Ev.addI rfl rfl rfl (by omega)) ?_
              refine AG.takeW 14 rfl (by kernel_rfl) (by kernel_rfl) rfl rfl rfl (fun _ => Ev.nilC rfl rfl) ?_
              refine AG.only 15 rfl (by kernel_rfl) ?_
              refine RG.stOw (g := g226) ((⟨b.po, b.up + (-marginOf s L - 1), b.dn⟩ : Br)) rfl rfl rfl rfl rfl sz_3 rfl (fun _ => rfl) (Own.ext hus hE222) hg226 (hb) rfl (rfl) (fun ws257 hwws257 hown258 => ?_)
              replace hb230 := Blk.far (hb230.ext hE241) hwws257 (fun e => hsb233 (by rw [e]; exact hg226))
              replace hb243 := Blk.far hb243 hwws257 (fun e => hsb246 (by rw [e]; exact hg226))
              replace hE75 := Wr.below hE75 hwws257 hBg226
              have hpc := Own.cells hown258 Br.c_len hg226 (show (L.set i (⟨b.po, b.up + (-marginOf s L - 1), b.dn⟩ : Br))[i]? = some (⟨b.po, b.up + (-marginOf s L - 1), b.dn⟩ : Br) from by rw [List.getElem?_set_self (by omega)])
              have hpcb : (((⟨g226, 0, none⟩ : Addr).add (i * 3)).block < ws257.heap.size) := by rw [block_of_add]; exact Own.lt hown258 hg226
              refine RG.done ?_
              refine QW.an (fun h => by simp at h) ?_
              refine AG.done (by kernel_rfl) ?_
              refine QW.sub (S' := [(7, _), (8, _), (9, _), (13, _), (16, _), (18, _), (19, _), (100, _), (101, _), (104, _)]) ⟨rfl, rfl, rfl, rfl, rfl, rfl, rfl, rfl, rfl, rfl, trivial⟩ ?_
              refine QW.then_ ?_
              refine CW.seq ?_
              refine CW.seq ?_
              refine CW.region ?_
              refine RG.vl rfl rfl rfl (Ev.move rfl rfl) ?_
              refine RG.vl rfl rfl rfl (Ev.nilC rfl rfl) ?_
              refine RG.vl rfl rfl rfl (Ev.ldAt rfl rfl Try.underlying3 rfl (hpc) (rfl)) ?_
              refine RG.vl rfl rfl rfl (Ev.lss rfl rfl rfl) ?_
              refine RG.done ?_
              refine QW.then_ ?_
              refine CW.condP rfl (fun hc259 => ?_) (fun hc259 => ?_)
              · refine CW.exit ?_
                refine QW.thenExit ?_
                refine QW.blockHit ?_
                refine QW.then_ ?_
                refine CW.region ?_
                refine RG.vl rfl rfl rfl (Ev.addI rfl rfl rfl (by omega)) ?_
                refine RG.vl rfl rfl rfl (Ev.move rfl rfl) ?_
                refine RG.done ?_
                refine QW.round1 (3 + 1) ⟨rfl, trivial⟩ ⟨rfl, rfl, rfl, rfl, rfl, rfl, rfl, trivial⟩ ⟨⟨by omega, dul_step hdk (show Dul s L i b 3 from .inl (show b.up + (-marginOf s L - 1) < 0 from by omega))⟩, (Ex.tr hR73 hE75)⟩ (by omega)
              · refine CW.skip ?_
                refine QW.then_ ?_
                refine CW.seq ?_
                refine CW.region ?_
                refine RG.vl rfl rfl rfl (Ev.ldAgg rfl rfl Try.underlying23 rfl sz_23 rfl ((hb6.ext hE75).cells)) ?_
                refine RG.vl rfl rfl rfl (Ev.move rfl rfl) ?_
                refine RG.call rfl rfl rfl rfl rfl rfl rfl en_10 (read_ret s _ (L.set i (⟨b.po, b.up + (-marginOf s L - 1), b.dn⟩ : Br)) _ ((hown258.rdl Br.c_len)) (by rw [List.length_set]; omega)) ?_
                rintro _ w260 ⟨rfl, hx260⟩
                replace hE75 := Ex.tr hE75 hx260
                have hE261 := hx260
                refine RG.vl rfl rfl rfl (Ev.move rfl rfl) ?_
                refine RG.vl rfl rfl rfl (Ev.extract rfl rfl rfl) ?_
                refine RG.vl rfl rfl rfl (Ev.extract rfl rfl rfl) ?_
                refine RG.vl rfl rfl rfl (Ev.assign rfl rfl) ?_
                refine RG.vl rfl rfl rfl (Ev.assign rfl rfl) ?_
                refine RG.done ?_
                refine QW.then_ ?_
                refine CW.seq ?_
                refine CW.region ?_
                refine RG.vl rfl rfl rfl (Ev.move rfl rfl) ?_
                refine RG.vl rfl rfl rfl (Ev.neI rfl rfl rfl) ?_
                refine RG.vl rfl rfl rfl (Ev.move rfl rfl) ?_
                refine RG.split (d := 154) rfl (fun hg262 => ?_) (fun hg262 => ?_)
                · refine RG.pass rfl rfl rfl ?_
                  refine RG.pass rfl rfl rfl ?_
                  refine RG.pass rfl rfl rfl ?_
                  refine RG.vl rfl rfl rfl (Ev.pickT rfl rfl rfl) ?_
                  refine RG.done ?_
                  refine QW.sub (S' := [(7, _), (8, _), (9, _), (13, _), (16, _), (100, _), (101, _), (104, _), (158, _)]) ⟨rfl, rfl, rfl, rfl, rfl, rfl, rfl, rfl, rfl, trivial⟩ ?_
                  refine QW.then_ ?_
                  refine CW.condT rfl ?_
                  refine CW.seq ?_
                  refine CW.region ?_
                  refine RG.call rfl rfl rfl rfl rfl rfl rfl en_9 (awake_ret _) ?_
                  rintro _ w263 ⟨rfl, hx263⟩
                  replace hE75 := Ex.tr hE75 hx263
                  replace hE261 := Ex.tr hE261 hx263
                  have hE264 := hx263
                  refine RG.vl rfl rfl rfl (Ev.assign rfl rfl) ?_
                  refine RG.done ?_
                  refine QW.then_ ?_
                  refine CW.ret ?_
                  refine QW.blockR ?_
                  refine QW.thenRet ?_
                  refine QW.thenRet ?_
                  refine QW.blockR ?_
                  refine QW.blockR ?_
                  refine QW.thenRet ?_
                  refine QW.thenRet ?_
                  refine QW.blockR ?_
                  refine QW.thenRet ?_
                  refine QW.ret1 rfl rfl ?_
                  have hB := (Ex.tr hR65 hE75)
                  exact ⟨rfl, hB⟩
                · refine RG.vl rfl rfl rfl (Ev.move rfl rfl) ?_
                  refine RG.vl rfl rfl rfl (Ev.move rfl rfl) ?_
                  refine RG.vl rfl rfl rfl (Ev.neS rfl rfl rfl) ?_
                  refine RG.vl rfl rfl rfl (Ev.pickF rfl rfl rfl) ?_
                  refine RG.done ?_
                  refine QW.sub (S' := [(7, _), (8, _), (9, _), (13, _), (16, _), (100, _), (101, _), (104, _), (158, _)]) ⟨rfl, rfl, rfl, rfl, rfl, rfl, rfl, rfl, rfl, trivial⟩ ?_
                  refine QW.then_ ?_
                  refine CW.condP rfl (fun hc265 => ?_) (fun hc265 => ?_)
                  · refine CW.seq ?_
                    refine CW.region ?_
                    refine RG.call rfl rfl rfl rfl rfl rfl rfl en_9 (awake_ret _) ?_
                    rintro _ w266 ⟨rfl, hx266⟩
                    replace hE75 := Ex.tr hE75 hx266
                    replace hE261 := Ex.tr hE261 hx266
                    have hE267 := hx266
                    refine RG.vl rfl rfl rfl (Ev.assign rfl rfl) ?_
                    refine RG.done ?_
                    refine QW.then_ ?_
                    refine CW.ret ?_
                    refine QW.blockR ?_
                    refine QW.thenRet ?_
                    refine QW.thenRet ?_
                    refine QW.blockR ?_
                    refine QW.blockR ?_
                    refine QW.thenRet ?_
                    refine QW.thenRet ?_
                    refine QW.blockR ?_
                    refine QW.thenRet ?_
                    refine QW.ret1 rfl rfl ?_
                    have hB := (Ex.tr hR65 hE75)
                    exact ⟨rfl, hB⟩
                  · refine CW.skip ?_
                    refine QW.blockN ?_
                    refine QW.then_ ?_
                    refine CW.region ?_
                    refine RG.vl rfl rfl rfl (Ev.addI rfl rfl rfl (by omega)) ?_
                    refine RG.vl rfl rfl rfl (Ev.move rfl rfl) ?_
                    refine RG.done ?_
                    refine QW.round1 (3 + 1) ⟨rfl, trivial⟩ ⟨rfl, rfl, rfl, rfl, rfl, rfl, rfl, trivial⟩ ⟨⟨by omega, dul_step hdk (show Dul s L i b 3 from .inr ⟨show errOf s (L.set i (⟨b.po, b.up + (-marginOf s L - 1), b.dn⟩ : Br)) = 0 from by omega, bytes_inj (Decidable.not_not.1 (by assumption))⟩)⟩, (Ex.tr hR73 hE75)⟩ (by omega)
            · refine CW.draw [] (.ex) 18 rfl mixed (fun wd268 hxwd268 => ?_)
              replace hE75 := Ex.tr hE75 hxwd268
              have hE269 := hxwd268
              refine AG.takeW 0 rfl (by kernel_rfl) (by kernel_rfl) rfl rfl rfl (fun _ => Ev.move rfl rfl) ?_
              refine AG.takeW 1 rfl (by kernel_rfl) (by kernel_rfl) rfl rfl rfl (fun _ => Ev.move rfl rfl) ?_
              refine AG.idxO _ 2 rfl (by kernel_rfl) (by kernel_rfl) rfl rfl rfl rfl rfl rfl Try.underlying24 sz_48 Br.c_len ((Own.ext hus hE269)) (hb) (fun g271 hg271 hBg271 hp270b hp270 => ?_)
              refine AG.takeW 3 rfl (by kernel_rfl) (by kernel_rfl) rfl rfl rfl (fun _ => Ev.fld rfl rfl fld_48_0) ?_
              refine AG.takeW 4 rfl (by kernel_rfl) (by kernel_rfl) rfl rfl rfl (fun _ => Ev.move rfl rfl) ?_
              refine AG.takeW 5 rfl (by kernel_rfl) (by kernel_rfl) rfl rfl rfl (fun _ => Ev.move rfl rfl) ?_
              refine AG.idxO _ 6 rfl (by kernel_rfl) (by kernel_rfl) rfl rfl rfl rfl rfl rfl Try.underlying24 sz_48 Br.c_len ((Own.ext hus hE269)) (hb) (fun g273 hg273 hBg273 hp272b hp272 => ?_)
              refine AG.takeW 7 rfl (by kernel_rfl) (by kernel_rfl) rfl rfl rfl (fun _ => Ev.fld rfl rfl fld_48_1) ?_
              refine AG.takeW 8 rfl (by kernel_rfl) (by kernel_rfl) rfl rfl rfl (fun _ => Ev.move rfl rfl) ?_
              refine AG.takeW 9 rfl (by kernel_rfl) (by kernel_rfl) rfl rfl rfl (fun _ => Ev.move rfl rfl) ?_
              refine AG.idxO _ 10 rfl (by kernel_rfl) (by kernel_rfl) rfl rfl rfl rfl rfl rfl Try.underlying24 sz_48 Br.c_len ((Own.ext hus hE269)) (hb) (fun g275 hg275 hBg275 hp274b hp274 => ?_)
              refine AG.takeW 11 rfl (by kernel_rfl) (by kernel_rfl) rfl rfl rfl (fun _ => Ev.fld rfl rfl fld_48_2) ?_
              refine AG.takeW 13 rfl (by kernel_rfl) (by kernel_rfl) rfl rfl rfl (fun _ => Ev.move rfl rfl) ?_
              refine AG.takeW 14 rfl (by kernel_rfl) (by kernel_rfl) rfl rfl rfl (fun _ => (Ev.quoI rfl rfl rfl (by omega)).conv (congrArg (Value.int .i64) (show ((4 : Nat) : Int) / 2 = ((2 : Nat) : Int) from by decide))) ?_
              refine AG.only 12 rfl (by kernel_rfl) ?_
              refine RG.buildD (xs := [.tmp 113, .tmp 117, .tmp 121]) rfl rfl rfl rfl rfl rfl rfl Try.underlying59 inf_58 rfl rfl rfl rfl (fun gQ w277 egQ hx277 hb277 => ?_)
              have hsb278 := fun e => sep_new (g := gQ) (Own.ext hbs hE75) egQ e
              have hsb279 := fun e => sep_new (g := gQ) (Own.ext hown77 hE269) egQ e
              have hsb280 := fun e => sep_new (g := gQ) (Own.ext hus hE269) egQ e
              have hle281 : wl60.heap.size ≤ gQ := by have := hE75.size; omega
              have hle282 : wa76.heap.size ≤ gQ := by have := hE269.size; omega
              have hle283 : wd268.heap.size ≤ gQ := by have := (Ex.rfl_ wd268).size; omega
              have hlt284 : g1 < gQ := by have := Blk.lt (hb1.ext hE75); omega
              have hlt285 : gS < gQ := by have := Blk.lt (hb6.ext hE75); omega
              replace hE75 := Ex.tr hE75 hx277
              replace hE269 := Ex.tr hE269 hx277
              have hE286 := hx277
              refine RG.done ?_
              refine QW.an (fun _ => hE286) ?_
              refine AG.takeW 15 rfl (by kernel_rfl) (by kernel_rfl) rfl rfl rfl (fun _ => Ev.idxN rfl rfl rfl Try.underlying59 sz_58 (by omega)) ?_
              refine AG.take 16 rfl (by kernel_rfl) (by kernel_rfl) rfl rfl rfl (fun wq hq => Ev.ldAt rfl rfl Try.underlying58 rfl ((hb277.ext hq).cells) (rfl)) ?_
              have hpc := Own.cells (Own.ext hus hE269) Br.c_len hg275 hb
              have hpcb : (((⟨g275, 0, none⟩ : Addr).add (i * 3)).block < w277.heap.size) := by rw [block_of_add]; exact Own.lt (Own.ext hus hE269) hg275
              refine AG.takeW 17 rfl (by kernel_rfl) (by kernel_rfl) rfl rfl rfl (fun _ => Ev.assign rfl rfl) ?_
              refine AG.done (by kernel_rfl) ?_
              refine QW.sub (S' := [(7, _), (8, _), (9, _), (13, _), (16, _), (17, _), (18, _), (19, _), (100, _), (101, _), (104, _)]) ⟨rfl, rfl, rfl, rfl, rfl, rfl, rfl, rfl, rfl, rfl, rfl, trivial⟩ ?_
              refine QW.then_ ?_
              refine CW.seq ?_
              refine CW.draw [15] (.ex) 16 rfl mixed (fun wd287 hxwd287 => ?_)
              replace hE75 := Ex.tr hE75 hxwd287
              replace hE269 := Ex.tr hE269 hxwd287
              replace hE286 := Ex.tr hE286 hxwd287
              have hE288 := hxwd287
              refine AG.takeW 0 rfl (by kernel_rfl) (by kernel_rfl) rfl rfl rfl (fun _ => Ev.move rfl rfl) ?_
              refine AG.takeW 1 rfl (by kernel_rfl) (by kernel_rfl) rfl rfl rfl (fun _ => Ev.nilC rfl rfl) ?_
              refine AG.take 2 rfl (by kernel_rfl) (by kernel_rfl) rfl rfl rfl (fun wq hq => Ev.ldAt rfl rfl Try.underlying3 rfl ((hpc.ext hE288 hpcb).ext hq (Nat.lt_of_lt_of_le hpcb hE288.size)) (rfl)) ?_
              refine AG.takeW 3 rfl (by kernel_rfl) (by kernel_rfl) rfl rfl rfl (fun _ => Ev.move rfl rfl) ?_
              refine AG.takeW 4 rfl (by kernel_rfl) (by kernel_rfl) rfl rfl rfl (fun _ => Ev.addI rfl rfl rfl (by omega)) ?_
              refine AG.takeW 5 rfl (by kernel_rfl) (by kernel_rfl) rfl rfl rfl (fun _ => Ev.move rfl rfl) ?_
              refine AG.takeW 6 rfl (by kernel_rfl) (by kernel_rfl) rfl rfl rfl (fun _ => Ev.negI rfl rfl (by omega)) ?_
              refine AG.takeW 7 rfl (by kernel_rfl) (by kernel_rfl) rfl rfl rfl (fun _ => Ev.subI rfl rfl rfl (by omega)) ?_
              refine AG.takeW 9 rfl (by kernel_rfl) (by kernel_rfl) rfl rfl rfl (fun _ => Ev.move rfl rfl) ?_
              refine AG.takeW 10 rfl (by kernel_rfl) (by kernel_rfl) rfl rfl rfl (fun _ => (Ev.remI rfl rfl rfl (by omega)).conv (congrArg (Value.int .i64) (show ((4 : Nat) : Int) % 2 = ((0 : Nat) : Int) from by decide))) ?_
              refine AG.only 8 rfl (by kernel_rfl) ?_
              refine RG.buildD (xs := [.tmp 131, .tmp 134]) rfl rfl rfl rfl rfl rfl rfl Try.underlying64 inf_3 rfl rfl rfl rfl (fun gR w290 egR hx290 hb290 => ?_)
              have hsb291 := fun e => sep_new (g := gR) (Own.ext hbs hE75) egR e
              have hsb292 := fun e => sep_new (g := gR) (Own.ext hown77 hE269) egR e
              have hsb293 := fun e => sep_new (g := gR) (Own.ext hus hE269) egR e
              have hle294 : wl60.heap.size ≤ gR := by have := hE75.size; omega
              have hle295 : wa76.heap.size ≤ gR := by have := hE269.size; omega
              have hle296 : wd268.heap.size ≤ gR := by have := hE286.size; omega
              have hle297 : w277.heap.size ≤ gR := by have := hE288.size; omega
              have hle298 : wd287.heap.size ≤ gR := by have := (Ex.rfl_ wd287).size; omega
              have hlt299 : g1 < gR := by have := Blk.lt (hb1.ext hE75); omega
              have hlt300 : gS < gR := by have := Blk.lt (hb6.ext hE75); omega
              have hlt301 : gQ < gR := by have := Blk.lt (hb277.ext hE288); omega
              replace hE75 := Ex.tr hE75 hx290
              replace hE269 := Ex.tr hE269 hx290
              replace hE286 := Ex.tr hE286 hx290
              replace hE288 := Ex.tr hE288 hx290
              have hE302 := hx290
              refine RG.done ?_
              refine QW.an (fun _ => hE302) ?_
              refine AG.takeW 11 rfl (by kernel_rfl) (by kernel_rfl) rfl rfl rfl (fun _ => Ev.idxN rfl rfl rfl Try.underlying64 sz_3 (by omega)) ?_
              refine AG.take 12 rfl (by kernel_rfl) (by kernel_rfl) rfl rfl rfl (fun wq hq => Ev.ldAt rfl rfl Try.underlying3 rfl ((hb290.ext hq).cells) (rfl)) ?_
              refine AG.takeW 13 rfl (by kernel_rfl) (by kernel_rfl) rfl rfl rfl (fun _ => Ev.addI rfl rfl rfl (by omega)) ?_
              refine AG.takeW 14 rfl (by kernel_rfl) (by kernel_rfl) rfl rfl rfl (fun _ => Ev.nilC rfl rfl) ?_
              refine AG.only 15 rfl (by kernel_rfl) ?_
              refine RG.stOw (g := g275) ((⟨b.po, b.up, b.dn + (marginOf s L + 1)⟩ : Br)) rfl rfl rfl rfl rfl sz_3 rfl (fun _ => rfl) (Own.ext hus hE269) hg275 (hb) rfl (rfl) (fun ws304 hwws304 hown305 => ?_)
              replace hb277 := Blk.far (hb277.ext hE288) hwws304 (fun e => hsb280 (by rw [e]; exact hg275))
              replace hb290 := Blk.far hb290 hwws304 (fun e => hsb293 (by rw [e]; exact hg275))
              replace hE75 := Wr.below hE75 hwws304 hBg275
              have hpc := Own.cells hown305 Br.c_len hg275 (show (L.set i (⟨b.po, b.up, b.dn + (marginOf s L + 1)⟩ : Br))[i]? = some (⟨b.po, b.up, b.dn + (marginOf s L + 1)⟩ : Br) from by rw [List.getElem?_set_self (by omega)])
              have hpcb : (((⟨g275, 0, none⟩ : Addr).add (i * 3)).block < ws304.heap.size) := by rw [block_of_add]; exact Own.lt hown305 hg275
              refine RG.done ?_
              refine QW.an (fun h => by simp at h) ?_
              refine AG.done (by kernel_rfl) ?_
              refine QW.sub (S' := [(7, _), (8, _), (9, _), (13, _), (16, _), (18, _), (19, _), (100, _), (101, _), (104, _)]) ⟨rfl, rfl, rfl, rfl, rfl, rfl, rfl, rfl, rfl, rfl, trivial⟩ ?_
              refine QW.then_ ?_
              refine CW.seq ?_
              refine CW.seq ?_
              refine CW.region ?_
              refine RG.vl rfl rfl rfl (Ev.move rfl rfl) ?_
              refine RG.vl rfl rfl rfl (Ev.nilC rfl rfl) ?_
              refine RG.vl rfl rfl rfl (Ev.ldAt rfl rfl Try.underlying3 rfl (hpc) (rfl)) ?_
              refine RG.vl rfl rfl rfl (Ev.lss rfl rfl rfl) ?_
              refine RG.done ?_
              refine QW.then_ ?_
              refine CW.condP rfl (fun hc306 => ?_) (fun hc306 => ?_)
              · refine CW.exit ?_
                refine QW.thenExit ?_
                refine QW.blockHit ?_
                refine QW.then_ ?_
                refine CW.region ?_
                refine RG.vl rfl rfl rfl (Ev.addI rfl rfl rfl (by omega)) ?_
                refine RG.vl rfl rfl rfl (Ev.move rfl rfl) ?_
                refine RG.done ?_
                refine QW.round1 (4 + 1) ⟨rfl, trivial⟩ ⟨rfl, rfl, rfl, rfl, rfl, rfl, rfl, trivial⟩ ⟨⟨by omega, dul_step hdk (show Dul s L i b 4 from .inl (show b.dn + (marginOf s L + 1) < 0 from by omega))⟩, (Ex.tr hR73 hE75)⟩ (by omega)
              · refine CW.skip ?_
                refine QW.then_ ?_
                refine CW.seq ?_
                refine CW.region ?_
                refine RG.vl rfl rfl rfl (Ev.ldAgg rfl rfl Try.underlying23 rfl sz_23 rfl ((hb6.ext hE75).cells)) ?_
                refine RG.vl rfl rfl rfl (Ev.move rfl rfl) ?_
                refine RG.call rfl rfl rfl rfl rfl rfl rfl en_10 (read_ret s _ (L.set i (⟨b.po, b.up, b.dn + (marginOf s L + 1)⟩ : Br)) _ ((hown305.rdl Br.c_len)) (by rw [List.length_set]; omega)) ?_
                rintro _ w307 ⟨rfl, hx307⟩
                replace hE75 := Ex.tr hE75 hx307
                have hE308 := hx307
                refine RG.vl rfl rfl rfl (Ev.move rfl rfl) ?_
                refine RG.vl rfl rfl rfl (Ev.extract rfl rfl rfl) ?_
                refine RG.vl rfl rfl rfl (Ev.extract rfl rfl rfl) ?_
                refine RG.vl rfl rfl rfl (Ev.assign rfl rfl) ?_
                refine RG.vl rfl rfl rfl (Ev.assign rfl rfl) ?_
                refine RG.done ?_
                refine QW.then_ ?_
                refine CW.seq ?_
                refine CW.region ?_
                refine RG.vl rfl rfl rfl (Ev.move rfl rfl) ?_
                refine RG.vl rfl rfl rfl (Ev.neI rfl rfl rfl) ?_
                refine RG.vl rfl rfl rfl (Ev.move rfl rfl) ?_
                refine RG.split (d := 154) rfl (fun hg309 => ?_) (fun hg309 => ?_)
                · refine RG.pass rfl rfl rfl ?_
                  refine RG.pass rfl rfl rfl ?_
                  refine RG.pass rfl rfl rfl ?_
                  refine RG.vl rfl rfl rfl (Ev.pickT rfl rfl rfl) ?_
                  refine RG.done ?_
                  refine QW.sub (S' := [(7, _), (8, _), (9, _), (13, _), (16, _), (100, _), (101, _), (104, _), (158, _)]) ⟨rfl, rfl, rfl, rfl, rfl, rfl, rfl, rfl, rfl, trivial⟩ ?_
                  refine QW.then_ ?_
                  refine CW.condT rfl ?_
                  refine CW.seq ?_
                  refine CW.region ?_
                  refine RG.call rfl rfl rfl rfl rfl rfl rfl en_9 (awake_ret _) ?_
                  rintro _ w310 ⟨rfl, hx310⟩
                  replace hE75 := Ex.tr hE75 hx310
                  replace hE308 := Ex.tr hE308 hx310
                  have hE311 := hx310
                  refine RG.vl rfl rfl rfl (Ev.assign rfl rfl) ?_
                  refine RG.done ?_
                  refine QW.then_ ?_
                  refine CW.ret ?_
                  refine QW.blockR ?_
                  refine QW.thenRet ?_
                  refine QW.thenRet ?_
                  refine QW.blockR ?_
                  refine QW.blockR ?_
                  refine QW.thenRet ?_
                  refine QW.thenRet ?_
                  refine QW.blockR ?_
                  refine QW.thenRet ?_
                  refine QW.ret1 rfl rfl ?_
                  have hB := (Ex.tr hR65 hE75)
                  exact ⟨rfl, hB⟩
                · refine RG.vl rfl rfl rfl (Ev.move rfl rfl) ?_
                  refine RG.vl rfl rfl rfl (Ev.move rfl rfl) ?_
                  refine RG.vl rfl rfl rfl (Ev.neS rfl rfl rfl) ?_
                  refine RG.vl rfl rfl rfl (Ev.pickF rfl rfl rfl) ?_
                  refine RG.done ?_
                  refine QW.sub (S' := [(7, _), (8, _), (9, _), (13, _), (16, _), (100, _), (101, _), (104, _), (158, _)]) ⟨rfl, rfl, rfl, rfl, rfl, rfl, rfl, rfl, rfl, trivial⟩ ?_
                  refine QW.then_ ?_
                  refine CW.condP rfl (fun hc312 => ?_) (fun hc312 => ?_)
                  · refine CW.seq ?_
                    refine CW.region ?_
                    refine RG.call rfl rfl rfl rfl rfl rfl rfl en_9 (awake_ret _) ?_
                    rintro _ w313 ⟨rfl, hx313⟩
                    replace hE75 := Ex.tr hE75 hx313
                    replace hE308 := Ex.tr hE308 hx313
                    have hE314 := hx313
                    refine RG.vl rfl rfl rfl (Ev.assign rfl rfl) ?_
                    refine RG.done ?_
                    refine QW.then_ ?_
                    refine CW.ret ?_
                    refine QW.blockR ?_
                    refine QW.thenRet ?_
                    refine QW.thenRet ?_
                    refine QW.blockR ?_
                    refine QW.blockR ?_
                    refine QW.thenRet ?_
                    refine QW.thenRet ?_
                    refine QW.blockR ?_
                    refine QW.thenRet ?_
                    refine QW.ret1 rfl rfl ?_
                    have hB := (Ex.tr hR65 hE75)
                    exact ⟨rfl, hB⟩
                  · refine CW.skip ?_
                    refine QW.blockN ?_
                    refine QW.then_ ?_
                    refine CW.region ?_
                    refine RG.vl rfl rfl rfl (Ev.addI rfl rfl rfl (by omega)) ?_
                    refine RG.vl rfl rfl rfl (Ev.move rfl rfl) ?_
                    refine RG.done ?_
                    refine QW.round1 (4 + 1) ⟨rfl, trivial⟩ ⟨rfl, rfl, rfl, rfl, rfl, rfl, rfl, trivial⟩ ⟨⟨by omega, dul_step hdk (show Dul s L i b 4 from .inr ⟨show errOf s (L.set i (⟨b.po, b.up, b.dn + (marginOf s L + 1)⟩ : Br)) = 0 from by omega, bytes_inj (Decidable.not_not.1 (by assumption))⟩)⟩, (Ex.tr hR73 hE75)⟩ (by omega)
            · refine CW.draw [] (.ex) 18 rfl mixed (fun wd315 hxwd315 => ?_)
              replace hE75 := Ex.tr hE75 hxwd315
              have hE316 := hxwd315
              refine AG.takeW 0 rfl (by kernel_rfl) (by kernel_rfl) rfl rfl rfl (fun _ => Ev.move rfl rfl) ?_
              refine AG.takeW 1 rfl (by kernel_rfl) (by kernel_rfl) rfl rfl rfl (fun _ => Ev.move rfl rfl) ?_
              refine AG.idxO _ 2 rfl (by kernel_rfl) (by kernel_rfl) rfl rfl rfl rfl rfl rfl Try.underlying24 sz_48 Br.c_len ((Own.ext hus hE316)) (hb) (fun g318 hg318 hBg318 hp317b hp317 => ?_)
              refine AG.takeW 3 rfl (by kernel_rfl) (by kernel_rfl) rfl rfl rfl (fun _ => Ev.fld rfl rfl fld_48_0) ?_
              refine AG.takeW 4 rfl (by kernel_rfl) (by kernel_rfl) rfl rfl rfl (fun _ => Ev.move rfl rfl) ?_
              refine AG.takeW 5 rfl (by kernel_rfl) (by kernel_rfl) rfl rfl rfl (fun _ => Ev.move rfl rfl) ?_
              refine AG.idxO _ 6 rfl (by kernel_rfl) (by kernel_rfl) rfl rfl rfl rfl rfl rfl Try.underlying24 sz_48 Br.c_len ((Own.ext hus hE316)) (hb) (fun g320 hg320 hBg320 hp319b hp319 => ?_)
              refine AG.takeW 7 rfl (by kernel_rfl) (by kernel_rfl) rfl rfl rfl (fun _ => Ev.fld rfl rfl fld_48_1) ?_
              refine AG.takeW 8 rfl (by kernel_rfl) (by kernel_rfl) rfl rfl rfl (fun _ => Ev.move rfl rfl) ?_
              refine AG.takeW 9 rfl (by kernel_rfl) (by kernel_rfl) rfl rfl rfl (fun _ => Ev.move rfl rfl) ?_
              refine AG.idxO _ 10 rfl (by kernel_rfl) (by kernel_rfl) rfl rfl rfl rfl rfl rfl Try.underlying24 sz_48 Br.c_len ((Own.ext hus hE316)) (hb) (fun g322 hg322 hBg322 hp321b hp321 => ?_)
              refine AG.takeW 11 rfl (by kernel_rfl) (by kernel_rfl) rfl rfl rfl (fun _ => Ev.fld rfl rfl fld_48_2) ?_
              refine AG.takeW 13 rfl (by kernel_rfl) (by kernel_rfl) rfl rfl rfl (fun _ => Ev.move rfl rfl) ?_
              refine AG.takeW 14 rfl (by kernel_rfl) (by kernel_rfl) rfl rfl rfl (fun _ => (Ev.quoI rfl rfl rfl (by omega)).conv (congrArg (Value.int .i64) (show ((5 : Nat) : Int) / 2 = ((2 : Nat) : Int) from by decide))) ?_
              refine AG.only 12 rfl (by kernel_rfl) ?_
              refine RG.buildD (xs := [.tmp 113, .tmp 117, .tmp 121]) rfl rfl rfl rfl rfl rfl rfl Try.underlying59 inf_58 rfl rfl rfl rfl (fun gQ w324 egQ hx324 hb324 => ?_)
              have hsb325 := fun e => sep_new (g := gQ) (Own.ext hbs hE75) egQ e
              have hsb326 := fun e => sep_new (g := gQ) (Own.ext hown77 hE316) egQ e
              have hsb327 := fun e => sep_new (g := gQ) (Own.ext hus hE316) egQ e
              have hle328 : wl60.heap.size ≤ gQ := by have := hE75.size; omega
              have hle329 : wa76.heap.size ≤ gQ := by have := hE316.size; omega
              have hle330 : wd315.heap.size ≤ gQ := by have := (Ex.rfl_ wd315).size; omega
              have hlt331 : g1 < gQ := by have := Blk.lt (hb1.ext hE75); omega
              have hlt332 : gS < gQ := by have := Blk.lt (hb6.ext hE75); omega
              replace hE75 := Ex.tr hE75 hx324
              replace hE316 := Ex.tr hE316 hx324
              have hE333 := hx324
              refine RG.done ?_
              refine QW.an (fun _ => hE333) ?_
              refine AG.takeW 15 rfl (by kernel_rfl) (by kernel_rfl) rfl rfl rfl (fun _ => Ev.idxN rfl rfl rfl Try.underlying59 sz_58 (by omega)) ?_
              refine AG.take 16 rfl (by kernel_rfl) (by kernel_rfl) rfl rfl rfl (fun wq hq => Ev.ldAt rfl rfl Try.underlying58 rfl ((hb324.ext hq).cells) (rfl)) ?_
              have hpc := Own.cells (Own.ext hus hE316) Br.c_len hg322 hb
              have hpcb : (((⟨g322, 0, none⟩ : Addr).add (i * 3)).block < w324.heap.size) := by rw [block_of_add]; exact Own.lt (Own.ext hus hE316) hg322
              refine AG.takeW 17 rfl (by kernel_rfl) (by kernel_rfl) rfl rfl rfl (fun _ => Ev.assign rfl rfl) ?_
              refine AG.done (by kernel_rfl) ?_
              refine QW.sub (S' := [(7, _), (8, _), (9, _), (13, _), (16, _), (17, _), (18, _), (19, _), (100, _), (101, _), (104, _)]) ⟨rfl, rfl, rfl, rfl, rfl, rfl, rfl, rfl, rfl, rfl, rfl, trivial⟩ ?_
              refine QW.then_ ?_
              refine CW.seq ?_
              refine CW.draw [15] (.ex) 16 rfl mixed (fun wd334 hxwd334 => ?_)
              replace hE75 := Ex.tr hE75 hxwd334
              replace hE316 := Ex.tr hE316 hxwd334
              replace hE333 := Ex.tr hE333 hxwd334
              have hE335 := hxwd334
              refine AG.takeW 0 rfl (by kernel_rfl) (by kernel_rfl) rfl rfl rfl (fun _ => Ev.move rfl rfl) ?_
              refine AG.takeW 1 rfl (by kernel_rfl) (by kernel_rfl) rfl rfl rfl (fun _ => Ev.nilC rfl rfl) ?_
              refine AG.take 2 rfl (by kernel_rfl) (by kernel_rfl) rfl rfl rfl (fun wq hq => Ev.ldAt rfl rfl Try.underlying3 rfl ((hpc.ext hE335 hpcb).ext hq (Nat.lt_of_lt_of_le hpcb hE335.size)) (rfl)) ?_
              refine AG.takeW 3 rfl (by kernel_rfl) (by kernel_rfl) rfl rfl rfl (fun _ => Ev.move rfl rfl) ?_
              refine AG.takeW 4 rfl (by kernel_rfl) (by kernel_rfl) rfl rfl rfl (fun _ => Ev.addI rfl rfl rfl (by omega)) ?_
              refine AG.takeW 5 rfl (by kernel_rfl) (by kernel_rfl) rfl rfl rfl (fun _ => Ev.move rfl rfl) ?_
              refine AG.takeW 6 rfl (by kernel_rfl) (by kernel_rfl) rfl rfl rfl (fun _ => Ev.negI rfl rfl (by omega)) ?_
              refine AG.takeW 7 rfl (by kernel_rfl) (by kernel_rfl) rfl rfl rfl (fun _ => Ev.subI rfl rfl rfl (by omega)) ?_
              refine AG.takeW 9 rfl (by kernel_rfl) (by kernel_rfl) rfl rfl rfl (fun _ => Ev.move rfl rfl) ?_
              refine AG.takeW 10 rfl (by kernel_rfl) (by kernel_rfl) rfl rfl rfl (fun _ => (Ev.remI rfl rfl rfl (by omega)).conv (congrArg (Value.int .i64) (show ((5 : Nat) : Int) % 2 = ((1 : Nat) : Int) from by decide))) ?_
              refine AG.only 8 rfl (by kernel_rfl) ?_
              refine RG.buildD (xs := [.tmp 131, .tmp 134]) rfl rfl rfl rfl rfl rfl rfl Try.underlying64 inf_3 rfl rfl rfl rfl (fun gR w337 egR hx337 hb337 => ?_)
              have hsb338 := fun e => sep_new (g := gR) (Own.ext hbs hE75) egR e
              have hsb339 := fun e => sep_new (g := gR) (Own.ext hown77 hE316) egR e
              have hsb340 := fun e => sep_new (g := gR) (Own.ext hus hE316) egR e
              have hle341 : wl60.heap.size ≤ gR := by have := hE75.size; omega
              have hle342 : wa76.heap.size ≤ gR := by have := hE316.size; omega
              have hle343 : wd315.heap.size ≤ gR := by have := hE333.size; omega
              have hle344 : w324.heap.size ≤ gR := by have := hE335.size; omega
              have hle345 : wd334.heap.size ≤ gR := by have := (Ex.rfl_ wd334).size; omega
              have hlt346 : g1 < gR := by have := Blk.lt (hb1.ext hE75); omega
              have hlt347 : gS < gR := by have := Blk.lt (hb6.ext hE75); omega
              have hlt348 : gQ < gR := by have := Blk.lt (hb324.ext hE335); omega
              replace hE75 := Ex.tr hE75 hx337
              replace hE316 := Ex.tr hE316 hx337
              replace hE333 := Ex.tr hE333 hx337
              replace hE335 := Ex.tr hE335 hx337
              have hE349 := hx337
              refine RG.done ?_
              refine QW.an (fun _ => hE349) ?_
              refine AG.takeW 11 rfl (by kernel_rfl) (by kernel_rfl) rfl rfl rfl (fun _ => Ev.idxN rfl rfl rfl Try.underlying64 sz_3 (by omega)) ?_
              refine AG.take 12 rfl (by kernel_rfl) (by kernel_rfl) rfl rfl rfl (fun wq hq => Ev.ldAt rfl rfl Try.underlying3 rfl ((hb337.ext hq).cells) (rfl)) ?_
              refine AG.takeW 13 rfl (by kernel_rfl) (by kernel_rfl) rfl rfl rfl (fun _ => Ev.addI rfl rfl rfl (by omega)) ?_
              refine AG.takeW 14 rfl (by kernel_rfl) (by kernel_rfl) rfl rfl rfl (fun _ => Ev.nilC rfl rfl) ?_
              refine AG.only 15 rfl (by kernel_rfl) ?_
              refine RG.stOw (g := g322) ((⟨b.po, b.up, b.dn + (-marginOf s L - 1)⟩ : Br)) rfl rfl rfl rfl rfl sz_3 rfl (fun _ => rfl) (Own.ext hus hE316) hg322 (hb) rfl (rfl) (fun ws351 hwws351 hown352 => ?_)
              replace hb324 := Blk.far (hb324.ext hE335) hwws351 (fun e => hsb327 (by rw [e]; exact hg322))
              replace hb337 := Blk.far hb337 hwws351 (fun e => hsb340 (by rw [e]; exact hg322))
              replace hE75 := Wr.below hE75 hwws351 hBg322
              have hpc := Own.cells hown352 Br.c_len hg322 (show (L.set i (⟨b.po, b.up, b.dn + (-marginOf s L - 1)⟩ : Br))[i]? = some (⟨b.po, b.up, b.dn + (-marginOf s L - 1)⟩ : Br) from by rw [List.getElem?_set_self (by omega)])
              have hpcb : (((⟨g322, 0, none⟩ : Addr).add (i * 3)).block < ws351.heap.size) := by rw [block_of_add]; exact Own.lt hown352 hg322
              refine RG.done ?_
              refine QW.an (fun h => by simp at h) ?_
              refine AG.done (by kernel_rfl) ?_
              refine QW.sub (S' := [(7, _), (8, _), (9, _), (13, _), (16, _), (18, _), (19, _), (100, _), (101, _), (104, _)]) ⟨rfl, rfl, rfl, rfl, rfl, rfl, rfl, rfl, rfl, rfl, trivial⟩ ?_
              refine QW.then_ ?_
              refine CW.seq ?_
              refine CW.seq ?_
              refine CW.region ?_
              refine RG.vl rfl rfl rfl (Ev.move rfl rfl) ?_
              refine RG.vl rfl rfl rfl (Ev.nilC rfl rfl) ?_
              refine RG.vl rfl rfl rfl (Ev.ldAt rfl rfl Try.underlying3 rfl (hpc) (rfl)) ?_
              refine RG.vl rfl rfl rfl (Ev.lss rfl rfl rfl) ?_
              refine RG.done ?_
              refine QW.then_ ?_
              refine CW.condP rfl (fun hc353 => ?_) (fun hc353 => ?_)
              · refine CW.exit ?_
                refine QW.thenExit ?_
                refine QW.blockHit ?_
                refine QW.then_ ?_
                refine CW.region ?_
                refine RG.vl rfl rfl rfl (Ev.addI rfl rfl rfl (by omega)) ?_
                refine RG.vl rfl rfl rfl (Ev.move rfl rfl) ?_
                refine RG.done ?_
                refine QW.round1 (5 + 1) ⟨rfl, trivial⟩ ⟨rfl, rfl, rfl, rfl, rfl, rfl, rfl, trivial⟩ ⟨⟨by omega, dul_step hdk (show Dul s L i b 5 from .inl (show b.dn + (-marginOf s L - 1) < 0 from by omega))⟩, (Ex.tr hR73 hE75)⟩ (by omega)
              · refine CW.skip ?_
                refine QW.then_ ?_
                refine CW.seq ?_
                refine CW.region ?_
                refine RG.vl rfl rfl rfl (Ev.ldAgg rfl rfl Try.underlying23 rfl sz_23 rfl ((hb6.ext hE75).cells)) ?_
                refine RG.vl rfl rfl rfl (Ev.move rfl rfl) ?_
                refine RG.call rfl rfl rfl rfl rfl rfl rfl en_10 (read_ret s _ (L.set i (⟨b.po, b.up, b.dn + (-marginOf s L - 1)⟩ : Br)) _ ((hown352.rdl Br.c_len)) (by rw [List.length_set]; omega)) ?_
                rintro _ w354 ⟨rfl, hx354⟩
                replace hE75 := Ex.tr hE75 hx354
                have hE355 := hx354
                refine RG.vl rfl rfl rfl (Ev.move rfl rfl) ?_
                refine RG.vl rfl rfl rfl (Ev.extract rfl rfl rfl) ?_
                refine RG.vl rfl rfl rfl (Ev.extract rfl rfl rfl) ?_
                refine RG.vl rfl rfl rfl (Ev.assign rfl rfl) ?_
                refine RG.vl rfl rfl rfl (Ev.assign rfl rfl) ?_
                refine RG.done ?_
                refine QW.then_ ?_
                refine CW.seq ?_
                refine CW.region ?_
                refine RG.vl rfl rfl rfl (Ev.move rfl rfl) ?_
                refine RG.vl rfl rfl rfl (Ev.neI rfl rfl rfl) ?_
                refine RG.vl rfl rfl rfl (Ev.move rfl rfl) ?_
                refine RG.split (d := 154) rfl (fun hg356 => ?_) (fun hg356 => ?_)
                · refine RG.pass rfl rfl rfl ?_
                  refine RG.pass rfl rfl rfl ?_
                  refine RG.pass rfl rfl rfl ?_
                  refine RG.vl rfl rfl rfl (Ev.pickT rfl rfl rfl) ?_
                  refine RG.done ?_
                  refine QW.sub (S' := [(7, _), (8, _), (9, _), (13, _), (16, _), (100, _), (101, _), (104, _), (158, _)]) ⟨rfl, rfl, rfl, rfl, rfl, rfl, rfl, rfl, rfl, trivial⟩ ?_
                  refine QW.then_ ?_
                  refine CW.condT rfl ?_
                  refine CW.seq ?_
                  refine CW.region ?_
                  refine RG.call rfl rfl rfl rfl rfl rfl rfl en_9 (awake_ret _) ?_
                  rintro _ w357 ⟨rfl, hx357⟩
                  replace hE75 := Ex.tr hE75 hx357
                  replace hE355 := Ex.tr hE355 hx357
                  have hE358 := hx357
                  refine RG.vl rfl rfl rfl (Ev.assign rfl rfl) ?_
                  refine RG.done ?_
                  refine QW.then_ ?_
                  refine CW.ret ?_
                  refine QW.blockR ?_
                  refine QW.thenRet ?_
                  refine QW.thenRet ?_
                  refine QW.blockR ?_
                  refine QW.blockR ?_
                  refine QW.thenRet ?_
                  refine QW.thenRet ?_
                  refine QW.blockR ?_
                  refine QW.thenRet ?_
                  refine QW.ret1 rfl rfl ?_
                  have hB := (Ex.tr hR65 hE75)
                  exact ⟨rfl, hB⟩
                · refine RG.vl rfl rfl rfl (Ev.move rfl rfl) ?_
                  refine RG.vl rfl rfl rfl (Ev.move rfl rfl) ?_
                  refine RG.vl rfl rfl rfl (Ev.neS rfl rfl rfl) ?_
                  refine RG.vl rfl rfl rfl (Ev.pickF rfl rfl rfl) ?_
                  refine RG.done ?_
                  refine QW.sub (S' := [(7, _), (8, _), (9, _), (13, _), (16, _), (100, _), (101, _), (104, _), (158, _)]) ⟨rfl, rfl, rfl, rfl, rfl, rfl, rfl, rfl, rfl, trivial⟩ ?_
                  refine QW.then_ ?_
                  refine CW.condP rfl (fun hc359 => ?_) (fun hc359 => ?_)
                  · refine CW.seq ?_
                    refine CW.region ?_
                    refine RG.call rfl rfl rfl rfl rfl rfl rfl en_9 (awake_ret _) ?_
                    rintro _ w360 ⟨rfl, hx360⟩
                    replace hE75 := Ex.tr hE75 hx360
                    replace hE355 := Ex.tr hE355 hx360
                    have hE361 := hx360
                    refine RG.vl rfl rfl rfl (Ev.assign rfl rfl) ?_
                    refine RG.done ?_
                    refine QW.then_ ?_
                    refine CW.ret ?_
                    refine QW.blockR ?_
                    refine QW.thenRet ?_
                    refine QW.thenRet ?_
                    refine QW.blockR ?_
                    refine QW.blockR ?_
                    refine QW.thenRet ?_
                    refine QW.thenRet ?_
                    refine QW.blockR ?_
                    refine QW.thenRet ?_
                    refine QW.ret1 rfl rfl ?_
                    have hB := (Ex.tr hR65 hE75)
                    exact ⟨rfl, hB⟩
                  · refine CW.skip ?_
                    refine QW.blockN ?_
                    refine QW.then_ ?_
                    refine CW.region ?_
                    refine RG.vl rfl rfl rfl (Ev.addI rfl rfl rfl (by omega)) ?_
                    refine RG.vl rfl rfl rfl (Ev.move rfl rfl) ?_
                    refine RG.done ?_
                    refine QW.round1 (5 + 1) ⟨rfl, trivial⟩ ⟨rfl, rfl, rfl, rfl, rfl, rfl, rfl, trivial⟩ ⟨⟨by omega, dul_step hdk (show Dul s L i b 5 from .inr ⟨show errOf s (L.set i (⟨b.po, b.up, b.dn + (-marginOf s L - 1)⟩ : Br)) = 0 from by omega, bytes_inj (Decidable.not_not.1 (by assumption))⟩)⟩, (Ex.tr hR73 hE75)⟩ (by omega)
          · refine CW.exit ?_
            refine QW.thenExit ?_
            refine QW.thenExit ?_
            refine QW.blockHit ?_
            refine QW.blockN ?_
            refine QW.then_ ?_
            refine CW.region ?_
            refine RG.vl rfl rfl rfl (Ev.addI rfl rfl rfl (by omega)) ?_
            refine RG.vl rfl rfl rfl (Ev.move rfl rfl) ?_
            refine RG.done ?_
            refine QW.round1 (i + 1) ⟨rfl, trivial⟩ ⟨rfl, rfl, rfl, rfl, rfl, trivial⟩ ⟨⟨by omega, dul_step hdl (fun b0 h0 => by rw [hb] at h0; injection h0 with h0; subst h0; exact fun k9 h9 => hdk k9 (by omega))⟩, (Ex.tr hR59 hxwl60)⟩ (by omega)
        · refine CW.exit ?_
          refine QW.thenExit ?_
          refine QW.thenExit ?_
          refine QW.blockHit ?_
          refine QW.then_ ?_
          refine CW.seq ?_
          refine CW.region ?_
          refine RG.vl rfl rfl rfl (Ev.assign rfl rfl) ?_
          refine RG.done ?_
          refine QW.then_ ?_
          refine CW.ret ?_
          refine QW.ret1 rfl rfl ?_
          have hB := (Ex.tr hR43 hxwl50)
          exact (tight hok (by omega) heL (by omega) hmid h63 fun j hj => hdl j (by omega)).elim

end Go.Proofs.Ytnecppiamecemaa
