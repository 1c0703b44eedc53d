/- Walks (FM). Written by program. -/
import Derived.Test.YtjaledljhiihmaaT
import Derived.Test.YtjaledljhiihmaaFL
namespace Go.Proofs.Ytjaledljhiihmaa
open Go.RowKit
set_option maxRecDepth 100000 in
set_option maxHeartbeats 8000000 in
theorem fieldRoots_ret (u v : Value) (l m : List Nat) (w : World) (hl : RdL w 1 encN u l) (hb : ∀ c ∈ l, c < 256) (hm : RdL w 1 encN v m) (hb2 : ∀ c ∈ m, c < 256) :
    Ret Try.prog 7 [u, v] w (fun v w' => v = .bool true ∧ Ex w w') := by
  have hpe := elsOf_el l 40
  have hpl := elsOf_len l 40
  have hqe := elsOf_el m 40
  have hql := elsOf_len m 40
  generalize hP : elsOf l 40 = p at hpe hpl
  generalize hQ : elsOf m 40 = q at hqe hql
  have hdp := dg_len p
  have hB0 : Ex w w := Ex.rfl_ _
  refine Ret.of Try.func7 rfl Try.ntmps7 rfl ?_
  refine CW.seq ?_
  refine CW.region ?_
  refine RG.vl rfl rfl rfl (Ev.assign rfl rfl) ?_
  refine RG.done ?_
  refine QW.then_ ?_
  refine CW.seq ?_
  refine CW.region ?_
  refine RG.vl rfl rfl rfl (Ev.move rfl rfl) ?_
  refine RG.call rfl rfl rfl rfl rfl rfl rfl en_34 (elements_ret _ _ 40 _ (hl) hb (by decide)) ?_
  have hpre1 := hB0
  rintro vp w1 ⟨hp, hx1⟩
  have hE2 := hx1
  rw [hP] at hp
  refine RG.vl rfl rfl rfl (Ev.assign rfl rfl) ?_
  refine RG.done ?_
  refine QW.then_ ?_
  refine CW.seq ?_
  refine CW.region ?_
  refine RG.vl rfl rfl rfl (Ev.move rfl rfl) ?_
  refine RG.call rfl rfl rfl rfl rfl rfl rfl en_35 (Degree_el _ p _ ((hp.rdl encN_len)) (by omega) hpe) ?_
  rintro _ w3 ⟨rfl, hx3⟩
  replace hE2 := Ex.tr hE2 hx3
  have hE4 := hx3
  refine RG.vl rfl rfl rfl (Ev.move rfl rfl) ?_
  refine RG.vl rfl rfl rfl (Ev.extract rfl rfl rfl) ?_
  refine RG.vl rfl rfl rfl (Ev.extract rfl rfl rfl) ?_
  refine RG.vl rfl rfl rfl (Ev.assign rfl rfl) ?_
  refine RG.vl rfl rfl rfl (Ev.assign rfl rfl) ?_
  refine RG.done ?_
  refine QW.then_ ?_
  refine CW.seq ?_
  refine CW.seq ?_
  refine CW.region ?_
  refine RG.vl rfl rfl rfl (Ev.move rfl rfl) ?_
  refine RG.vl rfl rfl rfl (Ev.isF (Ev.neI rfl rfl rfl) (by decide)) ?_
  refine RG.done ?_
  refine QW.then_ ?_
  refine CW.condF rfl ?_
  refine CW.skip ?_
  refine QW.then_ ?_
  refine CW.seq ?_
  refine CW.seq ?_
  refine CW.region ?_
  refine RG.vl rfl rfl rfl (Ev.move rfl rfl) ?_
  refine RG.vl rfl rfl rfl (Ev.geq rfl rfl rfl) ?_
  refine RG.done ?_
  refine QW.sub (S' := [(1, _), (4, _), (5, _), (6, _), (38, _)]) ⟨rfl, rfl, rfl, rfl, rfl, trivial⟩ ?_
  refine QW.then_ ?_
  refine CW.condP rfl (fun hc5 => ?_) (fun hc5 => ?_)
  · refine CW.seq ?_
    refine CW.region ?_
    refine RG.vl rfl rfl rfl (Ev.move rfl rfl) ?_
    refine RG.call rfl rfl rfl rfl rfl rfl rfl en_24 (Roots_el _ p _ (((Own.ext hp hE4).rdl encN_len)) (by omega) hpe (by omega)) ?_
    have hpre6 := (Ex.tr hB0 hE2)
    rintro _ w6 ⟨r6, rfl, hor6, hx6⟩
    replace hE2 := Ex.tr hE2 hx6
    replace hE4 := Ex.tr hE4 hx6
    have hE7 := hx6
    refine RG.vl rfl rfl rfl (Ev.move rfl rfl) ?_
    refine RG.vl rfl rfl rfl (Ev.extract rfl rfl rfl) ?_
    refine RG.vl rfl rfl rfl (Ev.extract rfl rfl rfl) ?_
    refine RG.vl rfl rfl rfl (Ev.assign rfl rfl) ?_
    refine RG.vl rfl rfl rfl (Ev.assign rfl rfl) ?_
    refine RG.done ?_
    refine QW.then_ ?_
    refine CW.seq ?_
    refine CW.seq ?_
    have hrl := rootsOf_lt hpe (show 0 < dg p by omega)
    refine CW.region ?_
    refine RG.vl rfl rfl rfl (Ev.move rfl rfl) ?_
    refine RG.vl rfl rfl rfl (Ev.isF (Ev.neI rfl rfl rfl) (by decide)) ?_
    refine RG.vl rfl rfl rfl (Ev.move rfl rfl) ?_
    refine RG.vl rfl rfl rfl (Ev.move rfl rfl) ?_
    refine RG.vl rfl rfl rfl (Ev.lenL rfl rfl rfl Try.underlying39 ((hor6.rdl encN_len))) ?_
    refine RG.vl rfl rfl rfl (Ev.move rfl rfl) ?_
    refine RG.vl rfl rfl rfl (Ev.isF (Ev.gtr rfl rfl rfl) (by omega)) ?_
    refine RG.vl rfl rfl rfl (Ev.pickF rfl rfl rfl) ?_
    refine RG.done ?_
    refine QW.sub (S' := [(1, _), (4, _), (5, _), (8, _), (51, _)]) ⟨rfl, rfl, rfl, rfl, rfl, trivial⟩ ?_
    refine QW.then_ ?_
    refine CW.condF rfl ?_
    refine CW.skip ?_
    refine QW.then_ ?_
    refine CW.seq ?_
    refine CW.region ?_
    refine RG.vl rfl rfl rfl (Ev.move rfl rfl) ?_
    refine RG.vl rfl rfl rfl (Ev.lenL rfl rfl rfl Try.underlying39 ((hor6.rdl encN_len))) ?_
    refine RG.vl rfl rfl rfl (Ev.move rfl rfl) ?_
    refine RG.done ?_
    refine QW.then_ ?_
    refine CW.block ?_
    replace hl := (hl.ext hE2)
    replace hm := (hm.ext hE2)
    replace hp := (Own.ext hp hE4)
    have hR8 := (Ex.tr hB0 hE2)
    have hR9 := hE4
    have hR10 := hE7
    refine CW.loop1 [(1, _), (5, _), (52, _), (53, _)] ⟨rfl, rfl, rfl, rfl, trivial⟩ (fun (i : Nat) => [(54, .int .i64 i)]) (fun i w' => (i ≤ (rootsOf p).length) ∧ Ex w6 w') (fun i => (rootsOf p).length - i) (0) ⟨rfl, trivial⟩ ⟨Nat.zero_le _, (Ex.rfl_ _)⟩ ?_
    rintro i wl11 ⟨hi, hxwl11⟩
    refine CW.sub (S' := [(54, _), (1, _), (5, _), (52, _), (53, _)]) ⟨rfl, rfl, rfl, rfl, rfl, trivial⟩ ?_
    refine CW.seq ?_
    refine CW.region ?_
    refine RG.vl rfl rfl rfl (Ev.lss rfl rfl rfl) ?_
    refine RG.done ?_
    refine QW.then_ ?_
    refine CW.seq ?_
    refine CW.condP rfl (fun hc12 => ?_) (fun hc12 => ?_)
    · refine CW.skip ?_
      refine QW.then_ ?_
      refine CW.seq ?_
      refine CW.block ?_
      refine CW.seq ?_
      obtain ⟨c, hc⟩ : ∃ c, (rootsOf p)[i]? = some c := ⟨_, List.getElem?_eq_getElem (by omega)⟩
      have hc64 := rootsOf_el p c (List.mem_of_getElem? hc)
      have hc0 := rootsOf_root (List.mem_of_getElem? hc)
      refine CW.region ?_
      refine RG.idxO rfl rfl rfl rfl rfl rfl Try.underlying39 sz_5 encN_len ((Own.ext hor6 hxwl11)) (hc) (fun g14 hg14 hBg14 hp13b hp13 => ?_)
      refine RG.vl rfl rfl rfl (Ev.ld0 rfl rfl Try.underlying5 rfl (hp13) (rfl)) ?_
      refine RG.vl rfl rfl rfl (Ev.assign rfl rfl) ?_
      refine RG.done ?_
      refine QW.then_ ?_
      refine CW.seq ?_
      refine CW.region ?_
      refine RG.vl rfl rfl rfl (Ev.move rfl rfl) ?_
      refine RG.vl rfl rfl rfl (Ev.move rfl rfl) ?_
      refine RG.call rfl rfl rfl rfl rfl rfl rfl en_23 (Eval_el _ p _ c (((Own.ext hp hxwl11).rdl encN_len)) (by omega) hpe hc64) ?_
      rintro _ w15 ⟨rfl, hx15⟩
      replace hxwl11 := Ex.tr hxwl11 hx15
      have hE16 := hx15
      refine RG.vl rfl rfl rfl (Ev.move rfl rfl) ?_
      refine RG.vl rfl rfl rfl (Ev.extract rfl rfl rfl) ?_
      refine RG.vl rfl rfl rfl (Ev.extract rfl rfl rfl) ?_
      refine RG.vl rfl rfl rfl (Ev.assign rfl rfl) ?_
      refine RG.vl rfl rfl rfl (Ev.assign rfl rfl) ?_
      refine RG.done ?_
      refine QW.then_ ?_
      refine CW.seq ?_
      refine CW.region ?_
      refine RG.vl rfl rfl rfl (Ev.move rfl rfl) ?_
      refine RG.vl rfl rfl rfl (Ev.move rfl rfl) ?_
      refine RG.litO (os := [.tmp 66, _]) (enc := encN) ([c, 1]) rfl rfl rfl rfl rfl rfl rfl Try.underlying39 inf_5 rfl rfl rfl rfl rfl encN_len rfl rfl (fun v17 wk18 hxwk18 hown19 hnew20 => ?_)
      replace hxwl11 := Ex.tr hxwl11 hxwk18
      replace hE16 := Ex.tr hE16 hxwk18
      have hE21 := hxwk18
      refine RG.call rfl rfl rfl rfl rfl rfl rfl en_36 (Divide_el _ _ p [c, 1] _ (((Own.ext hp hxwl11).rdl encN_len)) ((hown19.rdl encN_len)) (by omega) hpe (by show 2 ≤ 128; omega) (el2 hc64 (by omega)) (by simp [dg])) ?_
      have hpre22 := (Ex.tr hR8 hxwl11)
      rintro _ w22 ⟨r122, r222, d1, e1, rfl, hod22, hoe22, hsp22, hdv1_, hx22⟩
      replace hxwl11 := Ex.tr hxwl11 hx22
      replace hE16 := Ex.tr hE16 hx22
      replace hE21 := Ex.tr hE21 hx22
      have hE23 := hx22
      refine RG.vl rfl rfl rfl (Ev.move rfl rfl) ?_
      refine RG.vl rfl rfl rfl (Ev.extract rfl rfl rfl) ?_
      refine RG.vl rfl rfl rfl (Ev.extract rfl rfl rfl) ?_
      refine RG.vl rfl rfl rfl (Ev.extract rfl rfl rfl) ?_
      refine RG.vl rfl rfl rfl (Ev.assign rfl rfl) ?_
      refine RG.vl rfl rfl rfl (Ev.assign rfl rfl) ?_
      refine RG.vl rfl rfl rfl (Ev.assign rfl rfl) ?_
      refine RG.done ?_
      refine QW.sub (S' := [(1, _), (5, _), (12, _), (13, _), (15, _), (16, _), (52, _), (53, _), (54, _)]) ⟨rfl, rfl, rfl, rfl, rfl, rfl, rfl, rfl, rfl, trivial⟩ ?_
      refine QW.then_ ?_
      refine CW.seq ?_
      obtain ⟨h1, h2, h3, h4, h5⟩ := hdv1_
      obtain rfl := div_root hpe hc64 hc0 h1 h4 h3
      refine CW.region ?_
      refine RG.vl rfl rfl rfl (Ev.move rfl rfl) ?_
      refine RG.vl rfl rfl rfl (Ev.isF (Ev.neI rfl rfl rfl) (by decide)) ?_
      refine RG.vl rfl rfl rfl (Ev.move rfl rfl) ?_
      refine RG.vl rfl rfl rfl (Ev.move rfl rfl) ?_
      refine RG.vl rfl rfl rfl (Ev.isF (Ev.neI rfl rfl rfl) (by decide)) ?_
      refine RG.vl rfl rfl rfl (Ev.pickF rfl rfl rfl) ?_
      refine RG.vl rfl rfl rfl (Ev.move rfl rfl) ?_
      refine RG.vl rfl rfl rfl (Ev.move rfl rfl) ?_
      refine RG.vl rfl rfl rfl (Ev.isF (Ev.neI rfl rfl rfl) (by rw [hc0]; decide)) ?_
      refine RG.vl rfl rfl rfl (Ev.pickF rfl rfl rfl) ?_
      refine RG.vl rfl rfl rfl (Ev.move rfl rfl) ?_
      refine RG.vl rfl rfl rfl (Ev.move rfl rfl) ?_
      refine RG.vl rfl rfl rfl (Ev.lenL rfl rfl rfl Try.underlying39 ((hoe22.rdl encN_len))) ?_
      refine RG.vl rfl rfl rfl (Ev.isF (Ev.neI rfl rfl rfl) (fun h => h rfl)) ?_
      refine RG.vl rfl rfl rfl (Ev.pickF rfl rfl rfl) ?_
      refine RG.done ?_
      refine QW.sub (S' := [(1, _), (5, _), (52, _), (53, _), (54, _), (86, _)]) ⟨rfl, rfl, rfl, rfl, rfl, rfl, trivial⟩ ?_
      refine QW.then_ ?_
      refine CW.condF rfl ?_
      refine CW.skip ?_
      refine QW.blockN ?_
      refine QW.then_ ?_
      refine CW.region ?_
      refine RG.vl rfl rfl rfl (Ev.addI rfl rfl rfl (by omega)) ?_
      refine RG.vl rfl rfl rfl (Ev.move rfl rfl) ?_
      refine RG.done ?_
      refine QW.round1 (i + 1) ⟨rfl, trivial⟩ ⟨rfl, rfl, rfl, rfl, trivial⟩ ⟨by omega, hxwl11⟩ (by omega)
    · refine CW.exit ?_
      refine QW.thenExit ?_
      refine QW.thenExit ?_
      refine QW.blockHit ?_
      refine QW.then_ ?_
      refine CW.seq ?_
      refine CW.region ?_
      replace hl := (hl.ext hxwl11)
      replace hm := (hm.ext hxwl11)
      replace hp := (Own.ext hp hxwl11)
      replace hor6 := (Own.ext hor6 hxwl11)
      have hR27 := (Ex.tr hR8 hxwl11)
      have hR28 := (Ex.tr hR9 hxwl11)
      have hR29 := (Ex.tr hR10 hxwl11)
      have hR30 := hxwl11
      refine RG.litO (os := [_]) (enc := encN) ([1]) rfl rfl rfl rfl rfl rfl rfl Try.underlying39 inf_5 rfl rfl rfl rfl rfl encN_len rfl rfl (fun vq0 wk24 hxwk24 hown25 hnew26 => ?_)
      have hE31 := hxwk24
      refine RG.vl rfl rfl rfl (Ev.assign rfl rfl) ?_
      refine RG.done ?_
      refine QW.then_ ?_
      refine CW.seq ?_
      refine CW.region ?_
      refine RG.alloc_ rfl rfl rfl rfl inf_58 (fun gI w32 egI hx32 hb32 => ?_)
      have hsb33 := fun e => sep_new (g := gI) (Own.ext hp hE31) egI e
      have hsb34 := fun e => sep_new (g := gI) (Own.ext hor6 hE31) egI e
      have hsb35 := fun e => sep_new (g := gI) hown25 egI e
      have hle36 : wl11.heap.size ≤ gI := by have := hE31.size; omega
      have hle37 : wk24.heap.size ≤ gI := by have := (Ex.rfl_ wk24).size; omega
      replace hE31 := Ex.tr hE31 hx32
      have hE38 := hx32
      refine RG.done ?_
      refine QW.then_ ?_
      refine CW.seq ?_
      refine CW.seq ?_
      refine CW.region ?_
      refine RG.vl rfl rfl rfl (Ev.move rfl rfl) ?_
      refine RG.call rfl rfl rfl rfl rfl rfl rfl en_34 (elements_ret _ _ 40 _ ((hm.ext hE31)) hb2 (by decide)) ?_
      have hpre39 := (Ex.tr hR27 hE31)
      rintro vels w39 ⟨hels, hx39⟩
      have hsb40 := fun e => sep_blk hb32 (Nat.le_refl _) hels e
      replace hels := Own.low (B' := wl11.heap.size) hels (by have := hE31.size; omega)
      replace hE31 := Ex.tr hE31 hx39
      replace hE38 := Ex.tr hE38 hx39
      have hE41 := hx39
      rw [hQ] at hels
      refine RG.vl rfl rfl rfl (Ev.lenL rfl rfl rfl Try.underlying39 ((hels.rdl encN_len))) ?_
      refine RG.vl rfl rfl rfl (Ev.move rfl rfl) ?_
      refine RG.done ?_
      refine QW.then_ ?_
      refine CW.block ?_
      refine CW.loop3 [(18, _), (90, _), (91, _)] ⟨rfl, rfl, rfl, trivial⟩ (fun (i : Nat) (vq : Value) (Q : List Nat) => [(92, .int .i64 i), (17, vq)]) (fun i vq Q w' => (i ≤ q.length ∧ Fac (q.take i) Q ∧ Own w' wl11.heap.size 5 1 encN vq Q ∧ (vq.ownBlock = some gI → False) ∧ Own w' wl11.heap.size 5 1 encN vels q ∧ Blk w' gI 58 (isL (q.take i))) ∧ Ex wl11 w') (fun i vq Q => q.length - i) (0) (vq0) ([1]) ⟨rfl, rfl, trivial⟩ ⟨⟨Nat.zero_le _, by rw [List.take_zero]; exact fac_nil, (Own.ext hown25 hE38), hsb35, hels, by rw [List.take_zero, ← isL_nil]; exact (hb32.ext hE41)⟩, hE31⟩ ?_
      rintro i vq Q wl42 ⟨⟨hi, hfac, hoq, hsq, hels, hgI⟩, hxwl42⟩
      refine CW.sub (S' := [(92, _), (17, _), (18, _), (90, _), (91, _)]) ⟨rfl, rfl, rfl, rfl, rfl, trivial⟩ ?_
      refine CW.seq ?_
      refine CW.region ?_
      refine RG.vl rfl rfl rfl (Ev.lss rfl rfl rfl) ?_
      refine RG.done ?_
      refine QW.then_ ?_
      refine CW.seq ?_
      refine CW.condP rfl (fun hc43 => ?_) (fun hc43 => ?_)
      · refine CW.skip ?_
        refine QW.then_ ?_
        refine CW.seq ?_
        refine CW.block ?_
        refine CW.seq ?_
        obtain ⟨c, hc⟩ : ∃ c, q[i]? = some c := ⟨_, List.getElem?_eq_getElem (by omega)⟩
        have hc64 := hqe.get hc
        have hQl := hfac.ln
        have hQd := hfac.dg
        rw [List.length_take] at hQl hQd
        refine CW.region ?_
        refine RG.idxO rfl rfl rfl rfl rfl rfl Try.underlying39 sz_5 encN_len (hels) (hc) (fun g45 hg45 hBg45 hp44b hp44 => ?_)
        refine RG.vl rfl rfl rfl (Ev.ld0 rfl rfl Try.underlying5 rfl (hp44) (rfl)) ?_
        refine RG.vl rfl rfl rfl (Ev.assign rfl rfl) ?_
        refine RG.done ?_
        refine QW.then_ ?_
        refine CW.seq ?_
        refine CW.region ?_
        refine RG.vl rfl rfl rfl (Ev.move rfl rfl) ?_
        refine RG.vl rfl rfl rfl (Ev.move rfl rfl) ?_
        refine RG.litO (os := [.tmp 98, _]) (enc := encN) ([c, 1]) rfl rfl rfl rfl rfl rfl rfl Try.underlying39 inf_5 rfl rfl rfl rfl rfl encN_len rfl rfl (fun v46 wk47 hxwk47 hown48 hnew49 => ?_)
        replace hxwl42 := Ex.tr hxwl42 hxwk47
        have hE50 := hxwk47
        refine RG.call rfl rfl rfl rfl rfl rfl rfl en_37 (Product_el _ _ Q [c, 1] _ (((Own.ext hoq hE50).rdl encN_len)) ((hown48.rdl encN_len)) (by omega) hfac.el (by show 2 ≤ 128; omega) (el2 hc64 (by omega)) (by have h2 : dg [c, 1] = 2 := (by simp [dg]); omega)) ?_
        have hpre51 := (Ex.tr hR27 hxwl42)
        rintro _ w51 ⟨r51, rfl, hop51, hx51⟩
        have hsb52 := fun e => sep_blk (hgI.ext hE50) (Nat.le_refl _) hop51 e
        replace hop51 := Own.low (B' := wl11.heap.size) hop51 (by have := hxwl42.size; omega)
        replace hxwl42 := Ex.tr hxwl42 hx51
        replace hE50 := Ex.tr hE50 hx51
        have hE53 := hx51
        refine RG.vl rfl rfl rfl (Ev.move rfl rfl) ?_
        refine RG.vl rfl rfl rfl (Ev.extract rfl rfl rfl) ?_
        refine RG.vl rfl rfl rfl (Ev.extract rfl rfl rfl) ?_
        refine RG.vl rfl rfl rfl (Ev.assign rfl rfl) ?_
        refine RG.vl rfl rfl rfl (Ev.assign rfl rfl) ?_
        refine RG.done ?_
        refine QW.then_ ?_
        refine CW.seq ?_
        refine CW.seq ?_
        refine CW.region ?_
        refine RG.vl rfl rfl rfl (Ev.move rfl rfl) ?_
        refine RG.vl rfl rfl rfl (Ev.isF (Ev.neI rfl rfl rfl) (by decide)) ?_
        refine RG.done ?_
        refine QW.sub (S' := [(17, _), (18, _), (20, _), (21, _), (90, _), (91, _), (92, _), (104, _)]) ⟨rfl, rfl, rfl, rfl, rfl, rfl, rfl, rfl, trivial⟩ ?_
        refine QW.then_ ?_
        refine CW.condF rfl ?_
        refine CW.skip ?_
        refine QW.then_ ?_
        refine CW.seq ?_
        refine CW.region ?_
        refine RG.vl rfl rfl rfl (Ev.move rfl rfl) ?_
        refine RG.vl rfl rfl rfl (Ev.assign rfl rfl) ?_
        refine RG.done ?_
        refine QW.then_ ?_
        refine CW.region ?_
        refine RG.vl rfl rfl rfl (Ev.move rfl rfl) ?_
        refine RG.vl rfl rfl rfl (Ev.idxA rfl rfl rfl Try.underlying58 sz_3 (by omega)) ?_
        refine RG.st (g := gI) (k := _) rfl rfl rfl rfl rfl sz_3 rfl (hgI.ext hE50) (by rw [Nat.blt_eq, isL_len]; omega) (fun ws54 hwws54 hbws54 => ?_)
        replace hoq := Own.far (Own.ext hoq hE50) hwws54 hsq
        replace hels := Own.far (Own.ext hels hE50) hwws54 hsb40
        replace hop51 := Own.far hop51 hwws54 hsb52
        replace hxwl42 := Wr.below hxwl42 hwws54 hle36
        refine RG.done ?_
        refine QW.blockN ?_
        refine QW.then_ ?_
        refine CW.region ?_
        refine RG.vl rfl rfl rfl (Ev.addI rfl rfl rfl (by omega)) ?_
        refine RG.vl rfl rfl rfl (Ev.move rfl rfl) ?_
        refine RG.done ?_
        refine QW.round3 (i + 1) (r51) (_) ⟨rfl, rfl, trivial⟩ ⟨rfl, rfl, rfl, trivial⟩ ⟨⟨by omega, by rw [take_more q i c hc]; exact fac_more hfac hc64, hop51, hsb52, hels, by rw [take_more q i c hc, ← isL_set]; exact hbws54⟩, hxwl42⟩ (by omega)
      · refine CW.exit ?_
        refine QW.thenExit ?_
        refine QW.thenExit ?_
        refine QW.blockHit ?_
        refine QW.then_ ?_
        refine CW.seq ?_
        obtain rfl : i = q.length := by omega
        rw [List.take_length] at hfac hgI
        have hQl := hfac.ln
        refine CW.region ?_
        refine RG.vl rfl rfl rfl (Ev.move rfl rfl) ?_
        refine RG.call rfl rfl rfl rfl rfl rfl rfl en_24 (Roots_el _ Q _ ((hoq.rdl encN_len)) (by omega) hfac.el (by rw [hfac.dg]; omega)) ?_
        have hpre55 := (Ex.tr hR27 hxwl42)
        rintro _ w55 ⟨r55, rfl, hor255, hx55⟩
        have hsb56 := fun e => sep_blk hgI (Nat.le_refl _) hor255 e
        replace hxwl42 := Ex.tr hxwl42 hx55
        have hE57 := hx55
        rw [fac_roots hfac] at hor255
        refine RG.vl rfl rfl rfl (Ev.move rfl rfl) ?_
        refine RG.vl rfl rfl rfl (Ev.extract rfl rfl rfl) ?_
        refine RG.vl rfl rfl rfl (Ev.extract rfl rfl rfl) ?_
        refine RG.vl rfl rfl rfl (Ev.assign rfl rfl) ?_
        refine RG.vl rfl rfl rfl (Ev.assign rfl rfl) ?_
        refine RG.done ?_
        refine QW.then_ ?_
        refine CW.seq ?_
        refine CW.seq ?_
        refine CW.region ?_
        refine RG.vl rfl rfl rfl (Ev.move rfl rfl) ?_
        refine RG.vl rfl rfl rfl (Ev.isF (Ev.neI rfl rfl rfl) (by decide)) ?_
        refine RG.done ?_
        refine QW.then_ ?_
        refine CW.condF rfl ?_
        refine CW.skip ?_
        refine QW.then_ ?_
        refine CW.seq ?_
        refine CW.region ?_
        refine RG.vl rfl rfl rfl (Ev.assign rfl rfl) ?_
        refine RG.done ?_
        refine QW.then_ ?_
        refine CW.seq ?_
        refine CW.seq ?_
        refine CW.region ?_
        refine RG.vl rfl rfl rfl (Ev.ldAgg rfl rfl Try.underlying58 rfl sz_58 rfl ((hgI.ext hE57).cells)) ?_
        refine RG.vl rfl rfl rfl (Ev.move rfl rfl) ?_
        refine RG.done ?_
        refine QW.then_ ?_
        refine CW.block ?_
        replace hl := (hl.ext hxwl42)
        replace hm := (hm.ext hxwl42)
        replace hp := (Own.ext hp hxwl42)
        replace hor6 := (Own.ext hor6 hxwl42)
        replace hoq := (Own.ext hoq hE57)
        replace hels := (Own.ext hels hE57)
        replace hgI := (hgI.ext hE57)
        have hR58 := (Ex.tr hR27 hxwl42)
        have hR59 := (Ex.tr hR28 hxwl42)
        have hR60 := (Ex.tr hR29 hxwl42)
        have hR61 := (Ex.tr hR30 hxwl42)
        have hR62 := hxwl42
        have hR63 := hE57
        refine CW.loop1 [(23, _), (116, _)] ⟨rfl, rfl, trivial⟩ (fun (x : Nat) => [(117, .int .i64 x), (25, .int .i64 ((memTo q x).length : Nat))]) (fun x w' => (x ≤ 64) ∧ Ex w55 w') (fun x => 64 - x) (0) ⟨rfl, rfl, trivial⟩ ⟨by omega, (Ex.rfl_ _)⟩ ?_
        rintro x wl64 ⟨hx, hxwl64⟩
        refine CW.sub (S' := [(117, _), (25, _), (23, _), (116, _)]) ⟨rfl, rfl, rfl, rfl, trivial⟩ ?_
        refine CW.seq ?_
        refine CW.region ?_
        refine RG.vl rfl rfl rfl (Ev.lss rfl rfl rfl) ?_
        refine RG.done ?_
        refine QW.then_ ?_
        refine CW.seq ?_
        refine CW.condP rfl (fun hc65 => ?_) (fun hc65 => ?_)
        · refine CW.skip ?_
          refine QW.then_ ?_
          refine CW.seq ?_
          refine CW.block ?_
          refine CW.seq ?_
          have hx64 : x < 64 := by omega
          have hml := memTo_le q x
          refine CW.region ?_
          refine RG.vl rfl rfl rfl (Ev.move rfl rfl) ?_
          refine RG.vl rfl rfl rfl (Ev.idxArr rfl rfl rfl Try.underlying58 Try.underlying3 rfl sz_3 (by omega) (isL_at q x hx64)) ?_
          refine RG.vl rfl rfl rfl (Ev.assign rfl rfl) ?_
          refine RG.vl rfl rfl rfl (Ev.assign rfl rfl) ?_
          refine RG.done ?_
          refine QW.then_ ?_
          refine CW.seq ?_
          refine CW.seq ?_
          refine CW.region ?_
          refine RG.vl rfl rfl rfl (Ev.move rfl rfl) ?_
          refine RG.vl rfl rfl rfl (Ev.eqI rfl rfl rfl) ?_
          refine RG.done ?_
          refine QW.then_ ?_
          refine CW.condP rfl (fun hc66 => ?_) (fun hc66 => ?_)
          · refine CW.exit ?_
            refine QW.thenExit ?_
            refine QW.blockHit ?_
            refine QW.then_ ?_
            refine CW.region ?_
            refine RG.vl rfl rfl rfl (Ev.addI rfl rfl rfl (by omega)) ?_
            refine RG.vl rfl rfl rfl (Ev.move rfl rfl) ?_
            refine RG.done ?_
            refine QW.round1 (x + 1) ⟨rfl, by rw [memTo_miss (by intro h; simp [h] at *)]; rfl, trivial⟩ ⟨rfl, rfl, trivial⟩ ⟨by omega, hxwl64⟩ (by omega)
          · refine CW.skip ?_
            refine QW.then_ ?_
            refine CW.seq ?_
            refine CW.seq ?_
            have hxm : x ∈ q := by
              rcases Decidable.em (x ∈ q) with h | h
              · exact h
              · exfalso; simp [h] at *
            obtain ⟨hat1, hat2⟩ := memTo_at hxm (by omega)
            refine CW.region ?_
            refine RG.vl rfl rfl rfl (Ev.move rfl rfl) ?_
            refine RG.vl rfl rfl rfl (Ev.move rfl rfl) ?_
            refine RG.vl rfl rfl rfl (Ev.lenL rfl rfl rfl Try.underlying39 (((Own.ext hor255 hxwl64).rdl encN_len))) ?_
            refine RG.vl rfl rfl rfl (Ev.isF (Ev.geq rfl rfl rfl) (by omega)) ?_
            refine RG.vl rfl rfl rfl (Ev.move rfl rfl) ?_
            refine RG.vl rfl rfl rfl (Ev.move rfl rfl) ?_
            refine RG.vl rfl rfl rfl (Ev.move rfl rfl) ?_
            refine RG.idxO rfl rfl rfl rfl rfl rfl Try.underlying39 sz_5 encN_len ((Own.ext hor255 hxwl64)) (hat1) (fun g68 hg68 hBg68 hp67b hp67 => ?_)
            refine RG.vl rfl rfl rfl (Ev.ld0 rfl rfl Try.underlying5 rfl (hp67) (rfl)) ?_
            refine RG.vl rfl rfl rfl (Ev.to64 rfl rfl Try.underlying5 Try.underlying3 (by omega)) ?_
            refine RG.vl rfl rfl rfl (Ev.move rfl rfl) ?_
            refine RG.vl rfl rfl rfl (Ev.isF (Ev.neI rfl rfl rfl) (fun h => h rfl)) ?_
            refine RG.vl rfl rfl rfl (Ev.pickF rfl rfl rfl) ?_
            refine RG.done ?_
            refine QW.sub (S' := [(23, _), (25, _), (116, _), (117, _), (135, _)]) ⟨rfl, rfl, rfl, rfl, rfl, trivial⟩ ?_
            refine QW.then_ ?_
            refine CW.condF rfl ?_
            refine CW.skip ?_
            refine QW.then_ ?_
            refine CW.region ?_
            refine RG.vl rfl rfl rfl (Ev.move rfl rfl) ?_
            refine RG.vl rfl rfl rfl (Ev.addI rfl rfl rfl (by omega)) ?_
            refine RG.vl rfl rfl rfl (Ev.assign rfl rfl) ?_
            refine RG.done ?_
            refine QW.blockN ?_
            refine QW.then_ ?_
            refine CW.region ?_
            refine RG.vl rfl rfl rfl (Ev.addI rfl rfl rfl (by omega)) ?_
            refine RG.vl rfl rfl rfl (Ev.move rfl rfl) ?_
            refine RG.done ?_
            refine QW.round1 (x + 1) ⟨rfl, by rw [memTo_hit hxm, List.length_append]; rfl, trivial⟩ ⟨rfl, rfl, trivial⟩ ⟨by omega, hxwl64⟩ (by omega)
        · refine CW.exit ?_
          refine QW.thenExit ?_
          refine QW.thenExit ?_
          refine QW.blockHit ?_
          refine QW.then_ ?_
          refine CW.seq ?_
          obtain rfl : x = 64 := by omega
          refine CW.region ?_
          refine RG.vl rfl rfl rfl (Ev.move rfl rfl) ?_
          refine RG.vl rfl rfl rfl (Ev.move rfl rfl) ?_
          refine RG.vl rfl rfl rfl (Ev.lenL rfl rfl rfl Try.underlying39 (((Own.ext hor255 hxwl64).rdl encN_len))) ?_
          refine RG.vl rfl rfl rfl (Ev.isT (Ev.eqI rfl rfl rfl) (rfl)) ?_
          refine RG.vl rfl rfl rfl (Ev.move rfl rfl) ?_
          refine RG.call rfl rfl rfl rfl rfl rfl rfl en_13 (awake_ret _) ?_
          rintro _ w69 ⟨rfl, hx69⟩
          replace hxwl64 := Ex.tr hxwl64 hx69
          have hE70 := hx69
          refine RG.vl rfl rfl rfl (Ev.pickT rfl rfl rfl) ?_
          refine RG.vl rfl rfl rfl (Ev.assign rfl rfl) ?_
          refine RG.done ?_
          refine QW.then_ ?_
          refine CW.ret ?_
          refine QW.ret1 rfl rfl ?_
          have hB := (Ex.tr hR58 hxwl64)
          exact ⟨rfl, hB⟩
  · refine CW.skip ?_
    refine QW.then_ ?_
    refine CW.seq ?_
    refine CW.region ?_
    replace hl := (hl.ext hE2)
    replace hm := (hm.ext hE2)
    replace hp := (Own.ext hp hE4)
    have hR74 := (Ex.tr hB0 hE2)
    have hR75 := hE4
    refine RG.litO (os := [_]) (enc := encN) ([1]) rfl rfl rfl rfl rfl rfl rfl Try.underlying39 inf_5 rfl rfl rfl rfl rfl encN_len rfl rfl (fun vq0 wk71 hxwk71 hown72 hnew73 => ?_)
    have hE76 := hxwk71
    refine RG.vl rfl rfl rfl (Ev.assign rfl rfl) ?_
    refine RG.done ?_
    refine QW.then_ ?_
    refine CW.seq ?_
    refine CW.region ?_
    refine RG.alloc_ rfl rfl rfl rfl inf_58 (fun gI w77 egI hx77 hb77 => ?_)
    have hsb78 := fun e => sep_new (g := gI) (Own.ext hp hE76) egI e
    have hsb79 := fun e => sep_new (g := gI) hown72 egI e
    have hle80 : w3.heap.size ≤ gI := by have := hE76.size; omega
    have hle81 : wk71.heap.size ≤ gI := by have := (Ex.rfl_ wk71).size; omega
    replace hE76 := Ex.tr hE76 hx77
    have hE82 := hx77
    refine RG.done ?_
    refine QW.then_ ?_
    refine CW.seq ?_
    refine CW.seq ?_
    refine CW.region ?_
    refine RG.vl rfl rfl rfl (Ev.move rfl rfl) ?_
    refine RG.call rfl rfl rfl rfl rfl rfl rfl en_34 (elements_ret _ _ 40 _ ((hm.ext hE76)) hb2 (by decide)) ?_
    have hpre83 := (Ex.tr hR74 hE76)
    rintro vels w83 ⟨hels, hx83⟩
    have hsb84 := fun e => sep_blk hb77 (Nat.le_refl _) hels e
    replace hels := Own.low (B' := w3.heap.size) hels (by have := hE76.size; omega)
    replace hE76 := Ex.tr hE76 hx83
    replace hE82 := Ex.tr hE82 hx83
    have hE85 := hx83
    rw [hQ] at hels
    refine RG.vl rfl rfl rfl (Ev.lenL rfl rfl rfl Try.underlying39 ((hels.rdl encN_len))) ?_
    refine RG.vl rfl rfl rfl (Ev.move rfl rfl) ?_
    refine RG.done ?_
    refine QW.then_ ?_
    refine CW.block ?_
    refine CW.loop3 [(18, _), (90, _), (91, _)] ⟨rfl, rfl, rfl, trivial⟩ (fun (i : Nat) (vq : Value) (Q : List Nat) => [(92, .int .i64 i), (17, vq)]) (fun i vq Q w' => (i ≤ q.length ∧ Fac (q.take i) Q ∧ Own w' w3.heap.size 5 1 encN vq Q ∧ (vq.ownBlock = some gI → False) ∧ Own w' w3.heap.size 5 1 encN vels q ∧ Blk w' gI 58 (isL (q.take i))) ∧ Ex w3 w') (fun i vq Q => q.length - i) (0) (vq0) ([1]) ⟨rfl, rfl, trivial⟩ ⟨⟨Nat.zero_le _, by rw [List.take_zero]; exact fac_nil, (Own.ext hown72 hE82), hsb79, hels, by rw [List.take_zero, ← isL_nil]; exact (hb77.ext hE85)⟩, hE76⟩ ?_
    rintro i vq Q wl86 ⟨⟨hi, hfac, hoq, hsq, hels, hgI⟩, hxwl86⟩
    refine CW.sub (S' := [(92, _), (17, _), (18, _), (90, _), (91, _)]) ⟨rfl, rfl, rfl, rfl, rfl, trivial⟩ ?_
    refine CW.seq ?_
    refine CW.region ?_
    refine RG.vl rfl rfl rfl (Ev.lss rfl rfl rfl) ?_
    refine RG.done ?_
    refine QW.then_ ?_
    refine CW.seq ?_
    refine CW.condP rfl (fun hc87 => ?_) (fun hc87 => ?_)
    · refine CW.skip ?_
      refine QW.then_ ?_
      refine CW.seq ?_
      refine CW.block ?_
      refine CW.seq ?_
      obtain ⟨c, hc⟩ : ∃ c, q[i]? = some c := ⟨_, List.getElem?_eq_getElem (by omega)⟩
      have hc64 := hqe.get hc
      have hQl := hfac.ln
      have hQd := hfac.dg
      rw [List.length_take] at hQl hQd
      refine CW.region ?_
      refine RG.idxO rfl rfl rfl rfl rfl rfl Try.underlying39 sz_5 encN_len (hels) (hc) (fun g89 hg89 hBg89 hp88b hp88 => ?_)
      refine RG.vl rfl rfl rfl (Ev.ld0 rfl rfl Try.underlying5 rfl (hp88) (rfl)) ?_
      refine RG.vl rfl rfl rfl (Ev.assign rfl rfl) ?_
      refine RG.done ?_
      refine QW.then_ ?_
      refine CW.seq ?_
      refine CW.region ?_
      refine RG.vl rfl rfl rfl (Ev.move rfl rfl) ?_
      refine RG.vl rfl rfl rfl (Ev.move rfl rfl) ?_
      refine RG.litO (os := [.tmp 98, _]) (enc := encN) ([c, 1]) rfl rfl rfl rfl rfl rfl rfl Try.underlying39 inf_5 rfl rfl rfl rfl rfl encN_len rfl rfl (fun v90 wk91 hxwk91 hown92 hnew93 => ?_)
      replace hxwl86 := Ex.tr hxwl86 hxwk91
      have hE94 := hxwk91
      refine RG.call rfl rfl rfl rfl rfl rfl rfl en_37 (Product_el _ _ Q [c, 1] _ (((Own.ext hoq hE94).rdl encN_len)) ((hown92.rdl encN_len)) (by omega) hfac.el (by show 2 ≤ 128; omega) (el2 hc64 (by omega)) (by have h2 : dg [c, 1] = 2 := (by simp [dg]); omega)) ?_
      have hpre95 := (Ex.tr hR74 hxwl86)
      rintro _ w95 ⟨r95, rfl, hop95, hx95⟩
      have hsb96 := fun e => sep_blk (hgI.ext hE94) (Nat.le_refl _) hop95 e
      replace hop95 := Own.low (B' := w3.heap.size) hop95 (by have := hxwl86.size; omega)
      replace hxwl86 := Ex.tr hxwl86 hx95
      replace hE94 := Ex.tr hE94 hx95
      have hE97 := hx95
      refine RG.vl rfl rfl rfl (Ev.move rfl rfl) ?_
      refine RG.vl rfl rfl rfl (Ev.extract rfl rfl rfl) ?_
      refine RG.vl rfl rfl rfl (Ev.extract rfl rfl rfl) ?_
      refine RG.vl rfl rfl rfl (Ev.assign rfl rfl) ?_
      refine RG.vl rfl rfl rfl (Ev.assign rfl rfl) ?_
      refine RG.done ?_
      refine QW.then_ ?_
      refine CW.seq ?_
      refine CW.seq ?_
      refine CW.region ?_
      refine RG.vl rfl rfl rfl (Ev.move rfl rfl) ?_
      refine RG.vl rfl rfl rfl (Ev.isF (Ev.neI rfl rfl rfl) (by decide)) ?_
      refine RG.done ?_
      refine QW.sub (S' := [(17, _), (18, _), (20, _), (21, _), (90, _), (91, _), (92, _), (104, _)]) ⟨rfl, rfl, rfl, rfl, rfl, rfl, rfl, rfl, trivial⟩ ?_
      refine QW.then_ ?_
      refine CW.condF rfl ?_
      refine CW.skip ?_
      refine QW.then_ ?_
      refine CW.seq ?_
      refine CW.region ?_
      refine RG.vl rfl rfl rfl (Ev.move rfl rfl) ?_
      refine RG.vl rfl rfl rfl (Ev.assign rfl rfl) ?_
      refine RG.done ?_
      refine QW.then_ ?_
      refine CW.region ?_
      refine RG.vl rfl rfl rfl (Ev.move rfl rfl) ?_
      refine RG.vl rfl rfl rfl (Ev.idxA rfl rfl rfl Try.underlying58 sz_3 (by omega)) ?_
      refine RG.st (g := gI) (k := _) rfl rfl rfl rfl rfl sz_3 rfl (hgI.ext hE94) (by rw [Nat.blt_eq, isL_len]; omega) (fun ws98 hwws98 hbws98 => ?_)
      replace hoq := Own.far (Own.ext hoq hE94) hwws98 hsq
      replace hels := Own.far (Own.ext hels hE94) hwws98 hsb84
      replace hop95 := Own.far hop95 hwws98 hsb96
      replace hxwl86 := Wr.below hxwl86 hwws98 hle80
      refine RG.done ?_
      refine QW.blockN ?_
      refine QW.then_ ?_
      refine CW.region ?_
      refine RG.vl rfl rfl rfl (Ev.addI rfl rfl rfl (by omega)) ?_
      refine RG.vl rfl rfl rfl (Ev.move rfl rfl) ?_
      refine RG.done ?_
      refine QW.round3 (i + 1) (r95) (_) ⟨rfl, rfl, trivial⟩ ⟨rfl, rfl, rfl, trivial⟩ ⟨⟨by omega, by rw [take_more q i c hc]; exact fac_more hfac hc64, hop95, hsb96, hels, by rw [take_more q i c hc, ← isL_set]; exact hbws98⟩, hxwl86⟩ (by omega)
    · refine CW.exit ?_
      refine QW.thenExit ?_
      refine QW.thenExit ?_
      refine QW.blockHit ?_
      refine QW.then_ ?_
      refine CW.seq ?_
      obtain rfl : i = q.length := by omega
      rw [List.take_length] at hfac hgI
      have hQl := hfac.ln
      refine CW.region ?_
      refine RG.vl rfl rfl rfl (Ev.move rfl rfl) ?_
      refine RG.call rfl rfl rfl rfl rfl rfl rfl en_24 (Roots_el _ Q _ ((hoq.rdl encN_len)) (by omega) hfac.el (by rw [hfac.dg]; omega)) ?_
      have hpre99 := (Ex.tr hR74 hxwl86)
      rintro _ w99 ⟨r99, rfl, hor299, hx99⟩
      have hsb100 := fun e => sep_blk hgI (Nat.le_refl _) hor299 e
      replace hxwl86 := Ex.tr hxwl86 hx99
      have hE101 := hx99
      rw [fac_roots hfac] at hor299
      refine RG.vl rfl rfl rfl (Ev.move rfl rfl) ?_
      refine RG.vl rfl rfl rfl (Ev.extract rfl rfl rfl) ?_
      refine RG.vl rfl rfl rfl (Ev.extract rfl rfl rfl) ?_
      refine RG.vl rfl rfl rfl (Ev.assign rfl rfl) ?_
      refine RG.vl rfl rfl rfl (Ev.assign rfl rfl) ?_
      refine RG.done ?_
      refine QW.then_ ?_
      refine CW.seq ?_
      refine CW.seq ?_
      refine CW.region ?_
      refine RG.vl rfl rfl rfl (Ev.move rfl rfl) ?_
      refine RG.vl rfl rfl rfl (Ev.isF (Ev.neI rfl rfl rfl) (by decide)) ?_
      refine RG.done ?_
      refine QW.then_ ?_
      refine CW.condF rfl ?_
      refine CW.skip ?_
      refine QW.then_ ?_
      refine CW.seq ?_
      refine CW.region ?_
      refine RG.vl rfl rfl rfl (Ev.assign rfl rfl) ?_
      refine RG.done ?_
      refine QW.then_ ?_
      refine CW.seq ?_
      refine CW.seq ?_
      refine CW.region ?_
      refine RG.vl rfl rfl rfl (Ev.ldAgg rfl rfl Try.underlying58 rfl sz_58 rfl ((hgI.ext hE101).cells)) ?_
      refine RG.vl rfl rfl rfl (Ev.move rfl rfl) ?_
      refine RG.done ?_
      refine QW.then_ ?_
      refine CW.block ?_
      replace hl := (hl.ext hxwl86)
      replace hm := (hm.ext hxwl86)
      replace hp := (Own.ext hp hxwl86)
      replace hoq := (Own.ext hoq hE101)
      replace hels := (Own.ext hels hE101)
      replace hgI := (hgI.ext hE101)
      have hR102 := (Ex.tr hR74 hxwl86)
      have hR103 := (Ex.tr hR75 hxwl86)
      have hR104 := hxwl86
      have hR105 := hE101
      refine CW.loop1 [(23, _), (116, _)] ⟨rfl, rfl, trivial⟩ (fun (x : Nat) => [(117, .int .i64 x), (25, .int .i64 ((memTo q x).length : Nat))]) (fun x w' => (x ≤ 64) ∧ Ex w99 w') (fun x => 64 - x) (0) ⟨rfl, rfl, trivial⟩ ⟨by omega, (Ex.rfl_ _)⟩ ?_
      rintro x wl106 ⟨hx, hxwl106⟩
      refine CW.sub (S' := [(117, _), (25, _), (23, _), (116, _)]) ⟨rfl, rfl, rfl, rfl, trivial⟩ ?_
      refine CW.seq ?_
      refine CW.region ?_
      refine RG.vl rfl rfl rfl (Ev.lss rfl rfl rfl) ?_
      refine RG.done ?_
      refine QW.then_ ?_
      refine CW.seq ?_
      refine CW.condP rfl (fun hc107 => ?_) (fun hc107 => ?_)
      · refine CW.skip ?_
        refine QW.then_ ?_
        refine CW.seq ?_
        refine CW.block ?_
        refine CW.seq ?_
        have hx64 : x < 64 := by omega
        have hml := memTo_le q x
        refine CW.region ?_
        refine RG.vl rfl rfl rfl (Ev.move rfl rfl) ?_
        refine RG.vl rfl rfl rfl (Ev.idxArr rfl rfl rfl Try.underlying58 Try.underlying3 rfl sz_3 (by omega) (isL_at q x hx64)) ?_
        refine RG.vl rfl rfl rfl (Ev.assign rfl rfl) ?_
        refine RG.vl rfl rfl rfl (Ev.assign rfl rfl) ?_
        refine RG.done ?_
        refine QW.then_ ?_
        refine CW.seq ?_
        refine CW.seq ?_
        refine CW.region ?_
        refine RG.vl rfl rfl rfl (Ev.move rfl rfl) ?_
        refine RG.vl rfl rfl rfl (Ev.eqI rfl rfl rfl) ?_
        refine RG.done ?_
        refine QW.then_ ?_
        refine CW.condP rfl (fun hc108 => ?_) (fun hc108 => ?_)
        · refine CW.exit ?_
          refine QW.thenExit ?_
          refine QW.blockHit ?_
          refine QW.then_ ?_
          refine CW.region ?_
          refine RG.vl rfl rfl rfl (Ev.addI rfl rfl rfl (by omega)) ?_
          refine RG.vl rfl rfl rfl (Ev.move rfl rfl) ?_
          refine RG.done ?_
          refine QW.round1 (x + 1) ⟨rfl, by rw [memTo_miss (by intro h; simp [h] at *)]; rfl, trivial⟩ ⟨rfl, rfl, trivial⟩ ⟨by omega, hxwl106⟩ (by omega)
        · refine CW.skip ?_
          refine QW.then_ ?_
          refine CW.seq ?_
          refine CW.seq ?_
          have hxm : x ∈ q := by
            rcases Decidable.em (x ∈ q) with h | h
            · exact h
            · exfalso; simp [h] at *
          obtain ⟨hat1, hat2⟩ := memTo_at hxm (by omega)
          refine CW.region ?_
          refine RG.vl rfl rfl rfl (Ev.move rfl rfl) ?_
          refine RG.vl rfl rfl rfl (Ev.move rfl rfl) ?_
          refine RG.vl rfl rfl rfl (Ev.lenL rfl rfl rfl Try.underlying39 (((Own.ext hor299 hxwl106).rdl encN_len))) ?_
          refine RG.vl rfl rfl rfl (Ev.isF (Ev.geq rfl rfl rfl) (by omega)) ?_
          refine RG.vl rfl rfl rfl (Ev.move rfl rfl) ?_
          refine RG.vl rfl rfl rfl (Ev.move rfl rfl) ?_
          refine RG.vl rfl rfl rfl (Ev.move rfl rfl) ?_
          refine RG.idxO rfl rfl rfl rfl rfl rfl Try.underlying39 sz_5 encN_len ((Own.ext hor299 hxwl106)) (hat1) (fun g110 hg110 hBg110 hp109b hp109 => ?_)
          refine RG.vl rfl rfl rfl (Ev.ld0 rfl rfl Try.underlying5 rfl (hp109) (rfl)) ?_
          refine RG.vl rfl rfl rfl (Ev.to64 rfl rfl Try.underlying5 Try.underlying3 (by omega)) ?_
          refine RG.vl rfl rfl rfl (Ev.move rfl rfl) ?_
          refine RG.vl rfl rfl rfl (Ev.isF (Ev.neI rfl rfl rfl) (fun h => h rfl)) ?_
          refine RG.vl rfl rfl rfl (Ev.pickF rfl rfl rfl) ?_
          refine RG.done ?_
          refine QW.sub (S' := [(23, _), (25, _), (116, _), (117, _), (135, _)]) ⟨rfl, rfl, rfl, rfl, rfl, trivial⟩ ?_
          refine QW.then_ ?_
          refine CW.condF rfl ?_
          refine CW.skip ?_
          refine QW.then_ ?_
          refine CW.region ?_
          refine RG.vl rfl rfl rfl (Ev.move rfl rfl) ?_
          refine RG.vl rfl rfl rfl (Ev.addI rfl rfl rfl (by omega)) ?_
          refine RG.vl rfl rfl rfl (Ev.assign rfl rfl) ?_
          refine RG.done ?_
          refine QW.blockN ?_
          refine QW.then_ ?_
          refine CW.region ?_
          refine RG.vl rfl rfl rfl (Ev.addI rfl rfl rfl (by omega)) ?_
          refine RG.vl rfl rfl rfl (Ev.move rfl rfl) ?_
          refine RG.done ?_
          refine QW.round1 (x + 1) ⟨rfl, by rw [memTo_hit hxm, List.length_append]; rfl, trivial⟩ ⟨rfl, rfl, trivial⟩ ⟨by omega, hxwl106⟩ (by omega)
      · refine CW.exit ?_
        refine QW.thenExit ?_
        refine QW.thenExit ?_
        refine QW.blockHit ?_
        refine QW.then_ ?_
        refine CW.seq ?_
        obtain rfl : x = 64 := by omega
        refine CW.region ?_
        refine RG.vl rfl rfl rfl (Ev.move rfl rfl) ?_
        refine RG.vl rfl rfl rfl (Ev.move rfl rfl) ?_
        refine RG.vl rfl rfl rfl (Ev.lenL rfl rfl rfl Try.underlying39 (((Own.ext hor299 hxwl106).rdl encN_len))) ?_
        refine RG.vl rfl rfl rfl (Ev.isT (Ev.eqI rfl rfl rfl) (rfl)) ?_
        refine RG.vl rfl rfl rfl (Ev.move rfl rfl) ?_
        refine RG.call rfl rfl rfl rfl rfl rfl rfl en_13 (awake_ret _) ?_
        rintro _ w111 ⟨rfl, hx111⟩
        replace hxwl106 := Ex.tr hxwl106 hx111
        have hE112 := hx111
        refine RG.vl rfl rfl rfl (Ev.pickT rfl rfl rfl) ?_
        refine RG.vl rfl rfl rfl (Ev.assign rfl rfl) ?_
        refine RG.done ?_
        refine QW.then_ ?_
        refine CW.ret ?_
        refine QW.ret1 rfl rfl ?_
        have hB := (Ex.tr hR102 hxwl106)
        exact ⟨rfl, hB⟩

end Go.Proofs.Ytjaledljhiihmaa
