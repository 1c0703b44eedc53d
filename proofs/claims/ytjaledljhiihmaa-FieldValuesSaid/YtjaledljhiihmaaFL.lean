/- Walks (FL). Written by program. -/
import Derived.Test.YtjaledljhiihmaaT
import Derived.Test.YtjaledljhiihmaaFJ
namespace Go.Proofs.Ytjaledljhiihmaa
open Go.RowKit
set_option maxRecDepth 100000 in
set_option maxHeartbeats 4000000 in
theorem fieldDivides_ret (u v : Value) (l m : List Nat) (w : World) (hl : RdL w 1 encN u l) (hb : ∀ c ∈ l, c < 256) (hm : RdL w 1 encN v m) (hb2 : ∀ c ∈ m, c < 256) :
    Ret Try.prog 10 [u, v] w (fun v w' => v = .bool true ∧ Ex w w') := by
  have hpe := elsOf_el l 60
  have hpl := elsOf_len l 60
  have hqe := elsOf_el m 60
  have hql := elsOf_len m 60
  generalize hP : elsOf l 60 = p at hpe hpl
  generalize hQ : elsOf m 60 = q at hqe hql
  have hdp := dg_len p
  have hdq := dg_len q
  have hB0 : Ex w w := Ex.rfl_ _
  refine Ret.of Try.func10 rfl Try.ntmps10 rfl ?_
  refine CW.seq ?_
  refine CW.region ?_
  refine RG.vl rfl rfl rfl (Ev.assign rfl rfl) ?_
  refine RG.done ?_
  refine QW.then_ ?_
  refine CW.seq ?_
  refine CW.region ?_
  refine RG.vl rfl rfl rfl (Ev.move rfl rfl) ?_
  refine RG.call rfl rfl rfl rfl rfl rfl rfl en_34 (elements_ret _ _ 60 _ (hl) hb (by decide)) ?_
  have hpre1 := hB0
  rintro vp w1 ⟨hp, hx1⟩
  have hE2 := hx1
  rw [hP] at hp
  refine RG.vl rfl rfl rfl (Ev.move rfl rfl) ?_
  refine RG.call rfl rfl rfl rfl rfl rfl rfl en_34 (elements_ret _ _ 60 _ ((hm.ext hE2)) hb2 (by decide)) ?_
  have hpre3 := (Ex.tr hB0 hE2)
  rintro vq w3 ⟨hq, hx3⟩
  replace hE2 := Ex.tr hE2 hx3
  have hE4 := hx3
  rw [hQ] at hq
  refine RG.vl rfl rfl rfl (Ev.assign rfl rfl) ?_
  refine RG.vl rfl rfl rfl (Ev.assign rfl rfl) ?_
  refine RG.done ?_
  refine QW.then_ ?_
  refine CW.seq ?_
  refine CW.region ?_
  refine RG.vl rfl rfl rfl (Ev.move rfl rfl) ?_
  refine RG.call rfl rfl rfl rfl rfl rfl rfl en_35 (Degree_el _ q _ ((hq.rdl encN_len)) (by omega) hqe) ?_
  rintro _ w5 ⟨rfl, hx5⟩
  replace hE2 := Ex.tr hE2 hx5
  replace hE4 := Ex.tr hE4 hx5
  have hE6 := hx5
  refine RG.vl rfl rfl rfl (Ev.move rfl rfl) ?_
  refine RG.vl rfl rfl rfl (Ev.extract rfl rfl rfl) ?_
  refine RG.vl rfl rfl rfl (Ev.extract rfl rfl rfl) ?_
  refine RG.vl rfl rfl rfl (Ev.assign rfl rfl) ?_
  refine RG.vl rfl rfl rfl (Ev.assign rfl rfl) ?_
  refine RG.done ?_
  refine QW.sub (S' := [(4, _), (5, _), (6, _), (7, _), (8, _)]) ⟨rfl, rfl, rfl, rfl, rfl, trivial⟩ ?_
  refine QW.then_ ?_
  refine CW.seq ?_
  refine CW.seq ?_
  refine CW.region ?_
  refine RG.vl rfl rfl rfl (Ev.move rfl rfl) ?_
  refine RG.vl rfl rfl rfl (Ev.isF (Ev.neI rfl rfl rfl) (by decide)) ?_
  refine RG.done ?_
  refine QW.then_ ?_
  refine CW.condF rfl ?_
  refine CW.skip ?_
  refine QW.then_ ?_
  refine CW.seq ?_
  refine CW.seq ?_
  refine CW.region ?_
  refine RG.vl rfl rfl rfl (Ev.move rfl rfl) ?_
  refine RG.vl rfl rfl rfl (Ev.lss rfl rfl rfl) ?_
  refine RG.done ?_
  refine QW.then_ ?_
  refine CW.condP rfl (fun hc7 => ?_) (fun hc7 => ?_)
  · refine CW.seq ?_
    refine CW.region ?_
    refine RG.call rfl rfl rfl rfl rfl rfl rfl en_13 (awake_ret _) ?_
    rintro _ w8 ⟨rfl, hx8⟩
    replace hE2 := Ex.tr hE2 hx8
    replace hE4 := Ex.tr hE4 hx8
    replace hE6 := Ex.tr hE6 hx8
    have hE9 := hx8
    refine RG.vl rfl rfl rfl (Ev.assign rfl rfl) ?_
    refine RG.done ?_
    refine QW.then_ ?_
    refine CW.ret ?_
    refine QW.thenRet ?_
    refine QW.ret1 rfl rfl ?_
    have hB := (Ex.tr hB0 hE2)
    exact ⟨rfl, hB⟩
  · refine CW.skip ?_
    refine QW.then_ ?_
    refine CW.seq ?_
    refine CW.region ?_
    refine RG.vl rfl rfl rfl (Ev.move rfl rfl) ?_
    refine RG.vl rfl rfl rfl (Ev.move rfl rfl) ?_
    refine RG.call rfl rfl rfl rfl rfl rfl rfl en_36 (Divide_el _ _ p q _ (((Own.ext hp hE4).rdl encN_len)) (((Own.ext hq hE6).rdl encN_len)) (by omega) hpe (by omega) hqe (by omega)) ?_
    have hpre10 := (Ex.tr hB0 hE2)
    rintro _ w10 ⟨r110, r210, d1, e1, rfl, hod10, hoe10, hsp10, hdv1_, hx10⟩
    replace hE2 := Ex.tr hE2 hx10
    replace hE4 := Ex.tr hE4 hx10
    replace hE6 := Ex.tr hE6 hx10
    have hE11 := hx10
    refine RG.vl rfl rfl rfl (Ev.move rfl rfl) ?_
    refine RG.vl rfl rfl rfl (Ev.extract rfl rfl rfl) ?_
    refine RG.vl rfl rfl rfl (Ev.extract rfl rfl rfl) ?_
    refine RG.vl rfl rfl rfl (Ev.extract rfl rfl rfl) ?_
    refine RG.vl rfl rfl rfl (Ev.assign rfl rfl) ?_
    refine RG.vl rfl rfl rfl (Ev.assign rfl rfl) ?_
    refine RG.vl rfl rfl rfl (Ev.assign rfl rfl) ?_
    refine RG.done ?_
    refine QW.sub (S' := [(4, _), (5, _), (6, _), (7, _), (9, _), (10, _), (11, _)]) ⟨rfl, rfl, rfl, rfl, rfl, rfl, rfl, trivial⟩ ?_
    refine QW.then_ ?_
    refine CW.seq ?_
    obtain ⟨hdv, hdv2, hdv3, hdv4, hdv5⟩ := hdv1_
    have hdd := isDiv_dg (by omega) hdv
    have hdl := dg_of_tr hdv2
    have hel := dg_of_tr hdv3
    have hlt := hdv.lt
    have hdm : dg (pm d1 q) ≤ 128 ∧ dg (pm d1 q) ≤ dg d1 + dg q := by
      rcases Nat.eq_zero_or_pos (dg d1) with h0 | h0
      · rw [pm_zero d1 q (.inl h0)]; omega
      · rw [dg_pm d1 q h0 (by omega)]; omega
    refine CW.region ?_
    refine RG.vl rfl rfl rfl (Ev.move rfl rfl) ?_
    refine RG.vl rfl rfl rfl (Ev.move rfl rfl) ?_
    refine RG.call rfl rfl rfl rfl rfl rfl rfl en_37 (Product_el _ _ d1 q _ ((hod10.rdl encN_len)) (((Own.ext hq hE6).rdl encN_len)) (by omega) hdv4 (by omega) hqe (by omega)) ?_
    have hpre12 := (Ex.tr hB0 hE2)
    rintro _ w12 ⟨r12, rfl, hop12, hx12⟩
    replace hE2 := Ex.tr hE2 hx12
    replace hE4 := Ex.tr hE4 hx12
    replace hE6 := Ex.tr hE6 hx12
    replace hE11 := Ex.tr hE11 hx12
    have hE13 := hx12
    refine RG.vl rfl rfl rfl (Ev.move rfl rfl) ?_
    refine RG.vl rfl rfl rfl (Ev.extract rfl rfl rfl) ?_
    refine RG.vl rfl rfl rfl (Ev.extract rfl rfl rfl) ?_
    refine RG.vl rfl rfl rfl (Ev.assign rfl rfl) ?_
    refine RG.vl rfl rfl rfl (Ev.assign rfl rfl) ?_
    refine RG.done ?_
    refine QW.then_ ?_
    refine CW.seq ?_
    refine CW.region ?_
    refine RG.vl rfl rfl rfl (Ev.move rfl rfl) ?_
    refine RG.vl rfl rfl rfl (Ev.move rfl rfl) ?_
    refine RG.call rfl rfl rfl rfl rfl rfl rfl en_39 (Sum_el _ _ _ e1 _ ((hop12.rdl encN_len)) (((Own.ext hoe10 hE13).rdl encN_len)) (by rw [tr_len]; omega) (el_pm _ _).tr (by omega) hdv5) ?_
    have hpre14 := (Ex.tr hB0 hE2)
    rintro _ w14 ⟨r14, rfl, hos14, hx14⟩
    replace hE2 := Ex.tr hE2 hx14
    replace hE4 := Ex.tr hE4 hx14
    replace hE6 := Ex.tr hE6 hx14
    replace hE11 := Ex.tr hE11 hx14
    replace hE13 := Ex.tr hE13 hx14
    have hE15 := hx14
    refine RG.vl rfl rfl rfl (Ev.move rfl rfl) ?_
    refine RG.vl rfl rfl rfl (Ev.extract rfl rfl rfl) ?_
    refine RG.vl rfl rfl rfl (Ev.extract rfl rfl rfl) ?_
    refine RG.vl rfl rfl rfl (Ev.assign rfl rfl) ?_
    refine RG.vl rfl rfl rfl (Ev.assign rfl rfl) ?_
    refine RG.done ?_
    refine QW.sub (S' := [(4, _), (5, _), (6, _), (7, _), (10, _), (11, _), (13, _), (14, _), (15, _)]) ⟨rfl, rfl, rfl, rfl, rfl, rfl, rfl, rfl, rfl, trivial⟩ ?_
    refine QW.then_ ?_
    refine CW.seq ?_
    refine CW.region ?_
    refine RG.vl rfl rfl rfl (Ev.move rfl rfl) ?_
    refine RG.call rfl rfl rfl rfl rfl rfl rfl en_38 (Trim_el _ p _ (((Own.ext hp hE4).rdl encN_len)) (by omega) hpe) ?_
    have hpre16 := (Ex.tr hB0 hE2)
    rintro _ w16 ⟨r16, rfl, hot16, hx16⟩
    replace hE2 := Ex.tr hE2 hx16
    replace hE4 := Ex.tr hE4 hx16
    replace hE6 := Ex.tr hE6 hx16
    replace hE11 := Ex.tr hE11 hx16
    replace hE13 := Ex.tr hE13 hx16
    replace hE15 := Ex.tr hE15 hx16
    have hE17 := hx16
    refine RG.vl rfl rfl rfl (Ev.move rfl rfl) ?_
    refine RG.vl rfl rfl rfl (Ev.extract rfl rfl rfl) ?_
    refine RG.vl rfl rfl rfl (Ev.extract rfl rfl rfl) ?_
    refine RG.vl rfl rfl rfl (Ev.assign rfl rfl) ?_
    refine RG.vl rfl rfl rfl (Ev.assign rfl rfl) ?_
    refine RG.done ?_
    refine QW.then_ ?_
    refine CW.seq ?_
    refine CW.region ?_
    refine RG.vl rfl rfl rfl (Ev.move rfl rfl) ?_
    refine RG.call rfl rfl rfl rfl rfl rfl rfl en_35 (Degree_el _ e1 _ (((Own.ext hoe10 hE13).rdl encN_len)) (by omega) hdv5) ?_
    rintro _ w18 ⟨rfl, hx18⟩
    replace hE2 := Ex.tr hE2 hx18
    replace hE4 := Ex.tr hE4 hx18
    replace hE6 := Ex.tr hE6 hx18
    replace hE11 := Ex.tr hE11 hx18
    replace hE13 := Ex.tr hE13 hx18
    replace hE15 := Ex.tr hE15 hx18
    replace hE17 := Ex.tr hE17 hx18
    have hE19 := hx18
    refine RG.vl rfl rfl rfl (Ev.move rfl rfl) ?_
    refine RG.vl rfl rfl rfl (Ev.extract rfl rfl rfl) ?_
    refine RG.vl rfl rfl rfl (Ev.extract rfl rfl rfl) ?_
    refine RG.vl rfl rfl rfl (Ev.assign rfl rfl) ?_
    refine RG.vl rfl rfl rfl (Ev.assign rfl rfl) ?_
    refine RG.done ?_
    refine QW.sub (S' := [(4, _), (5, _), (6, _), (7, _), (11, _), (13, _), (14, _), (15, _), (16, _), (17, _), (18, _), (19, _)]) ⟨rfl, rfl, rfl, rfl, rfl, rfl, rfl, rfl, rfl, rfl, rfl, rfl, trivial⟩ ?_
    refine QW.then_ ?_
    refine CW.seq ?_
    refine CW.seq ?_
    have hsl : dg (pa (tr (pm d1 q)) e1) ≤ 1000 := by rw [show dg (pa (tr (pm d1 q)) e1) = dg p from by rw [← dg_tr, div_back hdv, dg_tr]]; omega
    refine CW.region ?_
    refine RG.vl rfl rfl rfl (Ev.move rfl rfl) ?_
    refine RG.vl rfl rfl rfl (Ev.isF (Ev.neI rfl rfl rfl) (by decide)) ?_
    refine RG.vl rfl rfl rfl (Ev.move rfl rfl) ?_
    refine RG.vl rfl rfl rfl (Ev.move rfl rfl) ?_
    refine RG.vl rfl rfl rfl (Ev.isF (Ev.neI rfl rfl rfl) (by decide)) ?_
    refine RG.vl rfl rfl rfl (Ev.pickF rfl rfl rfl) ?_
    refine RG.vl rfl rfl rfl (Ev.move rfl rfl) ?_
    refine RG.vl rfl rfl rfl (Ev.move rfl rfl) ?_
    refine RG.vl rfl rfl rfl (Ev.isF (Ev.neI rfl rfl rfl) (by decide)) ?_
    refine RG.vl rfl rfl rfl (Ev.pickF rfl rfl rfl) ?_
    refine RG.vl rfl rfl rfl (Ev.move rfl rfl) ?_
    refine RG.vl rfl rfl rfl (Ev.move rfl rfl) ?_
    refine RG.vl rfl rfl rfl (Ev.isF (Ev.neI rfl rfl rfl) (by decide)) ?_
    refine RG.vl rfl rfl rfl (Ev.pickF rfl rfl rfl) ?_
    refine RG.vl rfl rfl rfl (Ev.move rfl rfl) ?_
    refine RG.vl rfl rfl rfl (Ev.move rfl rfl) ?_
    refine RG.vl rfl rfl rfl (Ev.isF (Ev.neI rfl rfl rfl) (by decide)) ?_
    refine RG.vl rfl rfl rfl (Ev.pickF rfl rfl rfl) ?_
    refine RG.vl rfl rfl rfl (Ev.move rfl rfl) ?_
    refine RG.vl rfl rfl rfl (Ev.move rfl rfl) ?_
    refine RG.vl rfl rfl rfl (Ev.move rfl rfl) ?_
    refine RG.vl rfl rfl rfl (Ev.isF (Ev.geq rfl rfl rfl) (by omega)) ?_
    refine RG.vl rfl rfl rfl (Ev.pickF rfl rfl rfl) ?_
    refine RG.vl rfl rfl rfl (Ev.move rfl rfl) ?_
    refine RG.vl rfl rfl rfl (Ev.move rfl rfl) ?_
    refine RG.vl rfl rfl rfl (Ev.move rfl rfl) ?_
    refine RG.call rfl rfl rfl rfl rfl rfl rfl en_31 (sameT _ _ _ _ _ (((Own.ext hos14 hE17).rdl encN_len)) (((Own.ext hot16 hE19).rdl encN_len)) (by rw [tr_len]; omega) (div_back hdv)) ?_
    rintro _ w20 ⟨rfl, hx20⟩
    replace hE2 := Ex.tr hE2 hx20
    replace hE4 := Ex.tr hE4 hx20
    replace hE6 := Ex.tr hE6 hx20
    replace hE11 := Ex.tr hE11 hx20
    replace hE13 := Ex.tr hE13 hx20
    replace hE15 := Ex.tr hE15 hx20
    replace hE17 := Ex.tr hE17 hx20
    replace hE19 := Ex.tr hE19 hx20
    have hE21 := hx20
    refine RG.vl rfl rfl rfl (Ev.notF rfl rfl) ?_
    refine RG.vl rfl rfl rfl (Ev.pickF rfl rfl rfl) ?_
    refine RG.done ?_
    refine QW.sub (S' := [(4, _), (5, _), (6, _), (16, _), (96, _)]) ⟨rfl, rfl, rfl, rfl, rfl, trivial⟩ ?_
    refine QW.then_ ?_
    refine CW.condF rfl ?_
    refine CW.skip ?_
    refine QW.then_ ?_
    refine CW.seq ?_
    have hdm2 : dg (pm p q) ≤ 128 := by
      rcases Nat.eq_zero_or_pos (dg p) with h0 | h0
      · rw [pm_zero p q (.inl h0)]; omega
      · rw [dg_pm p q h0 (by omega)]; omega
    refine CW.region ?_
    refine RG.vl rfl rfl rfl (Ev.move rfl rfl) ?_
    refine RG.vl rfl rfl rfl (Ev.move rfl rfl) ?_
    refine RG.call rfl rfl rfl rfl rfl rfl rfl en_37 (Product_el _ _ p q _ (((Own.ext hp hE4).rdl encN_len)) (((Own.ext hq hE6).rdl encN_len)) (by omega) hpe (by omega) hqe (by omega)) ?_
    have hpre22 := (Ex.tr hB0 hE2)
    rintro _ w22 ⟨r22, rfl, hoq22, hx22⟩
    replace hE2 := Ex.tr hE2 hx22
    replace hE4 := Ex.tr hE4 hx22
    replace hE6 := Ex.tr hE6 hx22
    replace hE11 := Ex.tr hE11 hx22
    replace hE13 := Ex.tr hE13 hx22
    replace hE15 := Ex.tr hE15 hx22
    replace hE17 := Ex.tr hE17 hx22
    replace hE19 := Ex.tr hE19 hx22
    replace hE21 := Ex.tr hE21 hx22
    have hE23 := hx22
    refine RG.vl rfl rfl rfl (Ev.move rfl rfl) ?_
    refine RG.vl rfl rfl rfl (Ev.extract rfl rfl rfl) ?_
    refine RG.vl rfl rfl rfl (Ev.extract rfl rfl rfl) ?_
    refine RG.vl rfl rfl rfl (Ev.assign rfl rfl) ?_
    refine RG.vl rfl rfl rfl (Ev.assign rfl rfl) ?_
    refine RG.done ?_
    refine QW.then_ ?_
    refine CW.seq ?_
    refine CW.region ?_
    refine RG.vl rfl rfl rfl (Ev.move rfl rfl) ?_
    refine RG.vl rfl rfl rfl (Ev.move rfl rfl) ?_
    refine RG.call rfl rfl rfl rfl rfl rfl rfl en_36 (Divide_el _ _ _ q _ ((hoq22.rdl encN_len)) (((Own.ext hq hE6).rdl encN_len)) (by rw [tr_len]; omega) (el_pm _ _).tr (by omega) hqe (by omega)) ?_
    have hpre24 := (Ex.tr hB0 hE2)
    rintro _ w24 ⟨r124, r224, d2, e2, rfl, hod24, hoe24, hsp24, hdv2_, hx24⟩
    replace hE2 := Ex.tr hE2 hx24
    replace hE4 := Ex.tr hE4 hx24
    replace hE6 := Ex.tr hE6 hx24
    replace hE11 := Ex.tr hE11 hx24
    replace hE13 := Ex.tr hE13 hx24
    replace hE15 := Ex.tr hE15 hx24
    replace hE17 := Ex.tr hE17 hx24
    replace hE19 := Ex.tr hE19 hx24
    replace hE21 := Ex.tr hE21 hx24
    replace hE23 := Ex.tr hE23 hx24
    have hE25 := hx24
    refine RG.vl rfl rfl rfl (Ev.move rfl rfl) ?_
    refine RG.vl rfl rfl rfl (Ev.extract rfl rfl rfl) ?_
    refine RG.vl rfl rfl rfl (Ev.extract rfl rfl rfl) ?_
    refine RG.vl rfl rfl rfl (Ev.extract rfl rfl rfl) ?_
    refine RG.vl rfl rfl rfl (Ev.assign rfl rfl) ?_
    refine RG.vl rfl rfl rfl (Ev.assign rfl rfl) ?_
    refine RG.vl rfl rfl rfl (Ev.assign rfl rfl) ?_
    refine RG.done ?_
    refine QW.sub (S' := [(4, _), (16, _), (21, _), (22, _), (23, _), (24, _)]) ⟨rfl, rfl, rfl, rfl, rfl, rfl, trivial⟩ ?_
    refine QW.then_ ?_
    refine CW.seq ?_
    obtain ⟨g1, g2, g3, g4, g5⟩ := hdv2_
    obtain ⟨rfl, rfl⟩ := div_prod (by omega) hpe hqe g1 g4 g2 g3
    refine CW.region ?_
    refine RG.vl rfl rfl rfl (Ev.move rfl rfl) ?_
    refine RG.vl rfl rfl rfl (Ev.isT (Ev.eqI rfl rfl rfl) (rfl)) ?_
    refine RG.vl rfl rfl rfl (Ev.move rfl rfl) ?_
    refine RG.vl rfl rfl rfl (Ev.move rfl rfl) ?_
    refine RG.vl rfl rfl rfl (Ev.isT (Ev.eqI rfl rfl rfl) (rfl)) ?_
    refine RG.vl rfl rfl rfl (Ev.pickT rfl rfl rfl) ?_
    refine RG.vl rfl rfl rfl (Ev.move rfl rfl) ?_
    refine RG.vl rfl rfl rfl (Ev.move rfl rfl) ?_
    refine RG.vl rfl rfl rfl (Ev.lenL rfl rfl rfl Try.underlying39 ((hoe24.rdl encN_len))) ?_
    refine RG.vl rfl rfl rfl (Ev.isT (Ev.eqI rfl rfl rfl) (rfl)) ?_
    refine RG.vl rfl rfl rfl (Ev.pickT rfl rfl rfl) ?_
    refine RG.vl rfl rfl rfl (Ev.move rfl rfl) ?_
    refine RG.vl rfl rfl rfl (Ev.move rfl rfl) ?_
    refine RG.vl rfl rfl rfl (Ev.move rfl rfl) ?_
    refine RG.call rfl rfl rfl rfl rfl rfl rfl en_31 (sameT _ _ _ _ _ ((hod24.rdl encN_len)) (((Own.ext hot16 hE19).rdl encN_len)) (by rw [tr_len]; omega) rfl) ?_
    rintro _ w26 ⟨rfl, hx26⟩
    replace hE2 := Ex.tr hE2 hx26
    replace hE4 := Ex.tr hE4 hx26
    replace hE6 := Ex.tr hE6 hx26
    replace hE11 := Ex.tr hE11 hx26
    replace hE13 := Ex.tr hE13 hx26
    replace hE15 := Ex.tr hE15 hx26
    replace hE17 := Ex.tr hE17 hx26
    replace hE19 := Ex.tr hE19 hx26
    replace hE21 := Ex.tr hE21 hx26
    replace hE23 := Ex.tr hE23 hx26
    replace hE25 := Ex.tr hE25 hx26
    have hE27 := hx26
    refine RG.vl rfl rfl rfl (Ev.pickT rfl rfl rfl) ?_
    refine RG.vl rfl rfl rfl (Ev.move rfl rfl) ?_
    refine RG.call rfl rfl rfl rfl rfl rfl rfl en_13 (awake_ret _) ?_
    rintro _ w28 ⟨rfl, hx28⟩
    replace hE2 := Ex.tr hE2 hx28
    replace hE4 := Ex.tr hE4 hx28
    replace hE6 := Ex.tr hE6 hx28
    replace hE11 := Ex.tr hE11 hx28
    replace hE13 := Ex.tr hE13 hx28
    replace hE15 := Ex.tr hE15 hx28
    replace hE17 := Ex.tr hE17 hx28
    replace hE19 := Ex.tr hE19 hx28
    replace hE21 := Ex.tr hE21 hx28
    replace hE23 := Ex.tr hE23 hx28
    replace hE25 := Ex.tr hE25 hx28
    replace hE27 := Ex.tr hE27 hx28
    have hE29 := hx28
    refine RG.vl rfl rfl rfl (Ev.pickT rfl rfl rfl) ?_
    refine RG.vl rfl rfl rfl (Ev.assign rfl rfl) ?_
    refine RG.done ?_
    refine QW.sub (S' := [(4, _)]) ⟨rfl, trivial⟩ ?_
    refine QW.then_ ?_
    refine CW.ret ?_
    refine QW.ret1 rfl rfl ?_
    have hB := (Ex.tr hB0 hE2)
    exact ⟨rfl, hB⟩

end Go.Proofs.Ytjaledljhiihmaa
