/- Walks (HI). Written by program. -/
import Derived.Test.YtnecppiamecemaaT
import Derived.Test.YtnecppiamecemaaHH
namespace Go.Proofs.Ytnecppiamecemaa
open Go.RowKit
set_option maxRecDepth 100000 in
set_option maxHeartbeats 1000000 in
theorem heightReads_ret (s : Su) (u : Value) (l : List Br) (w : World) (hl : RdL w 3 Br.c u l) :
    Ret Try.prog 3 [s.v, u] w (fun v w' => v = .bool true ∧ Ex w w') := by
  have hB0 : Ex w w := Ex.rfl_ _
  refine Ret.of Try.func3 rfl Try.ntmps3 rfl ?_
  refine CW.seq ?_
  refine CW.region ?_
  refine RG.box rfl rfl rfl rfl rfl (fun g1 w1 eg1 hx1 hb1 => ?_)
  have hE2 := hx1
  refine RG.vl rfl rfl rfl (Ev.assign rfl rfl) ?_
  refine RG.done ?_
  refine QW.then_ ?_
  refine CW.seq ?_
  refine CW.seq ?_
  refine CW.region ?_
  refine RG.vl rfl rfl rfl (Ev.move rfl rfl) ?_
  refine RG.vl rfl rfl rfl (Ev.lenL rfl rfl rfl Try.underlying24 ((hl.ext hE2))) ?_
  refine RG.vl rfl rfl rfl (Ev.gtr rfl rfl rfl) ?_
  refine RG.done ?_
  refine QW.then_ ?_
  refine CW.condP rfl (fun hc3 => ?_) (fun hc3 => ?_)
  · refine CW.seq ?_
    refine CW.region ?_
    refine RG.call rfl rfl rfl rfl rfl rfl rfl en_9 (awake_ret _) ?_
    rintro _ w4 ⟨rfl, hx4⟩
    replace hE2 := Ex.tr hE2 hx4
    have hE5 := hx4
    refine RG.vl rfl rfl rfl (Ev.assign rfl rfl) ?_
    refine RG.done ?_
    refine QW.then_ ?_
    refine CW.ret ?_
    refine QW.thenRet ?_
    refine QW.ret1 rfl rfl ?_
    have hB := (Ex.tr hB0 hE2)
    exact ⟨rfl, hB⟩
  · refine CW.skip ?_
    refine QW.then_ ?_
    refine CW.seq ?_
    refine CW.region ?_
    replace hl := (hl.ext hE2)
    have hR6 := (Ex.tr hB0 hE2)
    refine RG.build0 rfl rfl rfl rfl rfl Try.underlying24 sz_48 (fun g7 w7 eg7 hx7 hb7 => ?_)
    have hown8 := own_blk (B := w1.heap.size) (m := 0) (sz := 3) hb7 (Nat.le_of_eq eg7.symm) (Nat.zero_le _) (by simp)
    have hE9 := hx7
    refine RG.vl rfl rfl rfl (Ev.move rfl rfl) ?_
    refine RG.appL rfl rfl rfl rfl rfl rfl rfl Try.underlying24 inf_48 rfl rfl Br.c_len (fun _ => rfl) hown8 (hl.ext hE9) (by simp only [maxLen]; omega) (by omega) (hE9.size) (fun v10 wa11 hown12 hgr13 hat14 => ?_)
    replace hE9 := own_block hown8 hE9 hgr13 (Nat.le_refl _) hE9.size
    refine RG.vl rfl rfl rfl (Ev.assign rfl rfl) ?_
    refine RG.done ?_
    refine QW.then_ ?_
    refine CW.seq ?_
    have hr5 : RdL _ 3 Br.c v10 l := RdL.of_own Br.c_len (by simpa using hown12)
    refine CW.region ?_
    refine RG.vl rfl rfl rfl (Ev.ldAgg rfl rfl Try.underlying23 rfl sz_23 rfl ((hb1.ext hE9).cells)) ?_
    refine RG.vl rfl rfl rfl (Ev.move rfl rfl) ?_
    refine RG.call rfl rfl rfl rfl rfl rfl rfl en_10 (read_ret s _ l _ (hr5) (by omega)) ?_
    rintro _ w15 ⟨rfl, hx15⟩
    replace hE9 := Ex.tr hE9 hx15
    have hE16 := hx15
    refine RG.vl rfl rfl rfl (Ev.move rfl rfl) ?_
    refine RG.vl rfl rfl rfl (Ev.extract rfl rfl rfl) ?_
    refine RG.vl rfl rfl rfl (Ev.extract rfl rfl rfl) ?_
    refine RG.vl rfl rfl rfl (Ev.assign rfl rfl) ?_
    refine RG.vl rfl rfl rfl (Ev.assign rfl rfl) ?_
    refine RG.done ?_
    refine QW.sub (S' := [(1, _), (2, _), (4, _), (5, _), (6, _), (7, _)]) ⟨rfl, rfl, rfl, rfl, rfl, rfl, trivial⟩ ?_
    refine QW.then_ ?_
    refine CW.seq ?_
    refine CW.region ?_
    refine RG.vl rfl rfl rfl (Ev.ldAgg rfl rfl Try.underlying23 rfl sz_23 rfl ((hb1.ext hE9).cells)) ?_
    refine RG.vl rfl rfl rfl (Ev.move rfl rfl) ?_
    refine RG.call rfl rfl rfl rfl rfl rfl rfl en_11 (margin_ret s _ l _ ((hr5.ext hE16)) (by omega)) ?_
    rintro _ w17 ⟨rfl, hx17⟩
    replace hE9 := Ex.tr hE9 hx17
    replace hE16 := Ex.tr hE16 hx17
    have hE18 := hx17
    refine RG.vl rfl rfl rfl (Ev.move rfl rfl) ?_
    refine RG.vl rfl rfl rfl (Ev.extract rfl rfl rfl) ?_
    refine RG.vl rfl rfl rfl (Ev.extract rfl rfl rfl) ?_
    refine RG.vl rfl rfl rfl (Ev.assign rfl rfl) ?_
    refine RG.vl rfl rfl rfl (Ev.assign rfl rfl) ?_
    refine RG.done ?_
    refine QW.then_ ?_
    refine CW.seq ?_
    refine CW.region ?_
    refine RG.vl rfl rfl rfl (Ev.ldAgg rfl rfl Try.underlying23 rfl sz_23 rfl ((hb1.ext hE9).cells)) ?_
    refine RG.local_ rfl rfl rfl rfl (fun _ => rfl) rfl rfl (fun _ => rfl) inf_31 rfl rfl rfl (fun g19 w19 eg19 hx19 hb19 => ?_)
    replace hE9 := Ex.tr hE9 hx19
    replace hE16 := Ex.tr hE16 hx19
    replace hE18 := Ex.tr hE18 hx19
    refine RG.done ?_
    refine QW.then_ ?_
    refine CW.seq ?_
    refine CW.draw [] (.ex) 9 rfl mixed (fun wd20 hxwd20 => ?_)
    replace hE9 := Ex.tr hE9 hxwd20
    replace hE16 := Ex.tr hE16 hxwd20
    replace hE18 := Ex.tr hE18 hxwd20
    have hE21 := hxwd20
    refine AG.take 0 rfl (by kernel_rfl) (by kernel_rfl) rfl rfl rfl (fun wq hq => Ev.ldAgg rfl rfl Try.underlying31 rfl sz_31 rfl (((hb19.ext hE21).ext hq).cells)) ?_
    refine AG.takeW 1 rfl (by kernel_rfl) (by kernel_rfl) rfl rfl rfl (fun _ => Ev.move rfl rfl) ?_
    refine AG.only 2 rfl (by kernel_rfl) ?_
    refine RG.call rfl rfl rfl rfl rfl rfl rfl en_13 (given_ret _ _ _ ((hl.ext hE9)) (by omega)) ?_
    rintro _ w23 ⟨hq23, hx23⟩
    replace hE9 := Ex.tr hE9 hx23
    replace hE16 := Ex.tr hE16 hx23
    replace hE18 := Ex.tr hE18 hx23
    replace hE21 := Ex.tr hE21 hx23
    have hE24 := hx23
    refine RG.done ?_
    refine QW.an (fun _ => hE24) ?_
    refine AG.only 3 rfl (by kernel_rfl) ?_
    refine RG.call rfl rfl rfl rfl rfl rfl rfl en_12 (rread_ret s _ l _ (hq23) (by omega)) ?_
    rintro _ w26 ⟨rfl, hx26⟩
    replace hE9 := Ex.tr hE9 hx26
    replace hE16 := Ex.tr hE16 hx26
    replace hE18 := Ex.tr hE18 hx26
    replace hE21 := Ex.tr hE21 hx26
    replace hE24 := Ex.tr hE24 hx26
    have hE27 := hx26
    refine RG.done ?_
    refine QW.an (fun _ => hE27) ?_
    refine AG.takeW 4 rfl (by kernel_rfl) (by kernel_rfl) rfl rfl rfl (fun _ => Ev.move rfl rfl) ?_
    refine AG.takeW 5 rfl (by kernel_rfl) (by kernel_rfl) rfl rfl rfl (fun _ => Ev.extract rfl rfl rfl) ?_
    refine AG.takeW 6 rfl (by kernel_rfl) (by kernel_rfl) rfl rfl rfl (fun _ => Ev.extract rfl rfl rfl) ?_
    refine AG.takeW 7 rfl (by kernel_rfl) (by kernel_rfl) rfl rfl rfl (fun _ => Ev.assign rfl rfl) ?_
    refine AG.takeW 8 rfl (by kernel_rfl) (by kernel_rfl) rfl rfl rfl (fun _ => Ev.assign rfl rfl) ?_
    refine AG.done (by kernel_rfl) ?_
    refine QW.sub (S' := [(1, _), (2, _), (4, _), (5, _), (6, _), (7, _), (8, _), (9, _), (10, _), (11, _), (12, _)]) ⟨rfl, rfl, rfl, rfl, rfl, rfl, rfl, rfl, rfl, rfl, rfl, trivial⟩ ?_
    refine QW.then_ ?_
    refine CW.seq ?_
    refine CW.draw [] (.ex) 9 rfl mixed (fun wd28 hxwd28 => ?_)
    replace hE9 := Ex.tr hE9 hxwd28
    replace hE16 := Ex.tr hE16 hxwd28
    replace hE18 := Ex.tr hE18 hxwd28
    replace hE21 := Ex.tr hE21 hxwd28
    replace hE24 := Ex.tr hE24 hxwd28
    replace hE27 := Ex.tr hE27 hxwd28
    refine AG.take 0 rfl (by kernel_rfl) (by kernel_rfl) rfl rfl rfl (fun wq hq => Ev.ldAgg rfl rfl Try.underlying31 rfl sz_31 rfl (((hb19.ext hE21).ext hq).cells)) ?_
    refine AG.takeW 1 rfl (by kernel_rfl) (by kernel_rfl) rfl rfl rfl (fun _ => Ev.move rfl rfl) ?_
    refine AG.only 2 rfl (by kernel_rfl) ?_
    refine RG.call rfl rfl rfl rfl rfl rfl rfl en_13 (given_ret _ _ _ ((hl.ext hE9)) (by omega)) ?_
    rintro _ w30 ⟨hq30, hx30⟩
    replace hE9 := Ex.tr hE9 hx30
    replace hE16 := Ex.tr hE16 hx30
    replace hE18 := Ex.tr hE18 hx30
    replace hE21 := Ex.tr hE21 hx30
    replace hE24 := Ex.tr hE24 hx30
    replace hE27 := Ex.tr hE27 hx30
    have hE31 := hx30
    refine RG.done ?_
    refine QW.an (fun _ => hE31) ?_
    refine AG.only 3 rfl (by kernel_rfl) ?_
    refine RG.call rfl rfl rfl rfl rfl rfl rfl en_14 (rmargin_ret s _ l _ (hq30) (by omega)) ?_
    rintro _ w33 ⟨rfl, hx33⟩
    replace hE9 := Ex.tr hE9 hx33
    replace hE16 := Ex.tr hE16 hx33
    replace hE18 := Ex.tr hE18 hx33
    replace hE21 := Ex.tr hE21 hx33
    replace hE24 := Ex.tr hE24 hx33
    replace hE27 := Ex.tr hE27 hx33
    replace hE31 := Ex.tr hE31 hx33
    have hE34 := hx33
    refine RG.done ?_
    refine QW.an (fun _ => hE34) ?_
    refine AG.takeW 4 rfl (by kernel_rfl) (by kernel_rfl) rfl rfl rfl (fun _ => Ev.move rfl rfl) ?_
    refine AG.takeW 5 rfl (by kernel_rfl) (by kernel_rfl) rfl rfl rfl (fun _ => Ev.extract rfl rfl rfl) ?_
    refine AG.takeW 6 rfl (by kernel_rfl) (by kernel_rfl) rfl rfl rfl (fun _ => Ev.extract rfl rfl rfl) ?_
    refine AG.takeW 7 rfl (by kernel_rfl) (by kernel_rfl) rfl rfl rfl (fun _ => Ev.assign rfl rfl) ?_
    refine AG.takeW 8 rfl (by kernel_rfl) (by kernel_rfl) rfl rfl rfl (fun _ => Ev.assign rfl rfl) ?_
    refine AG.done (by kernel_rfl) ?_
    refine QW.then_ ?_
    refine CW.seq ?_
    refine CW.draw [] (.ex) 34 rfl mixed (fun wd35 hxwd35 => ?_)
    replace hE9 := Ex.tr hE9 hxwd35
    replace hE16 := Ex.tr hE16 hxwd35
    replace hE18 := Ex.tr hE18 hxwd35
    replace hE21 := Ex.tr hE21 hxwd35
    replace hE24 := Ex.tr hE24 hxwd35
    replace hE27 := Ex.tr hE27 hxwd35
    replace hE31 := Ex.tr hE31 hxwd35
    replace hE34 := Ex.tr hE34 hxwd35
    refine AG.take 0 rfl (by kernel_rfl) (by kernel_rfl) rfl rfl rfl (fun wq hq => Ev.ldAgg rfl rfl Try.underlying23 rfl sz_23 rfl (((hb1.ext hE9).ext hq).cells)) ?_
    refine AG.take 2 rfl (by kernel_rfl) (by kernel_rfl) rfl rfl rfl (fun wq hq => Ev.ldAgg rfl rfl Try.underlying31 rfl sz_31 rfl (((hb19.ext hE21).ext hq).cells)) ?_
    refine AG.only 1 rfl (by kernel_rfl) ?_
    refine RG.call rfl rfl rfl rfl rfl rfl rfl en_15 (right_ret _ _) ?_
    rintro _ w37 ⟨rfl, hx37⟩
    replace hE9 := Ex.tr hE9 hx37
    replace hE16 := Ex.tr hE16 hx37
    replace hE18 := Ex.tr hE18 hx37
    replace hE21 := Ex.tr hE21 hx37
    replace hE24 := Ex.tr hE24 hx37
    replace hE27 := Ex.tr hE27 hx37
    replace hE31 := Ex.tr hE31 hx37
    replace hE34 := Ex.tr hE34 hx37
    have hE38 := hx37
    refine RG.done ?_
    refine QW.an (fun _ => hE38) ?_
    refine AG.only 3 rfl (by kernel_rfl) ?_
    refine RG.call rfl rfl rfl rfl rfl rfl rfl en_16 (rright_ret _ _) ?_
    rintro _ w40 ⟨rfl, hx40⟩
    replace hE9 := Ex.tr hE9 hx40
    replace hE16 := Ex.tr hE16 hx40
    replace hE18 := Ex.tr hE18 hx40
    replace hE21 := Ex.tr hE21 hx40
    replace hE24 := Ex.tr hE24 hx40
    replace hE27 := Ex.tr hE27 hx40
    replace hE31 := Ex.tr hE31 hx40
    replace hE34 := Ex.tr hE34 hx40
    replace hE38 := Ex.tr hE38 hx40
    have hE41 := hx40
    refine RG.done ?_
    refine QW.an (fun _ => hE41) ?_
    refine AG.takeW 4 rfl (by kernel_rfl) (by kernel_rfl) rfl rfl rfl (fun _ => Ev.isT (Ev.eqB rfl rfl rfl Try.underlying4) (rfl)) ?_
    refine AG.takeW 5 rfl (by kernel_rfl) (by kernel_rfl) rfl rfl rfl (fun _ => Ev.move rfl rfl) ?_
    refine AG.takeW 6 rfl (by kernel_rfl) (by kernel_rfl) rfl rfl rfl (fun _ => Ev.move rfl rfl) ?_
    refine AG.takeW 7 rfl (by kernel_rfl) (by kernel_rfl) rfl rfl rfl (fun _ => Ev.move rfl rfl) ?_
    refine AG.takeW 8 rfl (by kernel_rfl) (by kernel_rfl) rfl rfl rfl (fun _ => Ev.isT (Ev.eqS rfl rfl rfl) (rfl)) ?_
    refine AG.takeW 9 rfl (by kernel_rfl) (by kernel_rfl) rfl rfl rfl (fun _ => Ev.pickT rfl rfl rfl) ?_
    refine AG.takeW 10 rfl (by kernel_rfl) (by kernel_rfl) rfl rfl rfl (fun _ => Ev.move rfl rfl) ?_
    refine AG.takeW 11 rfl (by kernel_rfl) (by kernel_rfl) rfl rfl rfl (fun _ => Ev.move rfl rfl) ?_
    refine AG.takeW 12 rfl (by kernel_rfl) (by kernel_rfl) rfl rfl rfl (fun _ => Ev.move rfl rfl) ?_
    refine AG.takeW 13 rfl (by kernel_rfl) (by kernel_rfl) rfl rfl rfl (fun _ => Ev.isT (Ev.eqI rfl rfl rfl) (rfl)) ?_
    refine AG.takeW 14 rfl (by kernel_rfl) (by kernel_rfl) rfl rfl rfl (fun _ => Ev.pickT rfl rfl rfl) ?_
    refine AG.takeW 15 rfl (by kernel_rfl) (by kernel_rfl) rfl rfl rfl (fun _ => Ev.move rfl rfl) ?_
    refine AG.takeW 16 rfl (by kernel_rfl) (by kernel_rfl) rfl rfl rfl (fun _ => Ev.move rfl rfl) ?_
    refine AG.takeW 17 rfl (by kernel_rfl) (by kernel_rfl) rfl rfl rfl (fun _ => Ev.move rfl rfl) ?_
    refine AG.takeW 18 rfl (by kernel_rfl) (by kernel_rfl) rfl rfl rfl (fun _ => Ev.isT (Ev.eqI rfl rfl rfl) (rfl)) ?_
    refine AG.takeW 19 rfl (by kernel_rfl) (by kernel_rfl) rfl rfl rfl (fun _ => Ev.pickT rfl rfl rfl) ?_
    refine AG.takeW 20 rfl (by kernel_rfl) (by kernel_rfl) rfl rfl rfl (fun _ => Ev.move rfl rfl) ?_
    refine AG.takeW 21 rfl (by kernel_rfl) (by kernel_rfl) rfl rfl rfl (fun _ => Ev.move rfl rfl) ?_
    refine AG.takeW 22 rfl (by kernel_rfl) (by kernel_rfl) rfl rfl rfl (fun _ => Ev.move rfl rfl) ?_
    refine AG.takeW 23 rfl (by kernel_rfl) (by kernel_rfl) rfl rfl rfl (fun _ => Ev.isT (Ev.eqI rfl rfl rfl) (rfl)) ?_
    refine AG.takeW 24 rfl (by kernel_rfl) (by kernel_rfl) rfl rfl rfl (fun _ => Ev.pickT rfl rfl rfl) ?_
    refine AG.takeW 25 rfl (by kernel_rfl) (by kernel_rfl) rfl rfl rfl (fun _ => Ev.move rfl rfl) ?_
    refine AG.takeW 26 rfl (by kernel_rfl) (by kernel_rfl) rfl rfl rfl (fun _ => Ev.move rfl rfl) ?_
    refine AG.takeW 27 rfl (by kernel_rfl) (by kernel_rfl) rfl rfl rfl (fun _ => Ev.move rfl rfl) ?_
    refine AG.only 28 rfl (by kernel_rfl) ?_
    refine RG.call rfl rfl rfl rfl rfl rfl rfl en_17 (same_self _ _ l _ ((hr5.ext hE16)) ((hl.ext hE9)) (by omega)) ?_
    rintro _ w43 ⟨rfl, hx43⟩
    replace hE9 := Ex.tr hE9 hx43
    replace hE16 := Ex.tr hE16 hx43
    replace hE18 := Ex.tr hE18 hx43
    replace hE21 := Ex.tr hE21 hx43
    replace hE24 := Ex.tr hE24 hx43
    replace hE27 := Ex.tr hE27 hx43
    replace hE31 := Ex.tr hE31 hx43
    replace hE34 := Ex.tr hE34 hx43
    replace hE38 := Ex.tr hE38 hx43
    replace hE41 := Ex.tr hE41 hx43
    have hE44 := hx43
    refine RG.done ?_
    refine QW.an (fun _ => hE44) ?_
    refine AG.takeW 29 rfl (by kernel_rfl) (by kernel_rfl) rfl rfl rfl (fun _ => Ev.pickT rfl rfl rfl) ?_
    refine AG.takeW 30 rfl (by kernel_rfl) (by kernel_rfl) rfl rfl rfl (fun _ => Ev.move rfl rfl) ?_
    refine AG.only 31 rfl (by kernel_rfl) ?_
    refine RG.call rfl rfl rfl rfl rfl rfl rfl en_9 (awake_ret _) ?_
    rintro _ w46 ⟨rfl, hx46⟩
    replace hE9 := Ex.tr hE9 hx46
    replace hE16 := Ex.tr hE16 hx46
    replace hE18 := Ex.tr hE18 hx46
    replace hE21 := Ex.tr hE21 hx46
    replace hE24 := Ex.tr hE24 hx46
    replace hE27 := Ex.tr hE27 hx46
    replace hE31 := Ex.tr hE31 hx46
    replace hE34 := Ex.tr hE34 hx46
    replace hE38 := Ex.tr hE38 hx46
    replace hE41 := Ex.tr hE41 hx46
    replace hE44 := Ex.tr hE44 hx46
    have hE47 := hx46
    refine RG.done ?_
    refine QW.an (fun _ => hE47) ?_
    refine AG.takeW 32 rfl (by kernel_rfl) (by kernel_rfl) rfl rfl rfl (fun _ => Ev.pickT rfl rfl rfl) ?_
    refine AG.takeW 33 rfl (by kernel_rfl) (by kernel_rfl) rfl rfl rfl (fun _ => Ev.assign rfl rfl) ?_
    refine AG.done (by kernel_rfl) ?_
    refine QW.sub (S' := [(4, _)]) ⟨rfl, trivial⟩ ?_
    refine QW.then_ ?_
    refine CW.ret ?_
    refine QW.ret1 rfl rfl ?_
    have hB := (Ex.tr hR6 hE9)
    exact ⟨rfl, hB⟩

set_option maxRecDepth 100000 in
set_option maxHeartbeats 1000000 in
theorem heightDraws_ret (s : Su) (t : ByteArray) (w : World)  :
    Ret Try.prog 4 [s.v, .string t] w (fun v w' => v = .bool true ∧ Ex w w') := by
  have hB0 : Ex w w := Ex.rfl_ _
  refine Ret.of Try.func4 rfl Try.ntmps4 rfl ?_
  refine CW.seq ?_
  refine CW.region ?_
  refine RG.box rfl rfl rfl rfl rfl (fun g1 w1 eg1 hx1 hb1 => ?_)
  have hE2 := hx1
  refine RG.vl rfl rfl rfl (Ev.assign rfl rfl) ?_
  refine RG.done ?_
  refine QW.then_ ?_
  refine CW.seq ?_
  refine CW.seq ?_
  refine CW.region ?_
  refine RG.vl rfl rfl rfl (Ev.move rfl rfl) ?_
  refine RG.vl rfl rfl rfl (Ev.lenStr rfl rfl rfl Try.underlying9) ?_
  refine RG.vl rfl rfl rfl (Ev.gtr rfl rfl rfl) ?_
  refine RG.done ?_
  refine QW.then_ ?_
  refine CW.condP rfl (fun hc3 => ?_) (fun hc3 => ?_)
  · refine CW.seq ?_
    refine CW.region ?_
    refine RG.call rfl rfl rfl rfl rfl rfl rfl en_9 (awake_ret _) ?_
    rintro _ w4 ⟨rfl, hx4⟩
    replace hE2 := Ex.tr hE2 hx4
    have hE5 := hx4
    refine RG.vl rfl rfl rfl (Ev.assign rfl rfl) ?_
    refine RG.done ?_
    refine QW.then_ ?_
    refine CW.ret ?_
    refine QW.thenRet ?_
    refine QW.ret1 rfl rfl ?_
    have hB := (Ex.tr hB0 hE2)
    exact ⟨rfl, hB⟩
  · refine CW.skip ?_
    refine QW.then_ ?_
    refine CW.seq ?_
    refine CW.region ?_
    refine RG.vl rfl rfl rfl (Ev.ldAgg rfl rfl Try.underlying23 rfl sz_23 rfl (hb1.cells)) ?_
    refine RG.vl rfl rfl rfl (Ev.move rfl rfl) ?_
    refine RG.call rfl rfl rfl rfl rfl rfl rfl en_18 (draw_ret _ _ _ (by omega)) ?_
    rintro _ w6 ⟨dr6, rfl, hdr6, hx6⟩
    replace hE2 := Ex.tr hE2 hx6
    have hE7 := hx6
    refine RG.vl rfl rfl rfl (Ev.move rfl rfl) ?_
    refine RG.vl rfl rfl rfl (Ev.extract rfl rfl rfl) ?_
    refine RG.vl rfl rfl rfl (Ev.extract rfl rfl rfl) ?_
    refine RG.vl rfl rfl rfl (Ev.assign rfl rfl) ?_
    refine RG.vl rfl rfl rfl (Ev.assign rfl rfl) ?_
    refine RG.done ?_
    refine QW.then_ ?_
    refine CW.seq ?_
    refine CW.region ?_
    refine RG.vl rfl rfl rfl (Ev.ldAgg rfl rfl Try.underlying23 rfl sz_23 rfl ((hb1.ext hE7).cells)) ?_
    refine RG.vl rfl rfl rfl (Ev.move rfl rfl) ?_
    refine RG.call rfl rfl rfl rfl rfl rfl rfl en_19 (rdraw_ret _ _ _ (by omega)) ?_
    rintro _ w8 ⟨dr8, rfl, hdr8, hx8⟩
    replace hE2 := Ex.tr hE2 hx8
    replace hE7 := Ex.tr hE7 hx8
    have hE9 := hx8
    refine RG.vl rfl rfl rfl (Ev.move rfl rfl) ?_
    refine RG.vl rfl rfl rfl (Ev.extract rfl rfl rfl) ?_
    refine RG.vl rfl rfl rfl (Ev.extract rfl rfl rfl) ?_
    refine RG.vl rfl rfl rfl (Ev.assign rfl rfl) ?_
    refine RG.vl rfl rfl rfl (Ev.assign rfl rfl) ?_
    refine RG.done ?_
    refine QW.sub (S' := [(4, _), (5, _), (6, _), (7, _), (8, _)]) ⟨rfl, rfl, rfl, rfl, rfl, trivial⟩ ?_
    refine QW.then_ ?_
    refine CW.seq ?_
    refine CW.seq ?_
    refine CW.region ?_
    refine RG.vl rfl rfl rfl (Ev.move rfl rfl) ?_
    refine RG.vl rfl rfl rfl (Ev.move rfl rfl) ?_
    refine RG.vl rfl rfl rfl (Ev.isF (Ev.neI rfl rfl rfl) (fun h => h rfl)) ?_
    refine RG.vl rfl rfl rfl (Ev.move rfl rfl) ?_
    refine RG.vl rfl rfl rfl (Ev.move rfl rfl) ?_
    refine RG.vl rfl rfl rfl (Ev.lenL rfl rfl rfl Try.underlying24 ((hdr6.ext hE9))) ?_
    refine RG.vl rfl rfl rfl (Ev.move rfl rfl) ?_
    refine RG.vl rfl rfl rfl (Ev.lenL rfl rfl rfl Try.underlying34 (hdr8)) ?_
    refine RG.vl rfl rfl rfl (Ev.isF (Ev.neI rfl rfl rfl) (fun h => h rfl)) ?_
    refine RG.vl rfl rfl rfl (Ev.pickF rfl rfl rfl) ?_
    refine RG.done ?_
    refine QW.then_ ?_
    refine CW.condF rfl ?_
    refine CW.skip ?_
    refine QW.then_ ?_
    refine CW.seq ?_
    refine CW.seq ?_
    have hlz : t.data.toList.length = t.size := Array.length_toList
    have hdl : (drawOf s t.data.toList).length ≤ t.size := by unfold drawOf; split; have := drawL_len s t.data.toList 0; omega; simp
    refine CW.region ?_
    refine RG.vl rfl rfl rfl (Ev.move rfl rfl) ?_
    refine RG.vl rfl rfl rfl (Ev.lenL rfl rfl rfl Try.underlying24 ((hdr6.ext hE9))) ?_
    refine RG.vl rfl rfl rfl (Ev.move rfl rfl) ?_
    refine RG.done ?_
    refine QW.then_ ?_
    refine CW.block ?_
    replace hb1 := (hb1.ext hE7)
    replace hdr6 := (hdr6.ext hE9)
    have hR10 := (Ex.tr hB0 hE2)
    have hR11 := hE7
    have hR12 := hE9
    refine CW.loop1 [(5, _), (7, _), (37, _)] ⟨rfl, rfl, rfl, trivial⟩ (fun (k : Nat) => [(38, .int .i64 k)]) (fun k w' => (k ≤ (drawOf s t.data.toList).length) ∧ Ex w8 w') (fun k => (drawOf s t.data.toList).length - k) (0) ⟨rfl, trivial⟩ ⟨Nat.zero_le _, (Ex.rfl_ _)⟩ ?_
    rintro k wl13 ⟨hkl, hxwl13⟩
    refine CW.sub (S' := [(38, _), (5, _), (7, _), (37, _)]) ⟨rfl, rfl, rfl, rfl, trivial⟩ ?_
    refine CW.seq ?_
    refine CW.region ?_
    refine RG.vl rfl rfl rfl (Ev.lss rfl rfl rfl) ?_
    refine RG.done ?_
    refine QW.then_ ?_
    refine CW.seq ?_
    refine CW.condP rfl (fun hc14 => ?_) (fun hc14 => ?_)
    · refine CW.skip ?_
      refine QW.then_ ?_
      refine CW.seq ?_
      refine CW.block ?_
      refine CW.seq ?_
      obtain ⟨b, hk⟩ : ∃ b, (drawOf s t.data.toList)[k]? = some b := ⟨_, List.getElem?_eq_getElem (by omega)⟩
      refine CW.region ?_
      refine RG.vl rfl rfl rfl (Ev.move rfl rfl) ?_
      refine RG.vl rfl rfl rfl (Ev.assign rfl rfl) ?_
      refine RG.done ?_
      refine QW.then_ ?_
      refine CW.seq ?_
      refine CW.draw [] (.ex) 9 rfl mixed (fun wd15 hxwd15 => ?_)
      replace hxwl13 := Ex.tr hxwl13 hxwd15
      have hE16 := hxwd15
      refine AG.takeW 0 rfl (by kernel_rfl) (by kernel_rfl) rfl rfl rfl (fun _ => Ev.move rfl rfl) ?_
      refine AG.takeW 1 rfl (by kernel_rfl) (by kernel_rfl) rfl rfl rfl (fun _ => Ev.move rfl rfl) ?_
      refine AG.idxL _ 2 rfl (by kernel_rfl) (by kernel_rfl) rfl rfl rfl rfl rfl rfl Try.underlying24 sz_48 ((hdr6.ext hxwl13)) (hk) (fun p17 hp17b hp17 => ?_)
      refine AG.take 3 rfl (by kernel_rfl) (by kernel_rfl) rfl rfl rfl (fun wq hq => Ev.ldAgg rfl rfl Try.underlying48 rfl sz_48 rfl (hp17.ext hq hp17b)) ?_
      refine AG.takeW 4 rfl (by kernel_rfl) (by kernel_rfl) rfl rfl rfl (fun _ => Ev.move rfl rfl) ?_
      refine AG.takeW 5 rfl (by kernel_rfl) (by kernel_rfl) rfl rfl rfl (fun _ => Ev.move rfl rfl) ?_
      refine AG.idxL _ 6 rfl (by kernel_rfl) (by kernel_rfl) rfl rfl rfl rfl rfl rfl Try.underlying34 sz_47 ((hdr8.ext hxwl13)) (hk) (fun p18 hp18b hp18 => ?_)
      refine AG.take 7 rfl (by kernel_rfl) (by kernel_rfl) rfl rfl rfl (fun wq hq => Ev.ldAgg rfl rfl Try.underlying47 rfl sz_47 rfl (hp18.ext hq hp18b)) ?_
      refine AG.takeW 8 rfl (by kernel_rfl) (by kernel_rfl) rfl rfl rfl (fun _ => Ev.isF ((Ev.neA rfl rfl rfl (by kernel_rfl)).conv (congrArg Value.bool (show (!veqs b.c b.c) = decide (b ≠ b) from by cases b; simp [veqs, veq]))) (fun h => h rfl)) ?_
      refine AG.done (by kernel_rfl) ?_
      refine QW.then_ ?_
      refine CW.condF rfl ?_
      refine CW.skip ?_
      refine QW.blockN ?_
      refine QW.then_ ?_
      refine CW.region ?_
      refine RG.vl rfl rfl rfl (Ev.addI rfl rfl rfl (by omega)) ?_
      refine RG.vl rfl rfl rfl (Ev.move rfl rfl) ?_
      refine RG.done ?_
      refine QW.sub (S' := [(5, _), (7, _), (37, _), (38, _)]) ⟨rfl, rfl, rfl, rfl, trivial⟩ ?_
      refine QW.round1 (k + 1) ⟨rfl, trivial⟩ ⟨rfl, rfl, rfl, trivial⟩ ⟨by omega, hxwl13⟩ (by omega)
    · refine CW.exit ?_
      refine QW.thenExit ?_
      refine QW.thenExit ?_
      refine QW.blockHit ?_
      refine QW.then_ ?_
      refine CW.seq ?_
      refine CW.region ?_
      refine RG.call rfl rfl rfl rfl rfl rfl rfl en_9 (awake_ret _) ?_
      rintro _ w19 ⟨rfl, hx19⟩
      replace hxwl13 := Ex.tr hxwl13 hx19
      have hE20 := hx19
      refine RG.vl rfl rfl rfl (Ev.assign rfl rfl) ?_
      refine RG.done ?_
      refine QW.then_ ?_
      refine CW.ret ?_
      refine QW.ret1 rfl rfl ?_
      have hB := (Ex.tr hR10 hxwl13)
      exact ⟨rfl, hB⟩

end Go.Proofs.Ytnecppiamecemaa
