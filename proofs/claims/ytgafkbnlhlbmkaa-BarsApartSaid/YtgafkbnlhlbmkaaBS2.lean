/- Walks (BS2). Written by program. -/
import Derived.Test.YtgafkbnlhlbmkaaT
import Derived.Test.YtgafkbnlhlbmkaaBR
namespace Go.Proofs.Ytgafkbnlhlbmkaa
open Go.RowKit
set_option maxRecDepth 100000 in
set_option maxHeartbeats 8000000 in
theorem barsReads_ret (t : List UInt8) (w : World)  :
    Ret Try.prog 7 [.string ⟨t.toArray⟩] w (fun v w' => v = .bool true ∧ Ex w w') := by
  have hts := sb_len t
  have hrl := readB_len t
  have hB0 : Ex w w := Ex.rfl_ _
  refine Ret.of Try.func7 rfl Try.ntmps7 rfl ?_
  refine CW.seq ?_
  refine CW.region ?_
  refine RG.vl rfl rfl rfl (Ev.assign rfl rfl) ?_
  refine RG.done ?_
  refine QW.then_ ?_
  refine CW.seq ?_
  refine CW.seq ?_
  refine CW.region ?_
  refine RG.vl rfl rfl rfl (Ev.move rfl rfl) ?_
  refine RG.vl rfl rfl rfl (Ev.lenStr rfl rfl rfl Try.underlying9) ?_
  refine RG.vl rfl rfl rfl (Ev.gtr rfl rfl rfl) ?_
  refine RG.done ?_
  refine QW.then_ ?_
  refine CW.condP rfl (fun hc1 => ?_) (fun hc1 => ?_)
  · refine CW.seq ?_
    refine CW.region ?_
    refine RG.call rfl rfl rfl rfl rfl rfl rfl en_10 (awake_ret _) ?_
    rintro _ w2 ⟨rfl, hx2⟩
    have hE3 := hx2
    refine RG.vl rfl rfl rfl (Ev.assign rfl rfl) ?_
    refine RG.done ?_
    refine QW.then_ ?_
    refine CW.ret ?_
    refine QW.thenRet ?_
    refine QW.ret1 rfl rfl ?_
    have hB := (Ex.tr hB0 hE3)
    exact ⟨rfl, hB⟩
  · refine CW.skip ?_
    refine QW.then_ ?_
    refine CW.seq ?_
    refine CW.region ?_
    refine RG.vl rfl rfl rfl (Ev.move rfl rfl) ?_
    refine RG.call rfl rfl rfl rfl rfl rfl rfl en_15 (read_ret t _) ?_
    have hpre4 := hB0
    rintro _ w4 ⟨pr4, px4, rfl, hpr4, hpx4, hx4⟩
    have hE5 := hx4
    refine RG.vl rfl rfl rfl (Ev.move rfl rfl) ?_
    refine RG.vl rfl rfl rfl (Ev.extract rfl rfl rfl) ?_
    refine RG.vl rfl rfl rfl (Ev.extract rfl rfl rfl) ?_
    refine RG.vl rfl rfl rfl (Ev.extract rfl rfl rfl) ?_
    refine RG.vl rfl rfl rfl (Ev.assign rfl rfl) ?_
    refine RG.vl rfl rfl rfl (Ev.assign rfl rfl) ?_
    refine RG.vl rfl rfl rfl (Ev.assign rfl rfl) ?_
    refine RG.done ?_
    refine QW.then_ ?_
    refine CW.seq ?_
    refine CW.region ?_
    refine RG.vl rfl rfl rfl (Ev.move rfl rfl) ?_
    refine RG.call rfl rfl rfl rfl rfl rfl rfl en_17 (turn_ret _ _) ?_
    rintro _ w6 ⟨rfl, hx6⟩
    replace hE5 := Ex.tr hE5 hx6
    have hE7 := hx6
    refine RG.vl rfl rfl rfl (Ev.move rfl rfl) ?_
    refine RG.vl rfl rfl rfl (Ev.extract rfl rfl rfl) ?_
    refine RG.vl rfl rfl rfl (Ev.extract rfl rfl rfl) ?_
    refine RG.vl rfl rfl rfl (Ev.assign rfl rfl) ?_
    refine RG.vl rfl rfl rfl (Ev.assign rfl rfl) ?_
    refine RG.done ?_
    refine QW.sub (S' := [(0, _), (2, _), (3, _), (4, _), (5, _), (6, _), (7, _)]) ⟨rfl, rfl, rfl, rfl, rfl, rfl, rfl, trivial⟩ ?_
    refine QW.then_ ?_
    refine CW.seq ?_
    refine CW.region ?_
    refine RG.vl rfl rfl rfl (Ev.move rfl rfl) ?_
    refine RG.call rfl rfl rfl rfl rfl rfl rfl en_19 (frame_ret _ _) ?_
    rintro _ w8 ⟨rfl, hx8⟩
    replace hE5 := Ex.tr hE5 hx8
    replace hE7 := Ex.tr hE7 hx8
    have hE9 := hx8
    refine RG.vl rfl rfl rfl (Ev.move rfl rfl) ?_
    refine RG.vl rfl rfl rfl (Ev.extract rfl rfl rfl) ?_
    refine RG.vl rfl rfl rfl (Ev.extract rfl rfl rfl) ?_
    refine RG.vl rfl rfl rfl (Ev.assign rfl rfl) ?_
    refine RG.vl rfl rfl rfl (Ev.assign rfl rfl) ?_
    refine RG.done ?_
    refine QW.then_ ?_
    refine CW.seq ?_
    refine CW.region ?_
    refine RG.vl rfl rfl rfl (Ev.move rfl rfl) ?_
    refine RG.call rfl rfl rfl rfl rfl rfl rfl en_20 (unf_ret _ _) ?_
    rintro _ w10 ⟨rfl, hx10⟩
    replace hE5 := Ex.tr hE5 hx10
    replace hE7 := Ex.tr hE7 hx10
    replace hE9 := Ex.tr hE9 hx10
    have hE11 := hx10
    refine RG.vl rfl rfl rfl (Ev.move rfl rfl) ?_
    refine RG.vl rfl rfl rfl (Ev.extract rfl rfl rfl) ?_
    refine RG.vl rfl rfl rfl (Ev.extract rfl rfl rfl) ?_
    refine RG.vl rfl rfl rfl (Ev.extract rfl rfl rfl) ?_
    refine RG.vl rfl rfl rfl (Ev.assign rfl rfl) ?_
    refine RG.vl rfl rfl rfl (Ev.assign rfl rfl) ?_
    refine RG.vl rfl rfl rfl (Ev.assign rfl rfl) ?_
    refine RG.done ?_
    refine QW.sub (S' := [(0, _), (2, _), (3, _), (4, _), (5, _), (6, _), (7, _), (8, _), (9, _), (10, _), (11, _), (12, _)]) ⟨rfl, rfl, rfl, rfl, rfl, rfl, rfl, rfl, rfl, rfl, rfl, rfl, trivial⟩ ?_
    refine QW.then_ ?_
    refine CW.seq ?_
    refine CW.region ?_
    refine RG.vl rfl rfl rfl (Ev.move rfl rfl) ?_
    refine RG.call rfl rfl rfl rfl rfl rfl rfl en_21 (rread_ret t _ (by omega)) ?_
    have hpre12 := (Ex.tr hB0 hE5)
    rintro _ w12 ⟨qr12, qx12, rfl, hqr12, hqx12, hx12⟩
    replace hE5 := Ex.tr hE5 hx12
    replace hE7 := Ex.tr hE7 hx12
    replace hE9 := Ex.tr hE9 hx12
    replace hE11 := Ex.tr hE11 hx12
    have hE13 := hx12
    refine RG.vl rfl rfl rfl (Ev.move rfl rfl) ?_
    refine RG.vl rfl rfl rfl (Ev.extract rfl rfl rfl) ?_
    refine RG.vl rfl rfl rfl (Ev.extract rfl rfl rfl) ?_
    refine RG.vl rfl rfl rfl (Ev.extract rfl rfl rfl) ?_
    refine RG.vl rfl rfl rfl (Ev.assign rfl rfl) ?_
    refine RG.vl rfl rfl rfl (Ev.assign rfl rfl) ?_
    refine RG.vl rfl rfl rfl (Ev.assign rfl rfl) ?_
    refine RG.done ?_
    refine QW.then_ ?_
    refine CW.seq ?_
    refine CW.seq ?_
    refine CW.region ?_
    refine RG.vl rfl rfl rfl (Ev.move rfl rfl) ?_
    refine RG.vl rfl rfl rfl (Ev.move rfl rfl) ?_
    refine RG.vl rfl rfl rfl (Ev.isF (Ev.neI rfl rfl rfl) (fun h => h rfl)) ?_
    refine RG.vl rfl rfl rfl (Ev.move rfl rfl) ?_
    refine RG.vl rfl rfl rfl (Ev.move rfl rfl) ?_
    refine RG.vl rfl rfl rfl (Ev.move rfl rfl) ?_
    refine RG.call rfl rfl rfl rfl rfl rfl rfl en_18 (sameBt_ret _ _ (readB t).1 _ (((Own.ext hpr4 hE7).rdl encB_len)) ((hqr12.rdl encB_len)) (by omega)) ?_
    rintro _ w14 ⟨rfl, hx14⟩
    replace hE5 := Ex.tr hE5 hx14
    replace hE7 := Ex.tr hE7 hx14
    replace hE9 := Ex.tr hE9 hx14
    replace hE11 := Ex.tr hE11 hx14
    replace hE13 := Ex.tr hE13 hx14
    have hE15 := hx14
    refine RG.vl rfl rfl rfl (Ev.notF rfl rfl) ?_
    refine RG.vl rfl rfl rfl (Ev.pickF rfl rfl rfl) ?_
    refine RG.vl rfl rfl rfl (Ev.move rfl rfl) ?_
    refine RG.vl rfl rfl rfl (Ev.move rfl rfl) ?_
    refine RG.vl rfl rfl rfl (Ev.move rfl rfl) ?_
    refine RG.call rfl rfl rfl rfl rfl rfl rfl en_22 (sameIt_ret _ _ (readB t).2.1 _ (((Own.ext hpx4 hE7).rdl encZ_len)) (((Own.ext hqx12 hE15).rdl encZ_len)) (by omega)) ?_
    rintro _ w16 ⟨rfl, hx16⟩
    replace hE5 := Ex.tr hE5 hx16
    replace hE7 := Ex.tr hE7 hx16
    replace hE9 := Ex.tr hE9 hx16
    replace hE11 := Ex.tr hE11 hx16
    replace hE13 := Ex.tr hE13 hx16
    replace hE15 := Ex.tr hE15 hx16
    have hE17 := hx16
    refine RG.vl rfl rfl rfl (Ev.notF rfl rfl) ?_
    refine RG.vl rfl rfl rfl (Ev.pickF rfl rfl rfl) ?_
    refine RG.done ?_
    refine QW.sub (S' := [(0, _), (2, _), (6, _), (7, _), (8, _), (9, _), (10, _), (11, _), (12, _), (67, _)]) ⟨rfl, rfl, rfl, rfl, rfl, rfl, rfl, rfl, rfl, rfl, trivial⟩ ?_
    refine QW.then_ ?_
    refine CW.condF rfl ?_
    refine CW.skip ?_
    refine QW.then_ ?_
    refine CW.seq ?_
    refine CW.seq ?_
    refine CW.region ?_
    refine RG.vl rfl rfl rfl (Ev.move rfl rfl) ?_
    refine RG.call rfl rfl rfl rfl rfl rfl rfl en_23 (error_ret _ 0 _ (by omega) (by omega)) ?_
    rintro _ w18 ⟨rfl, hx18⟩
    replace hE5 := Ex.tr hE5 hx18
    replace hE7 := Ex.tr hE7 hx18
    replace hE9 := Ex.tr hE9 hx18
    replace hE11 := Ex.tr hE11 hx18
    replace hE13 := Ex.tr hE13 hx18
    replace hE15 := Ex.tr hE15 hx18
    replace hE17 := Ex.tr hE17 hx18
    have hE19 := hx18
    refine RG.vl rfl rfl rfl (Ev.assign rfl rfl) ?_
    refine RG.done ?_
    refine QW.then_ ?_
    refine CW.seq ?_
    refine CW.region ?_
    refine RG.vl rfl rfl rfl (Ev.move rfl rfl) ?_
    refine RG.vl rfl rfl rfl (Ev.move rfl rfl) ?_
    refine RG.vl rfl rfl rfl (Ev.isF (Ev.neI rfl rfl rfl) (fun h => h turnB_2)) ?_
    refine RG.vl rfl rfl rfl (Ev.move rfl rfl) ?_
    refine RG.vl rfl rfl rfl (Ev.move rfl rfl) ?_
    refine RG.vl rfl rfl rfl (Ev.neI rfl rfl rfl) ?_
    refine RG.vl rfl rfl rfl (Ev.move rfl rfl) ?_
    refine RG.split (d := 76) rfl (fun hg20 => ?_) (fun hg20 => ?_)
    · refine RG.vl rfl rfl rfl (Ev.move rfl rfl) ?_
      refine RG.vl rfl rfl rfl (Ev.isF (Ev.neS rfl rfl rfl) (fun h => h (by rw [turnB_e (by assumption)]))) ?_
      refine RG.vl rfl rfl rfl (Ev.pickT rfl rfl rfl) ?_
      refine RG.vl rfl rfl rfl (Ev.pickF rfl rfl rfl) ?_
      refine RG.vl rfl rfl rfl (Ev.move rfl rfl) ?_
      refine RG.vl rfl rfl rfl (Ev.move rfl rfl) ?_
      refine RG.vl rfl rfl rfl (Ev.eqI rfl rfl rfl) ?_
      refine RG.vl rfl rfl rfl (Ev.move rfl rfl) ?_
      refine RG.split (d := 84) rfl (fun hg21 => ?_) (fun hg21 => ?_)
      · refine RG.vl rfl rfl rfl (Ev.move rfl rfl) ?_
        refine RG.vl rfl rfl rfl (Ev.move rfl rfl) ?_
        refine RG.call rfl rfl rfl rfl rfl rfl rfl en_24 (rturn_ret _ _ (by omega)) ?_
        rintro _ w22 ⟨rfl, hx22⟩
        replace hE5 := Ex.tr hE5 hx22
        replace hE7 := Ex.tr hE7 hx22
        replace hE9 := Ex.tr hE9 hx22
        replace hE11 := Ex.tr hE11 hx22
        replace hE13 := Ex.tr hE13 hx22
        replace hE15 := Ex.tr hE15 hx22
        replace hE17 := Ex.tr hE17 hx22
        replace hE19 := Ex.tr hE19 hx22
        have hE23 := hx22
        refine RG.vl rfl rfl rfl (Ev.isF (Ev.neS rfl rfl rfl) (fun h => h (by rw [turnB_o (by assumption)]))) ?_
        refine RG.vl rfl rfl rfl (Ev.pickT rfl rfl rfl) ?_
        refine RG.vl rfl rfl rfl (Ev.pickF rfl rfl rfl) ?_
        refine RG.done ?_
        refine QW.sub (S' := [(0, _), (2, _), (8, _), (9, _), (10, _), (11, _), (12, _), (90, _)]) ⟨rfl, rfl, rfl, rfl, rfl, rfl, rfl, rfl, trivial⟩ ?_
        refine QW.then_ ?_
        refine CW.condF rfl ?_
        refine CW.skip ?_
        refine QW.then_ ?_
        refine CW.seq ?_
        refine CW.seq ?_
        refine CW.region ?_
        refine RG.vl rfl rfl rfl (Ev.move rfl rfl) ?_
        refine RG.call rfl rfl rfl rfl rfl rfl rfl en_23 (error_ret _ 4 _ (by omega) (by omega)) ?_
        rintro _ w24 ⟨rfl, hx24⟩
        replace hE5 := Ex.tr hE5 hx24
        replace hE7 := Ex.tr hE7 hx24
        replace hE9 := Ex.tr hE9 hx24
        replace hE11 := Ex.tr hE11 hx24
        replace hE13 := Ex.tr hE13 hx24
        replace hE15 := Ex.tr hE15 hx24
        replace hE17 := Ex.tr hE17 hx24
        replace hE19 := Ex.tr hE19 hx24
        replace hE23 := Ex.tr hE23 hx24
        have hE25 := hx24
        refine RG.vl rfl rfl rfl (Ev.assign rfl rfl) ?_
        refine RG.done ?_
        refine QW.then_ ?_
        refine CW.seq ?_
        refine CW.region ?_
        refine RG.vl rfl rfl rfl (Ev.move rfl rfl) ?_
        refine RG.vl rfl rfl rfl (Ev.move rfl rfl) ?_
        refine RG.vl rfl rfl rfl (Ev.isF (Ev.neI rfl rfl rfl) (fun h => h frameB_2)) ?_
        refine RG.vl rfl rfl rfl (Ev.move rfl rfl) ?_
        refine RG.vl rfl rfl rfl (Ev.move rfl rfl) ?_
        refine RG.vl rfl rfl rfl (Ev.neI rfl rfl rfl) ?_
        refine RG.vl rfl rfl rfl (Ev.move rfl rfl) ?_
        refine RG.split (d := 99) rfl (fun hg26 => ?_) (fun hg26 => ?_)
        · refine RG.vl rfl rfl rfl (Ev.move rfl rfl) ?_
          refine RG.vl rfl rfl rfl (Ev.isF (Ev.neS rfl rfl rfl) (fun h => h (by rw [frameB_e (by assumption)]))) ?_
          refine RG.vl rfl rfl rfl (Ev.pickT rfl rfl rfl) ?_
          refine RG.vl rfl rfl rfl (Ev.pickF rfl rfl rfl) ?_
          refine RG.vl rfl rfl rfl (Ev.move rfl rfl) ?_
          refine RG.vl rfl rfl rfl (Ev.move rfl rfl) ?_
          refine RG.vl rfl rfl rfl (Ev.eqI rfl rfl rfl) ?_
          refine RG.vl rfl rfl rfl (Ev.move rfl rfl) ?_
          refine RG.split (d := 107) rfl (fun hg27 => ?_) (fun hg27 => ?_)
          · refine RG.vl rfl rfl rfl (Ev.move rfl rfl) ?_
            refine RG.vl rfl rfl rfl (Ev.move rfl rfl) ?_
            refine RG.vl rfl rfl rfl ((Ev.cat rfl rfl rfl (by rw [hts]; show 2 + _ ≤ _; omega)).conv (congrArg Value.string (bx_cat [65, 84] t))) ?_
            refine RG.vl rfl rfl rfl ((Ev.cat rfl rfl rfl (by rw [sb_len, List.length_append]; show 2 + t.length + 2 ≤ _; omega)).conv (congrArg Value.string (bx_cat ([65, 84] ++ t) [70, 68]))) ?_
            refine RG.vl rfl rfl rfl (Ev.isF (Ev.neS rfl rfl rfl) (fun h => h (by rw [frameB_o (by assumption)]))) ?_
            refine RG.vl rfl rfl rfl (Ev.pickT rfl rfl rfl) ?_
            refine RG.vl rfl rfl rfl (Ev.pickF rfl rfl rfl) ?_
            refine RG.done ?_
            refine QW.sub (S' := [(0, _), (2, _), (10, _), (11, _), (12, _), (114, _)]) ⟨rfl, rfl, rfl, rfl, rfl, rfl, trivial⟩ ?_
            refine QW.then_ ?_
            refine CW.condF rfl ?_
            refine CW.skip ?_
            refine QW.then_ ?_
            refine CW.seq ?_
            refine CW.region ?_
            refine RG.vl rfl rfl rfl (Ev.move rfl rfl) ?_
            refine RG.call rfl rfl rfl rfl rfl rfl rfl en_25 (runf_ret _ _ (by omega)) ?_
            rintro _ w28 ⟨rfl, hx28⟩
            replace hE5 := Ex.tr hE5 hx28
            replace hE7 := Ex.tr hE7 hx28
            replace hE9 := Ex.tr hE9 hx28
            replace hE11 := Ex.tr hE11 hx28
            replace hE13 := Ex.tr hE13 hx28
            replace hE15 := Ex.tr hE15 hx28
            replace hE17 := Ex.tr hE17 hx28
            replace hE19 := Ex.tr hE19 hx28
            replace hE23 := Ex.tr hE23 hx28
            replace hE25 := Ex.tr hE25 hx28
            have hE29 := hx28
            refine RG.vl rfl rfl rfl (Ev.move rfl rfl) ?_
            refine RG.vl rfl rfl rfl (Ev.extract rfl rfl rfl) ?_
            refine RG.vl rfl rfl rfl (Ev.extract rfl rfl rfl) ?_
            refine RG.vl rfl rfl rfl (Ev.extract rfl rfl rfl) ?_
            refine RG.vl rfl rfl rfl (Ev.assign rfl rfl) ?_
            refine RG.vl rfl rfl rfl (Ev.assign rfl rfl) ?_
            refine RG.vl rfl rfl rfl (Ev.assign rfl rfl) ?_
            refine RG.done ?_
            refine QW.then_ ?_
            refine CW.seq ?_
            refine CW.region ?_
            refine RG.vl rfl rfl rfl (Ev.move rfl rfl) ?_
            refine RG.vl rfl rfl rfl (Ev.move rfl rfl) ?_
            refine RG.vl rfl rfl rfl (Ev.isT (Ev.eqS rfl rfl rfl) (rfl)) ?_
            refine RG.vl rfl rfl rfl (Ev.move rfl rfl) ?_
            refine RG.vl rfl rfl rfl (Ev.move rfl rfl) ?_
            refine RG.vl rfl rfl rfl (Ev.move rfl rfl) ?_
            refine RG.vl rfl rfl rfl (Ev.isT (Ev.eqB rfl rfl rfl Try.underlying4) (rfl)) ?_
            refine RG.vl rfl rfl rfl (Ev.pickT rfl rfl rfl) ?_
            refine RG.vl rfl rfl rfl (Ev.move rfl rfl) ?_
            refine RG.vl rfl rfl rfl (Ev.move rfl rfl) ?_
            refine RG.vl rfl rfl rfl (Ev.move rfl rfl) ?_
            refine RG.vl rfl rfl rfl (Ev.isT (Ev.eqI rfl rfl rfl) (rfl)) ?_
            refine RG.vl rfl rfl rfl (Ev.pickT rfl rfl rfl) ?_
            refine RG.vl rfl rfl rfl (Ev.move rfl rfl) ?_
            refine RG.call rfl rfl rfl rfl rfl rfl rfl en_10 (awake_ret _) ?_
            rintro _ w30 ⟨rfl, hx30⟩
            replace hE5 := Ex.tr hE5 hx30
            replace hE7 := Ex.tr hE7 hx30
            replace hE9 := Ex.tr hE9 hx30
            replace hE11 := Ex.tr hE11 hx30
            replace hE13 := Ex.tr hE13 hx30
            replace hE15 := Ex.tr hE15 hx30
            replace hE17 := Ex.tr hE17 hx30
            replace hE19 := Ex.tr hE19 hx30
            replace hE23 := Ex.tr hE23 hx30
            replace hE25 := Ex.tr hE25 hx30
            replace hE29 := Ex.tr hE29 hx30
            have hE31 := hx30
            refine RG.vl rfl rfl rfl (Ev.pickT rfl rfl rfl) ?_
            refine RG.vl rfl rfl rfl (Ev.assign rfl rfl) ?_
            refine RG.done ?_
            refine QW.sub (S' := [(2, _)]) ⟨rfl, trivial⟩ ?_
            refine QW.then_ ?_
            refine CW.ret ?_
            refine QW.ret1 rfl rfl ?_
            have hB := (Ex.tr hB0 hE5)
            exact ⟨rfl, hB⟩
          · refine RG.pass rfl rfl rfl ?_
            refine RG.pass rfl rfl rfl ?_
            refine RG.pass rfl rfl rfl ?_
            refine RG.pass rfl rfl rfl ?_
            refine RG.pass rfl rfl rfl ?_
            refine RG.vl rfl rfl rfl (Ev.pickF rfl rfl rfl) ?_
            refine RG.vl rfl rfl rfl (Ev.pickF rfl rfl rfl) ?_
            refine RG.done ?_
            refine QW.sub (S' := [(0, _), (2, _), (10, _), (11, _), (12, _), (114, _)]) ⟨rfl, rfl, rfl, rfl, rfl, rfl, trivial⟩ ?_
            refine QW.then_ ?_
            refine CW.condF rfl ?_
            refine CW.skip ?_
            refine QW.then_ ?_
            refine CW.seq ?_
            refine CW.region ?_
            refine RG.vl rfl rfl rfl (Ev.move rfl rfl) ?_
            refine RG.call rfl rfl rfl rfl rfl rfl rfl en_25 (runf_ret _ _ (by omega)) ?_
            rintro _ w32 ⟨rfl, hx32⟩
            replace hE5 := Ex.tr hE5 hx32
            replace hE7 := Ex.tr hE7 hx32
            replace hE9 := Ex.tr hE9 hx32
            replace hE11 := Ex.tr hE11 hx32
            replace hE13 := Ex.tr hE13 hx32
            replace hE15 := Ex.tr hE15 hx32
            replace hE17 := Ex.tr hE17 hx32
            replace hE19 := Ex.tr hE19 hx32
            replace hE23 := Ex.tr hE23 hx32
            replace hE25 := Ex.tr hE25 hx32
            have hE33 := hx32
            refine RG.vl rfl rfl rfl (Ev.move rfl rfl) ?_
            refine RG.vl rfl rfl rfl (Ev.extract rfl rfl rfl) ?_
            refine RG.vl rfl rfl rfl (Ev.extract rfl rfl rfl) ?_
            refine RG.vl rfl rfl rfl (Ev.extract rfl rfl rfl) ?_
            refine RG.vl rfl rfl rfl (Ev.assign rfl rfl) ?_
            refine RG.vl rfl rfl rfl (Ev.assign rfl rfl) ?_
            refine RG.vl rfl rfl rfl (Ev.assign rfl rfl) ?_
            refine RG.done ?_
            refine QW.then_ ?_
            refine CW.seq ?_
            refine CW.region ?_
            refine RG.vl rfl rfl rfl (Ev.move rfl rfl) ?_
            refine RG.vl rfl rfl rfl (Ev.move rfl rfl) ?_
            refine RG.vl rfl rfl rfl (Ev.isT (Ev.eqS rfl rfl rfl) (rfl)) ?_
            refine RG.vl rfl rfl rfl (Ev.move rfl rfl) ?_
            refine RG.vl rfl rfl rfl (Ev.move rfl rfl) ?_
            refine RG.vl rfl rfl rfl (Ev.move rfl rfl) ?_
            refine RG.vl rfl rfl rfl (Ev.isT (Ev.eqB rfl rfl rfl Try.underlying4) (rfl)) ?_
            refine RG.vl rfl rfl rfl (Ev.pickT rfl rfl rfl) ?_
            refine RG.vl rfl rfl rfl (Ev.move rfl rfl) ?_
            refine RG.vl rfl rfl rfl (Ev.move rfl rfl) ?_
            refine RG.vl rfl rfl rfl (Ev.move rfl rfl) ?_
            refine RG.vl rfl rfl rfl (Ev.isT (Ev.eqI rfl rfl rfl) (rfl)) ?_
            refine RG.vl rfl rfl rfl (Ev.pickT rfl rfl rfl) ?_
            refine RG.vl rfl rfl rfl (Ev.move rfl rfl) ?_
            refine RG.call rfl rfl rfl rfl rfl rfl rfl en_10 (awake_ret _) ?_
            rintro _ w34 ⟨rfl, hx34⟩
            replace hE5 := Ex.tr hE5 hx34
            replace hE7 := Ex.tr hE7 hx34
            replace hE9 := Ex.tr hE9 hx34
            replace hE11 := Ex.tr hE11 hx34
            replace hE13 := Ex.tr hE13 hx34
            replace hE15 := Ex.tr hE15 hx34
            replace hE17 := Ex.tr hE17 hx34
            replace hE19 := Ex.tr hE19 hx34
            replace hE23 := Ex.tr hE23 hx34
            replace hE25 := Ex.tr hE25 hx34
            replace hE33 := Ex.tr hE33 hx34
            have hE35 := hx34
            refine RG.vl rfl rfl rfl (Ev.pickT rfl rfl rfl) ?_
            refine RG.vl rfl rfl rfl (Ev.assign rfl rfl) ?_
            refine RG.done ?_
            refine QW.sub (S' := [(2, _)]) ⟨rfl, trivial⟩ ?_
            refine QW.then_ ?_
            refine CW.ret ?_
            refine QW.ret1 rfl rfl ?_
            have hB := (Ex.tr hB0 hE5)
            exact ⟨rfl, hB⟩
        · refine RG.pass rfl rfl rfl ?_
          refine RG.pass rfl rfl rfl ?_
          refine RG.vl rfl rfl rfl (Ev.pickF rfl rfl rfl) ?_
          refine RG.vl rfl rfl rfl (Ev.pickF rfl rfl rfl) ?_
          refine RG.vl rfl rfl rfl (Ev.move rfl rfl) ?_
          refine RG.vl rfl rfl rfl (Ev.move rfl rfl) ?_
          refine RG.vl rfl rfl rfl (Ev.eqI rfl rfl rfl) ?_
          refine RG.vl rfl rfl rfl (Ev.move rfl rfl) ?_
          refine RG.split (d := 107) rfl (fun hg36 => ?_) (fun hg36 => ?_)
          · refine RG.vl rfl rfl rfl (Ev.move rfl rfl) ?_
            refine RG.vl rfl rfl rfl (Ev.move rfl rfl) ?_
            refine RG.vl rfl rfl rfl ((Ev.cat rfl rfl rfl (by rw [hts]; show 2 + _ ≤ _; omega)).conv (congrArg Value.string (bx_cat [65, 84] t))) ?_
            refine RG.vl rfl rfl rfl ((Ev.cat rfl rfl rfl (by rw [sb_len, List.length_append]; show 2 + t.length + 2 ≤ _; omega)).conv (congrArg Value.string (bx_cat ([65, 84] ++ t) [70, 68]))) ?_
            refine RG.vl rfl rfl rfl (Ev.isF (Ev.neS rfl rfl rfl) (fun h => h (by rw [frameB_o (by assumption)]))) ?_
            refine RG.vl rfl rfl rfl (Ev.pickT rfl rfl rfl) ?_
            refine RG.vl rfl rfl rfl (Ev.pickF rfl rfl rfl) ?_
            refine RG.done ?_
            refine QW.sub (S' := [(0, _), (2, _), (10, _), (11, _), (12, _), (114, _)]) ⟨rfl, rfl, rfl, rfl, rfl, rfl, trivial⟩ ?_
            refine QW.then_ ?_
            refine CW.condF rfl ?_
            refine CW.skip ?_
            refine QW.then_ ?_
            refine CW.seq ?_
            refine CW.region ?_
            refine RG.vl rfl rfl rfl (Ev.move rfl rfl) ?_
            refine RG.call rfl rfl rfl rfl rfl rfl rfl en_25 (runf_ret _ _ (by omega)) ?_
            rintro _ w37 ⟨rfl, hx37⟩
            replace hE5 := Ex.tr hE5 hx37
            replace hE7 := Ex.tr hE7 hx37
            replace hE9 := Ex.tr hE9 hx37
            replace hE11 := Ex.tr hE11 hx37
            replace hE13 := Ex.tr hE13 hx37
            replace hE15 := Ex.tr hE15 hx37
            replace hE17 := Ex.tr hE17 hx37
            replace hE19 := Ex.tr hE19 hx37
            replace hE23 := Ex.tr hE23 hx37
            replace hE25 := Ex.tr hE25 hx37
            have hE38 := hx37
            refine RG.vl rfl rfl rfl (Ev.move rfl rfl) ?_
            refine RG.vl rfl rfl rfl (Ev.extract rfl rfl rfl) ?_
            refine RG.vl rfl rfl rfl (Ev.extract rfl rfl rfl) ?_
            refine RG.vl rfl rfl rfl (Ev.extract rfl rfl rfl) ?_
            refine RG.vl rfl rfl rfl (Ev.assign rfl rfl) ?_
            refine RG.vl rfl rfl rfl (Ev.assign rfl rfl) ?_
            refine RG.vl rfl rfl rfl (Ev.assign rfl rfl) ?_
            refine RG.done ?_
            refine QW.then_ ?_
            refine CW.seq ?_
            refine CW.region ?_
            refine RG.vl rfl rfl rfl (Ev.move rfl rfl) ?_
            refine RG.vl rfl rfl rfl (Ev.move rfl rfl) ?_
            refine RG.vl rfl rfl rfl (Ev.isT (Ev.eqS rfl rfl rfl) (rfl)) ?_
            refine RG.vl rfl rfl rfl (Ev.move rfl rfl) ?_
            refine RG.vl rfl rfl rfl (Ev.move rfl rfl) ?_
            refine RG.vl rfl rfl rfl (Ev.move rfl rfl) ?_
            refine RG.vl rfl rfl rfl (Ev.isT (Ev.eqB rfl rfl rfl Try.underlying4) (rfl)) ?_
            refine RG.vl rfl rfl rfl (Ev.pickT rfl rfl rfl) ?_
            refine RG.vl rfl rfl rfl (Ev.move rfl rfl) ?_
            refine RG.vl rfl rfl rfl (Ev.move rfl rfl) ?_
            refine RG.vl rfl rfl rfl (Ev.move rfl rfl) ?_
            refine RG.vl rfl rfl rfl (Ev.isT (Ev.eqI rfl rfl rfl) (rfl)) ?_
            refine RG.vl rfl rfl rfl (Ev.pickT rfl rfl rfl) ?_
            refine RG.vl rfl rfl rfl (Ev.move rfl rfl) ?_
            refine RG.call rfl rfl rfl rfl rfl rfl rfl en_10 (awake_ret _) ?_
            rintro _ w39 ⟨rfl, hx39⟩
            replace hE5 := Ex.tr hE5 hx39
            replace hE7 := Ex.tr hE7 hx39
            replace hE9 := Ex.tr hE9 hx39
            replace hE11 := Ex.tr hE11 hx39
            replace hE13 := Ex.tr hE13 hx39
            replace hE15 := Ex.tr hE15 hx39
            replace hE17 := Ex.tr hE17 hx39
            replace hE19 := Ex.tr hE19 hx39
            replace hE23 := Ex.tr hE23 hx39
            replace hE25 := Ex.tr hE25 hx39
            replace hE38 := Ex.tr hE38 hx39
            have hE40 := hx39
            refine RG.vl rfl rfl rfl (Ev.pickT rfl rfl rfl) ?_
            refine RG.vl rfl rfl rfl (Ev.assign rfl rfl) ?_
            refine RG.done ?_
            refine QW.sub (S' := [(2, _)]) ⟨rfl, trivial⟩ ?_
            refine QW.then_ ?_
            refine CW.ret ?_
            refine QW.ret1 rfl rfl ?_
            have hB := (Ex.tr hB0 hE5)
            exact ⟨rfl, hB⟩
          · refine RG.pass rfl rfl rfl ?_
            refine RG.pass rfl rfl rfl ?_
            refine RG.pass rfl rfl rfl ?_
            refine RG.pass rfl rfl rfl ?_
            refine RG.pass rfl rfl rfl ?_
            refine RG.vl rfl rfl rfl (Ev.pickF rfl rfl rfl) ?_
            refine RG.vl rfl rfl rfl (Ev.pickF rfl rfl rfl) ?_
            refine RG.done ?_
            refine QW.sub (S' := [(0, _), (2, _), (10, _), (11, _), (12, _), (114, _)]) ⟨rfl, rfl, rfl, rfl, rfl, rfl, trivial⟩ ?_
            refine QW.then_ ?_
            refine CW.condF rfl ?_
            refine CW.skip ?_
            refine QW.then_ ?_
            refine CW.seq ?_
            refine CW.region ?_
            refine RG.vl rfl rfl rfl (Ev.move rfl rfl) ?_
            refine RG.call rfl rfl rfl rfl rfl rfl rfl en_25 (runf_ret _ _ (by omega)) ?_
            rintro _ w41 ⟨rfl, hx41⟩
            replace hE5 := Ex.tr hE5 hx41
            replace hE7 := Ex.tr hE7 hx41
            replace hE9 := Ex.tr hE9 hx41
            replace hE11 := Ex.tr hE11 hx41
            replace hE13 := Ex.tr hE13 hx41
            replace hE15 := Ex.tr hE15 hx41
            replace hE17 := Ex.tr hE17 hx41
            replace hE19 := Ex.tr hE19 hx41
            replace hE23 := Ex.tr hE23 hx41
            replace hE25 := Ex.tr hE25 hx41
            have hE42 := hx41
            refine RG.vl rfl rfl rfl (Ev.move rfl rfl) ?_
            refine RG.vl rfl rfl rfl (Ev.extract rfl rfl rfl) ?_
            refine RG.vl rfl rfl rfl (Ev.extract rfl rfl rfl) ?_
            refine RG.vl rfl rfl rfl (Ev.extract rfl rfl rfl) ?_
            refine RG.vl rfl rfl rfl (Ev.assign rfl rfl) ?_
            refine RG.vl rfl rfl rfl (Ev.assign rfl rfl) ?_
            refine RG.vl rfl rfl rfl (Ev.assign rfl rfl) ?_
            refine RG.done ?_
            refine QW.then_ ?_
            refine CW.seq ?_
            refine CW.region ?_
            refine RG.vl rfl rfl rfl (Ev.move rfl rfl) ?_
            refine RG.vl rfl rfl rfl (Ev.move rfl rfl) ?_
            refine RG.vl rfl rfl rfl (Ev.isT (Ev.eqS rfl rfl rfl) (rfl)) ?_
            refine RG.vl rfl rfl rfl (Ev.move rfl rfl) ?_
            refine RG.vl rfl rfl rfl (Ev.move rfl rfl) ?_
            refine RG.vl rfl rfl rfl (Ev.move rfl rfl) ?_
            refine RG.vl rfl rfl rfl (Ev.isT (Ev.eqB rfl rfl rfl Try.underlying4) (rfl)) ?_
            refine RG.vl rfl rfl rfl (Ev.pickT rfl rfl rfl) ?_
            refine RG.vl rfl rfl rfl (Ev.move rfl rfl) ?_
            refine RG.vl rfl rfl rfl (Ev.move rfl rfl) ?_
            refine RG.vl rfl rfl rfl (Ev.move rfl rfl) ?_
            refine RG.vl rfl rfl rfl (Ev.isT (Ev.eqI rfl rfl rfl) (rfl)) ?_
            refine RG.vl rfl rfl rfl (Ev.pickT rfl rfl rfl) ?_
            refine RG.vl rfl rfl rfl (Ev.move rfl rfl) ?_
            refine RG.call rfl rfl rfl rfl rfl rfl rfl en_10 (awake_ret _) ?_
            rintro _ w43 ⟨rfl, hx43⟩
            replace hE5 := Ex.tr hE5 hx43
            replace hE7 := Ex.tr hE7 hx43
            replace hE9 := Ex.tr hE9 hx43
            replace hE11 := Ex.tr hE11 hx43
            replace hE13 := Ex.tr hE13 hx43
            replace hE15 := Ex.tr hE15 hx43
            replace hE17 := Ex.tr hE17 hx43
            replace hE19 := Ex.tr hE19 hx43
            replace hE23 := Ex.tr hE23 hx43
            replace hE25 := Ex.tr hE25 hx43
            replace hE42 := Ex.tr hE42 hx43
            have hE44 := hx43
            refine RG.vl rfl rfl rfl (Ev.pickT rfl rfl rfl) ?_
            refine RG.vl rfl rfl rfl (Ev.assign rfl rfl) ?_
            refine RG.done ?_
            refine QW.sub (S' := [(2, _)]) ⟨rfl, trivial⟩ ?_
            refine QW.then_ ?_
            refine CW.ret ?_
            refine QW.ret1 rfl rfl ?_
            have hB := (Ex.tr hB0 hE5)
            exact ⟨rfl, hB⟩
      · refine RG.pass rfl rfl rfl ?_
        refine RG.pass rfl rfl rfl ?_
        refine RG.pass rfl rfl rfl ?_
        refine RG.pass rfl rfl rfl ?_
        refine RG.vl rfl rfl rfl (Ev.pickF rfl rfl rfl) ?_
        refine RG.vl rfl rfl rfl (Ev.pickF rfl rfl rfl) ?_
        refine RG.done ?_
        refine QW.sub (S' := [(0, _), (2, _), (8, _), (9, _), (10, _), (11, _), (12, _), (90, _)]) ⟨rfl, rfl, rfl, rfl, rfl, rfl, rfl, rfl, trivial⟩ ?_
        refine QW.then_ ?_
        refine CW.condF rfl ?_
        refine CW.skip ?_
        refine QW.then_ ?_
        refine CW.seq ?_
        refine CW.seq ?_
        refine CW.region ?_
        refine RG.vl rfl rfl rfl (Ev.move rfl rfl) ?_
        refine RG.call rfl rfl rfl rfl rfl rfl rfl en_23 (error_ret _ 4 _ (by omega) (by omega)) ?_
        rintro _ w45 ⟨rfl, hx45⟩
        replace hE5 := Ex.tr hE5 hx45
        replace hE7 := Ex.tr hE7 hx45
        replace hE9 := Ex.tr hE9 hx45
        replace hE11 := Ex.tr hE11 hx45
        replace hE13 := Ex.tr hE13 hx45
        replace hE15 := Ex.tr hE15 hx45
        replace hE17 := Ex.tr hE17 hx45
        replace hE19 := Ex.tr hE19 hx45
        have hE46 := hx45
        refine RG.vl rfl rfl rfl (Ev.assign rfl rfl) ?_
        refine RG.done ?_
        refine QW.then_ ?_
        refine CW.seq ?_
        refine CW.region ?_
        refine RG.vl rfl rfl rfl (Ev.move rfl rfl) ?_
        refine RG.vl rfl rfl rfl (Ev.move rfl rfl) ?_
        refine RG.vl rfl rfl rfl (Ev.isF (Ev.neI rfl rfl rfl) (fun h => h frameB_2)) ?_
        refine RG.vl rfl rfl rfl (Ev.move rfl rfl) ?_
        refine RG.vl rfl rfl rfl (Ev.move rfl rfl) ?_
        refine RG.vl rfl rfl rfl (Ev.neI rfl rfl rfl) ?_
        refine RG.vl rfl rfl rfl (Ev.move rfl rfl) ?_
        refine RG.split (d := 99) rfl (fun hg47 => ?_) (fun hg47 => ?_)
        · refine RG.vl rfl rfl rfl (Ev.move rfl rfl) ?_
          refine RG.vl rfl rfl rfl (Ev.isF (Ev.neS rfl rfl rfl) (fun h => h (by rw [frameB_e (by assumption)]))) ?_
          refine RG.vl rfl rfl rfl (Ev.pickT rfl rfl rfl) ?_
          refine RG.vl rfl rfl rfl (Ev.pickF rfl rfl rfl) ?_
          refine RG.vl rfl rfl rfl (Ev.move rfl rfl) ?_
          refine RG.vl rfl rfl rfl (Ev.move rfl rfl) ?_
          refine RG.vl rfl rfl rfl (Ev.eqI rfl rfl rfl) ?_
          refine RG.vl rfl rfl rfl (Ev.move rfl rfl) ?_
          refine RG.split (d := 107) rfl (fun hg48 => ?_) (fun hg48 => ?_)
          · refine RG.vl rfl rfl rfl (Ev.move rfl rfl) ?_
            refine RG.vl rfl rfl rfl (Ev.move rfl rfl) ?_
            refine RG.vl rfl rfl rfl ((Ev.cat rfl rfl rfl (by rw [hts]; show 2 + _ ≤ _; omega)).conv (congrArg Value.string (bx_cat [65, 84] t))) ?_
            refine RG.vl rfl rfl rfl ((Ev.cat rfl rfl rfl (by rw [sb_len, List.length_append]; show 2 + t.length + 2 ≤ _; omega)).conv (congrArg Value.string (bx_cat ([65, 84] ++ t) [70, 68]))) ?_
            refine RG.vl rfl rfl rfl (Ev.isF (Ev.neS rfl rfl rfl) (fun h => h (by rw [frameB_o (by assumption)]))) ?_
            refine RG.vl rfl rfl rfl (Ev.pickT rfl rfl rfl) ?_
            refine RG.vl rfl rfl rfl (Ev.pickF rfl rfl rfl) ?_
            refine RG.done ?_
            refine QW.sub (S' := [(0, _), (2, _), (10, _), (11, _), (12, _), (114, _)]) ⟨rfl, rfl, rfl, rfl, rfl, rfl, trivial⟩ ?_
            refine QW.then_ ?_
            refine CW.condF rfl ?_
            refine CW.skip ?_
            refine QW.then_ ?_
            refine CW.seq ?_
            refine CW.region ?_
            refine RG.vl rfl rfl rfl (Ev.move rfl rfl) ?_
            refine RG.call rfl rfl rfl rfl rfl rfl rfl en_25 (runf_ret _ _ (by omega)) ?_
            rintro _ w49 ⟨rfl, hx49⟩
            replace hE5 := Ex.tr hE5 hx49
            replace hE7 := Ex.tr hE7 hx49
            replace hE9 := Ex.tr hE9 hx49
            replace hE11 := Ex.tr hE11 hx49
            replace hE13 := Ex.tr hE13 hx49
            replace hE15 := Ex.tr hE15 hx49
            replace hE17 := Ex.tr hE17 hx49
            replace hE19 := Ex.tr hE19 hx49
            replace hE46 := Ex.tr hE46 hx49
            have hE50 := hx49
            refine RG.vl rfl rfl rfl (Ev.move rfl rfl) ?_
            refine RG.vl rfl rfl rfl (Ev.extract rfl rfl rfl) ?_
            refine RG.vl rfl rfl rfl (Ev.extract rfl rfl rfl) ?_
            refine RG.vl rfl rfl rfl (Ev.extract rfl rfl rfl) ?_
            refine RG.vl rfl rfl rfl (Ev.assign rfl rfl) ?_
            refine RG.vl rfl rfl rfl (Ev.assign rfl rfl) ?_
            refine RG.vl rfl rfl rfl (Ev.assign rfl rfl) ?_
            refine RG.done ?_
            refine QW.then_ ?_
            refine CW.seq ?_
            refine CW.region ?_
            refine RG.vl rfl rfl rfl (Ev.move rfl rfl) ?_
            refine RG.vl rfl rfl rfl (Ev.move rfl rfl) ?_
            refine RG.vl rfl rfl rfl (Ev.isT (Ev.eqS rfl rfl rfl) (rfl)) ?_
            refine RG.vl rfl rfl rfl (Ev.move rfl rfl) ?_
            refine RG.vl rfl rfl rfl (Ev.move rfl rfl) ?_
            refine RG.vl rfl rfl rfl (Ev.move rfl rfl) ?_
            refine RG.vl rfl rfl rfl (Ev.isT (Ev.eqB rfl rfl rfl Try.underlying4) (rfl)) ?_
            refine RG.vl rfl rfl rfl (Ev.pickT rfl rfl rfl) ?_
            refine RG.vl rfl rfl rfl (Ev.move rfl rfl) ?_
            refine RG.vl rfl rfl rfl (Ev.move rfl rfl) ?_
            refine RG.vl rfl rfl rfl (Ev.move rfl rfl) ?_
            refine RG.vl rfl rfl rfl (Ev.isT (Ev.eqI rfl rfl rfl) (rfl)) ?_
            refine RG.vl rfl rfl rfl (Ev.pickT rfl rfl rfl) ?_
            refine RG.vl rfl rfl rfl (Ev.move rfl rfl) ?_
            refine RG.call rfl rfl rfl rfl rfl rfl rfl en_10 (awake_ret _) ?_
            rintro _ w51 ⟨rfl, hx51⟩
            replace hE5 := Ex.tr hE5 hx51
            replace hE7 := Ex.tr hE7 hx51
            replace hE9 := Ex.tr hE9 hx51
            replace hE11 := Ex.tr hE11 hx51
            replace hE13 := Ex.tr hE13 hx51
            replace hE15 := Ex.tr hE15 hx51
            replace hE17 := Ex.tr hE17 hx51
            replace hE19 := Ex.tr hE19 hx51
            replace hE46 := Ex.tr hE46 hx51
            replace hE50 := Ex.tr hE50 hx51
            have hE52 := hx51
            refine RG.vl rfl rfl rfl (Ev.pickT rfl rfl rfl) ?_
            refine RG.vl rfl rfl rfl (Ev.assign rfl rfl) ?_
            refine RG.done ?_
            refine QW.sub (S' := [(2, _)]) ⟨rfl, trivial⟩ ?_
            refine QW.then_ ?_
            refine CW.ret ?_
            refine QW.ret1 rfl rfl ?_
            have hB := (Ex.tr hB0 hE5)
            exact ⟨rfl, hB⟩
          · refine RG.pass rfl rfl rfl ?_
            refine RG.pass rfl rfl rfl ?_
            refine RG.pass rfl rfl rfl ?_
            refine RG.pass rfl rfl rfl ?_
            refine RG.pass rfl rfl rfl ?_
            refine RG.vl rfl rfl rfl (Ev.pickF rfl rfl rfl) ?_
            refine RG.vl rfl rfl rfl (Ev.pickF rfl rfl rfl) ?_
            refine RG.done ?_
            refine QW.sub (S' := [(0, _), (2, _), (10, _), (11, _), (12, _), (114, _)]) ⟨rfl, rfl, rfl, rfl, rfl, rfl, trivial⟩ ?_
            refine QW.then_ ?_
            refine CW.condF rfl ?_
            refine CW.skip ?_
            refine QW.then_ ?_
            refine CW.seq ?_
            refine CW.region ?_
            refine RG.vl rfl rfl rfl (Ev.move rfl rfl) ?_
            refine RG.call rfl rfl rfl rfl rfl rfl rfl en_25 (runf_ret _ _ (by omega)) ?_
            rintro _ w53 ⟨rfl, hx53⟩
            replace hE5 := Ex.tr hE5 hx53
            replace hE7 := Ex.tr hE7 hx53
            replace hE9 := Ex.tr hE9 hx53
            replace hE11 := Ex.tr hE11 hx53
            replace hE13 := Ex.tr hE13 hx53
            replace hE15 := Ex.tr hE15 hx53
            replace hE17 := Ex.tr hE17 hx53
            replace hE19 := Ex.tr hE19 hx53
            replace hE46 := Ex.tr hE46 hx53
            have hE54 := hx53
            refine RG.vl rfl rfl rfl (Ev.move rfl rfl) ?_
            refine RG.vl rfl rfl rfl (Ev.extract rfl rfl rfl) ?_
            refine RG.vl rfl rfl rfl (Ev.extract rfl rfl rfl) ?_
            refine RG.vl rfl rfl rfl (Ev.extract rfl rfl rfl) ?_
            refine RG.vl rfl rfl rfl (Ev.assign rfl rfl) ?_
            refine RG.vl rfl rfl rfl (Ev.assign rfl rfl) ?_
            refine RG.vl rfl rfl rfl (Ev.assign rfl rfl) ?_
            refine RG.done ?_
            refine QW.then_ ?_
            refine CW.seq ?_
            refine CW.region ?_
            refine RG.vl rfl rfl rfl (Ev.move rfl rfl) ?_
            refine RG.vl rfl rfl rfl (Ev.move rfl rfl) ?_
            refine RG.vl rfl rfl rfl (Ev.isT (Ev.eqS rfl rfl rfl) (rfl)) ?_
            refine RG.vl rfl rfl rfl (Ev.move rfl rfl) ?_
            refine RG.vl rfl rfl rfl (Ev.move rfl rfl) ?_
            refine RG.vl rfl rfl rfl (Ev.move rfl rfl) ?_
            refine RG.vl rfl rfl rfl (Ev.isT (Ev.eqB rfl rfl rfl Try.underlying4) (rfl)) ?_
            refine RG.vl rfl rfl rfl (Ev.pickT rfl rfl rfl) ?_
            refine RG.vl rfl rfl rfl (Ev.move rfl rfl) ?_
            refine RG.vl rfl rfl rfl (Ev.move rfl rfl) ?_
            refine RG.vl rfl rfl rfl (Ev.move rfl rfl) ?_
            refine RG.vl rfl rfl rfl (Ev.isT (Ev.eqI rfl rfl rfl) (rfl)) ?_
            refine RG.vl rfl rfl rfl (Ev.pickT rfl rfl rfl) ?_
            refine RG.vl rfl rfl rfl (Ev.move rfl rfl) ?_
            refine RG.call rfl rfl rfl rfl rfl rfl rfl en_10 (awake_ret _) ?_
            rintro _ w55 ⟨rfl, hx55⟩
            replace hE5 := Ex.tr hE5 hx55
            replace hE7 := Ex.tr hE7 hx55
            replace hE9 := Ex.tr hE9 hx55
            replace hE11 := Ex.tr hE11 hx55
            replace hE13 := Ex.tr hE13 hx55
            replace hE15 := Ex.tr hE15 hx55
            replace hE17 := Ex.tr hE17 hx55
            replace hE19 := Ex.tr hE19 hx55
            replace hE46 := Ex.tr hE46 hx55
            replace hE54 := Ex.tr hE54 hx55
            have hE56 := hx55
            refine RG.vl rfl rfl rfl (Ev.pickT rfl rfl rfl) ?_
            refine RG.vl rfl rfl rfl (Ev.assign rfl rfl) ?_
            refine RG.done ?_
            refine QW.sub (S' := [(2, _)]) ⟨rfl, trivial⟩ ?_
            refine QW.then_ ?_
            refine CW.ret ?_
            refine QW.ret1 rfl rfl ?_
            have hB := (Ex.tr hB0 hE5)
            exact ⟨rfl, hB⟩
        · refine RG.pass rfl rfl rfl ?_
          refine RG.pass rfl rfl rfl ?_
          refine RG.vl rfl rfl rfl (Ev.pickF rfl rfl rfl) ?_
          refine RG.vl rfl rfl rfl (Ev.pickF rfl rfl rfl) ?_
          refine RG.vl rfl rfl rfl (Ev.move rfl rfl) ?_
          refine RG.vl rfl rfl rfl (Ev.move rfl rfl) ?_
          refine RG.vl rfl rfl rfl (Ev.eqI rfl rfl rfl) ?_
          refine RG.vl rfl rfl rfl (Ev.move rfl rfl) ?_
          refine RG.split (d := 107) rfl (fun hg57 => ?_) (fun hg57 => ?_)
          · refine RG.vl rfl rfl rfl (Ev.move rfl rfl) ?_
            refine RG.vl rfl rfl rfl (Ev.move rfl rfl) ?_
            refine RG.vl rfl rfl rfl ((Ev.cat rfl rfl rfl (by rw [hts]; show 2 + _ ≤ _; omega)).conv (congrArg Value.string (bx_cat [65, 84] t))) ?_
            refine RG.vl rfl rfl rfl ((Ev.cat rfl rfl rfl (by rw [sb_len, List.length_append]; show 2 + t.length + 2 ≤ _; omega)).conv (congrArg Value.string (bx_cat ([65, 84] ++ t) [70, 68]))) ?_
            refine RG.vl rfl rfl rfl (Ev.isF (Ev.neS rfl rfl rfl) (fun h => h (by rw [frameB_o (by assumption)]))) ?_
            refine RG.vl rfl rfl rfl (Ev.pickT rfl rfl rfl) ?_
            refine RG.vl rfl rfl rfl (Ev.pickF rfl rfl rfl) ?_
            refine RG.done ?_
            refine QW.sub (S' := [(0, _), (2, _), (10, _), (11, _), (12, _), (114, _)]) ⟨rfl, rfl, rfl, rfl, rfl, rfl, trivial⟩ ?_
            refine QW.then_ ?_
            refine CW.condF rfl ?_
            refine CW.skip ?_
            refine QW.then_ ?_
            refine CW.seq ?_
            refine CW.region ?_
            refine RG.vl rfl rfl rfl (Ev.move rfl rfl) ?_
            refine RG.call rfl rfl rfl rfl rfl rfl rfl en_25 (runf_ret _ _ (by omega)) ?_
            rintro _ w58 ⟨rfl, hx58⟩
            replace hE5 := Ex.tr hE5 hx58
            replace hE7 := Ex.tr hE7 hx58
            replace hE9 := Ex.tr hE9 hx58
            replace hE11 := Ex.tr hE11 hx58
            replace hE13 := Ex.tr hE13 hx58
            replace hE15 := Ex.tr hE15 hx58
            replace hE17 := Ex.tr hE17 hx58
            replace hE19 := Ex.tr hE19 hx58
            replace hE46 := Ex.tr hE46 hx58
            have hE59 := hx58
            refine RG.vl rfl rfl rfl (Ev.move rfl rfl) ?_
            refine RG.vl rfl rfl rfl (Ev.extract rfl rfl rfl) ?_
            refine RG.vl rfl rfl rfl (Ev.extract rfl rfl rfl) ?_
            refine RG.vl rfl rfl rfl (Ev.extract rfl rfl rfl) ?_
            refine RG.vl rfl rfl rfl (Ev.assign rfl rfl) ?_
            refine RG.vl rfl rfl rfl (Ev.assign rfl rfl) ?_
            refine RG.vl rfl rfl rfl (Ev.assign rfl rfl) ?_
            refine RG.done ?_
            refine QW.then_ ?_
            refine CW.seq ?_
            refine CW.region ?_
            refine RG.vl rfl rfl rfl (Ev.move rfl rfl) ?_
            refine RG.vl rfl rfl rfl (Ev.move rfl rfl) ?_
            refine RG.vl rfl rfl rfl (Ev.isT (Ev.eqS rfl rfl rfl) (rfl)) ?_
            refine RG.vl rfl rfl rfl (Ev.move rfl rfl) ?_
            refine RG.vl rfl rfl rfl (Ev.move rfl rfl) ?_
            refine RG.vl rfl rfl rfl (Ev.move rfl rfl) ?_
            refine RG.vl rfl rfl rfl (Ev.isT (Ev.eqB rfl rfl rfl Try.underlying4) (rfl)) ?_
            refine RG.vl rfl rfl rfl (Ev.pickT rfl rfl rfl) ?_
            refine RG.vl rfl rfl rfl (Ev.move rfl rfl) ?_
            refine RG.vl rfl rfl rfl (Ev.move rfl rfl) ?_
            refine RG.vl rfl rfl rfl (Ev.move rfl rfl) ?_
            refine RG.vl rfl rfl rfl (Ev.isT (Ev.eqI rfl rfl rfl) (rfl)) ?_
            refine RG.vl rfl rfl rfl (Ev.pickT rfl rfl rfl) ?_
            refine RG.vl rfl rfl rfl (Ev.move rfl rfl) ?_
            refine RG.call rfl rfl rfl rfl rfl rfl rfl en_10 (awake_ret _) ?_
            rintro _ w60 ⟨rfl, hx60⟩
            replace hE5 := Ex.tr hE5 hx60
            replace hE7 := Ex.tr hE7 hx60
            replace hE9 := Ex.tr hE9 hx60
            replace hE11 := Ex.tr hE11 hx60
            replace hE13 := Ex.tr hE13 hx60
            replace hE15 := Ex.tr hE15 hx60
            replace hE17 := Ex.tr hE17 hx60
            replace hE19 := Ex.tr hE19 hx60
            replace hE46 := Ex.tr hE46 hx60
            replace hE59 := Ex.tr hE59 hx60
            have hE61 := hx60
            refine RG.vl rfl rfl rfl (Ev.pickT rfl rfl rfl) ?_
            refine RG.vl rfl rfl rfl (Ev.assign rfl rfl) ?_
            refine RG.done ?_
            refine QW.sub (S' := [(2, _)]) ⟨rfl, trivial⟩ ?_
            refine QW.then_ ?_
            refine CW.ret ?_
            refine QW.ret1 rfl rfl ?_
            have hB := (Ex.tr hB0 hE5)
            exact ⟨rfl, hB⟩
          · refine RG.pass rfl rfl rfl ?_
            refine RG.pass rfl rfl rfl ?_
            refine RG.pass rfl rfl rfl ?_
            refine RG.pass rfl rfl rfl ?_
            refine RG.pass rfl rfl rfl ?_
            refine RG.vl rfl rfl rfl (Ev.pickF rfl rfl rfl) ?_
            refine RG.vl rfl rfl rfl (Ev.pickF rfl rfl rfl) ?_
            refine RG.done ?_
            refine QW.sub (S' := [(0, _), (2, _), (10, _), (11, _), (12, _), (114, _)]) ⟨rfl, rfl, rfl, rfl, rfl, rfl, trivial⟩ ?_
            refine QW.then_ ?_
            refine CW.condF rfl ?_
            refine CW.skip ?_
            refine QW.then_ ?_
            refine CW.seq ?_
            refine CW.region ?_
            refine RG.vl rfl rfl rfl (Ev.move rfl rfl) ?_
            refine RG.call rfl rfl rfl rfl rfl rfl rfl en_25 (runf_ret _ _ (by omega)) ?_
            rintro _ w62 ⟨rfl, hx62⟩
            replace hE5 := Ex.tr hE5 hx62
            replace hE7 := Ex.tr hE7 hx62
            replace hE9 := Ex.tr hE9 hx62
            replace hE11 := Ex.tr hE11 hx62
            replace hE13 := Ex.tr hE13 hx62
            replace hE15 := Ex.tr hE15 hx62
            replace hE17 := Ex.tr hE17 hx62
            replace hE19 := Ex.tr hE19 hx62
            replace hE46 := Ex.tr hE46 hx62
            have hE63 := hx62
            refine RG.vl rfl rfl rfl (Ev.move rfl rfl) ?_
            refine RG.vl rfl rfl rfl (Ev.extract rfl rfl rfl) ?_
            refine RG.vl rfl rfl rfl (Ev.extract rfl rfl rfl) ?_
            refine RG.vl rfl rfl rfl (Ev.extract rfl rfl rfl) ?_
            refine RG.vl rfl rfl rfl (Ev.assign rfl rfl) ?_
            refine RG.vl rfl rfl rfl (Ev.assign rfl rfl) ?_
            refine RG.vl rfl rfl rfl (Ev.assign rfl rfl) ?_
            refine RG.done ?_
            refine QW.then_ ?_
            refine CW.seq ?_
            refine CW.region ?_
            refine RG.vl rfl rfl rfl (Ev.move rfl rfl) ?_
            refine RG.vl rfl rfl rfl (Ev.move rfl rfl) ?_
            refine RG.vl rfl rfl rfl (Ev.isT (Ev.eqS rfl rfl rfl) (rfl)) ?_
            refine RG.vl rfl rfl rfl (Ev.move rfl rfl) ?_
            refine RG.vl rfl rfl rfl (Ev.move rfl rfl) ?_
            refine RG.vl rfl rfl rfl (Ev.move rfl rfl) ?_
            refine RG.vl rfl rfl rfl (Ev.isT (Ev.eqB rfl rfl rfl Try.underlying4) (rfl)) ?_
            refine RG.vl rfl rfl rfl (Ev.pickT rfl rfl rfl) ?_
            refine RG.vl rfl rfl rfl (Ev.move rfl rfl) ?_
            refine RG.vl rfl rfl rfl (Ev.move rfl rfl) ?_
            refine RG.vl rfl rfl rfl (Ev.move rfl rfl) ?_
            refine RG.vl rfl rfl rfl (Ev.isT (Ev.eqI rfl rfl rfl) (rfl)) ?_
            refine RG.vl rfl rfl rfl (Ev.pickT rfl rfl rfl) ?_
            refine RG.vl rfl rfl rfl (Ev.move rfl rfl) ?_
            refine RG.call rfl rfl rfl rfl rfl rfl rfl en_10 (awake_ret _) ?_
            rintro _ w64 ⟨rfl, hx64⟩
            replace hE5 := Ex.tr hE5 hx64
            replace hE7 := Ex.tr hE7 hx64
            replace hE9 := Ex.tr hE9 hx64
            replace hE11 := Ex.tr hE11 hx64
            replace hE13 := Ex.tr hE13 hx64
            replace hE15 := Ex.tr hE15 hx64
            replace hE17 := Ex.tr hE17 hx64
            replace hE19 := Ex.tr hE19 hx64
            replace hE46 := Ex.tr hE46 hx64
            replace hE63 := Ex.tr hE63 hx64
            have hE65 := hx64
            refine RG.vl rfl rfl rfl (Ev.pickT rfl rfl rfl) ?_
            refine RG.vl rfl rfl rfl (Ev.assign rfl rfl) ?_
            refine RG.done ?_
            refine QW.sub (S' := [(2, _)]) ⟨rfl, trivial⟩ ?_
            refine QW.then_ ?_
            refine CW.ret ?_
            refine QW.ret1 rfl rfl ?_
            have hB := (Ex.tr hB0 hE5)
            exact ⟨rfl, hB⟩
    · refine RG.pass rfl rfl rfl ?_
      refine RG.pass rfl rfl rfl ?_
      refine RG.vl rfl rfl rfl (Ev.pickF rfl rfl rfl) ?_
      refine RG.vl rfl rfl rfl (Ev.pickF rfl rfl rfl) ?_
      refine RG.vl rfl rfl rfl (Ev.move rfl rfl) ?_
      refine RG.vl rfl rfl rfl (Ev.move rfl rfl) ?_
      refine RG.vl rfl rfl rfl (Ev.eqI rfl rfl rfl) ?_
      refine RG.vl rfl rfl rfl (Ev.move rfl rfl) ?_
      refine RG.split (d := 84) rfl (fun hg66 => ?_) (fun hg66 => ?_)
      · refine RG.vl rfl rfl rfl (Ev.move rfl rfl) ?_
        refine RG.vl rfl rfl rfl (Ev.move rfl rfl) ?_
        refine RG.call rfl rfl rfl rfl rfl rfl rfl en_24 (rturn_ret _ _ (by omega)) ?_
        rintro _ w67 ⟨rfl, hx67⟩
        replace hE5 := Ex.tr hE5 hx67
        replace hE7 := Ex.tr hE7 hx67
        replace hE9 := Ex.tr hE9 hx67
        replace hE11 := Ex.tr hE11 hx67
        replace hE13 := Ex.tr hE13 hx67
        replace hE15 := Ex.tr hE15 hx67
        replace hE17 := Ex.tr hE17 hx67
        replace hE19 := Ex.tr hE19 hx67
        have hE68 := hx67
        refine RG.vl rfl rfl rfl (Ev.isF (Ev.neS rfl rfl rfl) (fun h => h (by rw [turnB_o (by assumption)]))) ?_
        refine RG.vl rfl rfl rfl (Ev.pickT rfl rfl rfl) ?_
        refine RG.vl rfl rfl rfl (Ev.pickF rfl rfl rfl) ?_
        refine RG.done ?_
        refine QW.sub (S' := [(0, _), (2, _), (8, _), (9, _), (10, _), (11, _), (12, _), (90, _)]) ⟨rfl, rfl, rfl, rfl, rfl, rfl, rfl, rfl, trivial⟩ ?_
        refine QW.then_ ?_
        refine CW.condF rfl ?_
        refine CW.skip ?_
        refine QW.then_ ?_
        refine CW.seq ?_
        refine CW.seq ?_
        refine CW.region ?_
        refine RG.vl rfl rfl rfl (Ev.move rfl rfl) ?_
        refine RG.call rfl rfl rfl rfl rfl rfl rfl en_23 (error_ret _ 4 _ (by omega) (by omega)) ?_
        rintro _ w69 ⟨rfl, hx69⟩
        replace hE5 := Ex.tr hE5 hx69
        replace hE7 := Ex.tr hE7 hx69
        replace hE9 := Ex.tr hE9 hx69
        replace hE11 := Ex.tr hE11 hx69
        replace hE13 := Ex.tr hE13 hx69
        replace hE15 := Ex.tr hE15 hx69
        replace hE17 := Ex.tr hE17 hx69
        replace hE19 := Ex.tr hE19 hx69
        replace hE68 := Ex.tr hE68 hx69
        have hE70 := hx69
        refine RG.vl rfl rfl rfl (Ev.assign rfl rfl) ?_
        refine RG.done ?_
        refine QW.then_ ?_
        refine CW.seq ?_
        refine CW.region ?_
        refine RG.vl rfl rfl rfl (Ev.move rfl rfl) ?_
        refine RG.vl rfl rfl rfl (Ev.move rfl rfl) ?_
        refine RG.vl rfl rfl rfl (Ev.isF (Ev.neI rfl rfl rfl) (fun h => h frameB_2)) ?_
        refine RG.vl rfl rfl rfl (Ev.move rfl rfl) ?_
        refine RG.vl rfl rfl rfl (Ev.move rfl rfl) ?_
        refine RG.vl rfl rfl rfl (Ev.neI rfl rfl rfl) ?_
        refine RG.vl rfl rfl rfl (Ev.move rfl rfl) ?_
        refine RG.split (d := 99) rfl (fun hg71 => ?_) (fun hg71 => ?_)
        · refine RG.vl rfl rfl rfl (Ev.move rfl rfl) ?_
          refine RG.vl rfl rfl rfl (Ev.isF (Ev.neS rfl rfl rfl) (fun h => h (by rw [frameB_e (by assumption)]))) ?_
          refine RG.vl rfl rfl rfl (Ev.pickT rfl rfl rfl) ?_
          refine RG.vl rfl rfl rfl (Ev.pickF rfl rfl rfl) ?_
          refine RG.vl rfl rfl rfl (Ev.move rfl rfl) ?_
          refine RG.vl rfl rfl rfl (Ev.move rfl rfl) ?_
          refine RG.vl rfl rfl rfl (Ev.eqI rfl rfl rfl) ?_
          refine RG.vl rfl rfl rfl (Ev.move rfl rfl) ?_
          refine RG.split (d := 107) rfl (fun hg72 => ?_) (fun hg72 => ?_)
          · refine RG.vl rfl rfl rfl (Ev.move rfl rfl) ?_
            refine RG.vl rfl rfl rfl (Ev.move rfl rfl) ?_
            refine RG.vl rfl rfl rfl ((Ev.cat rfl rfl rfl (by rw [hts]; show 2 + _ ≤ _; omega)).conv (congrArg Value.string (bx_cat [65, 84] t))) ?_
            refine RG.vl rfl rfl rfl ((Ev.cat rfl rfl rfl (by rw [sb_len, List.length_append]; show 2 + t.length + 2 ≤ _; omega)).conv (congrArg Value.string (bx_cat ([65, 84] ++ t) [70, 68]))) ?_
            refine RG.vl rfl rfl rfl (Ev.isF (Ev.neS rfl rfl rfl) (fun h => h (by rw [frameB_o (by assumption)]))) ?_
            refine RG.vl rfl rfl rfl (Ev.pickT rfl rfl rfl) ?_
            refine RG.vl rfl rfl rfl (Ev.pickF rfl rfl rfl) ?_
            refine RG.done ?_
            refine QW.sub (S' := [(0, _), (2, _), (10, _), (11, _), (12, _), (114, _)]) ⟨rfl, rfl, rfl, rfl, rfl, rfl, trivial⟩ ?_
            refine QW.then_ ?_
            refine CW.condF rfl ?_
            refine CW.skip ?_
            refine QW.then_ ?_
            refine CW.seq ?_
            refine CW.region ?_
            refine RG.vl rfl rfl rfl (Ev.move rfl rfl) ?_
            refine RG.call rfl rfl rfl rfl rfl rfl rfl en_25 (runf_ret _ _ (by omega)) ?_
            rintro _ w73 ⟨rfl, hx73⟩
            replace hE5 := Ex.tr hE5 hx73
            replace hE7 := Ex.tr hE7 hx73
            replace hE9 := Ex.tr hE9 hx73
            replace hE11 := Ex.tr hE11 hx73
            replace hE13 := Ex.tr hE13 hx73
            replace hE15 := Ex.tr hE15 hx73
            replace hE17 := Ex.tr hE17 hx73
            replace hE19 := Ex.tr hE19 hx73
            replace hE68 := Ex.tr hE68 hx73
            replace hE70 := Ex.tr hE70 hx73
            have hE74 := hx73
            refine RG.vl rfl rfl rfl (Ev.move rfl rfl) ?_
            refine RG.vl rfl rfl rfl (Ev.extract rfl rfl rfl) ?_
            refine RG.vl rfl rfl rfl (Ev.extract rfl rfl rfl) ?_
            refine RG.vl rfl rfl rfl (Ev.extract rfl rfl rfl) ?_
            refine RG.vl rfl rfl rfl (Ev.assign rfl rfl) ?_
            refine RG.vl rfl rfl rfl (Ev.assign rfl rfl) ?_
            refine RG.vl rfl rfl rfl (Ev.assign rfl rfl) ?_
            refine RG.done ?_
            refine QW.then_ ?_
            refine CW.seq ?_
            refine CW.region ?_
            refine RG.vl rfl rfl rfl (Ev.move rfl rfl) ?_
            refine RG.vl rfl rfl rfl (Ev.move rfl rfl) ?_
            refine RG.vl rfl rfl rfl (Ev.isT (Ev.eqS rfl rfl rfl) (rfl)) ?_
            refine RG.vl rfl rfl rfl (Ev.move rfl rfl) ?_
            refine RG.vl rfl rfl rfl (Ev.move rfl rfl) ?_
            refine RG.vl rfl rfl rfl (Ev.move rfl rfl) ?_
            refine RG.vl rfl rfl rfl (Ev.isT (Ev.eqB rfl rfl rfl Try.underlying4) (rfl)) ?_
            refine RG.vl rfl rfl rfl (Ev.pickT rfl rfl rfl) ?_
            refine RG.vl rfl rfl rfl (Ev.move rfl rfl) ?_
            refine RG.vl rfl rfl rfl (Ev.move rfl rfl) ?_
            refine RG.vl rfl rfl rfl (Ev.move rfl rfl) ?_
            refine RG.vl rfl rfl rfl (Ev.isT (Ev.eqI rfl rfl rfl) (rfl)) ?_
            refine RG.vl rfl rfl rfl (Ev.pickT rfl rfl rfl) ?_
            refine RG.vl rfl rfl rfl (Ev.move rfl rfl) ?_
            refine RG.call rfl rfl rfl rfl rfl rfl rfl en_10 (awake_ret _) ?_
            rintro _ w75 ⟨rfl, hx75⟩
            replace hE5 := Ex.tr hE5 hx75
            replace hE7 := Ex.tr hE7 hx75
            replace hE9 := Ex.tr hE9 hx75
            replace hE11 := Ex.tr hE11 hx75
            replace hE13 := Ex.tr hE13 hx75
            replace hE15 := Ex.tr hE15 hx75
            replace hE17 := Ex.tr hE17 hx75
            replace hE19 := Ex.tr hE19 hx75
            replace hE68 := Ex.tr hE68 hx75
            replace hE70 := Ex.tr hE70 hx75
            replace hE74 := Ex.tr hE74 hx75
            have hE76 := hx75
            refine RG.vl rfl rfl rfl (Ev.pickT rfl rfl rfl) ?_
            refine RG.vl rfl rfl rfl (Ev.assign rfl rfl) ?_
            refine RG.done ?_
            refine QW.sub (S' := [(2, _)]) ⟨rfl, trivial⟩ ?_
            refine QW.then_ ?_
            refine CW.ret ?_
            refine QW.ret1 rfl rfl ?_
            have hB := (Ex.tr hB0 hE5)
            exact ⟨rfl, hB⟩
          · refine RG.pass rfl rfl rfl ?_
            refine RG.pass rfl rfl rfl ?_
            refine RG.pass rfl rfl rfl ?_
            refine RG.pass rfl rfl rfl ?_
            refine RG.pass rfl rfl rfl ?_
            refine RG.vl rfl rfl rfl (Ev.pickF rfl rfl rfl) ?_
            refine RG.vl rfl rfl rfl (Ev.pickF rfl rfl rfl) ?_
            refine RG.done ?_
            refine QW.sub (S' := [(0, _), (2, _), (10, _), (11, _), (12, _), (114, _)]) ⟨rfl, rfl, rfl, rfl, rfl, rfl, trivial⟩ ?_
            refine QW.then_ ?_
            refine CW.condF rfl ?_
            refine CW.skip ?_
            refine QW.then_ ?_
            refine CW.seq ?_
            refine CW.region ?_
            refine RG.vl rfl rfl rfl (Ev.move rfl rfl) ?_
            refine RG.call rfl rfl rfl rfl rfl rfl rfl en_25 (runf_ret _ _ (by omega)) ?_
            rintro _ w77 ⟨rfl, hx77⟩
            replace hE5 := Ex.tr hE5 hx77
            replace hE7 := Ex.tr hE7 hx77
            replace hE9 := Ex.tr hE9 hx77
            replace hE11 := Ex.tr hE11 hx77
            replace hE13 := Ex.tr hE13 hx77
            replace hE15 := Ex.tr hE15 hx77
            replace hE17 := Ex.tr hE17 hx77
            replace hE19 := Ex.tr hE19 hx77
            replace hE68 := Ex.tr hE68 hx77
            replace hE70 := Ex.tr hE70 hx77
            have hE78 := hx77
            refine RG.vl rfl rfl rfl (Ev.move rfl rfl) ?_
            refine RG.vl rfl rfl rfl (Ev.extract rfl rfl rfl) ?_
            refine RG.vl rfl rfl rfl (Ev.extract rfl rfl rfl) ?_
            refine RG.vl rfl rfl rfl (Ev.extract rfl rfl rfl) ?_
            refine RG.vl rfl rfl rfl (Ev.assign rfl rfl) ?_
            refine RG.vl rfl rfl rfl (Ev.assign rfl rfl) ?_
            refine RG.vl rfl rfl rfl (Ev.assign rfl rfl) ?_
            refine RG.done ?_
            refine QW.then_ ?_
            refine CW.seq ?_
            refine CW.region ?_
            refine RG.vl rfl rfl rfl (Ev.move rfl rfl) ?_
            refine RG.vl rfl rfl rfl (Ev.move rfl rfl) ?_
            refine RG.vl rfl rfl rfl (Ev.isT (Ev.eqS rfl rfl rfl) (rfl)) ?_
            refine RG.vl rfl rfl rfl (Ev.move rfl rfl) ?_
            refine RG.vl rfl rfl rfl (Ev.move rfl rfl) ?_
            refine RG.vl rfl rfl rfl (Ev.move rfl rfl) ?_
            refine RG.vl rfl rfl rfl (Ev.isT (Ev.eqB rfl rfl rfl Try.underlying4) (rfl)) ?_
            refine RG.vl rfl rfl rfl (Ev.pickT rfl rfl rfl) ?_
            refine RG.vl rfl rfl rfl (Ev.move rfl rfl) ?_
            refine RG.vl rfl rfl rfl (Ev.move rfl rfl) ?_
            refine RG.vl rfl rfl rfl (Ev.move rfl rfl) ?_
            refine RG.vl rfl rfl rfl (Ev.isT (Ev.eqI rfl rfl rfl) (rfl)) ?_
            refine RG.vl rfl rfl rfl (Ev.pickT rfl rfl rfl) ?_
            refine RG.vl rfl rfl rfl (Ev.move rfl rfl) ?_
            refine RG.call rfl rfl rfl rfl rfl rfl rfl en_10 (awake_ret _) ?_
            rintro _ w79 ⟨rfl, hx79⟩
            replace hE5 := Ex.tr hE5 hx79
            replace hE7 := Ex.tr hE7 hx79
            replace hE9 := Ex.tr hE9 hx79
            replace hE11 := Ex.tr hE11 hx79
            replace hE13 := Ex.tr hE13 hx79
            replace hE15 := Ex.tr hE15 hx79
            replace hE17 := Ex.tr hE17 hx79
            replace hE19 := Ex.tr hE19 hx79
            replace hE68 := Ex.tr hE68 hx79
            replace hE70 := Ex.tr hE70 hx79
            replace hE78 := Ex.tr hE78 hx79
            have hE80 := hx79
            refine RG.vl rfl rfl rfl (Ev.pickT rfl rfl rfl) ?_
            refine RG.vl rfl rfl rfl (Ev.assign rfl rfl) ?_
            refine RG.done ?_
            refine QW.sub (S' := [(2, _)]) ⟨rfl, trivial⟩ ?_
            refine QW.then_ ?_
            refine CW.ret ?_
            refine QW.ret1 rfl rfl ?_
            have hB := (Ex.tr hB0 hE5)
            exact ⟨rfl, hB⟩
        · refine RG.pass rfl rfl rfl ?_
          refine RG.pass rfl rfl rfl ?_
          refine RG.vl rfl rfl rfl (Ev.pickF rfl rfl rfl) ?_
          refine RG.vl rfl rfl rfl (Ev.pickF rfl rfl rfl) ?_
          refine RG.vl rfl rfl rfl (Ev.move rfl rfl) ?_
          refine RG.vl rfl rfl rfl (Ev.move rfl rfl) ?_
          refine RG.vl rfl rfl rfl (Ev.eqI rfl rfl rfl) ?_
          refine RG.vl rfl rfl rfl (Ev.move rfl rfl) ?_
          refine RG.split (d := 107) rfl (fun hg81 => ?_) (fun hg81 => ?_)
          · refine RG.vl rfl rfl rfl (Ev.move rfl rfl) ?_
            refine RG.vl rfl rfl rfl (Ev.move rfl rfl) ?_
            refine RG.vl rfl rfl rfl ((Ev.cat rfl rfl rfl (by rw [hts]; show 2 + _ ≤ _; omega)).conv (congrArg Value.string (bx_cat [65, 84] t))) ?_
            refine RG.vl rfl rfl rfl ((Ev.cat rfl rfl rfl (by rw [sb_len, List.length_append]; show 2 + t.length + 2 ≤ _; omega)).conv (congrArg Value.string (bx_cat ([65, 84] ++ t) [70, 68]))) ?_
            refine RG.vl rfl rfl rfl (Ev.isF (Ev.neS rfl rfl rfl) (fun h => h (by rw [frameB_o (by assumption)]))) ?_
            refine RG.vl rfl rfl rfl (Ev.pickT rfl rfl rfl) ?_
            refine RG.vl rfl rfl rfl (Ev.pickF rfl rfl rfl) ?_
            refine RG.done ?_
            refine QW.sub (S' := [(0, _), (2, _), (10, _), (11, _), (12, _), (114, _)]) ⟨rfl, rfl, rfl, rfl, rfl, rfl, trivial⟩ ?_
            refine QW.then_ ?_
            refine CW.condF rfl ?_
            refine CW.skip ?_
            refine QW.then_ ?_
            refine CW.seq ?_
            refine CW.region ?_
            refine RG.vl rfl rfl rfl (Ev.move rfl rfl) ?_
            refine RG.call rfl rfl rfl rfl rfl rfl rfl en_25 (runf_ret _ _ (by omega)) ?_
            rintro _ w82 ⟨rfl, hx82⟩
            replace hE5 := Ex.tr hE5 hx82
            replace hE7 := Ex.tr hE7 hx82
            replace hE9 := Ex.tr hE9 hx82
            replace hE11 := Ex.tr hE11 hx82
            replace hE13 := Ex.tr hE13 hx82
            replace hE15 := Ex.tr hE15 hx82
            replace hE17 := Ex.tr hE17 hx82
            replace hE19 := Ex.tr hE19 hx82
            replace hE68 := Ex.tr hE68 hx82
            replace hE70 := Ex.tr hE70 hx82
            have hE83 := hx82
            refine RG.vl rfl rfl rfl (Ev.move rfl rfl) ?_
            refine RG.vl rfl rfl rfl (Ev.extract rfl rfl rfl) ?_
            refine RG.vl rfl rfl rfl (Ev.extract rfl rfl rfl) ?_
            refine RG.vl rfl rfl rfl (Ev.extract rfl rfl rfl) ?_
            refine RG.vl rfl rfl rfl (Ev.assign rfl rfl) ?_
            refine RG.vl rfl rfl rfl (Ev.assign rfl rfl) ?_
            refine RG.vl rfl rfl rfl (Ev.assign rfl rfl) ?_
            refine RG.done ?_
            refine QW.then_ ?_
            refine CW.seq ?_
            refine CW.region ?_
            refine RG.vl rfl rfl rfl (Ev.move rfl rfl) ?_
            refine RG.vl rfl rfl rfl (Ev.move rfl rfl) ?_
            refine RG.vl rfl rfl rfl (Ev.isT (Ev.eqS rfl rfl rfl) (rfl)) ?_
            refine RG.vl rfl rfl rfl (Ev.move rfl rfl) ?_
            refine RG.vl rfl rfl rfl (Ev.move rfl rfl) ?_
            refine RG.vl rfl rfl rfl (Ev.move rfl rfl) ?_
            refine RG.vl rfl rfl rfl (Ev.isT (Ev.eqB rfl rfl rfl Try.underlying4) (rfl)) ?_
            refine RG.vl rfl rfl rfl (Ev.pickT rfl rfl rfl) ?_
            refine RG.vl rfl rfl rfl (Ev.move rfl rfl) ?_
            refine RG.vl rfl rfl rfl (Ev.move rfl rfl) ?_
            refine RG.vl rfl rfl rfl (Ev.move rfl rfl) ?_
            refine RG.vl rfl rfl rfl (Ev.isT (Ev.eqI rfl rfl rfl) (rfl)) ?_
            refine RG.vl rfl rfl rfl (Ev.pickT rfl rfl rfl) ?_
            refine RG.vl rfl rfl rfl (Ev.move rfl rfl) ?_
            refine RG.call rfl rfl rfl rfl rfl rfl rfl en_10 (awake_ret _) ?_
            rintro _ w84 ⟨rfl, hx84⟩
            replace hE5 := Ex.tr hE5 hx84
            replace hE7 := Ex.tr hE7 hx84
            replace hE9 := Ex.tr hE9 hx84
            replace hE11 := Ex.tr hE11 hx84
            replace hE13 := Ex.tr hE13 hx84
            replace hE15 := Ex.tr hE15 hx84
            replace hE17 := Ex.tr hE17 hx84
            replace hE19 := Ex.tr hE19 hx84
            replace hE68 := Ex.tr hE68 hx84
            replace hE70 := Ex.tr hE70 hx84
            replace hE83 := Ex.tr hE83 hx84
            have hE85 := hx84
            refine RG.vl rfl rfl rfl (Ev.pickT rfl rfl rfl) ?_
            refine RG.vl rfl rfl rfl (Ev.assign rfl rfl) ?_
            refine RG.done ?_
            refine QW.sub (S' := [(2, _)]) ⟨rfl, trivial⟩ ?_
            refine QW.then_ ?_
            refine CW.ret ?_
            refine QW.ret1 rfl rfl ?_
            have hB := (Ex.tr hB0 hE5)
            exact ⟨rfl, hB⟩
          · refine RG.pass rfl rfl rfl ?_
            refine RG.pass rfl rfl rfl ?_
            refine RG.pass rfl rfl rfl ?_
            refine RG.pass rfl rfl rfl ?_
            refine RG.pass rfl rfl rfl ?_
            refine RG.vl rfl rfl rfl (Ev.pickF rfl rfl rfl) ?_
            refine RG.vl rfl rfl rfl (Ev.pickF rfl rfl rfl) ?_
            refine RG.done ?_
            refine QW.sub (S' := [(0, _), (2, _), (10, _), (11, _), (12, _), (114, _)]) ⟨rfl, rfl, rfl, rfl, rfl, rfl, trivial⟩ ?_
            refine QW.then_ ?_
            refine CW.condF rfl ?_
            refine CW.skip ?_
            refine QW.then_ ?_
            refine CW.seq ?_
            refine CW.region ?_
            refine RG.vl rfl rfl rfl (Ev.move rfl rfl) ?_
            refine RG.call rfl rfl rfl rfl rfl rfl rfl en_25 (runf_ret _ _ (by omega)) ?_
            rintro _ w86 ⟨rfl, hx86⟩
            replace hE5 := Ex.tr hE5 hx86
            replace hE7 := Ex.tr hE7 hx86
            replace hE9 := Ex.tr hE9 hx86
            replace hE11 := Ex.tr hE11 hx86
            replace hE13 := Ex.tr hE13 hx86
            replace hE15 := Ex.tr hE15 hx86
            replace hE17 := Ex.tr hE17 hx86
            replace hE19 := Ex.tr hE19 hx86
            replace hE68 := Ex.tr hE68 hx86
            replace hE70 := Ex.tr hE70 hx86
            have hE87 := hx86
            refine RG.vl rfl rfl rfl (Ev.move rfl rfl) ?_
            refine RG.vl rfl rfl rfl (Ev.extract rfl rfl rfl) ?_
            refine RG.vl rfl rfl rfl (Ev.extract rfl rfl rfl) ?_
            refine RG.vl rfl rfl rfl (Ev.extract rfl rfl rfl) ?_
            refine RG.vl rfl rfl rfl (Ev.assign rfl rfl) ?_
            refine RG.vl rfl rfl rfl (Ev.assign rfl rfl) ?_
            refine RG.vl rfl rfl rfl (Ev.assign rfl rfl) ?_
            refine RG.done ?_
            refine QW.then_ ?_
            refine CW.seq ?_
            refine CW.region ?_
            refine RG.vl rfl rfl rfl (Ev.move rfl rfl) ?_
            refine RG.vl rfl rfl rfl (Ev.move rfl rfl) ?_
            refine RG.vl rfl rfl rfl (Ev.isT (Ev.eqS rfl rfl rfl) (rfl)) ?_
            refine RG.vl rfl rfl rfl (Ev.move rfl rfl) ?_
            refine RG.vl rfl rfl rfl (Ev.move rfl rfl) ?_
            refine RG.vl rfl rfl rfl (Ev.move rfl rfl) ?_
            refine RG.vl rfl rfl rfl (Ev.isT (Ev.eqB rfl rfl rfl Try.underlying4) (rfl)) ?_
            refine RG.vl rfl rfl rfl (Ev.pickT rfl rfl rfl) ?_
            refine RG.vl rfl rfl rfl (Ev.move rfl rfl) ?_
            refine RG.vl rfl rfl rfl (Ev.move rfl rfl) ?_
            refine RG.vl rfl rfl rfl (Ev.move rfl rfl) ?_
            refine RG.vl rfl rfl rfl (Ev.isT (Ev.eqI rfl rfl rfl) (rfl)) ?_
            refine RG.vl rfl rfl rfl (Ev.pickT rfl rfl rfl) ?_
            refine RG.vl rfl rfl rfl (Ev.move rfl rfl) ?_
            refine RG.call rfl rfl rfl rfl rfl rfl rfl en_10 (awake_ret _) ?_
            rintro _ w88 ⟨rfl, hx88⟩
            replace hE5 := Ex.tr hE5 hx88
            replace hE7 := Ex.tr hE7 hx88
            replace hE9 := Ex.tr hE9 hx88
            replace hE11 := Ex.tr hE11 hx88
            replace hE13 := Ex.tr hE13 hx88
            replace hE15 := Ex.tr hE15 hx88
            replace hE17 := Ex.tr hE17 hx88
            replace hE19 := Ex.tr hE19 hx88
            replace hE68 := Ex.tr hE68 hx88
            replace hE70 := Ex.tr hE70 hx88
            replace hE87 := Ex.tr hE87 hx88
            have hE89 := hx88
            refine RG.vl rfl rfl rfl (Ev.pickT rfl rfl rfl) ?_
            refine RG.vl rfl rfl rfl (Ev.assign rfl rfl) ?_
            refine RG.done ?_
            refine QW.sub (S' := [(2, _)]) ⟨rfl, trivial⟩ ?_
            refine QW.then_ ?_
            refine CW.ret ?_
            refine QW.ret1 rfl rfl ?_
            have hB := (Ex.tr hB0 hE5)
            exact ⟨rfl, hB⟩
      · refine RG.pass rfl rfl rfl ?_
        refine RG.pass rfl rfl rfl ?_
        refine RG.pass rfl rfl rfl ?_
        refine RG.pass rfl rfl rfl ?_
        refine RG.vl rfl rfl rfl (Ev.pickF rfl rfl rfl) ?_
        refine RG.vl rfl rfl rfl (Ev.pickF rfl rfl rfl) ?_
        refine RG.done ?_
        refine QW.sub (S' := [(0, _), (2, _), (8, _), (9, _), (10, _), (11, _), (12, _), (90, _)]) ⟨rfl, rfl, rfl, rfl, rfl, rfl, rfl, rfl, trivial⟩ ?_
        refine QW.then_ ?_
        refine CW.condF rfl ?_
        refine CW.skip ?_
        refine QW.then_ ?_
        refine CW.seq ?_
        refine CW.seq ?_
        refine CW.region ?_
        refine RG.vl rfl rfl rfl (Ev.move rfl rfl) ?_
        refine RG.call rfl rfl rfl rfl rfl rfl rfl en_23 (error_ret _ 4 _ (by omega) (by omega)) ?_
        rintro _ w90 ⟨rfl, hx90⟩
        replace hE5 := Ex.tr hE5 hx90
        replace hE7 := Ex.tr hE7 hx90
        replace hE9 := Ex.tr hE9 hx90
        replace hE11 := Ex.tr hE11 hx90
        replace hE13 := Ex.tr hE13 hx90
        replace hE15 := Ex.tr hE15 hx90
        replace hE17 := Ex.tr hE17 hx90
        replace hE19 := Ex.tr hE19 hx90
        have hE91 := hx90
        refine RG.vl rfl rfl rfl (Ev.assign rfl rfl) ?_
        refine RG.done ?_
        refine QW.then_ ?_
        refine CW.seq ?_
        refine CW.region ?_
        refine RG.vl rfl rfl rfl (Ev.move rfl rfl) ?_
        refine RG.vl rfl rfl rfl (Ev.move rfl rfl) ?_
        refine RG.vl rfl rfl rfl (Ev.isF (Ev.neI rfl rfl rfl) (fun h => h frameB_2)) ?_
        refine RG.vl rfl rfl rfl (Ev.move rfl rfl) ?_
        refine RG.vl rfl rfl rfl (Ev.move rfl rfl) ?_
        refine RG.vl rfl rfl rfl (Ev.neI rfl rfl rfl) ?_
        refine RG.vl rfl rfl rfl (Ev.move rfl rfl) ?_
        refine RG.split (d := 99) rfl (fun hg92 => ?_) (fun hg92 => ?_)
        · refine RG.vl rfl rfl rfl (Ev.move rfl rfl) ?_
          refine RG.vl rfl rfl rfl (Ev.isF (Ev.neS rfl rfl rfl) (fun h => h (by rw [frameB_e (by assumption)]))) ?_
          refine RG.vl rfl rfl rfl (Ev.pickT rfl rfl rfl) ?_
          refine RG.vl rfl rfl rfl (Ev.pickF rfl rfl rfl) ?_
          refine RG.vl rfl rfl rfl (Ev.move rfl rfl) ?_
          refine RG.vl rfl rfl rfl (Ev.move rfl rfl) ?_
          refine RG.vl rfl rfl rfl (Ev.eqI rfl rfl rfl) ?_
          refine RG.vl rfl rfl rfl (Ev.move rfl rfl) ?_
          refine RG.split (d := 107) rfl (fun hg93 => ?_) (fun hg93 => ?_)
          · refine RG.vl rfl rfl rfl (Ev.move rfl rfl) ?_
            refine RG.vl rfl rfl rfl (Ev.move rfl rfl) ?_
            refine RG.vl rfl rfl rfl ((Ev.cat rfl rfl rfl (by rw [hts]; show 2 + _ ≤ _; omega)).conv (congrArg Value.string (bx_cat [65, 84] t))) ?_
            refine RG.vl rfl rfl rfl ((Ev.cat rfl rfl rfl (by rw [sb_len, List.length_append]; show 2 + t.length + 2 ≤ _; omega)).conv (congrArg Value.string (bx_cat ([65, 84] ++ t) [70, 68]))) ?_
            refine RG.vl rfl rfl rfl (Ev.isF (Ev.neS rfl rfl rfl) (fun h => h (by rw [frameB_o (by assumption)]))) ?_
            refine RG.vl rfl rfl rfl (Ev.pickT rfl rfl rfl) ?_
            refine RG.vl rfl rfl rfl (Ev.pickF rfl rfl rfl) ?_
            refine RG.done ?_
            refine QW.sub (S' := [(0, _), (2, _), (10, _), (11, _), (12, _), (114, _)]) ⟨rfl, rfl, rfl, rfl, rfl, rfl, trivial⟩ ?_
            refine QW.then_ ?_
            refine CW.condF rfl ?_
            refine CW.skip ?_
            refine QW.then_ ?_
            refine CW.seq ?_
            refine CW.region ?_
            refine RG.vl rfl rfl rfl (Ev.move rfl rfl) ?_
            refine RG.call rfl rfl rfl rfl rfl rfl rfl en_25 (runf_ret _ _ (by omega)) ?_
            rintro _ w94 ⟨rfl, hx94⟩
            replace hE5 := Ex.tr hE5 hx94
            replace hE7 := Ex.tr hE7 hx94
            replace hE9 := Ex.tr hE9 hx94
            replace hE11 := Ex.tr hE11 hx94
            replace hE13 := Ex.tr hE13 hx94
            replace hE15 := Ex.tr hE15 hx94
            replace hE17 := Ex.tr hE17 hx94
            replace hE19 := Ex.tr hE19 hx94
            replace hE91 := Ex.tr hE91 hx94
            have hE95 := hx94
            refine RG.vl rfl rfl rfl (Ev.move rfl rfl) ?_
            refine RG.vl rfl rfl rfl (Ev.extract rfl rfl rfl) ?_
            refine RG.vl rfl rfl rfl (Ev.extract rfl rfl rfl) ?_
            refine RG.vl rfl rfl rfl (Ev.extract rfl rfl rfl) ?_
            refine RG.vl rfl rfl rfl (Ev.assign rfl rfl) ?_
            refine RG.vl rfl rfl rfl (Ev.assign rfl rfl) ?_
            refine RG.vl rfl rfl rfl (Ev.assign rfl rfl) ?_
            refine RG.done ?_
            refine QW.then_ ?_
            refine CW.seq ?_
            refine CW.region ?_
            refine RG.vl rfl rfl rfl (Ev.move rfl rfl) ?_
            refine RG.vl rfl rfl rfl (Ev.move rfl rfl) ?_
            refine RG.vl rfl rfl rfl (Ev.isT (Ev.eqS rfl rfl rfl) (rfl)) ?_
            refine RG.vl rfl rfl rfl (Ev.move rfl rfl) ?_
            refine RG.vl rfl rfl rfl (Ev.move rfl rfl) ?_
            refine RG.vl rfl rfl rfl (Ev.move rfl rfl) ?_
            refine RG.vl rfl rfl rfl (Ev.isT (Ev.eqB rfl rfl rfl Try.underlying4) (rfl)) ?_
            refine RG.vl rfl rfl rfl (Ev.pickT rfl rfl rfl) ?_
            refine RG.vl rfl rfl rfl (Ev.move rfl rfl) ?_
            refine RG.vl rfl rfl rfl (Ev.move rfl rfl) ?_
            refine RG.vl rfl rfl rfl (Ev.move rfl rfl) ?_
            refine RG.vl rfl rfl rfl (Ev.isT (Ev.eqI rfl rfl rfl) (rfl)) ?_
            refine RG.vl rfl rfl rfl (Ev.pickT rfl rfl rfl) ?_
            refine RG.vl rfl rfl rfl (Ev.move rfl rfl) ?_
            refine RG.call rfl rfl rfl rfl rfl rfl rfl en_10 (awake_ret _) ?_
            rintro _ w96 ⟨rfl, hx96⟩
            replace hE5 := Ex.tr hE5 hx96
            replace hE7 := Ex.tr hE7 hx96
            replace hE9 := Ex.tr hE9 hx96
            replace hE11 := Ex.tr hE11 hx96
            replace hE13 := Ex.tr hE13 hx96
            replace hE15 := Ex.tr hE15 hx96
            replace hE17 := Ex.tr hE17 hx96
            replace hE19 := Ex.tr hE19 hx96
            replace hE91 := Ex.tr hE91 hx96
            replace hE95 := Ex.tr hE95 hx96
            have hE97 := hx96
            refine RG.vl rfl rfl rfl (Ev.pickT rfl rfl rfl) ?_
            refine RG.vl rfl rfl rfl (Ev.assign rfl rfl) ?_
            refine RG.done ?_
            refine QW.sub (S' := [(2, _)]) ⟨rfl, trivial⟩ ?_
            refine QW.then_ ?_
            refine CW.ret ?_
            refine QW.ret1 rfl rfl ?_
            have hB := (Ex.tr hB0 hE5)
            exact ⟨rfl, hB⟩
          · refine RG.pass rfl rfl rfl ?_
            refine RG.pass rfl rfl rfl ?_
            refine RG.pass rfl rfl rfl ?_
            refine RG.pass rfl rfl rfl ?_
            refine RG.pass rfl rfl rfl ?_
            refine RG.vl rfl rfl rfl (Ev.pickF rfl rfl rfl) ?_
            refine RG.vl rfl rfl rfl (Ev.pickF rfl rfl rfl) ?_
            refine RG.done ?_
            refine QW.sub (S' := [(0, _), (2, _), (10, _), (11, _), (12, _), (114, _)]) ⟨rfl, rfl, rfl, rfl, rfl, rfl, trivial⟩ ?_
            refine QW.then_ ?_
            refine CW.condF rfl ?_
            refine CW.skip ?_
            refine QW.then_ ?_
            refine CW.seq ?_
            refine CW.region ?_
            refine RG.vl rfl rfl rfl (Ev.move rfl rfl) ?_
            refine RG.call rfl rfl rfl rfl rfl rfl rfl en_25 (runf_ret _ _ (by omega)) ?_
            rintro _ w98 ⟨rfl, hx98⟩
            replace hE5 := Ex.tr hE5 hx98
            replace hE7 := Ex.tr hE7 hx98
            replace hE9 := Ex.tr hE9 hx98
            replace hE11 := Ex.tr hE11 hx98
            replace hE13 := Ex.tr hE13 hx98
            replace hE15 := Ex.tr hE15 hx98
            replace hE17 := Ex.tr hE17 hx98
            replace hE19 := Ex.tr hE19 hx98
            replace hE91 := Ex.tr hE91 hx98
            have hE99 := hx98
            refine RG.vl rfl rfl rfl (Ev.move rfl rfl) ?_
            refine RG.vl rfl rfl rfl (Ev.extract rfl rfl rfl) ?_
            refine RG.vl rfl rfl rfl (Ev.extract rfl rfl rfl) ?_
            refine RG.vl rfl rfl rfl (Ev.extract rfl rfl rfl) ?_
            refine RG.vl rfl rfl rfl (Ev.assign rfl rfl) ?_
            refine RG.vl rfl rfl rfl (Ev.assign rfl rfl) ?_
            refine RG.vl rfl rfl rfl (Ev.assign rfl rfl) ?_
            refine RG.done ?_
            refine QW.then_ ?_
            refine CW.seq ?_
            refine CW.region ?_
            refine RG.vl rfl rfl rfl (Ev.move rfl rfl) ?_
            refine RG.vl rfl rfl rfl (Ev.move rfl rfl) ?_
            refine RG.vl rfl rfl rfl (Ev.isT (Ev.eqS rfl rfl rfl) (rfl)) ?_
            refine RG.vl rfl rfl rfl (Ev.move rfl rfl) ?_
            refine RG.vl rfl rfl rfl (Ev.move rfl rfl) ?_
            refine RG.vl rfl rfl rfl (Ev.move rfl rfl) ?_
            refine RG.vl rfl rfl rfl (Ev.isT (Ev.eqB rfl rfl rfl Try.underlying4) (rfl)) ?_
            refine RG.vl rfl rfl rfl (Ev.pickT rfl rfl rfl) ?_
            refine RG.vl rfl rfl rfl (Ev.move rfl rfl) ?_
            refine RG.vl rfl rfl rfl (Ev.move rfl rfl) ?_
            refine RG.vl rfl rfl rfl (Ev.move rfl rfl) ?_
            refine RG.vl rfl rfl rfl (Ev.isT (Ev.eqI rfl rfl rfl) (rfl)) ?_
            refine RG.vl rfl rfl rfl (Ev.pickT rfl rfl rfl) ?_
            refine RG.vl rfl rfl rfl (Ev.move rfl rfl) ?_
            refine RG.call rfl rfl rfl rfl rfl rfl rfl en_10 (awake_ret _) ?_
            rintro _ w100 ⟨rfl, hx100⟩
            replace hE5 := Ex.tr hE5 hx100
            replace hE7 := Ex.tr hE7 hx100
            replace hE9 := Ex.tr hE9 hx100
            replace hE11 := Ex.tr hE11 hx100
            replace hE13 := Ex.tr hE13 hx100
            replace hE15 := Ex.tr hE15 hx100
            replace hE17 := Ex.tr hE17 hx100
            replace hE19 := Ex.tr hE19 hx100
            replace hE91 := Ex.tr hE91 hx100
            replace hE99 := Ex.tr hE99 hx100
            have hE101 := hx100
            refine RG.vl rfl rfl rfl (Ev.pickT rfl rfl rfl) ?_
            refine RG.vl rfl rfl rfl (Ev.assign rfl rfl) ?_
            refine RG.done ?_
            refine QW.sub (S' := [(2, _)]) ⟨rfl, trivial⟩ ?_
            refine QW.then_ ?_
            refine CW.ret ?_
            refine QW.ret1 rfl rfl ?_
            have hB := (Ex.tr hB0 hE5)
            exact ⟨rfl, hB⟩
        · refine RG.pass rfl rfl rfl ?_
          refine RG.pass rfl rfl rfl ?_
          refine RG.vl rfl rfl rfl (Ev.pickF rfl rfl rfl) ?_
          refine RG.vl rfl rfl rfl (Ev.pickF rfl rfl rfl) ?_
          refine RG.vl rfl rfl rfl (Ev.move rfl rfl) ?_
          refine RG.vl rfl rfl rfl (Ev.move rfl rfl) ?_
          refine RG.vl rfl rfl rfl (Ev.eqI rfl rfl rfl) ?_
          refine RG.vl rfl rfl rfl (Ev.move rfl rfl) ?_
          refine RG.split (d := 107) rfl (fun hg102 => ?_) (fun hg102 => ?_)
          · refine RG.vl rfl rfl rfl (Ev.move rfl rfl) ?_
            refine RG.vl rfl rfl rfl (Ev.move rfl rfl) ?_
            refine RG.vl rfl rfl rfl ((Ev.cat rfl rfl rfl (by rw [hts]; show 2 + _ ≤ _; omega)).conv (congrArg Value.string (bx_cat [65, 84] t))) ?_
            refine RG.vl rfl rfl rfl ((Ev.cat rfl rfl rfl (by rw [sb_len, List.length_append]; show 2 + t.length + 2 ≤ _; omega)).conv (congrArg Value.string (bx_cat ([65, 84] ++ t) [70, 68]))) ?_
            refine RG.vl rfl rfl rfl (Ev.isF (Ev.neS rfl rfl rfl) (fun h => h (by rw [frameB_o (by assumption)]))) ?_
            refine RG.vl rfl rfl rfl (Ev.pickT rfl rfl rfl) ?_
            refine RG.vl rfl rfl rfl (Ev.pickF rfl rfl rfl) ?_
            refine RG.done ?_
            refine QW.sub (S' := [(0, _), (2, _), (10, _), (11, _), (12, _), (114, _)]) ⟨rfl, rfl, rfl, rfl, rfl, rfl, trivial⟩ ?_
            refine QW.then_ ?_
            refine CW.condF rfl ?_
            refine CW.skip ?_
            refine QW.then_ ?_
            refine CW.seq ?_
            refine CW.region ?_
            refine RG.vl rfl rfl rfl (Ev.move rfl rfl) ?_
            refine RG.call rfl rfl rfl rfl rfl rfl rfl en_25 (runf_ret _ _ (by omega)) ?_
            rintro _ w103 ⟨rfl, hx103⟩
            replace hE5 := Ex.tr hE5 hx103
            replace hE7 := Ex.tr hE7 hx103
            replace hE9 := Ex.tr hE9 hx103
            replace hE11 := Ex.tr hE11 hx103
            replace hE13 := Ex.tr hE13 hx103
            replace hE15 := Ex.tr hE15 hx103
            replace hE17 := Ex.tr hE17 hx103
            replace hE19 := Ex.tr hE19 hx103
            replace hE91 := Ex.tr hE91 hx103
            have hE104 := hx103
            refine RG.vl rfl rfl rfl (Ev.move rfl rfl) ?_
            refine RG.vl rfl rfl rfl (Ev.extract rfl rfl rfl) ?_
            refine RG.vl rfl rfl rfl (Ev.extract rfl rfl rfl) ?_
            refine RG.vl rfl rfl rfl (Ev.extract rfl rfl rfl) ?_
            refine RG.vl rfl rfl rfl (Ev.assign rfl rfl) ?_
            refine RG.vl rfl rfl rfl (Ev.assign rfl rfl) ?_
            refine RG.vl rfl rfl rfl (Ev.assign rfl rfl) ?_
            refine RG.done ?_
            refine QW.then_ ?_
            refine CW.seq ?_
            refine CW.region ?_
            refine RG.vl rfl rfl rfl (Ev.move rfl rfl) ?_
            refine RG.vl rfl rfl rfl (Ev.move rfl rfl) ?_
            refine RG.vl rfl rfl rfl (Ev.isT (Ev.eqS rfl rfl rfl) (rfl)) ?_
            refine RG.vl rfl rfl rfl (Ev.move rfl rfl) ?_
            refine RG.vl rfl rfl rfl (Ev.move rfl rfl) ?_
            refine RG.vl rfl rfl rfl (Ev.move rfl rfl) ?_
            refine RG.vl rfl rfl rfl (Ev.isT (Ev.eqB rfl rfl rfl Try.underlying4) (rfl)) ?_
            refine RG.vl rfl rfl rfl (Ev.pickT rfl rfl rfl) ?_
            refine RG.vl rfl rfl rfl (Ev.move rfl rfl) ?_
            refine RG.vl rfl rfl rfl (Ev.move rfl rfl) ?_
            refine RG.vl rfl rfl rfl (Ev.move rfl rfl) ?_
            refine RG.vl rfl rfl rfl (Ev.isT (Ev.eqI rfl rfl rfl) (rfl)) ?_
            refine RG.vl rfl rfl rfl (Ev.pickT rfl rfl rfl) ?_
            refine RG.vl rfl rfl rfl (Ev.move rfl rfl) ?_
            refine RG.call rfl rfl rfl rfl rfl rfl rfl en_10 (awake_ret _) ?_
            rintro _ w105 ⟨rfl, hx105⟩
            replace hE5 := Ex.tr hE5 hx105
            replace hE7 := Ex.tr hE7 hx105
            replace hE9 := Ex.tr hE9 hx105
            replace hE11 := Ex.tr hE11 hx105
            replace hE13 := Ex.tr hE13 hx105
            replace hE15 := Ex.tr hE15 hx105
            replace hE17 := Ex.tr hE17 hx105
            replace hE19 := Ex.tr hE19 hx105
            replace hE91 := Ex.tr hE91 hx105
            replace hE104 := Ex.tr hE104 hx105
            have hE106 := hx105
            refine RG.vl rfl rfl rfl (Ev.pickT rfl rfl rfl) ?_
            refine RG.vl rfl rfl rfl (Ev.assign rfl rfl) ?_
            refine RG.done ?_
            refine QW.sub (S' := [(2, _)]) ⟨rfl, trivial⟩ ?_
            refine QW.then_ ?_
            refine CW.ret ?_
            refine QW.ret1 rfl rfl ?_
            have hB := (Ex.tr hB0 hE5)
            exact ⟨rfl, hB⟩
          · refine RG.pass rfl rfl rfl ?_
            refine RG.pass rfl rfl rfl ?_
            refine RG.pass rfl rfl rfl ?_
            refine RG.pass rfl rfl rfl ?_
            refine RG.pass rfl rfl rfl ?_
            refine RG.vl rfl rfl rfl (Ev.pickF rfl rfl rfl) ?_
            refine RG.vl rfl rfl rfl (Ev.pickF rfl rfl rfl) ?_
            refine RG.done ?_
            refine QW.sub (S' := [(0, _), (2, _), (10, _), (11, _), (12, _), (114, _)]) ⟨rfl, rfl, rfl, rfl, rfl, rfl, trivial⟩ ?_
            refine QW.then_ ?_
            refine CW.condF rfl ?_
            refine CW.skip ?_
            refine QW.then_ ?_
            refine CW.seq ?_
            refine CW.region ?_
            refine RG.vl rfl rfl rfl (Ev.move rfl rfl) ?_
            refine RG.call rfl rfl rfl rfl rfl rfl rfl en_25 (runf_ret _ _ (by omega)) ?_
            rintro _ w107 ⟨rfl, hx107⟩
            replace hE5 := Ex.tr hE5 hx107
            replace hE7 := Ex.tr hE7 hx107
            replace hE9 := Ex.tr hE9 hx107
            replace hE11 := Ex.tr hE11 hx107
            replace hE13 := Ex.tr hE13 hx107
            replace hE15 := Ex.tr hE15 hx107
            replace hE17 := Ex.tr hE17 hx107
            replace hE19 := Ex.tr hE19 hx107
            replace hE91 := Ex.tr hE91 hx107
            have hE108 := hx107
            refine RG.vl rfl rfl rfl (Ev.move rfl rfl) ?_
            refine RG.vl rfl rfl rfl (Ev.extract rfl rfl rfl) ?_
            refine RG.vl rfl rfl rfl (Ev.extract rfl rfl rfl) ?_
            refine RG.vl rfl rfl rfl (Ev.extract rfl rfl rfl) ?_
            refine RG.vl rfl rfl rfl (Ev.assign rfl rfl) ?_
            refine RG.vl rfl rfl rfl (Ev.assign rfl rfl) ?_
            refine RG.vl rfl rfl rfl (Ev.assign rfl rfl) ?_
            refine RG.done ?_
            refine QW.then_ ?_
            refine CW.seq ?_
            refine CW.region ?_
            refine RG.vl rfl rfl rfl (Ev.move rfl rfl) ?_
            refine RG.vl rfl rfl rfl (Ev.move rfl rfl) ?_
            refine RG.vl rfl rfl rfl (Ev.isT (Ev.eqS rfl rfl rfl) (rfl)) ?_
            refine RG.vl rfl rfl rfl (Ev.move rfl rfl) ?_
            refine RG.vl rfl rfl rfl (Ev.move rfl rfl) ?_
            refine RG.vl rfl rfl rfl (Ev.move rfl rfl) ?_
            refine RG.vl rfl rfl rfl (Ev.isT (Ev.eqB rfl rfl rfl Try.underlying4) (rfl)) ?_
            refine RG.vl rfl rfl rfl (Ev.pickT rfl rfl rfl) ?_
            refine RG.vl rfl rfl rfl (Ev.move rfl rfl) ?_
            refine RG.vl rfl rfl rfl (Ev.move rfl rfl) ?_
            refine RG.vl rfl rfl rfl (Ev.move rfl rfl) ?_
            refine RG.vl rfl rfl rfl (Ev.isT (Ev.eqI rfl rfl rfl) (rfl)) ?_
            refine RG.vl rfl rfl rfl (Ev.pickT rfl rfl rfl) ?_
            refine RG.vl rfl rfl rfl (Ev.move rfl rfl) ?_
            refine RG.call rfl rfl rfl rfl rfl rfl rfl en_10 (awake_ret _) ?_
            rintro _ w109 ⟨rfl, hx109⟩
            replace hE5 := Ex.tr hE5 hx109
            replace hE7 := Ex.tr hE7 hx109
            replace hE9 := Ex.tr hE9 hx109
            replace hE11 := Ex.tr hE11 hx109
            replace hE13 := Ex.tr hE13 hx109
            replace hE15 := Ex.tr hE15 hx109
            replace hE17 := Ex.tr hE17 hx109
            replace hE19 := Ex.tr hE19 hx109
            replace hE91 := Ex.tr hE91 hx109
            replace hE108 := Ex.tr hE108 hx109
            have hE110 := hx109
            refine RG.vl rfl rfl rfl (Ev.pickT rfl rfl rfl) ?_
            refine RG.vl rfl rfl rfl (Ev.assign rfl rfl) ?_
            refine RG.done ?_
            refine QW.sub (S' := [(2, _)]) ⟨rfl, trivial⟩ ?_
            refine QW.then_ ?_
            refine CW.ret ?_
            refine QW.ret1 rfl rfl ?_
            have hB := (Ex.tr hB0 hE5)
            exact ⟨rfl, hB⟩

end Go.Proofs.Ytgafkbnlhlbmkaa
