/- Walks (EI). Written by program. -/
import Derived.Test.YtnhkhpnkhkagaaaDoorT
import Derived.Test.YtnhkhpnkhkagaaaDoorEH
namespace Go.Proofs.YtnhkhpnkhkagaaaDoor
open Go.RowKit
set_option maxRecDepth 100000 in
set_option maxHeartbeats 4000000 in
theorem digitTells_ret (k : Nat) (wv : Value) (ws : List Int) (t : List UInt8) (w : World) (hw0 : RdL w 1 encI wv ws) :
    Ret Tryd.prog 5 [.agg #[.int .u8 (k : Int), wv], .string ⟨t.toArray⟩] w (fun v w' => v = .bool true ∧ Ex w w') := by
  obtain ⟨wA, wC, rfl⟩ := hw0.shape
  have hts := sbytes t
  have hB0 : Ex w w := Ex.rfl_ _
  refine Ret.of Tryd.func5 rfl Tryd.ntmps5 rfl ?_
  refine CW.seq ?_
  refine CW.region ?_
  refine RG.box rfl rfl rfl rfl rfl (fun g1 w1 eg1 hx1 hb1 => ?_)
  have hle2 : w.heap.size ≤ g1 := by have := (Ex.rfl_ w).size; omega
  have hE3 := hx1
  refine RG.vl rfl rfl rfl (Ev.assign rfl rfl) ?_
  refine RG.done ?_
  refine QW.then_ ?_
  refine CW.seq ?_
  refine CW.seq ?_
  refine CW.region ?_
  refine RG.vl rfl rfl rfl (Ev.fld rfl rfl fld_24_1) ?_
  refine RG.vl rfl rfl rfl (Ev.ldAt rfl rfl Tryd.underlying22 rfl (hb1.cells) (rfl)) ?_
  refine RG.vl rfl rfl rfl (Ev.lenL rfl rfl rfl Tryd.underlying22 ((hw0.ext hE3))) ?_
  refine RG.vl rfl rfl rfl (Ev.gtr rfl rfl rfl) ?_
  refine RG.vl rfl rfl rfl (Ev.move rfl rfl) ?_
  refine RG.split (d := 10) rfl (fun hg4 => ?_) (fun hg4 => ?_)
  · refine RG.pass rfl rfl rfl ?_
    refine RG.pass rfl rfl rfl ?_
    refine RG.pass rfl rfl rfl ?_
    refine RG.vl rfl rfl rfl (Ev.pickT rfl rfl rfl) ?_
    refine RG.done ?_
    refine QW.then_ ?_
    refine CW.condT rfl ?_
    refine CW.seq ?_
    refine CW.region ?_
    refine RG.call rfl rfl rfl rfl rfl rfl rfl en_12 (awake_ret _) ?_
    rintro _ w5 ⟨rfl, hx5⟩
    replace hE3 := Ex.tr hE3 hx5
    have hE6 := hx5
    refine RG.vl rfl rfl rfl (Ev.assign rfl rfl) ?_
    refine RG.done ?_
    refine QW.then_ ?_
    refine CW.ret ?_
    refine QW.thenRet ?_
    refine QW.ret1 rfl rfl ?_
    have hB := (Ex.tr hB0 hE3)
    exact ⟨rfl, hB⟩
  · refine RG.vl rfl rfl rfl (Ev.move rfl rfl) ?_
    refine RG.vl rfl rfl rfl (Ev.lenStr rfl rfl rfl Tryd.underlying9) ?_
    refine RG.vl rfl rfl rfl (Ev.gtr rfl rfl rfl) ?_
    refine RG.vl rfl rfl rfl (Ev.pickF rfl rfl rfl) ?_
    refine RG.done ?_
    refine QW.then_ ?_
    refine CW.condP rfl (fun hc7 => ?_) (fun hc7 => ?_)
    · refine CW.seq ?_
      refine CW.region ?_
      refine RG.call rfl rfl rfl rfl rfl rfl rfl en_12 (awake_ret _) ?_
      rintro _ w8 ⟨rfl, hx8⟩
      replace hE3 := Ex.tr hE3 hx8
      have hE9 := hx8
      refine RG.vl rfl rfl rfl (Ev.assign rfl rfl) ?_
      refine RG.done ?_
      refine QW.then_ ?_
      refine CW.ret ?_
      refine QW.thenRet ?_
      refine QW.ret1 rfl rfl ?_
      have hB := (Ex.tr hB0 hE3)
      exact ⟨rfl, hB⟩
    · refine CW.skip ?_
      refine QW.then_ ?_
      refine CW.seq ?_
      refine CW.region ?_
      refine RG.vl rfl rfl rfl (Ev.fld rfl rfl fld_24_1) ?_
      refine RG.vl rfl rfl rfl (Ev.ldAt rfl rfl Tryd.underlying22 rfl (hb1.cells) (rfl)) ?_
      refine RG.vl rfl rfl rfl (Ev.assign rfl rfl) ?_
      refine RG.done ?_
      refine QW.sub (S' := [(1, _), (2, _), (4, _), (5, _)]) ⟨rfl, rfl, rfl, rfl, trivial⟩ ?_
      refine QW.then_ ?_
      refine CW.seq ?_
      refine CW.region ?_
      refine RG.vl rfl rfl rfl (Ev.move rfl rfl) ?_
      refine RG.call rfl rfl rfl rfl rfl rfl rfl en_13 (lentz_ret _ _ _ ((hw0.ext hE3)) (by omega)) ?_
      have hpre10 := (Ex.tr hB0 hE3)
      rintro _ w10 ⟨g10, c10, rfl, hol10, hx10⟩
      have hsb11 := fun e => sep_blk hb1 (Nat.le_refl _) hol10 e
      replace hE3 := Ex.tr hE3 hx10
      have hE12 := hx10
      refine RG.vl rfl rfl rfl (Ev.fld rfl rfl fld_24_1) ?_
      refine RG.st (g := g1) (k := 1) rfl rfl rfl rfl rfl sz_22 rfl (hb1.ext hE12) rfl (fun ws13 hwws13 hbws13 => ?_)
      replace hol10 := Own.far hol10 hwws13 hsb11
      replace hE3 := Wr.below hE3 hwws13 hle2
      refine RG.done ?_
      refine QW.then_ ?_
      refine CW.seq ?_
      refine CW.draw [] (.ex) 23 rfl mixed (fun wd14 hxwd14 => ?_)
      replace hE3 := Ex.tr hE3 hxwd14
      have hE15 := hxwd14
      refine AG.only 0 rfl (by kernel_rfl) ?_
      refine RG.call rfl rfl rfl rfl rfl rfl rfl en_12 (awake_ret _) ?_
      rintro _ w17 ⟨rfl, hx17⟩
      replace hE3 := Ex.tr hE3 hx17
      replace hE15 := Ex.tr hE15 hx17
      have hE18 := hx17
      refine RG.done ?_
      refine QW.an (fun _ => hE18) ?_
      refine AG.takeW 1 rfl (by kernel_rfl) (by kernel_rfl) rfl rfl rfl (fun _ => Ev.move rfl rfl) ?_
      refine AG.take 2 rfl (by kernel_rfl) (by kernel_rfl) rfl rfl rfl (fun wq hq => Ev.ldAgg rfl rfl Tryd.underlying24 rfl sz_24 rfl (((hbws13.ext hE15).ext hq).cells)) ?_
      refine AG.takeW 4 rfl (by kernel_rfl) (by kernel_rfl) rfl rfl rfl (fun _ => Ev.fld rfl rfl fld_24_0) ?_
      refine AG.take 5 rfl (by kernel_rfl) (by kernel_rfl) rfl rfl rfl (fun wq hq => Ev.ldAt rfl rfl Tryd.underlying5 rfl (((hbws13.ext hE15).ext hq).cells) (rfl)) ?_
      refine AG.takeW 6 rfl (by kernel_rfl) (by kernel_rfl) rfl rfl rfl (fun _ => Ev.fld rfl rfl fld_24_1) ?_
      refine AG.take 7 rfl (by kernel_rfl) (by kernel_rfl) rfl rfl rfl (fun wq hq => Ev.ldAt rfl rfl Tryd.underlying22 rfl (((hbws13.ext hE15).ext hq).cells) (rfl)) ?_
      refine AG.only 3 rfl (by kernel_rfl) ?_
      refine RG.call rfl rfl rfl rfl rfl rfl rfl en_22 (right_ret k _ ws _ (lentz_rdl (lentz_len _) (Own.ext hol10 hE15)) (by omega)) ?_
      rintro _ w20 ⟨rfl, hx20⟩
      replace hE3 := Ex.tr hE3 hx20
      replace hE15 := Ex.tr hE15 hx20
      replace hE18 := Ex.tr hE18 hx20
      have hE21 := hx20
      refine RG.done ?_
      refine QW.an (fun _ => hE21) ?_
      refine AG.only 8 rfl (by kernel_rfl) ?_
      refine RG.call rfl rfl rfl rfl rfl rfl rfl en_23 (rright_ret k _ ws _ (lentz_rdl (lentz_len _) (Own.ext hol10 hE15)) (by omega)) ?_
      rintro _ w23 ⟨rfl, hx23⟩
      replace hE3 := Ex.tr hE3 hx23
      replace hE15 := Ex.tr hE15 hx23
      replace hE18 := Ex.tr hE18 hx23
      replace hE21 := Ex.tr hE21 hx23
      have hE24 := hx23
      refine RG.done ?_
      refine QW.an (fun _ => hE24) ?_
      refine AG.takeW 9 rfl (by kernel_rfl) (by kernel_rfl) rfl rfl rfl (fun _ => Ev.isT (Ev.eqB rfl rfl rfl Tryd.underlying4) (rfl)) ?_
      refine AG.takeW 10 rfl (by kernel_rfl) (by kernel_rfl) rfl rfl rfl (fun _ => Ev.pickT rfl rfl rfl) ?_
      refine AG.takeW 11 rfl (by kernel_rfl) (by kernel_rfl) rfl rfl rfl (fun _ => Ev.move rfl rfl) ?_
      refine AG.take 12 rfl (by kernel_rfl) (by kernel_rfl) rfl rfl rfl (fun wq hq => Ev.ldAgg rfl rfl Tryd.underlying24 rfl sz_24 rfl (((hbws13.ext hE15).ext hq).cells)) ?_
      refine AG.takeW 13 rfl (by kernel_rfl) (by kernel_rfl) rfl rfl rfl (fun _ => Ev.move rfl rfl) ?_
      refine AG.only 14 rfl (by kernel_rfl) ?_
      refine RG.call rfl rfl rfl rfl rfl rfl rfl en_24 (texts_ret k _ ws _ _ (lentz_rdl (lentz_len _) (Own.ext hol10 hE15)) (by omega) (by omega)) ?_
      rintro _ w26 ⟨rfl, hx26⟩
      replace hE3 := Ex.tr hE3 hx26
      replace hE15 := Ex.tr hE15 hx26
      replace hE18 := Ex.tr hE18 hx26
      replace hE21 := Ex.tr hE21 hx26
      replace hE24 := Ex.tr hE24 hx26
      have hE27 := hx26
      refine RG.done ?_
      refine QW.an (fun _ => hE27) ?_
      refine AG.takeW 15 rfl (by kernel_rfl) (by kernel_rfl) rfl rfl rfl (fun _ => Ev.pickT rfl rfl rfl) ?_
      refine AG.takeW 16 rfl (by kernel_rfl) (by kernel_rfl) rfl rfl rfl (fun _ => Ev.move rfl rfl) ?_
      refine AG.takeW 17 rfl (by kernel_rfl) (by kernel_rfl) rfl rfl rfl (fun _ => Ev.fld rfl rfl fld_24_1) ?_
      refine AG.take 18 rfl (by kernel_rfl) (by kernel_rfl) rfl rfl rfl (fun wq hq => Ev.ldAt rfl rfl Tryd.underlying22 rfl (((hbws13.ext hE15).ext hq).cells) (rfl)) ?_
      refine AG.takeW 19 rfl (by kernel_rfl) (by kernel_rfl) rfl rfl rfl (fun _ => Ev.move rfl rfl) ?_
      refine AG.only 20 rfl (by kernel_rfl) ?_
      refine RG.call rfl rfl rfl rfl rfl rfl rfl en_17 (keptz_ret _ _ _ _ _ (lentz_big (Own.ext hol10 hE15)) (hw0.ext hE3) (lentz_cap (Own.ext hol10 hE15)) (by omega)) ?_
      rintro _ w29 ⟨rfl, hx29⟩
      replace hE3 := Ex.tr hE3 hx29
      replace hE15 := Ex.tr hE15 hx29
      replace hE18 := Ex.tr hE18 hx29
      replace hE21 := Ex.tr hE21 hx29
      replace hE24 := Ex.tr hE24 hx29
      replace hE27 := Ex.tr hE27 hx29
      have hE30 := hx29
      refine RG.done ?_
      refine QW.an (fun _ => hE30) ?_
      refine AG.takeW 21 rfl (by kernel_rfl) (by kernel_rfl) rfl rfl rfl (fun _ => Ev.pickT rfl rfl rfl) ?_
      refine AG.takeW 22 rfl (by kernel_rfl) (by kernel_rfl) rfl rfl rfl (fun _ => Ev.assign rfl rfl) ?_
      refine AG.done (by kernel_rfl) ?_
      refine QW.sub (S' := [(4, _)]) ⟨rfl, trivial⟩ ?_
      refine QW.then_ ?_
      refine CW.ret ?_
      refine QW.ret1 rfl rfl ?_
      have hB := (Ex.tr hB0 hE3)
      exact ⟨rfl, hB⟩

set_option maxRecDepth 100000 in
set_option maxHeartbeats 4000000 in
theorem digitMisses_ret (k : Nat) (wv : Value) (ws : List Int) (n : Int) (w : World) (hw0 : RdL w 1 encI wv ws) :
    Ret Tryd.prog 3 [.agg #[.int .u8 (k : Int), wv], .int .i64 n] w (fun v w' => v = .bool true ∧ Ex w w') := by
  obtain ⟨wA, wC, rfl⟩ := hw0.shape
  have hml := missR_len k ws n
  have hB0 : Ex w w := Ex.rfl_ _
  refine Ret.of Tryd.func3 rfl Tryd.ntmps3 rfl ?_
  refine CW.seq ?_
  refine CW.region ?_
  refine RG.box rfl rfl rfl rfl rfl (fun g1 w1 eg1 hx1 hb1 => ?_)
  have hle2 : w.heap.size ≤ g1 := by have := (Ex.rfl_ w).size; omega
  have hE3 := hx1
  refine RG.vl rfl rfl rfl (Ev.assign rfl rfl) ?_
  refine RG.done ?_
  refine QW.then_ ?_
  refine CW.seq ?_
  refine CW.seq ?_
  refine CW.region ?_
  refine RG.vl rfl rfl rfl (Ev.fld rfl rfl fld_24_1) ?_
  refine RG.vl rfl rfl rfl (Ev.ldAt rfl rfl Tryd.underlying22 rfl (hb1.cells) (rfl)) ?_
  refine RG.vl rfl rfl rfl (Ev.lenL rfl rfl rfl Tryd.underlying22 ((hw0.ext hE3))) ?_
  refine RG.vl rfl rfl rfl (Ev.gtr rfl rfl rfl) ?_
  refine RG.done ?_
  refine QW.then_ ?_
  refine CW.condP rfl (fun hc4 => ?_) (fun hc4 => ?_)
  · refine CW.seq ?_
    refine CW.region ?_
    refine RG.call rfl rfl rfl rfl rfl rfl rfl en_12 (awake_ret _) ?_
    rintro _ w5 ⟨rfl, hx5⟩
    replace hE3 := Ex.tr hE3 hx5
    have hE6 := hx5
    refine RG.vl rfl rfl rfl (Ev.assign rfl rfl) ?_
    refine RG.done ?_
    refine QW.then_ ?_
    refine CW.ret ?_
    refine QW.thenRet ?_
    refine QW.ret1 rfl rfl ?_
    have hB := (Ex.tr hB0 hE3)
    exact ⟨rfl, hB⟩
  · refine CW.skip ?_
    refine QW.then_ ?_
    refine CW.seq ?_
    refine CW.region ?_
    refine RG.vl rfl rfl rfl (Ev.fld rfl rfl fld_24_1) ?_
    refine RG.vl rfl rfl rfl (Ev.ldAt rfl rfl Tryd.underlying22 rfl (hb1.cells) (rfl)) ?_
    refine RG.vl rfl rfl rfl (Ev.assign rfl rfl) ?_
    refine RG.done ?_
    refine QW.then_ ?_
    refine CW.seq ?_
    refine CW.region ?_
    refine RG.vl rfl rfl rfl (Ev.move rfl rfl) ?_
    refine RG.call rfl rfl rfl rfl rfl rfl rfl en_13 (lentz_ret _ _ _ ((hw0.ext hE3)) (by omega)) ?_
    have hpre7 := (Ex.tr hB0 hE3)
    rintro _ w7 ⟨g7, c7, rfl, hol7, hx7⟩
    have hsb8 := fun e => sep_blk hb1 (Nat.le_refl _) hol7 e
    replace hE3 := Ex.tr hE3 hx7
    have hE9 := hx7
    refine RG.vl rfl rfl rfl (Ev.fld rfl rfl fld_24_1) ?_
    refine RG.st (g := g1) (k := 1) rfl rfl rfl rfl rfl sz_22 rfl (hb1.ext hE9) rfl (fun ws10 hwws10 hbws10 => ?_)
    replace hol7 := Own.far hol7 hwws10 hsb8
    replace hE3 := Wr.below hE3 hwws10 hle2
    refine RG.done ?_
    refine QW.then_ ?_
    refine CW.seq ?_
    refine CW.region ?_
    refine RG.vl rfl rfl rfl (Ev.fld rfl rfl fld_24_0) ?_
    refine RG.vl rfl rfl rfl (Ev.ldAt rfl rfl Tryd.underlying5 rfl (hbws10.cells) (rfl)) ?_
    refine RG.vl rfl rfl rfl (Ev.fld rfl rfl fld_24_1) ?_
    refine RG.vl rfl rfl rfl (Ev.ldAt rfl rfl Tryd.underlying22 rfl (hbws10.cells) (rfl)) ?_
    refine RG.vl rfl rfl rfl (Ev.move rfl rfl) ?_
    refine RG.call rfl rfl rfl rfl rfl rfl rfl en_14 (rmisses_ret k _ ws _ _ (lentz_rdl (lentz_len _) hol7) (by omega)) ?_
    have hpre11 := (Ex.tr hB0 hE3)
    rintro _ w11 ⟨r11, rfl, hrm11, hx11⟩
    have hsb12 := fun e => sep_blk hbws10 (Nat.le_refl _) hrm11 e
    have hsep13 : Sep r11 _ := Sep.of_new hol7 (fun k h => Own.ge hrm11 h)
    replace hE3 := Ex.tr hE3 hx11
    have hE14 := hx11
    refine RG.vl rfl rfl rfl (Ev.move rfl rfl) ?_
    refine RG.vl rfl rfl rfl (Ev.extract rfl rfl rfl) ?_
    refine RG.vl rfl rfl rfl (Ev.extract rfl rfl rfl) ?_
    refine RG.vl rfl rfl rfl (Ev.assign rfl rfl) ?_
    refine RG.vl rfl rfl rfl (Ev.assign rfl rfl) ?_
    refine RG.done ?_
    refine QW.sub (S' := [(1, _), (2, _), (4, _), (5, _), (6, _), (7, _)]) ⟨rfl, rfl, rfl, rfl, rfl, rfl, trivial⟩ ?_
    refine QW.then_ ?_
    refine CW.seq ?_
    refine CW.region ?_
    refine RG.vl rfl rfl rfl (Ev.ldAgg rfl rfl Tryd.underlying24 rfl sz_24 rfl ((hbws10.ext hE14).cells)) ?_
    refine RG.vl rfl rfl rfl (Ev.move rfl rfl) ?_
    replace hw0 := (hw0.ext hE3)
    replace hol7 := (Own.ext hol7 hE14)
    replace hbws10 := (hbws10.ext hE14)
    have hR15 := (Ex.tr hB0 hE3)
    have hR16 := hE14
    refine RG.call rfl rfl rfl rfl rfl rfl rfl en_15 (Misses_ret k _ ws _ _ (lentz_rdl (lentz_len _) hol7) (by omega)) ?_
    have hpre17 := hR15
    rintro _ w17 ⟨r17, rfl, hdm17, hx17⟩
    have hsb18 := fun e => sep_blk hbws10 (Nat.le_refl _) hdm17 e
    have hsep19 : Sep r17 _ := Sep.of_new hol7 (fun k h => Own.ge hdm17 h)
    have hsep20 : Sep r17 _ := Sep.of_new hrm11 (fun k h => Own.ge hdm17 h)
    have hE21 := hx17
    refine RG.vl rfl rfl rfl (Ev.move rfl rfl) ?_
    refine RG.vl rfl rfl rfl (Ev.extract rfl rfl rfl) ?_
    refine RG.vl rfl rfl rfl (Ev.extract rfl rfl rfl) ?_
    refine RG.vl rfl rfl rfl (Ev.assign rfl rfl) ?_
    refine RG.vl rfl rfl rfl (Ev.assign rfl rfl) ?_
    refine RG.done ?_
    refine QW.then_ ?_
    refine CW.seq ?_
    refine CW.seq ?_
    refine CW.region ?_
    refine RG.vl rfl rfl rfl (Ev.move rfl rfl) ?_
    refine RG.vl rfl rfl rfl (Ev.move rfl rfl) ?_
    refine RG.vl rfl rfl rfl (Ev.isF (Ev.neI rfl rfl rfl) (fun h => h rfl)) ?_
    refine RG.vl rfl rfl rfl (Ev.move rfl rfl) ?_
    refine RG.vl rfl rfl rfl (Ev.move rfl rfl) ?_
    refine RG.vl rfl rfl rfl (Ev.move rfl rfl) ?_
    refine RG.call rfl rfl rfl rfl rfl rfl rfl en_16 (listed_ret _ _ _ _ ((hdm17.rdl encM_len)) (((Own.ext hrm11 hE21).rdl encM_len)) (by omega)) ?_
    rintro _ w22 ⟨rfl, hx22⟩
    replace hE21 := Ex.tr hE21 hx22
    have hE23 := hx22
    refine RG.vl rfl rfl rfl (Ev.notF rfl rfl) ?_
    refine RG.vl rfl rfl rfl (Ev.pickF rfl rfl rfl) ?_
    refine RG.done ?_
    refine QW.sub (S' := [(1, _), (2, _), (4, _), (5, _), (6, _), (7, _), (8, _), (9, _), (45, _)]) ⟨rfl, rfl, rfl, rfl, rfl, rfl, rfl, rfl, rfl, trivial⟩ ?_
    refine QW.then_ ?_
    refine CW.condF rfl ?_
    refine CW.skip ?_
    refine QW.then_ ?_
    refine CW.seq ?_
    refine CW.seq ?_
    refine CW.region ?_
    refine RG.vl rfl rfl rfl (Ev.move rfl rfl) ?_
    refine RG.vl rfl rfl rfl (Ev.lenL rfl rfl rfl Tryd.underlying30 (((Own.ext hdm17 hE23).rdl encM_len))) ?_
    refine RG.vl rfl rfl rfl (Ev.move rfl rfl) ?_
    refine RG.done ?_
    refine QW.then_ ?_
    refine CW.block ?_
    refine CW.loop2 [(1, _), (2, _), (4, _), (5, _), (6, _), (7, _), (8, _), (9, _), (47, _)] ⟨rfl, rfl, rfl, rfl, rfl, rfl, rfl, rfl, rfl, trivial⟩ (fun (i : Nat) (L : List MissT) => [(48, .int .i64 (i : Int))]) (fun i L w' => (i ≤ (missR k ws n).1.length ∧ L.length = (missR k ws n).1.length ∧ Own w' w11.heap.size 36 4 encM r17 L) ∧ Ex w11 w') (fun i L => (missR k ws n).1.length - i) (0) (_) ⟨rfl, trivial⟩ ⟨⟨by omega, rfl, (Own.ext hdm17 hE23)⟩, hE21⟩ ?_
    rintro i L wl24 ⟨⟨hi, hL, hown⟩, hxwl24⟩
    refine CW.sub (S' := [(48, _), (1, _), (2, _), (4, _), (5, _), (6, _), (7, _), (8, _), (9, _), (47, _)]) ⟨rfl, rfl, rfl, rfl, rfl, rfl, rfl, rfl, rfl, rfl, trivial⟩ ?_
    refine CW.seq ?_
    refine CW.region ?_
    refine RG.vl rfl rfl rfl (Ev.lss rfl rfl rfl) ?_
    refine RG.done ?_
    refine QW.then_ ?_
    refine CW.seq ?_
    refine CW.condP rfl (fun hc25 => ?_) (fun hc25 => ?_)
    · refine CW.skip ?_
      refine QW.then_ ?_
      refine CW.seq ?_
      refine CW.block ?_
      refine CW.seq ?_
      refine CW.region ?_
      refine RG.vl rfl rfl rfl (Ev.move rfl rfl) ?_
      refine RG.vl rfl rfl rfl (Ev.assign rfl rfl) ?_
      refine RG.done ?_
      refine QW.then_ ?_
      refine CW.region ?_
      refine RG.vl rfl rfl rfl (Ev.move rfl rfl) ?_
      refine RG.vl rfl rfl rfl (Ev.move rfl rfl) ?_
      refine RG.vl rfl rfl rfl (Ev.build1 rfl rfl rfl inf_36 rfl rfl (by kernel_rfl) rfl) ?_
      refine RG.idxO rfl rfl rfl rfl rfl rfl Tryd.underlying30 sz_36 encM_len (hown) (List.getElem?_eq_getElem (by omega)) (fun g27 hg27 hBg27 hp26b hp26 => ?_)
      refine RG.stOwAll (g := g27) ((false, 0, 0, 0)) rfl rfl rfl rfl rfl sz_36 rfl rfl encM_len hown hg27 (List.getElem?_eq_getElem (by omega)) (fun ws28 hwws28 hown29 => ?_)
      replace hxwl24 := Wr.below hxwl24 hwws28 hBg27
      refine RG.done ?_
      refine QW.blockN ?_
      refine QW.then_ ?_
      refine CW.region ?_
      refine RG.vl rfl rfl rfl (Ev.addI rfl rfl rfl (by omega)) ?_
      refine RG.vl rfl rfl rfl (Ev.move rfl rfl) ?_
      refine RG.done ?_
      refine QW.round2 (i + 1) (_) ⟨rfl, trivial⟩ ⟨rfl, rfl, rfl, rfl, rfl, rfl, rfl, rfl, rfl, trivial⟩ ⟨⟨by omega, by rw [List.length_set]; exact hL, hown29⟩, hxwl24⟩ (by omega)
    · refine CW.exit ?_
      refine QW.thenExit ?_
      refine QW.thenExit ?_
      refine QW.blockHit ?_
      refine QW.then_ ?_
      refine CW.seq ?_
      refine CW.region ?_
      refine RG.vl rfl rfl rfl (Ev.ldAgg rfl rfl Tryd.underlying24 rfl sz_24 rfl ((hbws10.ext hxwl24).cells)) ?_
      refine RG.vl rfl rfl rfl (Ev.move rfl rfl) ?_
      refine RG.call rfl rfl rfl rfl rfl rfl rfl en_15 (Misses_ret k _ ws _ _ (lentz_rdl (lentz_len _) (Own.ext hol7 hxwl24)) (by omega)) ?_
      have hpre30 := (Ex.tr hR15 hxwl24)
      rintro _ w30 ⟨r30, rfl, hdm30, hx30⟩
      have hsb31 := fun e => sep_blk (hbws10.ext hxwl24) (Nat.le_refl _) hdm30 e
      have hsep32 : Sep r30 _ := Sep.of_new (Own.ext hol7 hxwl24) (fun k h => Own.ge hdm30 h)
      have hsep33 : Sep r30 _ := Sep.of_new (Own.ext hrm11 hxwl24) (fun k h => Own.ge hdm30 h)
      have hsep34 : Sep r30 _ := Sep.of_new hown (fun k h => Own.ge hdm30 h)
      replace hxwl24 := Ex.tr hxwl24 hx30
      have hE35 := hx30
      refine RG.vl rfl rfl rfl (Ev.move rfl rfl) ?_
      refine RG.vl rfl rfl rfl (Ev.extract rfl rfl rfl) ?_
      refine RG.vl rfl rfl rfl (Ev.extract rfl rfl rfl) ?_
      refine RG.vl rfl rfl rfl (Ev.assign rfl rfl) ?_
      refine RG.vl rfl rfl rfl (Ev.assign rfl rfl) ?_
      refine RG.done ?_
      refine QW.then_ ?_
      refine CW.seq ?_
      refine CW.region ?_
      refine RG.call rfl rfl rfl rfl rfl rfl rfl en_12 (awake_ret _) ?_
      rintro _ w36 ⟨rfl, hx36⟩
      replace hxwl24 := Ex.tr hxwl24 hx36
      replace hE35 := Ex.tr hE35 hx36
      have hE37 := hx36
      refine RG.vl rfl rfl rfl (Ev.move rfl rfl) ?_
      refine RG.vl rfl rfl rfl (Ev.move rfl rfl) ?_
      refine RG.vl rfl rfl rfl (Ev.move rfl rfl) ?_
      refine RG.vl rfl rfl rfl (Ev.isT (Ev.eqI rfl rfl rfl) (rfl)) ?_
      refine RG.vl rfl rfl rfl (Ev.pickT rfl rfl rfl) ?_
      refine RG.vl rfl rfl rfl (Ev.move rfl rfl) ?_
      refine RG.vl rfl rfl rfl (Ev.move rfl rfl) ?_
      refine RG.vl rfl rfl rfl (Ev.move rfl rfl) ?_
      refine RG.call rfl rfl rfl rfl rfl rfl rfl en_16 (listed_ret _ _ _ _ (((Own.ext hdm30 hE37).rdl encM_len)) (((Own.ext hrm11 hxwl24).rdl encM_len)) (by omega)) ?_
      rintro _ w38 ⟨rfl, hx38⟩
      replace hxwl24 := Ex.tr hxwl24 hx38
      replace hE35 := Ex.tr hE35 hx38
      replace hE37 := Ex.tr hE37 hx38
      have hE39 := hx38
      refine RG.vl rfl rfl rfl (Ev.pickT rfl rfl rfl) ?_
      refine RG.vl rfl rfl rfl (Ev.move rfl rfl) ?_
      refine RG.vl rfl rfl rfl (Ev.fld rfl rfl fld_24_1) ?_
      refine RG.vl rfl rfl rfl (Ev.ldAt rfl rfl Tryd.underlying22 rfl ((hbws10.ext hxwl24).cells) (rfl)) ?_
      refine RG.vl rfl rfl rfl (Ev.move rfl rfl) ?_
      refine RG.call rfl rfl rfl rfl rfl rfl rfl en_17 (keptz_ret _ _ _ _ _ (lentz_big (Own.ext hol7 hxwl24)) (hw0.ext hxwl24) (lentz_cap (Own.ext hol7 hxwl24)) (by omega)) ?_
      rintro _ w40 ⟨rfl, hx40⟩
      replace hxwl24 := Ex.tr hxwl24 hx40
      replace hE35 := Ex.tr hE35 hx40
      replace hE37 := Ex.tr hE37 hx40
      replace hE39 := Ex.tr hE39 hx40
      have hE41 := hx40
      refine RG.vl rfl rfl rfl (Ev.pickT rfl rfl rfl) ?_
      refine RG.vl rfl rfl rfl (Ev.assign rfl rfl) ?_
      refine RG.done ?_
      refine QW.sub (S' := [(4, _)]) ⟨rfl, trivial⟩ ?_
      refine QW.then_ ?_
      refine CW.ret ?_
      refine QW.ret1 rfl rfl ?_
      have hB := (Ex.tr hR15 hxwl24)
      exact ⟨rfl, hB⟩

end Go.Proofs.YtnhkhpnkhkagaaaDoor
