/- Walks (DP3). Written by program. -/
import Derived.Test.YtnhkhpnkhkagaaaDoorT
import Derived.Test.YtnhkhpnkhkagaaaDoorDW
namespace Go.Proofs.YtnhkhpnkhkagaaaDoor
open Go.RowKit
set_option maxRecDepth 100000 in
set_option maxHeartbeats 8000000 in
theorem digitFills_ret (kd : Nat) (mv lv : Value) (m l : List UInt8) (w : World) (hm : RdL w 1 encB mv m) (hl : RdL w 1 encB lv l) (hk : kd < 256) :
    Ret Tryd.prog 10 [.int .u8 (kd : Int), mv, lv] w (fun v w' => v = .bool true ∧ Ex w w') := by
  obtain ⟨mA, mC, rfl⟩ := hm.shape
  obtain ⟨lA, lC, rfl⟩ := hl.shape
  have hB0 : Ex w w := Ex.rfl_ _
  refine Ret.of Tryd.func10 rfl Tryd.ntmps10 rfl ?_
  refine CW.seq ?_
  refine CW.region ?_
  refine RG.vl rfl rfl rfl (Ev.assign rfl rfl) ?_
  refine RG.done ?_
  refine QW.then_ ?_
  refine CW.seq ?_
  refine CW.region ?_
  refine RG.vl rfl rfl rfl (Ev.move rfl rfl) ?_
  refine RG.vl rfl rfl rfl (Ev.move rfl rfl) ?_
  refine RG.call rfl rfl rfl rfl rfl rfl rfl en_18 (any_ret kd _ m _ hm hk) ?_
  rintro _ w1 ⟨k, ws, wv, rfl, hws, hr, hx1⟩
  have hE2 := hx1
  replace hws := Own.rdl hws encI_len
  obtain ⟨wA, wC, rfl⟩ := hws.shape
  have hwl : ws.length ≤ 100000 := right_len10 hr
  refine RG.local_ rfl rfl rfl rfl (fun _ => rfl) rfl rfl (fun _ => rfl) inf_24 rfl rfl rfl (fun g3 w3 eg3 hx3 hb3 => ?_)
  have hle4 : w.heap.size ≤ g3 := by have := hE2.size; omega
  have hle5 : w1.heap.size ≤ g3 := by have := (Ex.rfl_ w1).size; omega
  replace hE2 := Ex.tr hE2 hx3
  have hE6 := hx3
  refine RG.done ?_
  refine QW.then_ ?_
  refine CW.seq ?_
  obtain ⟨hD1, hD2⟩ := payL_len l
  have hDp := payL_pay l
  obtain ⟨hap, hck, hpp⟩ := append_pay hr hDp hD2
  have hTl := apT_len k ws (payL l)
  generalize apT k ws (payL l) = T at *
  have hTs := sbytes T
  have hmo := mostD_or k
  refine CW.draw [] (.ex) 9 rfl mixed (fun wd7 hxwd7 => ?_)
  replace hE2 := Ex.tr hE2 hxwd7
  replace hE6 := Ex.tr hE6 hxwd7
  have hE8 := hxwd7
  refine AG.take 0 rfl (by kernel_rfl) (by kernel_rfl) rfl rfl rfl (fun wq hq => Ev.ldAgg rfl rfl Tryd.underlying24 rfl sz_24 rfl (((hb3.ext hE8).ext hq).cells)) ?_
  refine AG.takeW 1 rfl (by kernel_rfl) (by kernel_rfl) rfl rfl rfl (fun _ => Ev.move rfl rfl) ?_
  refine AG.only 2 rfl (by kernel_rfl) ?_
  refine RG.call rfl rfl rfl rfl rfl rfl rfl en_19 (payload_ret _ l _ (hl.ext hE2)) ?_
  rintro _ w10 ⟨rfl, hx10⟩
  replace hE2 := Ex.tr hE2 hx10
  replace hE6 := Ex.tr hE6 hx10
  replace hE8 := Ex.tr hE8 hx10
  have hE11 := hx10
  refine RG.done ?_
  refine QW.an (fun _ => hE11) ?_
  refine AG.only 3 rfl (by kernel_rfl) ?_
  refine RG.call rfl rfl rfl rfl rfl rfl rfl en_25 (Append_is (k := k) (ws := ws) (hws.ext hE6) hwl (by omega) (hap)) ?_
  rintro _ w13 ⟨rfl, hx13⟩
  replace hE2 := Ex.tr hE2 hx13
  replace hE6 := Ex.tr hE6 hx13
  replace hE8 := Ex.tr hE8 hx13
  replace hE11 := Ex.tr hE11 hx13
  have hE14 := hx13
  refine RG.done ?_
  refine QW.an (fun _ => hE14) ?_
  refine AG.takeW 4 rfl (by kernel_rfl) (by kernel_rfl) rfl rfl rfl (fun _ => Ev.move rfl rfl) ?_
  refine AG.takeW 5 rfl (by kernel_rfl) (by kernel_rfl) rfl rfl rfl (fun _ => Ev.extract rfl rfl rfl) ?_
  refine AG.takeW 6 rfl (by kernel_rfl) (by kernel_rfl) rfl rfl rfl (fun _ => Ev.extract rfl rfl rfl) ?_
  refine AG.takeW 7 rfl (by kernel_rfl) (by kernel_rfl) rfl rfl rfl (fun _ => Ev.assign rfl rfl) ?_
  refine AG.takeW 8 rfl (by kernel_rfl) (by kernel_rfl) rfl rfl rfl (fun _ => Ev.assign rfl rfl) ?_
  refine AG.done (by kernel_rfl) ?_
  refine QW.sub (S' := [(6, _), (7, _), (8, _), (9, _)]) ⟨rfl, rfl, rfl, rfl, trivial⟩ ?_
  refine QW.then_ ?_
  refine CW.seq ?_
  refine CW.seq ?_
  refine CW.region ?_
  refine RG.vl rfl rfl rfl (Ev.move rfl rfl) ?_
  refine RG.vl rfl rfl rfl (Ev.isF (Ev.neI rfl rfl rfl) (fun h => h rfl)) ?_
  refine RG.vl rfl rfl rfl (Ev.move rfl rfl) ?_
  refine RG.vl rfl rfl rfl (Ev.move rfl rfl) ?_
  refine RG.vl rfl rfl rfl (Ev.lenStr rfl rfl rfl Tryd.underlying9) ?_
  refine RG.vl rfl rfl rfl (Ev.isF (Ev.lss rfl rfl rfl) (by omega)) ?_
  refine RG.vl rfl rfl rfl (Ev.pickF rfl rfl rfl) ?_
  refine RG.done ?_
  refine QW.then_ ?_
  refine CW.condF rfl ?_
  refine CW.skip ?_
  refine QW.then_ ?_
  refine CW.seq ?_
  refine CW.seq ?_
  refine CW.region ?_
  refine RG.vl rfl rfl rfl (Ev.assign rfl rfl) ?_
  refine RG.done ?_
  refine QW.then_ ?_
  refine CW.block ?_
  replace hm := (hm.ext hE2)
  replace hl := (hl.ext hE2)
  replace hws := (hws.ext hE6)
  replace hb3 := (hb3.ext hE8)
  have hR15 := (Ex.tr hB0 hE2)
  have hR16 := hE11
  have hR17 := hE14
  refine CW.loop1 [(7, _), (8, _)] ⟨rfl, rfl, trivial⟩ (fun (i : Nat) => [(10, .int .i64 i)]) (fun i w' => (i ≤ T.length) ∧ Ex w13 w') (fun i => T.length - i) (0) ⟨rfl, trivial⟩ ⟨by omega, (Ex.rfl_ _)⟩ ?_
  rintro i wl18 ⟨hi, hxwl18⟩
  refine CW.sub (S' := [(10, _), (7, _), (8, _)]) ⟨rfl, rfl, rfl, trivial⟩ ?_
  refine CW.seq ?_
  refine CW.seq ?_
  refine CW.region ?_
  refine RG.vl rfl rfl rfl (Ev.move rfl rfl) ?_
  refine RG.vl rfl rfl rfl (Ev.move rfl rfl) ?_
  refine RG.vl rfl rfl rfl (Ev.lenStr rfl rfl rfl Tryd.underlying9) ?_
  refine RG.vl rfl rfl rfl (Ev.lss rfl rfl rfl) ?_
  refine RG.done ?_
  refine QW.then_ ?_
  refine CW.condP rfl (fun hc19 => ?_) (fun hc19 => ?_)
  · refine CW.skip ?_
    refine QW.then_ ?_
    refine CW.seq ?_
    refine CW.block ?_
    refine CW.seq ?_
    obtain ⟨x, hx⟩ : ∃ x, T[i]? = some x := ⟨_, List.getElem?_eq_getElem (by omega)⟩
    have hxT := List.mem_of_getElem? hx
    obtain ⟨hv1, hv2⟩ := val_chr hck hxT
    have hfl := fill_set hr hck (by omega) hx
    have hfs := fit_self hr hck hpp (by omega) hx
    refine CW.draw [] (.ex) 10 rfl mixed (fun wd20 hxwd20 => ?_)
    replace hxwl18 := Ex.tr hxwl18 hxwd20
    have hE21 := hxwd20
    refine AG.take 0 rfl (by kernel_rfl) (by kernel_rfl) rfl rfl rfl (fun wq hq => Ev.ldAgg rfl rfl Tryd.underlying24 rfl sz_24 rfl (((hb3.ext hxwl18).ext hq).cells)) ?_
    refine AG.takeW 1 rfl (by kernel_rfl) (by kernel_rfl) rfl rfl rfl (fun _ => Ev.move rfl rfl) ?_
    refine AG.takeW 2 rfl (by kernel_rfl) (by kernel_rfl) rfl rfl rfl (fun _ => Ev.move rfl rfl) ?_
    refine AG.only 3 rfl (by kernel_rfl) ?_
    refine RG.call rfl rfl rfl rfl rfl rfl rfl en_27 (put_ret T i 63 _ (by omega) (by omega)) ?_
    rintro _ w23 ⟨rfl, hx23⟩
    replace hxwl18 := Ex.tr hxwl18 hx23
    replace hE21 := Ex.tr hE21 hx23
    have hE24 := hx23
    refine RG.done ?_
    refine QW.an (fun _ => hE24) ?_
    refine AG.only 4 rfl (by kernel_rfl) ?_
    refine RG.call rfl rfl rfl rfl rfl rfl rfl en_31 (Fill_is (k := k) (ws := ws) (hws.ext hxwl18) hwl (by rw [List.length_set]; omega) (hfl)) ?_
    rintro _ w26 ⟨rfl, hx26⟩
    replace hxwl18 := Ex.tr hxwl18 hx26
    replace hE21 := Ex.tr hE21 hx26
    replace hE24 := Ex.tr hE24 hx26
    have hE27 := hx26
    refine RG.done ?_
    refine QW.an (fun _ => hE27) ?_
    refine AG.takeW 5 rfl (by kernel_rfl) (by kernel_rfl) rfl rfl rfl (fun _ => Ev.move rfl rfl) ?_
    refine AG.takeW 6 rfl (by kernel_rfl) (by kernel_rfl) rfl rfl rfl (fun _ => Ev.extract rfl rfl rfl) ?_
    refine AG.takeW 7 rfl (by kernel_rfl) (by kernel_rfl) rfl rfl rfl (fun _ => Ev.extract rfl rfl rfl) ?_
    refine AG.takeW 8 rfl (by kernel_rfl) (by kernel_rfl) rfl rfl rfl (fun _ => Ev.assign rfl rfl) ?_
    refine AG.takeW 9 rfl (by kernel_rfl) (by kernel_rfl) rfl rfl rfl (fun _ => Ev.assign rfl rfl) ?_
    refine AG.done (by kernel_rfl) ?_
    refine QW.sub (S' := [(7, _), (8, _), (10, _), (11, _), (12, _)]) ⟨rfl, rfl, rfl, rfl, rfl, trivial⟩ ?_
    refine QW.then_ ?_
    refine CW.seq ?_
    refine CW.region ?_
    refine RG.vl rfl rfl rfl (Ev.assign rfl rfl) ?_
    refine RG.vl rfl rfl rfl (Ev.assign rfl rfl) ?_
    refine RG.done ?_
    refine QW.then_ ?_
    refine CW.seq ?_
    refine CW.seq ?_
    refine CW.region ?_
    refine RG.vl rfl rfl rfl (Ev.assign rfl rfl) ?_
    refine RG.done ?_
    refine QW.then_ ?_
    refine CW.block ?_
    refine CW.loop1 [(7, _), (8, _), (10, _), (11, _), (12, _)] ⟨rfl, rfl, rfl, rfl, rfl, trivial⟩ (fun (j : Nat) => [(15, .int .i64 (j : Int)), (13, .string ⟨(chs (fun v => decide (testR k ws (T.set i (chr v)) = (true, 0))) 0 j).toArray⟩), (14, .bool (decide (valC x < j)))]) (fun j w' => (j ≤ 11) ∧ Ex w13 w') (fun j => 11 - j) (0) ⟨rfl, rfl, congrArg (fun b => some (Value.bool b)) (decide_eq_false (show ¬ valC x < 0 by omega)).symm, trivial⟩ ⟨by omega, hxwl18⟩ ?_
    rintro j wl28 ⟨hj, hxwl28⟩
    refine CW.sub (S' := [(15, _), (13, _), (14, _), (7, _), (8, _), (10, _), (11, _), (12, _)]) ⟨rfl, rfl, rfl, rfl, rfl, rfl, rfl, rfl, trivial⟩ ?_
    refine CW.seq ?_
    refine CW.seq ?_
    refine CW.region ?_
    refine RG.vl rfl rfl rfl (Ev.move rfl rfl) ?_
    refine RG.vl rfl rfl rfl (Ev.lss rfl rfl rfl) ?_
    refine RG.done ?_
    refine QW.then_ ?_
    refine CW.condP rfl (fun hc29 => ?_) (fun hc29 => ?_)
    · refine CW.skip ?_
      refine QW.then_ ?_
      refine CW.seq ?_
      refine CW.block ?_
      refine CW.seq ?_
      refine CW.draw [] (.ex) 7 rfl mixed (fun wd30 hxwd30 => ?_)
      replace hxwl28 := Ex.tr hxwl28 hxwd30
      have hE31 := hxwd30
      refine AG.take 0 rfl (by kernel_rfl) (by kernel_rfl) rfl rfl rfl (fun wq hq => Ev.ldAgg rfl rfl Tryd.underlying24 rfl sz_24 rfl (((hb3.ext hxwl28).ext hq).cells)) ?_
      refine AG.takeW 1 rfl (by kernel_rfl) (by kernel_rfl) rfl rfl rfl (fun _ => Ev.move rfl rfl) ?_
      refine AG.takeW 2 rfl (by kernel_rfl) (by kernel_rfl) rfl rfl rfl (fun _ => Ev.move rfl rfl) ?_
      refine AG.takeW 3 rfl (by kernel_rfl) (by kernel_rfl) rfl rfl rfl (fun _ => Ev.move rfl rfl) ?_
      refine AG.takeW 4 rfl (by kernel_rfl) (by kernel_rfl) rfl rfl rfl (fun _ => Ev.byteAt rfl rfl rfl Tryd.underlying9 (by omega) ((show _ = some (chr j) from all_at (i := j) (by omega)))) ?_
      refine AG.only 5 rfl (by kernel_rfl) ?_
      refine RG.call rfl rfl rfl rfl rfl rfl rfl en_27 (put_ret T i (chr j) _ (by omega) (by omega)) ?_
      rintro _ w33 ⟨rfl, hx33⟩
      replace hxwl28 := Ex.tr hxwl28 hx33
      replace hE31 := Ex.tr hE31 hx33
      have hE34 := hx33
      refine RG.done ?_
      refine QW.an (fun _ => hE34) ?_
      refine AG.only 6 rfl (by kernel_rfl) ?_
      refine RG.call rfl rfl rfl rfl rfl rfl rfl en_26 (pss_ret k _ ws (T.set i (chr j)) _ (hws.ext hxwl28) hwl (by rw [List.length_set]; omega)) ?_
      rintro _ w36 ⟨rfl, hx36⟩
      replace hxwl28 := Ex.tr hxwl28 hx36
      replace hE31 := Ex.tr hE31 hx36
      replace hE34 := Ex.tr hE34 hx36
      have hE37 := hx36
      refine RG.done ?_
      refine QW.an (fun _ => hE37) ?_
      refine AG.done (by kernel_rfl) ?_
      refine QW.then_ ?_
      refine CW.cond rfl (fun hc38 => ?_) (fun hc38 => ?_)
      · refine CW.seq ?_
        have hcl := chs_len (fun v => decide (testR k ws (T.set i (chr v)) = (true, 0))) j 0
        refine CW.region ?_
        refine RG.vl rfl rfl rfl (Ev.move rfl rfl) ?_
        refine RG.vl rfl rfl rfl (Ev.move rfl rfl) ?_
        refine RG.vl rfl rfl rfl (Ev.move rfl rfl) ?_
        refine RG.vl rfl rfl rfl (Ev.addI rfl rfl rfl (by omega)) ?_
        refine RG.vl rfl rfl rfl ((Ev.cutStr (i := j) (j := j + 1) rfl rfl Tryd.underlying9 rfl rfl (by omega) (by rw [show (⟨allC.toArray⟩ : ByteArray).size = 11 from rfl]; omega)).conv (congrArg Value.string (all_cut (i := j) (by omega)))) ?_
        refine RG.vl rfl rfl rfl ((Ev.cat rfl rfl rfl (by rw [sbytes, sbytes]; show _ + 1 ≤ _; omega)).conv (congrArg Value.string (bx_cat (chs (fun v => decide (testR k ws (T.set i (chr v)) = (true, 0))) 0 j) [chr j]))) ?_
        refine RG.vl rfl rfl rfl (Ev.assign rfl rfl) ?_
        refine RG.done ?_
        refine QW.sub (S' := [(7, _), (8, _), (10, _), (11, _), (12, _), (13, _), (14, _), (15, _)]) ⟨rfl, rfl, rfl, rfl, rfl, rfl, rfl, rfl, trivial⟩ ?_
        refine QW.then_ ?_
        refine CW.draw [] (.ex) 10 rfl mixed (fun wd39 hxwd39 => ?_)
        replace hxwl28 := Ex.tr hxwl28 hxwd39
        replace hE31 := Ex.tr hE31 hxwd39
        replace hE34 := Ex.tr hE34 hxwd39
        replace hE37 := Ex.tr hE37 hxwd39
        refine AG.takeW 0 rfl (by kernel_rfl) (by kernel_rfl) rfl rfl rfl (fun _ => Ev.move rfl rfl) ?_
        refine AG.takeW 1 rfl (by kernel_rfl) (by kernel_rfl) rfl rfl rfl (fun _ => Ev.move rfl rfl) ?_
        refine AG.split (d := 65) rfl (fun hg40 => ?_) (fun hg40 => ?_)
        · refine AG.pass 2 rfl (by kernel_rfl) (by kernel_rfl) rfl rfl rfl ?_
          refine AG.pass 3 rfl (by kernel_rfl) (by kernel_rfl) rfl rfl rfl ?_
          refine AG.pass 4 rfl (by kernel_rfl) (by kernel_rfl) rfl rfl rfl ?_
          refine AG.pass 5 rfl (by kernel_rfl) (by kernel_rfl) rfl rfl rfl ?_
          refine AG.pass 6 rfl (by kernel_rfl) (by kernel_rfl) rfl rfl rfl ?_
          refine AG.pass 7 rfl (by kernel_rfl) (by kernel_rfl) rfl rfl rfl ?_
          refine AG.takeW 8 rfl (by kernel_rfl) (by kernel_rfl) rfl rfl rfl (fun _ => Ev.pickT rfl rfl rfl) ?_
          refine AG.takeW 9 rfl (by kernel_rfl) (by kernel_rfl) rfl rfl rfl (fun _ => Ev.assign rfl rfl) ?_
          refine AG.done (by kernel_rfl) ?_
          refine QW.blockN ?_
          refine QW.then_ ?_
          refine CW.region ?_
          refine RG.vl rfl rfl rfl (Ev.move rfl rfl) ?_
          refine RG.vl rfl rfl rfl (Ev.addI rfl rfl rfl (by omega)) ?_
          refine RG.vl rfl rfl rfl (Ev.assign rfl rfl) ?_
          refine RG.done ?_
          refine QW.round1 (j + 1) ⟨rfl, by rw [chs_hit (n := j) (f := (fun v => decide (testR k ws (T.set i (chr v)) = (true, 0)))) (by assumption)]; rfl, congrArg (fun b => some (Value.bool b)) (by first | exact fit_a (by assumption) | exact fit_b hv1 (by omega) (by assumption)), trivial⟩ ⟨rfl, rfl, rfl, rfl, rfl, trivial⟩ ⟨by omega, hxwl28⟩ (by omega)
        · refine AG.takeW 2 rfl (by kernel_rfl) (by kernel_rfl) rfl rfl rfl (fun _ => Ev.move rfl rfl) ?_
          refine AG.takeW 3 rfl (by kernel_rfl) (by kernel_rfl) rfl rfl rfl (fun _ => Ev.byteAt rfl rfl rfl Tryd.underlying9 (by omega) ((show _ = some (chr j) from all_at (i := j) (by omega)))) ?_
          refine AG.takeW 4 rfl (by kernel_rfl) (by kernel_rfl) rfl rfl rfl (fun _ => Ev.move rfl rfl) ?_
          refine AG.takeW 5 rfl (by kernel_rfl) (by kernel_rfl) rfl rfl rfl (fun _ => Ev.move rfl rfl) ?_
          refine AG.takeW 6 rfl (by kernel_rfl) (by kernel_rfl) rfl rfl rfl (fun _ => Ev.byteAt rfl rfl rfl Tryd.underlying9 (by omega) (hx)) ?_
          refine AG.takeW 7 rfl (by kernel_rfl) (by kernel_rfl) rfl rfl rfl (fun _ => Ev.eqI rfl rfl rfl) ?_
          refine AG.takeW 8 rfl (by kernel_rfl) (by kernel_rfl) rfl rfl rfl (fun _ => Ev.pickF rfl rfl rfl) ?_
          refine AG.takeW 9 rfl (by kernel_rfl) (by kernel_rfl) rfl rfl rfl (fun _ => Ev.assign rfl rfl) ?_
          refine AG.done (by kernel_rfl) ?_
          refine QW.blockN ?_
          refine QW.then_ ?_
          refine CW.region ?_
          refine RG.vl rfl rfl rfl (Ev.move rfl rfl) ?_
          refine RG.vl rfl rfl rfl (Ev.addI rfl rfl rfl (by omega)) ?_
          refine RG.vl rfl rfl rfl (Ev.assign rfl rfl) ?_
          refine RG.done ?_
          refine QW.round1 (j + 1) ⟨rfl, by rw [chs_hit (n := j) (f := (fun v => decide (testR k ws (T.set i (chr v)) = (true, 0)))) (by assumption)]; rfl, congrArg (fun b => some (Value.bool b)) (by first | exact fit_a (by assumption) | exact fit_b hv1 (by omega) (by assumption)), trivial⟩ ⟨rfl, rfl, rfl, rfl, rfl, trivial⟩ ⟨by omega, hxwl28⟩ (by omega)
      · refine CW.skip ?_
        refine QW.blockN ?_
        refine QW.then_ ?_
        refine CW.region ?_
        refine RG.vl rfl rfl rfl (Ev.move rfl rfl) ?_
        refine RG.vl rfl rfl rfl (Ev.addI rfl rfl rfl (by omega)) ?_
        refine RG.vl rfl rfl rfl (Ev.assign rfl rfl) ?_
        refine RG.done ?_
        refine QW.round1 (j + 1) ⟨rfl, by rw [chs_miss (n := j) (f := (fun v => decide (testR k ws (T.set i (chr v)) = (true, 0)))) (by assumption)]; rfl, congrArg (fun b => some (Value.bool b)) (fit_c (f := (fun v => decide (testR k ws (T.set i (chr v)) = (true, 0)))) hfs (by assumption)), trivial⟩ ⟨rfl, rfl, rfl, rfl, rfl, trivial⟩ ⟨by omega, hxwl28⟩ (by omega)
    · refine CW.exit ?_
      refine QW.thenExit ?_
      refine QW.thenExit ?_
      refine QW.blockHit ?_
      refine QW.then_ ?_
      refine CW.seq ?_
      obtain rfl : j = 11 := by omega
      have hv11 : valC x < 11 := by omega
      refine CW.region ?_
      refine RG.vl rfl rfl rfl (Ev.move rfl rfl) ?_
      refine RG.vl rfl rfl rfl (Ev.isF (Ev.neI rfl rfl rfl) (fun h => h rfl)) ?_
      refine RG.vl rfl rfl rfl (Ev.move rfl rfl) ?_
      refine RG.vl rfl rfl rfl (Ev.move rfl rfl) ?_
      refine RG.vl rfl rfl rfl (Ev.move rfl rfl) ?_
      refine RG.vl rfl rfl rfl (Ev.isF (Ev.neS rfl rfl rfl) (fun h => h rfl)) ?_
      refine RG.vl rfl rfl rfl (Ev.pickF rfl rfl rfl) ?_
      refine RG.vl rfl rfl rfl (Ev.move rfl rfl) ?_
      refine RG.vl rfl rfl rfl ((Ev.move rfl rfl).conv (congrArg Value.bool (decide_eq_true hv11))) ?_
      refine RG.vl rfl rfl rfl (Ev.notF rfl rfl) ?_
      refine RG.vl rfl rfl rfl (Ev.pickF rfl rfl rfl) ?_
      refine RG.vl rfl rfl rfl (Ev.move rfl rfl) ?_
      refine RG.vl rfl rfl rfl (Ev.fld rfl rfl fld_24_0) ?_
      refine RG.vl rfl rfl rfl (Ev.ldAt rfl rfl Tryd.underlying5 rfl ((hb3.ext hxwl28).cells) (rfl)) ?_
      refine RG.vl rfl rfl rfl (Ev.neI rfl rfl rfl) ?_
      refine RG.vl rfl rfl rfl (Ev.move rfl rfl) ?_
      refine RG.split (d := 88) rfl (fun hg41 => ?_) (fun hg41 => ?_)
      · refine RG.vl rfl rfl rfl (Ev.move rfl rfl) ?_
        refine RG.vl rfl rfl rfl (Ev.lenStr rfl rfl rfl Tryd.underlying9) ?_
        refine RG.vl rfl rfl rfl (Ev.isF (Ev.neI rfl rfl rfl) (fun h => h (by rw [sbytes, fit_len hr (fun e => by subst e; omega) hck hpp (by omega) hx]; rfl))) ?_
        refine RG.vl rfl rfl rfl (Ev.pickT rfl rfl rfl) ?_
        refine RG.vl rfl rfl rfl (Ev.pickF rfl rfl rfl) ?_
        refine RG.done ?_
        refine QW.sub (S' := [(7, _), (8, _), (10, _), (93, _)]) ⟨rfl, rfl, rfl, rfl, trivial⟩ ?_
        refine QW.then_ ?_
        refine CW.condF rfl ?_
        refine CW.skip ?_
        refine QW.blockN ?_
        refine QW.then_ ?_
        refine CW.region ?_
        refine RG.vl rfl rfl rfl (Ev.move rfl rfl) ?_
        refine RG.vl rfl rfl rfl (Ev.addI rfl rfl rfl (by omega)) ?_
        refine RG.vl rfl rfl rfl (Ev.assign rfl rfl) ?_
        refine RG.done ?_
        refine QW.round1 (i + 1) ⟨rfl, trivial⟩ ⟨rfl, rfl, trivial⟩ ⟨by omega, hxwl28⟩ (by omega)
      · refine RG.pass rfl rfl rfl ?_
        refine RG.pass rfl rfl rfl ?_
        refine RG.pass rfl rfl rfl ?_
        refine RG.vl rfl rfl rfl (Ev.pickF rfl rfl rfl) ?_
        refine RG.vl rfl rfl rfl (Ev.pickF rfl rfl rfl) ?_
        refine RG.done ?_
        refine QW.sub (S' := [(7, _), (8, _), (10, _), (93, _)]) ⟨rfl, rfl, rfl, rfl, trivial⟩ ?_
        refine QW.then_ ?_
        refine CW.condF rfl ?_
        refine CW.skip ?_
        refine QW.blockN ?_
        refine QW.then_ ?_
        refine CW.region ?_
        refine RG.vl rfl rfl rfl (Ev.move rfl rfl) ?_
        refine RG.vl rfl rfl rfl (Ev.addI rfl rfl rfl (by omega)) ?_
        refine RG.vl rfl rfl rfl (Ev.assign rfl rfl) ?_
        refine RG.done ?_
        refine QW.round1 (i + 1) ⟨rfl, trivial⟩ ⟨rfl, rfl, trivial⟩ ⟨by omega, hxwl28⟩ (by omega)
  · refine CW.exit ?_
    refine QW.thenExit ?_
    refine QW.thenExit ?_
    refine QW.blockHit ?_
    refine QW.then_ ?_
    refine CW.seq ?_
    refine CW.region ?_
    refine RG.call rfl rfl rfl rfl rfl rfl rfl en_12 (awake_ret _) ?_
    rintro _ w42 ⟨rfl, hx42⟩
    replace hxwl18 := Ex.tr hxwl18 hx42
    have hE43 := hx42
    refine RG.vl rfl rfl rfl (Ev.assign rfl rfl) ?_
    refine RG.done ?_
    refine QW.then_ ?_
    refine CW.ret ?_
    refine QW.ret1 rfl rfl ?_
    have hB := (Ex.tr hR15 hxwl18)
    exact ⟨rfl, hB⟩

end Go.Proofs.YtnhkhpnkhkagaaaDoor
