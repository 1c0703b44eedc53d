/- Walks (DQ4). Written by program. -/
import Derived.Test.YtnhkhpnkhkagaaaDoorT
import Derived.Test.YtnhkhpnkhkagaaaDoorDX
namespace Go.Proofs.YtnhkhpnkhkagaaaDoor
open Go.RowKit
set_option maxRecDepth 100000 in
set_option maxHeartbeats 16000000 in
theorem digitWeights_ret (el : Bool) (mv lv : Value) (m l : List UInt8) (w : World) (hm : RdL w 1 encB mv m) (hl : RdL w 1 encB lv l) :
    Ret Tryd.prog 8 [.bool el, mv, lv] w (fun v w' => v = .bool true ∧ Ex w w') := by
  obtain ⟨mA, mC, rfl⟩ := hm.shape
  obtain ⟨lA, lC, rfl⟩ := hl.shape
  have hB0 : Ex w w := Ex.rfl_ _
  refine Ret.of Tryd.func8 rfl Tryd.ntmps8 rfl ?_
  refine CW.seq ?_
  refine CW.region ?_
  refine RG.vl rfl rfl rfl (Ev.assign rfl rfl) ?_
  refine RG.done ?_
  refine QW.then_ ?_
  refine CW.seq ?_
  cases el
  · refine CW.region ?_
    refine RG.vl rfl rfl rfl (Ev.move rfl rfl) ?_
    refine RG.vl rfl rfl rfl (Ev.move rfl rfl) ?_
    refine RG.call rfl rfl rfl rfl rfl rfl rfl en_29 (weighted_ret false _ m _ hm) ?_
    rintro _ w1 ⟨ws, wv, rfl, hws, hwr, hx1⟩
    have hE2 := hx1
    replace hws := Own.rdl hws encI_len
    obtain ⟨wA, wC, rfl⟩ := hws.shape
    have hr : rightD 1 ws = true := hwr
    have hwl : ws.length ≤ 100000 := right_len10 hr
    have h1 := (right_ws hr (by omega)).1
    have hwb := right_ws10 hr (by omega)
    refine RG.local_ rfl rfl rfl rfl (fun _ => rfl) rfl rfl (fun _ => rfl) inf_24 rfl rfl rfl (fun g3 w3 eg3 hx3 hb3 => ?_)
    have hle4 : w.heap.size ≤ g3 := by have := hE2.size; omega
    have hle5 : w1.heap.size ≤ g3 := by have := (Ex.rfl_ w1).size; omega
    replace hE2 := Ex.tr hE2 hx3
    have hE6 := hx3
    refine RG.done ?_
    refine QW.then_ ?_
    refine CW.seq ?_
    refine CW.region ?_
    refine RG.vl rfl rfl rfl (Ev.assign rfl rfl) ?_
    refine RG.done ?_
    refine QW.then_ ?_
    refine CW.seq ?_
    refine CW.seq ?_
    refine CW.region ?_
    refine RG.vl rfl rfl rfl (Ev.move rfl rfl) ?_
    refine RG.done ?_
    refine QW.then_ ?_
    refine CW.condF rfl ?_
    refine CW.skip ?_
    refine QW.then_ ?_
    refine CW.seq ?_
    refine CW.region ?_
    refine RG.vl rfl rfl rfl (Ev.move rfl rfl) ?_
    refine RG.call rfl rfl rfl rfl rfl rfl rfl en_19 (payload_ret _ l _ (hl.ext hE2)) ?_
    rintro _ w7 ⟨rfl, hx7⟩
    replace hE2 := Ex.tr hE2 hx7
    replace hE6 := Ex.tr hE6 hx7
    have hE8 := hx7
    refine RG.vl rfl rfl rfl (Ev.assign rfl rfl) ?_
    refine RG.done ?_
    refine QW.then_ ?_
    refine CW.seq ?_
    obtain ⟨hD1, hD2⟩ := payL_len l
    have hDp := payL_pay l
    generalize payL l = D at *
    obtain ⟨hap, hck, hpp⟩ := append_pay hr hDp hD2
    have hTl := apT_len 1 ws D
    generalize apT 1 ws D = T at *
    have hTs := sbytes T
    have hDs := sbytes D
    have hMi := miss_is hr hD1 hD2
    have hMl := missL_len 1 ws hD2
    generalize hML : missL 1 ws D.length = L at *
    refine CW.region ?_
    refine RG.vl rfl rfl rfl (Ev.ldAgg rfl rfl Tryd.underlying24 rfl sz_24 rfl ((hb3.ext hE8).cells)) ?_
    refine RG.vl rfl rfl rfl (Ev.move rfl rfl) ?_
    refine RG.call rfl rfl rfl rfl rfl rfl rfl en_25 (Append_is (k := 1) (ws := ws) (hws.ext hE6) hwl (by omega) (hap)) ?_
    rintro _ w9 ⟨rfl, hx9⟩
    replace hE2 := Ex.tr hE2 hx9
    replace hE6 := Ex.tr hE6 hx9
    replace hE8 := Ex.tr hE8 hx9
    have hE10 := hx9
    refine RG.vl rfl rfl rfl (Ev.move rfl rfl) ?_
    refine RG.vl rfl rfl rfl (Ev.extract rfl rfl rfl) ?_
    refine RG.vl rfl rfl rfl (Ev.extract rfl rfl rfl) ?_
    refine RG.vl rfl rfl rfl (Ev.assign rfl rfl) ?_
    refine RG.vl rfl rfl rfl (Ev.assign rfl rfl) ?_
    refine RG.done ?_
    refine QW.sub (S' := [(6, _), (7, _), (8, _), (9, _), (10, _), (11, _)]) ⟨rfl, rfl, rfl, rfl, rfl, rfl, trivial⟩ ?_
    refine QW.then_ ?_
    refine CW.seq ?_
    refine CW.seq ?_
    refine CW.region ?_
    refine RG.vl rfl rfl rfl (Ev.move rfl rfl) ?_
    refine RG.vl rfl rfl rfl (Ev.isF (Ev.neI rfl rfl rfl) (fun h => h rfl)) ?_
    refine RG.vl rfl rfl rfl (Ev.move rfl rfl) ?_
    refine RG.vl rfl rfl rfl (Ev.move rfl rfl) ?_
    refine RG.vl rfl rfl rfl (Ev.lenStr rfl rfl rfl Tryd.underlying9) ?_
    refine RG.vl rfl rfl rfl (Ev.move rfl rfl) ?_
    refine RG.vl rfl rfl rfl (Ev.lenStr rfl rfl rfl Tryd.underlying9) ?_
    refine RG.vl rfl rfl rfl (Ev.addI rfl rfl rfl (by omega)) ?_
    refine RG.vl rfl rfl rfl (Ev.isF (Ev.neI rfl rfl rfl) (by omega)) ?_
    refine RG.vl rfl rfl rfl (Ev.pickF rfl rfl rfl) ?_
    refine RG.vl rfl rfl rfl (Ev.move rfl rfl) ?_
    refine RG.vl rfl rfl rfl (Ev.ldAgg rfl rfl Tryd.underlying24 rfl sz_24 rfl ((hb3.ext hE8).cells)) ?_
    refine RG.vl rfl rfl rfl (Ev.move rfl rfl) ?_
    refine RG.call rfl rfl rfl rfl rfl rfl rfl en_26 (Pss_is (k := 1) (ws := ws) (hws.ext hE6) hwl (by omega) (by rw [test_chk hr (by omega) hck, hpp])) ?_
    rintro _ w11 ⟨rfl, hx11⟩
    replace hE2 := Ex.tr hE2 hx11
    replace hE6 := Ex.tr hE6 hx11
    replace hE8 := Ex.tr hE8 hx11
    replace hE10 := Ex.tr hE10 hx11
    have hE12 := hx11
    refine RG.vl rfl rfl rfl (Ev.notF rfl rfl) ?_
    refine RG.vl rfl rfl rfl (Ev.pickF rfl rfl rfl) ?_
    refine RG.done ?_
    refine QW.sub (S' := [(6, _), (7, _), (8, _), (9, _), (10, _), (11, _), (49, _)]) ⟨rfl, rfl, rfl, rfl, rfl, rfl, rfl, trivial⟩ ?_
    refine QW.then_ ?_
    refine CW.condF rfl ?_
    refine CW.skip ?_
    refine QW.then_ ?_
    refine CW.seq ?_
    refine CW.region ?_
    refine RG.vl rfl rfl rfl (Ev.ldAgg rfl rfl Tryd.underlying24 rfl sz_24 rfl ((hb3.ext hE8).cells)) ?_
    refine RG.vl rfl rfl rfl (Ev.move rfl rfl) ?_
    refine RG.vl rfl rfl rfl (Ev.lenStr rfl rfl rfl Tryd.underlying9) ?_
    refine RG.call rfl rfl rfl rfl rfl rfl rfl en_15 (Misses_is (k := 1) (ws := ws) (hws.ext hE6) hwl (hMi)) ?_
    have hpre13 := (Ex.tr hB0 hE2)
    rintro _ w13 ⟨r13, rfl, hm13, hx13⟩
    replace hE2 := Ex.tr hE2 hx13
    replace hE6 := Ex.tr hE6 hx13
    replace hE8 := Ex.tr hE8 hx13
    replace hE10 := Ex.tr hE10 hx13
    replace hE12 := Ex.tr hE12 hx13
    have hE14 := hx13
    refine RG.vl rfl rfl rfl (Ev.move rfl rfl) ?_
    refine RG.vl rfl rfl rfl (Ev.extract rfl rfl rfl) ?_
    refine RG.vl rfl rfl rfl (Ev.extract rfl rfl rfl) ?_
    refine RG.vl rfl rfl rfl (Ev.assign rfl rfl) ?_
    refine RG.vl rfl rfl rfl (Ev.assign rfl rfl) ?_
    refine RG.done ?_
    refine QW.then_ ?_
    refine CW.seq ?_
    refine CW.seq ?_
    refine CW.region ?_
    refine RG.vl rfl rfl rfl (Ev.move rfl rfl) ?_
    refine RG.vl rfl rfl rfl (Ev.isF (Ev.neI rfl rfl rfl) (fun h => h rfl)) ?_
    refine RG.done ?_
    refine QW.then_ ?_
    refine CW.condF rfl ?_
    refine CW.skip ?_
    refine QW.then_ ?_
    refine CW.seq ?_
    refine CW.seq ?_
    refine CW.region ?_
    refine RG.vl rfl rfl rfl (Ev.assign rfl rfl) ?_
    refine RG.done ?_
    refine QW.then_ ?_
    refine CW.block ?_
    replace hm := (hm.ext hE2)
    replace hl := (hl.ext hE2)
    replace hws := (hws.ext hE6)
    replace hb3 := (hb3.ext hE8)
    have hR15 := (Ex.tr hB0 hE2)
    have hR16 := hE8
    have hR17 := hE10
    have hR18 := hE12
    have hR19 := hE14
    refine CW.loop1 [(7, _), (8, _), (9, _), (10, _), (12, _)] ⟨rfl, rfl, rfl, rfl, rfl, trivial⟩ (fun (p : Nat) => [(13, .int .i64 ((p + 1 : Nat) : Int))]) (fun p w' => (p ≤ D.length) ∧ Ex w13 w') (fun p => D.length - p) (0) ⟨rfl, trivial⟩ ⟨by omega, (Ex.rfl_ _)⟩ ?_
    rintro p wl20 ⟨hp, hxwl20⟩
    refine CW.sub (S' := [(13, _), (7, _), (8, _), (9, _), (10, _), (12, _)]) ⟨rfl, rfl, rfl, rfl, rfl, rfl, trivial⟩ ?_
    refine CW.seq ?_
    refine CW.seq ?_
    refine CW.region ?_
    refine RG.vl rfl rfl rfl (Ev.move rfl rfl) ?_
    refine RG.vl rfl rfl rfl (Ev.move rfl rfl) ?_
    refine RG.vl rfl rfl rfl (Ev.lenStr rfl rfl rfl Tryd.underlying9) ?_
    refine RG.vl rfl rfl rfl (Ev.leq rfl rfl rfl) ?_
    refine RG.done ?_
    refine QW.then_ ?_
    refine CW.condP rfl (fun hc21 => ?_) (fun hc21 => ?_)
    · refine CW.skip ?_
      refine QW.then_ ?_
      refine CW.seq ?_
      refine CW.block ?_
      refine CW.seq ?_
      obtain ⟨x, hx⟩ : ∃ x, T[D.length - 1 - p]? = some x := ⟨_, List.getElem?_eq_getElem (by omega)⟩
      have hdx := chk_dig hck hx (by omega)
      have hvx := valC_dig hdx
      have hw1 := wt_b1 hwb h1 (p + 1)
      refine CW.region ?_
      refine RG.vl rfl rfl rfl (Ev.move rfl rfl) ?_
      refine RG.vl rfl rfl rfl (Ev.lenStr rfl rfl rfl Tryd.underlying9) ?_
      refine RG.vl rfl rfl rfl (Ev.move rfl rfl) ?_
      refine RG.vl rfl rfl rfl ((Ev.subI rfl rfl rfl (by omega)).conv (congrArg (Value.int .i64) (show (⟨D.toArray⟩ : ByteArray).size - ((p + 1 : Nat) : Int) = ((D.length - 1 - p : Nat) : Int) by omega))) ?_
      refine RG.vl rfl rfl rfl (Ev.assign rfl rfl) ?_
      refine RG.done ?_
      refine QW.then_ ?_
      refine CW.seq ?_
      refine CW.draw [] (.ex) 17 rfl mixed (fun wd22 hxwd22 => ?_)
      replace hxwl20 := Ex.tr hxwl20 hxwd22
      have hE23 := hxwd22
      refine AG.takeW 0 rfl (by kernel_rfl) (by kernel_rfl) rfl rfl rfl (fun _ => Ev.fld rfl rfl fld_24_1) ?_
      refine AG.take 1 rfl (by kernel_rfl) (by kernel_rfl) rfl rfl rfl (fun wq hq => Ev.ldAt rfl rfl Tryd.underlying22 rfl (((hb3.ext hxwl20).ext hq).cells) (rfl)) ?_
      refine AG.takeW 2 rfl (by kernel_rfl) (by kernel_rfl) rfl rfl rfl (fun _ => Ev.move rfl rfl) ?_
      refine AG.takeW 3 rfl (by kernel_rfl) (by kernel_rfl) rfl rfl rfl (fun _ => (Ev.subI rfl rfl rfl (by omega)).conv (congrArg (Value.int .i64) (show ((p + 1 : Nat) : Int) - 1 = ((p : Nat) : Int) by omega))) ?_
      refine AG.takeW 4 rfl (by kernel_rfl) (by kernel_rfl) rfl rfl rfl (fun _ => Ev.fld rfl rfl fld_24_1) ?_
      refine AG.take 5 rfl (by kernel_rfl) (by kernel_rfl) rfl rfl rfl (fun wq hq => Ev.ldAt rfl rfl Tryd.underlying22 rfl (((hb3.ext hxwl20).ext hq).cells) (rfl)) ?_
      refine AG.takeW 6 rfl (by kernel_rfl) (by kernel_rfl) rfl rfl rfl (fun _ => Ev.lenL rfl rfl rfl Tryd.underlying22 ((hws.ext hxwl20))) ?_
      refine AG.takeW 7 rfl (by kernel_rfl) (by kernel_rfl) rfl rfl rfl (fun _ => (Ev.remI rfl rfl rfl (by omega)).conv (congrArg (Value.int .i64) (show (p : Int) % (ws.length : Int) = ((p % ws.length : Nat) : Int) by rw [Int.natCast_emod]))) ?_
      refine AG.idxL _ 8 rfl (by kernel_rfl) (by kernel_rfl) rfl rfl rfl rfl rfl rfl Tryd.underlying22 sz_3 ((hws.ext hxwl20)) (wt_at1 h1 p) (fun p24 hp24b hp24 => ?_)
      refine AG.take 9 rfl (by kernel_rfl) (by kernel_rfl) rfl rfl rfl (fun wq hq => Ev.ld0 rfl rfl Tryd.underlying3 rfl (hp24.ext hq hp24b) (rfl)) ?_
      refine AG.takeW 10 rfl (by kernel_rfl) (by kernel_rfl) rfl rfl rfl (fun _ => Ev.move rfl rfl) ?_
      refine AG.takeW 11 rfl (by kernel_rfl) (by kernel_rfl) rfl rfl rfl (fun _ => Ev.move rfl rfl) ?_
      refine AG.takeW 12 rfl (by kernel_rfl) (by kernel_rfl) rfl rfl rfl (fun _ => Ev.byteAt rfl rfl rfl Tryd.underlying9 (by omega) (hx)) ?_
      refine AG.takeW 13 rfl (by kernel_rfl) (by kernel_rfl) rfl rfl rfl (fun _ => (Ev.sub8 rfl rfl rfl (by omega)).conv (congrArg (Value.int .u8) (show (x.toNat : Int) - 48 = ((valC x : Nat) : Int) from (valC_dig hdx).2.symm))) ?_
      refine AG.takeW 14 rfl (by kernel_rfl) (by kernel_rfl) rfl rfl rfl (fun _ => Ev.to64 rfl rfl Tryd.underlying5 Tryd.underlying3 (by omega)) ?_
      refine AG.takeW 15 rfl (by kernel_rfl) (by kernel_rfl) rfl rfl rfl (fun _ => Ev.assign rfl rfl) ?_
      refine AG.takeW 16 rfl (by kernel_rfl) (by kernel_rfl) rfl rfl rfl (fun _ => Ev.assign rfl rfl) ?_
      refine AG.done (by kernel_rfl) ?_
      refine QW.sub (S' := [(7, _), (8, _), (9, _), (10, _), (12, _), (13, _), (14, _), (15, _), (16, _)]) ⟨rfl, rfl, rfl, rfl, rfl, rfl, rfl, rfl, rfl, trivial⟩ ?_
      refine QW.then_ ?_
      refine CW.seq ?_
      refine CW.seq ?_
      refine CW.region ?_
      refine RG.vl rfl rfl rfl (Ev.assign rfl rfl) ?_
      refine RG.done ?_
      refine QW.then_ ?_
      refine CW.block ?_
      replace hm := (hm.ext hxwl20)
      replace hl := (hl.ext hxwl20)
      replace hws := (hws.ext hxwl20)
      replace hb3 := (hb3.ext hxwl20)
      replace hm13 := (Own.ext hm13 hxwl20)
      have hR25 := (Ex.tr hR15 hxwl20)
      have hR26 := (Ex.tr hR16 hxwl20)
      have hR27 := (Ex.tr hR17 hxwl20)
      have hR28 := (Ex.tr hR18 hxwl20)
      have hR29 := (Ex.tr hR19 hxwl20)
      have hR30 := hxwl20
      have hR31 := hE23
      refine CW.loop1 [(7, _), (8, _), (9, _), (10, _), (12, _), (13, _), (14, _), (15, _), (16, _)] ⟨rfl, rfl, rfl, rfl, rfl, rfl, rfl, rfl, rfl, trivial⟩ (fun (b : Nat) => [(17, .int .i64 (b : Int))]) (fun b w' => (b ≤ 10) ∧ Ex wd22 w') (fun b => 10 - b) (0) ⟨rfl, trivial⟩ ⟨by omega, (Ex.rfl_ _)⟩ ?_
      rintro b wl32 ⟨hb10, hxwl32⟩
      refine CW.sub (S' := [(17, _), (7, _), (8, _), (9, _), (10, _), (12, _), (13, _), (14, _), (15, _), (16, _)]) ⟨rfl, rfl, rfl, rfl, rfl, rfl, rfl, rfl, rfl, rfl, trivial⟩ ?_
      refine CW.seq ?_
      refine CW.seq ?_
      refine CW.region ?_
      refine RG.vl rfl rfl rfl (Ev.move rfl rfl) ?_
      refine RG.vl rfl rfl rfl (Ev.lss rfl rfl rfl) ?_
      refine RG.done ?_
      refine QW.then_ ?_
      refine CW.condP rfl (fun hc33 => ?_) (fun hc33 => ?_)
      · refine CW.skip ?_
        refine QW.then_ ?_
        refine CW.seq ?_
        refine CW.block ?_
        refine CW.seq ?_
        have hmb := mul_bb (x := wt ws (p + 1)) (y := (valC x : Int) - b) (by omega) (by omega) (by omega) (by omega)
        have hcb := chr_nat (i := b) (by omega)
        refine CW.region ?_
        refine RG.vl rfl rfl rfl (Ev.move rfl rfl) ?_
        refine RG.vl rfl rfl rfl (Ev.move rfl rfl) ?_
        refine RG.vl rfl rfl rfl (Ev.move rfl rfl) ?_
        refine RG.vl rfl rfl rfl (Ev.subI rfl rfl rfl (by omega)) ?_
        refine RG.vl rfl rfl rfl (Ev.mulI rfl rfl rfl (by omega)) ?_
        refine RG.vl rfl rfl rfl (Ev.move rfl rfl) ?_
        refine RG.vl rfl rfl rfl (Ev.remT rfl rfl rfl (by decide)) ?_
        refine RG.vl rfl rfl rfl (Ev.eqI rfl rfl rfl) ?_
        refine RG.vl rfl rfl rfl (Ev.assign rfl rfl) ?_
        refine RG.done ?_
        refine QW.then_ ?_
        refine CW.seq ?_
        refine CW.draw [] (.ex) 24 rfl mixed (fun wd34 hxwd34 => ?_)
        replace hxwl32 := Ex.tr hxwl32 hxwd34
        have hE35 := hxwd34
        refine AG.take 0 rfl (by kernel_rfl) (by kernel_rfl) rfl rfl rfl (fun wq hq => Ev.ldAgg rfl rfl Tryd.underlying24 rfl sz_24 rfl (((hb3.ext hxwl32).ext hq).cells)) ?_
        refine AG.takeW 1 rfl (by kernel_rfl) (by kernel_rfl) rfl rfl rfl (fun _ => Ev.move rfl rfl) ?_
        refine AG.takeW 2 rfl (by kernel_rfl) (by kernel_rfl) rfl rfl rfl (fun _ => Ev.move rfl rfl) ?_
        refine AG.takeW 3 rfl (by kernel_rfl) (by kernel_rfl) rfl rfl rfl (fun _ => Ev.move rfl rfl) ?_
        refine AG.takeW 4 rfl (by kernel_rfl) (by kernel_rfl) rfl rfl rfl (fun _ => Ev.addI rfl rfl rfl (by omega)) ?_
        refine AG.takeW 5 rfl (by kernel_rfl) (by kernel_rfl) rfl rfl rfl (fun _ => (Ev.to8 rfl rfl Tryd.underlying3 Tryd.underlying5 (by omega)).conv (congrArg (Value.int .u8) (show 48 + (b : Int) = ((chr b).toNat : Int) by rw [hcb, if_neg (by omega)]))) ?_
        refine AG.takeW 8 rfl (by kernel_rfl) (by kernel_rfl) rfl rfl rfl (fun _ => Ev.move rfl rfl) ?_
        refine AG.only 6 rfl (by kernel_rfl) ?_
        refine RG.call rfl rfl rfl rfl rfl rfl rfl en_27 (put_ret T (D.length - 1 - p) (chr b) _ (by omega) (by omega)) ?_
        rintro _ w37 ⟨rfl, hx37⟩
        replace hxwl32 := Ex.tr hxwl32 hx37
        replace hE35 := Ex.tr hE35 hx37
        have hE38 := hx37
        refine RG.done ?_
        refine QW.an (fun _ => hE38) ?_
        refine AG.only 7 rfl (by kernel_rfl) ?_
        refine RG.call rfl rfl rfl rfl rfl rfl rfl en_26 (Pss_is (k := 1) (ws := ws) (hws.ext hxwl32) hwl (by rw [List.length_set]; omega) (by rw [err_set hr hck hpp (by omega) hx (isDig_chr (by omega)), valC_chr (by omega), show T.length - 1 - (D.length - 1 - p) = p + 1 by omega])) ?_
        rintro _ w40 ⟨rfl, hx40⟩
        replace hxwl32 := Ex.tr hxwl32 hx40
        replace hE35 := Ex.tr hE35 hx40
        replace hE38 := Ex.tr hE38 hx40
        have hE41 := hx40
        refine RG.done ?_
        refine QW.an (fun _ => hE41) ?_
        refine AG.takeW 9 rfl (by kernel_rfl) (by kernel_rfl) rfl rfl rfl (fun _ => Ev.isF (Ev.neB rfl rfl rfl Tryd.underlying4) (fun h => h (by rw [same_1]))) ?_
        refine AG.takeW 10 rfl (by kernel_rfl) (by kernel_rfl) rfl rfl rfl (fun _ => Ev.move rfl rfl) ?_
        refine AG.takeW 11 rfl (by kernel_rfl) (by kernel_rfl) rfl rfl rfl (fun _ => Ev.move rfl rfl) ?_
        refine AG.takeW 12 rfl (by kernel_rfl) (by kernel_rfl) rfl rfl rfl (fun _ => Ev.move rfl rfl) ?_
        refine AG.takeW 13 rfl (by kernel_rfl) (by kernel_rfl) rfl rfl rfl (fun _ => Ev.neI rfl rfl rfl) ?_
        refine AG.takeW 14 rfl (by kernel_rfl) (by kernel_rfl) rfl rfl rfl (fun _ => Ev.move rfl rfl) ?_
        refine AG.split (d := 110) rfl (fun hg42 => ?_) (fun hg42 => ?_)
        · refine AG.takeW 15 rfl (by kernel_rfl) (by kernel_rfl) rfl rfl rfl (fun _ => Ev.move rfl rfl) ?_
          refine AG.takeW 16 rfl (by kernel_rfl) (by kernel_rfl) rfl rfl rfl (fun _ => Ev.move rfl rfl) ?_
          refine AG.takeW 17 rfl (by kernel_rfl) (by kernel_rfl) rfl rfl rfl (fun _ => Ev.move rfl rfl) ?_
          refine AG.takeW 18 rfl (by kernel_rfl) (by kernel_rfl) rfl rfl rfl (fun _ => Ev.move rfl rfl) ?_
          refine AG.takeW 20 rfl (by kernel_rfl) (by kernel_rfl) rfl rfl rfl (fun _ => Ev.move rfl rfl) ?_
          refine AG.only 19 rfl (by kernel_rfl) ?_
          refine RG.call rfl rfl rfl rfl rfl rfl rfl en_30 (has_ret _ L false (p + 1) (valC x) b _ (Own.rdl (Own.ext hm13 hxwl32) encM_len) (by omega)) ?_
          rintro _ w44 ⟨rfl, hx44⟩
          replace hxwl32 := Ex.tr hxwl32 hx44
          replace hE35 := Ex.tr hE35 hx44
          replace hE38 := Ex.tr hE38 hx44
          replace hE41 := Ex.tr hE41 hx44
          have hE45 := hx44
          refine RG.done ?_
          refine QW.an (fun _ => hE45) ?_
          refine AG.takeW 21 rfl (by kernel_rfl) (by kernel_rfl) rfl rfl rfl (fun _ => Ev.isF (Ev.neB rfl rfl rfl Tryd.underlying4) (fun h => h (by rw [← hML, has_one hr (by omega) (by omega) (by omega) (by omega) (by omega), same_1]))) ?_
          refine AG.takeW 22 rfl (by kernel_rfl) (by kernel_rfl) rfl rfl rfl (fun _ => Ev.pickT rfl rfl rfl) ?_
          refine AG.takeW 23 rfl (by kernel_rfl) (by kernel_rfl) rfl rfl rfl (fun _ => Ev.pickF rfl rfl rfl) ?_
          refine AG.done (by kernel_rfl) ?_
          refine QW.sub (S' := [(7, _), (8, _), (9, _), (10, _), (12, _), (13, _), (14, _), (15, _), (16, _), (17, _), (119, _)]) ⟨rfl, rfl, rfl, rfl, rfl, rfl, rfl, rfl, rfl, rfl, rfl, trivial⟩ ?_
          refine QW.then_ ?_
          refine CW.condF rfl ?_
          refine CW.skip ?_
          refine QW.blockN ?_
          refine QW.then_ ?_
          refine CW.region ?_
          refine RG.vl rfl rfl rfl (Ev.move rfl rfl) ?_
          refine RG.vl rfl rfl rfl (Ev.addI rfl rfl rfl (by omega)) ?_
          refine RG.vl rfl rfl rfl (Ev.assign rfl rfl) ?_
          refine RG.done ?_
          refine QW.round1 (b + 1) ⟨rfl, trivial⟩ ⟨rfl, rfl, rfl, rfl, rfl, rfl, rfl, rfl, rfl, trivial⟩ ⟨by omega, hxwl32⟩ (by omega)
        · refine AG.pass 15 rfl (by kernel_rfl) (by kernel_rfl) rfl rfl rfl ?_
          refine AG.pass 16 rfl (by kernel_rfl) (by kernel_rfl) rfl rfl rfl ?_
          refine AG.pass 17 rfl (by kernel_rfl) (by kernel_rfl) rfl rfl rfl ?_
          refine AG.pass 18 rfl (by kernel_rfl) (by kernel_rfl) rfl rfl rfl ?_
          refine AG.pass 19 rfl (by kernel_rfl) (by kernel_rfl) rfl rfl rfl ?_
          refine AG.pass 20 rfl (by kernel_rfl) (by kernel_rfl) rfl rfl rfl ?_
          refine AG.pass 21 rfl (by kernel_rfl) (by kernel_rfl) rfl rfl rfl ?_
          refine AG.takeW 22 rfl (by kernel_rfl) (by kernel_rfl) rfl rfl rfl (fun _ => Ev.pickF rfl rfl rfl) ?_
          refine AG.takeW 23 rfl (by kernel_rfl) (by kernel_rfl) rfl rfl rfl (fun _ => Ev.pickF rfl rfl rfl) ?_
          refine AG.done (by kernel_rfl) ?_
          refine QW.sub (S' := [(7, _), (8, _), (9, _), (10, _), (12, _), (13, _), (14, _), (15, _), (16, _), (17, _), (119, _)]) ⟨rfl, rfl, rfl, rfl, rfl, rfl, rfl, rfl, rfl, rfl, rfl, trivial⟩ ?_
          refine QW.then_ ?_
          refine CW.condF rfl ?_
          refine CW.skip ?_
          refine QW.blockN ?_
          refine QW.then_ ?_
          refine CW.region ?_
          refine RG.vl rfl rfl rfl (Ev.move rfl rfl) ?_
          refine RG.vl rfl rfl rfl (Ev.addI rfl rfl rfl (by omega)) ?_
          refine RG.vl rfl rfl rfl (Ev.assign rfl rfl) ?_
          refine RG.done ?_
          refine QW.round1 (b + 1) ⟨rfl, trivial⟩ ⟨rfl, rfl, rfl, rfl, rfl, rfl, rfl, rfl, rfl, trivial⟩ ⟨by omega, hxwl32⟩ (by omega)
      · refine CW.exit ?_
        refine QW.thenExit ?_
        refine QW.thenExit ?_
        refine QW.blockHit ?_
        refine QW.then_ ?_
        refine CW.seq ?_
        refine CW.seq ?_
        refine CW.region ?_
        refine RG.vl rfl rfl rfl (Ev.move rfl rfl) ?_
        refine RG.vl rfl rfl rfl (Ev.move rfl rfl) ?_
        refine RG.vl rfl rfl rfl (Ev.lenStr rfl rfl rfl Tryd.underlying9) ?_
        refine RG.vl rfl rfl rfl (Ev.eqI rfl rfl rfl) ?_
        refine RG.done ?_
        refine QW.then_ ?_
        refine CW.condP rfl (fun hc46 => ?_) (fun hc46 => ?_)
        · refine CW.exit ?_
          refine QW.thenExit ?_
          refine QW.blockMiss rfl ?_
          refine QW.thenExit ?_
          refine QW.thenExit ?_
          refine QW.blockHit ?_
          refine QW.then_ ?_
          refine CW.seq ?_
          refine CW.region ?_
          refine RG.call rfl rfl rfl rfl rfl rfl rfl en_12 (awake_ret _) ?_
          rintro _ w47 ⟨rfl, hx47⟩
          replace hxwl32 := Ex.tr hxwl32 hx47
          have hE48 := hx47
          refine RG.vl rfl rfl rfl (Ev.assign rfl rfl) ?_
          refine RG.done ?_
          refine QW.then_ ?_
          refine CW.ret ?_
          refine QW.ret1 rfl rfl ?_
          have hB := (Ex.tr hR25 hxwl32)
          exact ⟨rfl, hB⟩
        · refine CW.skip ?_
          refine QW.then_ ?_
          refine CW.seq ?_
          obtain ⟨i, hi⟩ : ∃ i, D.length - 1 - p = i + 1 := ⟨D.length - 2 - p, by omega⟩
          obtain ⟨y, hy⟩ : ∃ y, T[i]? = some y := ⟨_, List.getElem?_eq_getElem (by omega)⟩
          have hx' : T[i + 1]? = some x := by rw [← hi]; exact hx
          have hdy := chk_dig hck hy (by omega)
          have hvy := valC_dig hdy
          have hw2 := wt_b1 hwb h1 (p + 1 + 1)
          refine CW.draw [] (.ex) 17 rfl mixed (fun wd49 hxwd49 => ?_)
          replace hxwl32 := Ex.tr hxwl32 hxwd49
          have hE50 := hxwd49
          refine AG.takeW 0 rfl (by kernel_rfl) (by kernel_rfl) rfl rfl rfl (fun _ => Ev.fld rfl rfl fld_24_1) ?_
          refine AG.take 1 rfl (by kernel_rfl) (by kernel_rfl) rfl rfl rfl (fun wq hq => Ev.ldAt rfl rfl Tryd.underlying22 rfl (((hb3.ext hxwl32).ext hq).cells) (rfl)) ?_
          refine AG.takeW 2 rfl (by kernel_rfl) (by kernel_rfl) rfl rfl rfl (fun _ => Ev.move rfl rfl) ?_
          refine AG.takeW 3 rfl (by kernel_rfl) (by kernel_rfl) rfl rfl rfl (fun _ => Ev.fld rfl rfl fld_24_1) ?_
          refine AG.take 4 rfl (by kernel_rfl) (by kernel_rfl) rfl rfl rfl (fun wq hq => Ev.ldAt rfl rfl Tryd.underlying22 rfl (((hb3.ext hxwl32).ext hq).cells) (rfl)) ?_
          refine AG.takeW 5 rfl (by kernel_rfl) (by kernel_rfl) rfl rfl rfl (fun _ => Ev.lenL rfl rfl rfl Tryd.underlying22 ((hws.ext hxwl32))) ?_
          refine AG.takeW 6 rfl (by kernel_rfl) (by kernel_rfl) rfl rfl rfl (fun _ => (Ev.remI rfl rfl rfl (by omega)).conv (congrArg (Value.int .i64) (show ((p + 1 : Nat) : Int) % (ws.length : Int) = (((p + 1) % ws.length : Nat) : Int) by rw [Int.natCast_emod]))) ?_
          refine AG.idxL _ 7 rfl (by kernel_rfl) (by kernel_rfl) rfl rfl rfl rfl rfl rfl Tryd.underlying22 sz_3 ((hws.ext hxwl32)) (wt_at1 h1 (p + 1)) (fun p51 hp51b hp51 => ?_)
          refine AG.take 8 rfl (by kernel_rfl) (by kernel_rfl) rfl rfl rfl (fun wq hq => Ev.ld0 rfl rfl Tryd.underlying3 rfl (hp51.ext hq hp51b) (rfl)) ?_
          refine AG.takeW 9 rfl (by kernel_rfl) (by kernel_rfl) rfl rfl rfl (fun _ => Ev.move rfl rfl) ?_
          refine AG.takeW 10 rfl (by kernel_rfl) (by kernel_rfl) rfl rfl rfl (fun _ => Ev.move rfl rfl) ?_
          refine AG.takeW 11 rfl (by kernel_rfl) (by kernel_rfl) rfl rfl rfl (fun _ => (Ev.subI rfl rfl rfl (by omega)).conv (congrArg (Value.int .i64) (show ((D.length - 1 - p : Nat) : Int) - 1 = ((i : Nat) : Int) by omega))) ?_
          refine AG.takeW 12 rfl (by kernel_rfl) (by kernel_rfl) rfl rfl rfl (fun _ => Ev.byteAt rfl rfl rfl Tryd.underlying9 (by omega) (hy)) ?_
          refine AG.takeW 13 rfl (by kernel_rfl) (by kernel_rfl) rfl rfl rfl (fun _ => (Ev.sub8 rfl rfl rfl (by omega)).conv (congrArg (Value.int .u8) (show (y.toNat : Int) - 48 = ((valC y : Nat) : Int) from (valC_dig hdy).2.symm))) ?_
          refine AG.takeW 14 rfl (by kernel_rfl) (by kernel_rfl) rfl rfl rfl (fun _ => Ev.to64 rfl rfl Tryd.underlying5 Tryd.underlying3 (by omega)) ?_
          refine AG.takeW 15 rfl (by kernel_rfl) (by kernel_rfl) rfl rfl rfl (fun _ => Ev.assign rfl rfl) ?_
          refine AG.takeW 16 rfl (by kernel_rfl) (by kernel_rfl) rfl rfl rfl (fun _ => Ev.assign rfl rfl) ?_
          refine AG.done (by kernel_rfl) ?_
          refine QW.sub (S' := [(7, _), (8, _), (9, _), (10, _), (12, _), (13, _), (14, _), (15, _), (16, _), (19, _), (20, _)]) ⟨rfl, rfl, rfl, rfl, rfl, rfl, rfl, rfl, rfl, rfl, rfl, trivial⟩ ?_
          refine QW.then_ ?_
          refine CW.seq ?_
          have hmb := mul_bb (x := wt ws (p + 1) - wt ws (p + 1 + 1)) (y := (valC x : Int) - (valC y : Int)) (by omega) (by omega) (by omega) (by omega)
          refine CW.region ?_
          refine RG.vl rfl rfl rfl (Ev.move rfl rfl) ?_
          refine RG.vl rfl rfl rfl (Ev.move rfl rfl) ?_
          refine RG.vl rfl rfl rfl (Ev.subI rfl rfl rfl (by omega)) ?_
          refine RG.vl rfl rfl rfl (Ev.move rfl rfl) ?_
          refine RG.vl rfl rfl rfl (Ev.move rfl rfl) ?_
          refine RG.vl rfl rfl rfl (Ev.subI rfl rfl rfl (by omega)) ?_
          refine RG.vl rfl rfl rfl (Ev.mulI rfl rfl rfl (by omega)) ?_
          refine RG.vl rfl rfl rfl (Ev.move rfl rfl) ?_
          refine RG.vl rfl rfl rfl (Ev.remT rfl rfl rfl (by decide)) ?_
          refine RG.vl rfl rfl rfl (Ev.eqI rfl rfl rfl) ?_
          refine RG.vl rfl rfl rfl (Ev.assign rfl rfl) ?_
          refine RG.done ?_
          refine QW.then_ ?_
          refine CW.seq ?_
          refine CW.draw [] (.ex) 22 rfl mixed (fun wd52 hxwd52 => ?_)
          replace hxwl32 := Ex.tr hxwl32 hxwd52
          replace hE50 := Ex.tr hE50 hxwd52
          have hE53 := hxwd52
          refine AG.take 0 rfl (by kernel_rfl) (by kernel_rfl) rfl rfl rfl (fun wq hq => Ev.ldAgg rfl rfl Tryd.underlying24 rfl sz_24 rfl (((hb3.ext hxwl32).ext hq).cells)) ?_
          refine AG.takeW 1 rfl (by kernel_rfl) (by kernel_rfl) rfl rfl rfl (fun _ => Ev.move rfl rfl) ?_
          refine AG.takeW 2 rfl (by kernel_rfl) (by kernel_rfl) rfl rfl rfl (fun _ => Ev.move rfl rfl) ?_
          refine AG.takeW 3 rfl (by kernel_rfl) (by kernel_rfl) rfl rfl rfl (fun _ => (Ev.subI rfl rfl rfl (by omega)).conv (congrArg (Value.int .i64) (show ((D.length - 1 - p : Nat) : Int) - 1 = ((i : Nat) : Int) by omega))) ?_
          refine AG.takeW 6 rfl (by kernel_rfl) (by kernel_rfl) rfl rfl rfl (fun _ => Ev.move rfl rfl) ?_
          refine AG.only 4 rfl (by kernel_rfl) ?_
          refine RG.call rfl rfl rfl rfl rfl rfl rfl en_28 (exch_ret T i y x _ hy hx' (by omega)) ?_
          rintro _ w55 ⟨rfl, hx55⟩
          replace hxwl32 := Ex.tr hxwl32 hx55
          replace hE50 := Ex.tr hE50 hx55
          replace hE53 := Ex.tr hE53 hx55
          have hE56 := hx55
          refine RG.done ?_
          refine QW.an (fun _ => hE56) ?_
          refine AG.only 5 rfl (by kernel_rfl) ?_
          refine RG.call rfl rfl rfl rfl rfl rfl rfl en_26 (Pss_is (k := 1) (ws := ws) (hws.ext hxwl32) hwl (by rw [List.length_set, List.length_set]; omega) (by rw [err_swap hr hck hpp (by omega) hy hx' hdy hdx, show T.length - 2 - i = p + 1 by omega])) ?_
          rintro _ w58 ⟨rfl, hx58⟩
          replace hxwl32 := Ex.tr hxwl32 hx58
          replace hE50 := Ex.tr hE50 hx58
          replace hE53 := Ex.tr hE53 hx58
          replace hE56 := Ex.tr hE56 hx58
          have hE59 := hx58
          refine RG.done ?_
          refine QW.an (fun _ => hE59) ?_
          refine AG.takeW 7 rfl (by kernel_rfl) (by kernel_rfl) rfl rfl rfl (fun _ => Ev.isF (Ev.neB rfl rfl rfl Tryd.underlying4) (fun h => h (by rw [exch_1]))) ?_
          refine AG.takeW 8 rfl (by kernel_rfl) (by kernel_rfl) rfl rfl rfl (fun _ => Ev.move rfl rfl) ?_
          refine AG.takeW 9 rfl (by kernel_rfl) (by kernel_rfl) rfl rfl rfl (fun _ => Ev.move rfl rfl) ?_
          refine AG.takeW 10 rfl (by kernel_rfl) (by kernel_rfl) rfl rfl rfl (fun _ => Ev.move rfl rfl) ?_
          refine AG.takeW 11 rfl (by kernel_rfl) (by kernel_rfl) rfl rfl rfl (fun _ => Ev.neI rfl rfl rfl) ?_
          refine AG.takeW 12 rfl (by kernel_rfl) (by kernel_rfl) rfl rfl rfl (fun _ => Ev.move rfl rfl) ?_
          refine AG.split (d := 161) rfl (fun hg60 => ?_) (fun hg60 => ?_)
          · refine AG.takeW 13 rfl (by kernel_rfl) (by kernel_rfl) rfl rfl rfl (fun _ => Ev.move rfl rfl) ?_
            refine AG.takeW 14 rfl (by kernel_rfl) (by kernel_rfl) rfl rfl rfl (fun _ => Ev.move rfl rfl) ?_
            refine AG.takeW 15 rfl (by kernel_rfl) (by kernel_rfl) rfl rfl rfl (fun _ => Ev.move rfl rfl) ?_
            refine AG.takeW 16 rfl (by kernel_rfl) (by kernel_rfl) rfl rfl rfl (fun _ => Ev.move rfl rfl) ?_
            refine AG.takeW 18 rfl (by kernel_rfl) (by kernel_rfl) rfl rfl rfl (fun _ => Ev.move rfl rfl) ?_
            refine AG.only 17 rfl (by kernel_rfl) ?_
            refine RG.call rfl rfl rfl rfl rfl rfl rfl en_30 (has_ret _ L true (p + 1) (valC x) (valC y) _ (Own.rdl (Own.ext hm13 hxwl32) encM_len) (by omega)) ?_
            rintro _ w62 ⟨rfl, hx62⟩
            replace hxwl32 := Ex.tr hxwl32 hx62
            replace hE50 := Ex.tr hE50 hx62
            replace hE53 := Ex.tr hE53 hx62
            replace hE56 := Ex.tr hE56 hx62
            replace hE59 := Ex.tr hE59 hx62
            have hE63 := hx62
            refine RG.done ?_
            refine QW.an (fun _ => hE63) ?_
            refine AG.takeW 19 rfl (by kernel_rfl) (by kernel_rfl) rfl rfl rfl (fun _ => Ev.isF (Ev.neB rfl rfl rfl Tryd.underlying4) (fun h => h (by rw [← hML, has_two hr (by omega) (by omega) (by omega) (by omega) (by omega) (by omega), exch_1]))) ?_
            refine AG.takeW 20 rfl (by kernel_rfl) (by kernel_rfl) rfl rfl rfl (fun _ => Ev.pickT rfl rfl rfl) ?_
            refine AG.takeW 21 rfl (by kernel_rfl) (by kernel_rfl) rfl rfl rfl (fun _ => Ev.pickF rfl rfl rfl) ?_
            refine AG.done (by kernel_rfl) ?_
            refine QW.sub (S' := [(7, _), (8, _), (9, _), (10, _), (12, _), (13, _), (170, _)]) ⟨rfl, rfl, rfl, rfl, rfl, rfl, rfl, trivial⟩ ?_
            refine QW.then_ ?_
            refine CW.condF rfl ?_
            refine CW.skip ?_
            refine QW.blockN ?_
            refine QW.then_ ?_
            refine CW.region ?_
            refine RG.vl rfl rfl rfl (Ev.move rfl rfl) ?_
            refine RG.vl rfl rfl rfl (Ev.addI rfl rfl rfl (by omega)) ?_
            refine RG.vl rfl rfl rfl (Ev.assign rfl rfl) ?_
            refine RG.done ?_
            refine QW.round1 (p + 1) ⟨rfl, trivial⟩ ⟨rfl, rfl, rfl, rfl, rfl, trivial⟩ ⟨by omega, (Ex.tr hR30 hxwl32)⟩ (by omega)
          · refine AG.pass 13 rfl (by kernel_rfl) (by kernel_rfl) rfl rfl rfl ?_
            refine AG.pass 14 rfl (by kernel_rfl) (by kernel_rfl) rfl rfl rfl ?_
            refine AG.pass 15 rfl (by kernel_rfl) (by kernel_rfl) rfl rfl rfl ?_
            refine AG.pass 16 rfl (by kernel_rfl) (by kernel_rfl) rfl rfl rfl ?_
            refine AG.pass 17 rfl (by kernel_rfl) (by kernel_rfl) rfl rfl rfl ?_
            refine AG.pass 18 rfl (by kernel_rfl) (by kernel_rfl) rfl rfl rfl ?_
            refine AG.pass 19 rfl (by kernel_rfl) (by kernel_rfl) rfl rfl rfl ?_
            refine AG.takeW 20 rfl (by kernel_rfl) (by kernel_rfl) rfl rfl rfl (fun _ => Ev.pickF rfl rfl rfl) ?_
            refine AG.takeW 21 rfl (by kernel_rfl) (by kernel_rfl) rfl rfl rfl (fun _ => Ev.pickF rfl rfl rfl) ?_
            refine AG.done (by kernel_rfl) ?_
            refine QW.sub (S' := [(7, _), (8, _), (9, _), (10, _), (12, _), (13, _), (170, _)]) ⟨rfl, rfl, rfl, rfl, rfl, rfl, rfl, trivial⟩ ?_
            refine QW.then_ ?_
            refine CW.condF rfl ?_
            refine CW.skip ?_
            refine QW.blockN ?_
            refine QW.then_ ?_
            refine CW.region ?_
            refine RG.vl rfl rfl rfl (Ev.move rfl rfl) ?_
            refine RG.vl rfl rfl rfl (Ev.addI rfl rfl rfl (by omega)) ?_
            refine RG.vl rfl rfl rfl (Ev.assign rfl rfl) ?_
            refine RG.done ?_
            refine QW.round1 (p + 1) ⟨rfl, trivial⟩ ⟨rfl, rfl, rfl, rfl, rfl, trivial⟩ ⟨by omega, (Ex.tr hR30 hxwl32)⟩ (by omega)
    · refine CW.exit ?_
      refine QW.thenExit ?_
      refine QW.thenExit ?_
      refine QW.blockHit ?_
      refine QW.then_ ?_
      refine CW.seq ?_
      refine CW.region ?_
      refine RG.call rfl rfl rfl rfl rfl rfl rfl en_12 (awake_ret _) ?_
      rintro _ w64 ⟨rfl, hx64⟩
      replace hxwl20 := Ex.tr hxwl20 hx64
      have hE65 := hx64
      refine RG.vl rfl rfl rfl (Ev.assign rfl rfl) ?_
      refine RG.done ?_
      refine QW.then_ ?_
      refine CW.ret ?_
      refine QW.ret1 rfl rfl ?_
      have hB := (Ex.tr hR15 hxwl20)
      exact ⟨rfl, hB⟩
  · refine CW.region ?_
    refine RG.vl rfl rfl rfl (Ev.move rfl rfl) ?_
    refine RG.vl rfl rfl rfl (Ev.move rfl rfl) ?_
    refine RG.call rfl rfl rfl rfl rfl rfl rfl en_29 (weighted_ret true _ m _ hm) ?_
    rintro _ w66 ⟨ws, wv, rfl, hws, hwr, hx66⟩
    have hE67 := hx66
    replace hws := Own.rdl hws encI_len
    obtain ⟨wA, wC, rfl⟩ := hws.shape
    have hr : rightD 2 ws = true := hwr
    have hwl : ws.length ≤ 100000 := right_len10 hr
    have h1 := (right_ws hr (by omega)).1
    have hwb := right_ws10 hr (by omega)
    refine RG.local_ rfl rfl rfl rfl (fun _ => rfl) rfl rfl (fun _ => rfl) inf_24 rfl rfl rfl (fun g68 w68 eg68 hx68 hb68 => ?_)
    have hle69 : w.heap.size ≤ g68 := by have := hE67.size; omega
    have hle70 : w66.heap.size ≤ g68 := by have := (Ex.rfl_ w66).size; omega
    replace hE67 := Ex.tr hE67 hx68
    have hE71 := hx68
    refine RG.done ?_
    refine QW.then_ ?_
    refine CW.seq ?_
    refine CW.region ?_
    refine RG.vl rfl rfl rfl (Ev.assign rfl rfl) ?_
    refine RG.done ?_
    refine QW.then_ ?_
    refine CW.seq ?_
    refine CW.seq ?_
    refine CW.region ?_
    refine RG.vl rfl rfl rfl (Ev.move rfl rfl) ?_
    refine RG.done ?_
    refine QW.then_ ?_
    refine CW.condT rfl ?_
    refine CW.region ?_
    refine RG.vl rfl rfl rfl (Ev.assign rfl rfl) ?_
    refine RG.done ?_
    refine QW.then_ ?_
    refine CW.seq ?_
    refine CW.region ?_
    refine RG.vl rfl rfl rfl (Ev.move rfl rfl) ?_
    refine RG.call rfl rfl rfl rfl rfl rfl rfl en_19 (payload_ret _ l _ (hl.ext hE67)) ?_
    rintro _ w72 ⟨rfl, hx72⟩
    replace hE67 := Ex.tr hE67 hx72
    replace hE71 := Ex.tr hE71 hx72
    have hE73 := hx72
    refine RG.vl rfl rfl rfl (Ev.assign rfl rfl) ?_
    refine RG.done ?_
    refine QW.then_ ?_
    refine CW.seq ?_
    obtain ⟨hD1, hD2⟩ := payL_len l
    have hDp := payL_pay l
    generalize payL l = D at *
    obtain ⟨hap, hck, hpp⟩ := append_pay hr hDp hD2
    have hTl := apT_len 2 ws D
    generalize apT 2 ws D = T at *
    have hTs := sbytes T
    have hDs := sbytes D
    have hMi := miss_is hr hD1 hD2
    have hMl := missL_len 2 ws hD2
    generalize hML : missL 2 ws D.length = L at *
    refine CW.region ?_
    refine RG.vl rfl rfl rfl (Ev.ldAgg rfl rfl Tryd.underlying24 rfl sz_24 rfl ((hb68.ext hE73).cells)) ?_
    refine RG.vl rfl rfl rfl (Ev.move rfl rfl) ?_
    refine RG.call rfl rfl rfl rfl rfl rfl rfl en_25 (Append_is (k := 2) (ws := ws) (hws.ext hE71) hwl (by omega) (hap)) ?_
    rintro _ w74 ⟨rfl, hx74⟩
    replace hE67 := Ex.tr hE67 hx74
    replace hE71 := Ex.tr hE71 hx74
    replace hE73 := Ex.tr hE73 hx74
    have hE75 := hx74
    refine RG.vl rfl rfl rfl (Ev.move rfl rfl) ?_
    refine RG.vl rfl rfl rfl (Ev.extract rfl rfl rfl) ?_
    refine RG.vl rfl rfl rfl (Ev.extract rfl rfl rfl) ?_
    refine RG.vl rfl rfl rfl (Ev.assign rfl rfl) ?_
    refine RG.vl rfl rfl rfl (Ev.assign rfl rfl) ?_
    refine RG.done ?_
    refine QW.sub (S' := [(6, _), (7, _), (8, _), (9, _), (10, _), (11, _)]) ⟨rfl, rfl, rfl, rfl, rfl, rfl, trivial⟩ ?_
    refine QW.then_ ?_
    refine CW.seq ?_
    refine CW.seq ?_
    refine CW.region ?_
    refine RG.vl rfl rfl rfl (Ev.move rfl rfl) ?_
    refine RG.vl rfl rfl rfl (Ev.isF (Ev.neI rfl rfl rfl) (fun h => h rfl)) ?_
    refine RG.vl rfl rfl rfl (Ev.move rfl rfl) ?_
    refine RG.vl rfl rfl rfl (Ev.move rfl rfl) ?_
    refine RG.vl rfl rfl rfl (Ev.lenStr rfl rfl rfl Tryd.underlying9) ?_
    refine RG.vl rfl rfl rfl (Ev.move rfl rfl) ?_
    refine RG.vl rfl rfl rfl (Ev.lenStr rfl rfl rfl Tryd.underlying9) ?_
    refine RG.vl rfl rfl rfl (Ev.addI rfl rfl rfl (by omega)) ?_
    refine RG.vl rfl rfl rfl (Ev.isF (Ev.neI rfl rfl rfl) (by omega)) ?_
    refine RG.vl rfl rfl rfl (Ev.pickF rfl rfl rfl) ?_
    refine RG.vl rfl rfl rfl (Ev.move rfl rfl) ?_
    refine RG.vl rfl rfl rfl (Ev.ldAgg rfl rfl Tryd.underlying24 rfl sz_24 rfl ((hb68.ext hE73).cells)) ?_
    refine RG.vl rfl rfl rfl (Ev.move rfl rfl) ?_
    refine RG.call rfl rfl rfl rfl rfl rfl rfl en_26 (Pss_is (k := 2) (ws := ws) (hws.ext hE71) hwl (by omega) (by rw [test_chk hr (by omega) hck, hpp])) ?_
    rintro _ w76 ⟨rfl, hx76⟩
    replace hE67 := Ex.tr hE67 hx76
    replace hE71 := Ex.tr hE71 hx76
    replace hE73 := Ex.tr hE73 hx76
    replace hE75 := Ex.tr hE75 hx76
    have hE77 := hx76
    refine RG.vl rfl rfl rfl (Ev.notF rfl rfl) ?_
    refine RG.vl rfl rfl rfl (Ev.pickF rfl rfl rfl) ?_
    refine RG.done ?_
    refine QW.sub (S' := [(6, _), (7, _), (8, _), (9, _), (10, _), (11, _), (49, _)]) ⟨rfl, rfl, rfl, rfl, rfl, rfl, rfl, trivial⟩ ?_
    refine QW.then_ ?_
    refine CW.condF rfl ?_
    refine CW.skip ?_
    refine QW.then_ ?_
    refine CW.seq ?_
    refine CW.region ?_
    refine RG.vl rfl rfl rfl (Ev.ldAgg rfl rfl Tryd.underlying24 rfl sz_24 rfl ((hb68.ext hE73).cells)) ?_
    refine RG.vl rfl rfl rfl (Ev.move rfl rfl) ?_
    refine RG.vl rfl rfl rfl (Ev.lenStr rfl rfl rfl Tryd.underlying9) ?_
    refine RG.call rfl rfl rfl rfl rfl rfl rfl en_15 (Misses_is (k := 2) (ws := ws) (hws.ext hE71) hwl (hMi)) ?_
    have hpre78 := (Ex.tr hB0 hE67)
    rintro _ w78 ⟨r78, rfl, hm78, hx78⟩
    replace hE67 := Ex.tr hE67 hx78
    replace hE71 := Ex.tr hE71 hx78
    replace hE73 := Ex.tr hE73 hx78
    replace hE75 := Ex.tr hE75 hx78
    replace hE77 := Ex.tr hE77 hx78
    have hE79 := hx78
    refine RG.vl rfl rfl rfl (Ev.move rfl rfl) ?_
    refine RG.vl rfl rfl rfl (Ev.extract rfl rfl rfl) ?_
    refine RG.vl rfl rfl rfl (Ev.extract rfl rfl rfl) ?_
    refine RG.vl rfl rfl rfl (Ev.assign rfl rfl) ?_
    refine RG.vl rfl rfl rfl (Ev.assign rfl rfl) ?_
    refine RG.done ?_
    refine QW.then_ ?_
    refine CW.seq ?_
    refine CW.seq ?_
    refine CW.region ?_
    refine RG.vl rfl rfl rfl (Ev.move rfl rfl) ?_
    refine RG.vl rfl rfl rfl (Ev.isF (Ev.neI rfl rfl rfl) (fun h => h rfl)) ?_
    refine RG.done ?_
    refine QW.then_ ?_
    refine CW.condF rfl ?_
    refine CW.skip ?_
    refine QW.then_ ?_
    refine CW.seq ?_
    refine CW.seq ?_
    refine CW.region ?_
    refine RG.vl rfl rfl rfl (Ev.assign rfl rfl) ?_
    refine RG.done ?_
    refine QW.then_ ?_
    refine CW.block ?_
    replace hm := (hm.ext hE67)
    replace hl := (hl.ext hE67)
    replace hws := (hws.ext hE71)
    replace hb68 := (hb68.ext hE73)
    have hR80 := (Ex.tr hB0 hE67)
    have hR81 := hE73
    have hR82 := hE75
    have hR83 := hE77
    have hR84 := hE79
    refine CW.loop1 [(7, _), (8, _), (9, _), (10, _), (12, _)] ⟨rfl, rfl, rfl, rfl, rfl, trivial⟩ (fun (p : Nat) => [(13, .int .i64 ((p + 1 : Nat) : Int))]) (fun p w' => (p ≤ D.length) ∧ Ex w78 w') (fun p => D.length - p) (0) ⟨rfl, trivial⟩ ⟨by omega, (Ex.rfl_ _)⟩ ?_
    rintro p wl85 ⟨hp, hxwl85⟩
    refine CW.sub (S' := [(13, _), (7, _), (8, _), (9, _), (10, _), (12, _)]) ⟨rfl, rfl, rfl, rfl, rfl, rfl, trivial⟩ ?_
    refine CW.seq ?_
    refine CW.seq ?_
    refine CW.region ?_
    refine RG.vl rfl rfl rfl (Ev.move rfl rfl) ?_
    refine RG.vl rfl rfl rfl (Ev.move rfl rfl) ?_
    refine RG.vl rfl rfl rfl (Ev.lenStr rfl rfl rfl Tryd.underlying9) ?_
    refine RG.vl rfl rfl rfl (Ev.leq rfl rfl rfl) ?_
    refine RG.done ?_
    refine QW.then_ ?_
    refine CW.condP rfl (fun hc86 => ?_) (fun hc86 => ?_)
    · refine CW.skip ?_
      refine QW.then_ ?_
      refine CW.seq ?_
      refine CW.block ?_
      refine CW.seq ?_
      obtain ⟨x, hx⟩ : ∃ x, T[D.length - 1 - p]? = some x := ⟨_, List.getElem?_eq_getElem (by omega)⟩
      have hdx := chk_dig hck hx (by omega)
      have hvx := valC_dig hdx
      have hw1 := wt_b1 hwb h1 (p + 1)
      refine CW.region ?_
      refine RG.vl rfl rfl rfl (Ev.move rfl rfl) ?_
      refine RG.vl rfl rfl rfl (Ev.lenStr rfl rfl rfl Tryd.underlying9) ?_
      refine RG.vl rfl rfl rfl (Ev.move rfl rfl) ?_
      refine RG.vl rfl rfl rfl ((Ev.subI rfl rfl rfl (by omega)).conv (congrArg (Value.int .i64) (show (⟨D.toArray⟩ : ByteArray).size - ((p + 1 : Nat) : Int) = ((D.length - 1 - p : Nat) : Int) by omega))) ?_
      refine RG.vl rfl rfl rfl (Ev.assign rfl rfl) ?_
      refine RG.done ?_
      refine QW.then_ ?_
      refine CW.seq ?_
      refine CW.draw [] (.ex) 17 rfl mixed (fun wd87 hxwd87 => ?_)
      replace hxwl85 := Ex.tr hxwl85 hxwd87
      have hE88 := hxwd87
      refine AG.takeW 0 rfl (by kernel_rfl) (by kernel_rfl) rfl rfl rfl (fun _ => Ev.fld rfl rfl fld_24_1) ?_
      refine AG.take 1 rfl (by kernel_rfl) (by kernel_rfl) rfl rfl rfl (fun wq hq => Ev.ldAt rfl rfl Tryd.underlying22 rfl (((hb68.ext hxwl85).ext hq).cells) (rfl)) ?_
      refine AG.takeW 2 rfl (by kernel_rfl) (by kernel_rfl) rfl rfl rfl (fun _ => Ev.move rfl rfl) ?_
      refine AG.takeW 3 rfl (by kernel_rfl) (by kernel_rfl) rfl rfl rfl (fun _ => (Ev.subI rfl rfl rfl (by omega)).conv (congrArg (Value.int .i64) (show ((p + 1 : Nat) : Int) - 1 = ((p : Nat) : Int) by omega))) ?_
      refine AG.takeW 4 rfl (by kernel_rfl) (by kernel_rfl) rfl rfl rfl (fun _ => Ev.fld rfl rfl fld_24_1) ?_
      refine AG.take 5 rfl (by kernel_rfl) (by kernel_rfl) rfl rfl rfl (fun wq hq => Ev.ldAt rfl rfl Tryd.underlying22 rfl (((hb68.ext hxwl85).ext hq).cells) (rfl)) ?_
      refine AG.takeW 6 rfl (by kernel_rfl) (by kernel_rfl) rfl rfl rfl (fun _ => Ev.lenL rfl rfl rfl Tryd.underlying22 ((hws.ext hxwl85))) ?_
      refine AG.takeW 7 rfl (by kernel_rfl) (by kernel_rfl) rfl rfl rfl (fun _ => (Ev.remI rfl rfl rfl (by omega)).conv (congrArg (Value.int .i64) (show (p : Int) % (ws.length : Int) = ((p % ws.length : Nat) : Int) by rw [Int.natCast_emod]))) ?_
      refine AG.idxL _ 8 rfl (by kernel_rfl) (by kernel_rfl) rfl rfl rfl rfl rfl rfl Tryd.underlying22 sz_3 ((hws.ext hxwl85)) (wt_at1 h1 p) (fun p89 hp89b hp89 => ?_)
      refine AG.take 9 rfl (by kernel_rfl) (by kernel_rfl) rfl rfl rfl (fun wq hq => Ev.ld0 rfl rfl Tryd.underlying3 rfl (hp89.ext hq hp89b) (rfl)) ?_
      refine AG.takeW 10 rfl (by kernel_rfl) (by kernel_rfl) rfl rfl rfl (fun _ => Ev.move rfl rfl) ?_
      refine AG.takeW 11 rfl (by kernel_rfl) (by kernel_rfl) rfl rfl rfl (fun _ => Ev.move rfl rfl) ?_
      refine AG.takeW 12 rfl (by kernel_rfl) (by kernel_rfl) rfl rfl rfl (fun _ => Ev.byteAt rfl rfl rfl Tryd.underlying9 (by omega) (hx)) ?_
      refine AG.takeW 13 rfl (by kernel_rfl) (by kernel_rfl) rfl rfl rfl (fun _ => (Ev.sub8 rfl rfl rfl (by omega)).conv (congrArg (Value.int .u8) (show (x.toNat : Int) - 48 = ((valC x : Nat) : Int) from (valC_dig hdx).2.symm))) ?_
      refine AG.takeW 14 rfl (by kernel_rfl) (by kernel_rfl) rfl rfl rfl (fun _ => Ev.to64 rfl rfl Tryd.underlying5 Tryd.underlying3 (by omega)) ?_
      refine AG.takeW 15 rfl (by kernel_rfl) (by kernel_rfl) rfl rfl rfl (fun _ => Ev.assign rfl rfl) ?_
      refine AG.takeW 16 rfl (by kernel_rfl) (by kernel_rfl) rfl rfl rfl (fun _ => Ev.assign rfl rfl) ?_
      refine AG.done (by kernel_rfl) ?_
      refine QW.sub (S' := [(7, _), (8, _), (9, _), (10, _), (12, _), (13, _), (14, _), (15, _), (16, _)]) ⟨rfl, rfl, rfl, rfl, rfl, rfl, rfl, rfl, rfl, trivial⟩ ?_
      refine QW.then_ ?_
      refine CW.seq ?_
      refine CW.seq ?_
      refine CW.region ?_
      refine RG.vl rfl rfl rfl (Ev.assign rfl rfl) ?_
      refine RG.done ?_
      refine QW.then_ ?_
      refine CW.block ?_
      replace hm := (hm.ext hxwl85)
      replace hl := (hl.ext hxwl85)
      replace hws := (hws.ext hxwl85)
      replace hb68 := (hb68.ext hxwl85)
      replace hm78 := (Own.ext hm78 hxwl85)
      have hR90 := (Ex.tr hR80 hxwl85)
      have hR91 := (Ex.tr hR81 hxwl85)
      have hR92 := (Ex.tr hR82 hxwl85)
      have hR93 := (Ex.tr hR83 hxwl85)
      have hR94 := (Ex.tr hR84 hxwl85)
      have hR95 := hxwl85
      have hR96 := hE88
      refine CW.loop1 [(7, _), (8, _), (9, _), (10, _), (12, _), (13, _), (14, _), (15, _), (16, _)] ⟨rfl, rfl, rfl, rfl, rfl, rfl, rfl, rfl, rfl, trivial⟩ (fun (b : Nat) => [(17, .int .i64 (b : Int))]) (fun b w' => (b ≤ 10) ∧ Ex wd87 w') (fun b => 10 - b) (0) ⟨rfl, trivial⟩ ⟨by omega, (Ex.rfl_ _)⟩ ?_
      rintro b wl97 ⟨hb10, hxwl97⟩
      refine CW.sub (S' := [(17, _), (7, _), (8, _), (9, _), (10, _), (12, _), (13, _), (14, _), (15, _), (16, _)]) ⟨rfl, rfl, rfl, rfl, rfl, rfl, rfl, rfl, rfl, rfl, trivial⟩ ?_
      refine CW.seq ?_
      refine CW.seq ?_
      refine CW.region ?_
      refine RG.vl rfl rfl rfl (Ev.move rfl rfl) ?_
      refine RG.vl rfl rfl rfl (Ev.lss rfl rfl rfl) ?_
      refine RG.done ?_
      refine QW.then_ ?_
      refine CW.condP rfl (fun hc98 => ?_) (fun hc98 => ?_)
      · refine CW.skip ?_
        refine QW.then_ ?_
        refine CW.seq ?_
        refine CW.block ?_
        refine CW.seq ?_
        have hmb := mul_bb (x := wt ws (p + 1)) (y := (valC x : Int) - b) (by omega) (by omega) (by omega) (by omega)
        have hcb := chr_nat (i := b) (by omega)
        refine CW.region ?_
        refine RG.vl rfl rfl rfl (Ev.move rfl rfl) ?_
        refine RG.vl rfl rfl rfl (Ev.move rfl rfl) ?_
        refine RG.vl rfl rfl rfl (Ev.move rfl rfl) ?_
        refine RG.vl rfl rfl rfl (Ev.subI rfl rfl rfl (by omega)) ?_
        refine RG.vl rfl rfl rfl (Ev.mulI rfl rfl rfl (by omega)) ?_
        refine RG.vl rfl rfl rfl (Ev.move rfl rfl) ?_
        refine RG.vl rfl rfl rfl (Ev.remT rfl rfl rfl (by decide)) ?_
        refine RG.vl rfl rfl rfl (Ev.eqI rfl rfl rfl) ?_
        refine RG.vl rfl rfl rfl (Ev.assign rfl rfl) ?_
        refine RG.done ?_
        refine QW.then_ ?_
        refine CW.seq ?_
        refine CW.draw [] (.ex) 24 rfl mixed (fun wd99 hxwd99 => ?_)
        replace hxwl97 := Ex.tr hxwl97 hxwd99
        have hE100 := hxwd99
        refine AG.take 0 rfl (by kernel_rfl) (by kernel_rfl) rfl rfl rfl (fun wq hq => Ev.ldAgg rfl rfl Tryd.underlying24 rfl sz_24 rfl (((hb68.ext hxwl97).ext hq).cells)) ?_
        refine AG.takeW 1 rfl (by kernel_rfl) (by kernel_rfl) rfl rfl rfl (fun _ => Ev.move rfl rfl) ?_
        refine AG.takeW 2 rfl (by kernel_rfl) (by kernel_rfl) rfl rfl rfl (fun _ => Ev.move rfl rfl) ?_
        refine AG.takeW 3 rfl (by kernel_rfl) (by kernel_rfl) rfl rfl rfl (fun _ => Ev.move rfl rfl) ?_
        refine AG.takeW 4 rfl (by kernel_rfl) (by kernel_rfl) rfl rfl rfl (fun _ => Ev.addI rfl rfl rfl (by omega)) ?_
        refine AG.takeW 5 rfl (by kernel_rfl) (by kernel_rfl) rfl rfl rfl (fun _ => (Ev.to8 rfl rfl Tryd.underlying3 Tryd.underlying5 (by omega)).conv (congrArg (Value.int .u8) (show 48 + (b : Int) = ((chr b).toNat : Int) by rw [hcb, if_neg (by omega)]))) ?_
        refine AG.takeW 8 rfl (by kernel_rfl) (by kernel_rfl) rfl rfl rfl (fun _ => Ev.move rfl rfl) ?_
        refine AG.only 6 rfl (by kernel_rfl) ?_
        refine RG.call rfl rfl rfl rfl rfl rfl rfl en_27 (put_ret T (D.length - 1 - p) (chr b) _ (by omega) (by omega)) ?_
        rintro _ w102 ⟨rfl, hx102⟩
        replace hxwl97 := Ex.tr hxwl97 hx102
        replace hE100 := Ex.tr hE100 hx102
        have hE103 := hx102
        refine RG.done ?_
        refine QW.an (fun _ => hE103) ?_
        refine AG.only 7 rfl (by kernel_rfl) ?_
        refine RG.call rfl rfl rfl rfl rfl rfl rfl en_26 (Pss_is (k := 2) (ws := ws) (hws.ext hxwl97) hwl (by rw [List.length_set]; omega) (by rw [err_set hr hck hpp (by omega) hx (isDig_chr (by omega)), valC_chr (by omega), show T.length - 1 - (D.length - 1 - p) = p + 1 by omega])) ?_
        rintro _ w105 ⟨rfl, hx105⟩
        replace hxwl97 := Ex.tr hxwl97 hx105
        replace hE100 := Ex.tr hE100 hx105
        replace hE103 := Ex.tr hE103 hx105
        have hE106 := hx105
        refine RG.done ?_
        refine QW.an (fun _ => hE106) ?_
        refine AG.takeW 9 rfl (by kernel_rfl) (by kernel_rfl) rfl rfl rfl (fun _ => Ev.isF (Ev.neB rfl rfl rfl Tryd.underlying4) (fun h => h (by rw [same_2]))) ?_
        refine AG.takeW 10 rfl (by kernel_rfl) (by kernel_rfl) rfl rfl rfl (fun _ => Ev.move rfl rfl) ?_
        refine AG.takeW 11 rfl (by kernel_rfl) (by kernel_rfl) rfl rfl rfl (fun _ => Ev.move rfl rfl) ?_
        refine AG.takeW 12 rfl (by kernel_rfl) (by kernel_rfl) rfl rfl rfl (fun _ => Ev.move rfl rfl) ?_
        refine AG.takeW 13 rfl (by kernel_rfl) (by kernel_rfl) rfl rfl rfl (fun _ => Ev.neI rfl rfl rfl) ?_
        refine AG.takeW 14 rfl (by kernel_rfl) (by kernel_rfl) rfl rfl rfl (fun _ => Ev.move rfl rfl) ?_
        refine AG.split (d := 110) rfl (fun hg107 => ?_) (fun hg107 => ?_)
        · refine AG.takeW 15 rfl (by kernel_rfl) (by kernel_rfl) rfl rfl rfl (fun _ => Ev.move rfl rfl) ?_
          refine AG.takeW 16 rfl (by kernel_rfl) (by kernel_rfl) rfl rfl rfl (fun _ => Ev.move rfl rfl) ?_
          refine AG.takeW 17 rfl (by kernel_rfl) (by kernel_rfl) rfl rfl rfl (fun _ => Ev.move rfl rfl) ?_
          refine AG.takeW 18 rfl (by kernel_rfl) (by kernel_rfl) rfl rfl rfl (fun _ => Ev.move rfl rfl) ?_
          refine AG.takeW 20 rfl (by kernel_rfl) (by kernel_rfl) rfl rfl rfl (fun _ => Ev.move rfl rfl) ?_
          refine AG.only 19 rfl (by kernel_rfl) ?_
          refine RG.call rfl rfl rfl rfl rfl rfl rfl en_30 (has_ret _ L false (p + 1) (valC x) b _ (Own.rdl (Own.ext hm78 hxwl97) encM_len) (by omega)) ?_
          rintro _ w109 ⟨rfl, hx109⟩
          replace hxwl97 := Ex.tr hxwl97 hx109
          replace hE100 := Ex.tr hE100 hx109
          replace hE103 := Ex.tr hE103 hx109
          replace hE106 := Ex.tr hE106 hx109
          have hE110 := hx109
          refine RG.done ?_
          refine QW.an (fun _ => hE110) ?_
          refine AG.takeW 21 rfl (by kernel_rfl) (by kernel_rfl) rfl rfl rfl (fun _ => Ev.isF (Ev.neB rfl rfl rfl Tryd.underlying4) (fun h => h (by rw [← hML, has_one hr (by omega) (by omega) (by omega) (by omega) (by omega), same_2]))) ?_
          refine AG.takeW 22 rfl (by kernel_rfl) (by kernel_rfl) rfl rfl rfl (fun _ => Ev.pickT rfl rfl rfl) ?_
          refine AG.takeW 23 rfl (by kernel_rfl) (by kernel_rfl) rfl rfl rfl (fun _ => Ev.pickF rfl rfl rfl) ?_
          refine AG.done (by kernel_rfl) ?_
          refine QW.sub (S' := [(7, _), (8, _), (9, _), (10, _), (12, _), (13, _), (14, _), (15, _), (16, _), (17, _), (119, _)]) ⟨rfl, rfl, rfl, rfl, rfl, rfl, rfl, rfl, rfl, rfl, rfl, trivial⟩ ?_
          refine QW.then_ ?_
          refine CW.condF rfl ?_
          refine CW.skip ?_
          refine QW.blockN ?_
          refine QW.then_ ?_
          refine CW.region ?_
          refine RG.vl rfl rfl rfl (Ev.move rfl rfl) ?_
          refine RG.vl rfl rfl rfl (Ev.addI rfl rfl rfl (by omega)) ?_
          refine RG.vl rfl rfl rfl (Ev.assign rfl rfl) ?_
          refine RG.done ?_
          refine QW.round1 (b + 1) ⟨rfl, trivial⟩ ⟨rfl, rfl, rfl, rfl, rfl, rfl, rfl, rfl, rfl, trivial⟩ ⟨by omega, hxwl97⟩ (by omega)
        · refine AG.pass 15 rfl (by kernel_rfl) (by kernel_rfl) rfl rfl rfl ?_
          refine AG.pass 16 rfl (by kernel_rfl) (by kernel_rfl) rfl rfl rfl ?_
          refine AG.pass 17 rfl (by kernel_rfl) (by kernel_rfl) rfl rfl rfl ?_
          refine AG.pass 18 rfl (by kernel_rfl) (by kernel_rfl) rfl rfl rfl ?_
          refine AG.pass 19 rfl (by kernel_rfl) (by kernel_rfl) rfl rfl rfl ?_
          refine AG.pass 20 rfl (by kernel_rfl) (by kernel_rfl) rfl rfl rfl ?_
          refine AG.pass 21 rfl (by kernel_rfl) (by kernel_rfl) rfl rfl rfl ?_
          refine AG.takeW 22 rfl (by kernel_rfl) (by kernel_rfl) rfl rfl rfl (fun _ => Ev.pickF rfl rfl rfl) ?_
          refine AG.takeW 23 rfl (by kernel_rfl) (by kernel_rfl) rfl rfl rfl (fun _ => Ev.pickF rfl rfl rfl) ?_
          refine AG.done (by kernel_rfl) ?_
          refine QW.sub (S' := [(7, _), (8, _), (9, _), (10, _), (12, _), (13, _), (14, _), (15, _), (16, _), (17, _), (119, _)]) ⟨rfl, rfl, rfl, rfl, rfl, rfl, rfl, rfl, rfl, rfl, rfl, trivial⟩ ?_
          refine QW.then_ ?_
          refine CW.condF rfl ?_
          refine CW.skip ?_
          refine QW.blockN ?_
          refine QW.then_ ?_
          refine CW.region ?_
          refine RG.vl rfl rfl rfl (Ev.move rfl rfl) ?_
          refine RG.vl rfl rfl rfl (Ev.addI rfl rfl rfl (by omega)) ?_
          refine RG.vl rfl rfl rfl (Ev.assign rfl rfl) ?_
          refine RG.done ?_
          refine QW.round1 (b + 1) ⟨rfl, trivial⟩ ⟨rfl, rfl, rfl, rfl, rfl, rfl, rfl, rfl, rfl, trivial⟩ ⟨by omega, hxwl97⟩ (by omega)
      · refine CW.exit ?_
        refine QW.thenExit ?_
        refine QW.thenExit ?_
        refine QW.blockHit ?_
        refine QW.then_ ?_
        refine CW.seq ?_
        refine CW.seq ?_
        refine CW.region ?_
        refine RG.vl rfl rfl rfl (Ev.move rfl rfl) ?_
        refine RG.vl rfl rfl rfl (Ev.move rfl rfl) ?_
        refine RG.vl rfl rfl rfl (Ev.lenStr rfl rfl rfl Tryd.underlying9) ?_
        refine RG.vl rfl rfl rfl (Ev.eqI rfl rfl rfl) ?_
        refine RG.done ?_
        refine QW.then_ ?_
        refine CW.condP rfl (fun hc111 => ?_) (fun hc111 => ?_)
        · refine CW.exit ?_
          refine QW.thenExit ?_
          refine QW.blockMiss rfl ?_
          refine QW.thenExit ?_
          refine QW.thenExit ?_
          refine QW.blockHit ?_
          refine QW.then_ ?_
          refine CW.seq ?_
          refine CW.region ?_
          refine RG.call rfl rfl rfl rfl rfl rfl rfl en_12 (awake_ret _) ?_
          rintro _ w112 ⟨rfl, hx112⟩
          replace hxwl97 := Ex.tr hxwl97 hx112
          have hE113 := hx112
          refine RG.vl rfl rfl rfl (Ev.assign rfl rfl) ?_
          refine RG.done ?_
          refine QW.then_ ?_
          refine CW.ret ?_
          refine QW.ret1 rfl rfl ?_
          have hB := (Ex.tr hR90 hxwl97)
          exact ⟨rfl, hB⟩
        · refine CW.skip ?_
          refine QW.then_ ?_
          refine CW.seq ?_
          obtain ⟨i, hi⟩ : ∃ i, D.length - 1 - p = i + 1 := ⟨D.length - 2 - p, by omega⟩
          obtain ⟨y, hy⟩ : ∃ y, T[i]? = some y := ⟨_, List.getElem?_eq_getElem (by omega)⟩
          have hx' : T[i + 1]? = some x := by rw [← hi]; exact hx
          have hdy := chk_dig hck hy (by omega)
          have hvy := valC_dig hdy
          have hw2 := wt_b1 hwb h1 (p + 1 + 1)
          refine CW.draw [] (.ex) 17 rfl mixed (fun wd114 hxwd114 => ?_)
          replace hxwl97 := Ex.tr hxwl97 hxwd114
          have hE115 := hxwd114
          refine AG.takeW 0 rfl (by kernel_rfl) (by kernel_rfl) rfl rfl rfl (fun _ => Ev.fld rfl rfl fld_24_1) ?_
          refine AG.take 1 rfl (by kernel_rfl) (by kernel_rfl) rfl rfl rfl (fun wq hq => Ev.ldAt rfl rfl Tryd.underlying22 rfl (((hb68.ext hxwl97).ext hq).cells) (rfl)) ?_
          refine AG.takeW 2 rfl (by kernel_rfl) (by kernel_rfl) rfl rfl rfl (fun _ => Ev.move rfl rfl) ?_
          refine AG.takeW 3 rfl (by kernel_rfl) (by kernel_rfl) rfl rfl rfl (fun _ => Ev.fld rfl rfl fld_24_1) ?_
          refine AG.take 4 rfl (by kernel_rfl) (by kernel_rfl) rfl rfl rfl (fun wq hq => Ev.ldAt rfl rfl Tryd.underlying22 rfl (((hb68.ext hxwl97).ext hq).cells) (rfl)) ?_
          refine AG.takeW 5 rfl (by kernel_rfl) (by kernel_rfl) rfl rfl rfl (fun _ => Ev.lenL rfl rfl rfl Tryd.underlying22 ((hws.ext hxwl97))) ?_
          refine AG.takeW 6 rfl (by kernel_rfl) (by kernel_rfl) rfl rfl rfl (fun _ => (Ev.remI rfl rfl rfl (by omega)).conv (congrArg (Value.int .i64) (show ((p + 1 : Nat) : Int) % (ws.length : Int) = (((p + 1) % ws.length : Nat) : Int) by rw [Int.natCast_emod]))) ?_
          refine AG.idxL _ 7 rfl (by kernel_rfl) (by kernel_rfl) rfl rfl rfl rfl rfl rfl Tryd.underlying22 sz_3 ((hws.ext hxwl97)) (wt_at1 h1 (p + 1)) (fun p116 hp116b hp116 => ?_)
          refine AG.take 8 rfl (by kernel_rfl) (by kernel_rfl) rfl rfl rfl (fun wq hq => Ev.ld0 rfl rfl Tryd.underlying3 rfl (hp116.ext hq hp116b) (rfl)) ?_
          refine AG.takeW 9 rfl (by kernel_rfl) (by kernel_rfl) rfl rfl rfl (fun _ => Ev.move rfl rfl) ?_
          refine AG.takeW 10 rfl (by kernel_rfl) (by kernel_rfl) rfl rfl rfl (fun _ => Ev.move rfl rfl) ?_
          refine AG.takeW 11 rfl (by kernel_rfl) (by kernel_rfl) rfl rfl rfl (fun _ => (Ev.subI rfl rfl rfl (by omega)).conv (congrArg (Value.int .i64) (show ((D.length - 1 - p : Nat) : Int) - 1 = ((i : Nat) : Int) by omega))) ?_
          refine AG.takeW 12 rfl (by kernel_rfl) (by kernel_rfl) rfl rfl rfl (fun _ => Ev.byteAt rfl rfl rfl Tryd.underlying9 (by omega) (hy)) ?_
          refine AG.takeW 13 rfl (by kernel_rfl) (by kernel_rfl) rfl rfl rfl (fun _ => (Ev.sub8 rfl rfl rfl (by omega)).conv (congrArg (Value.int .u8) (show (y.toNat : Int) - 48 = ((valC y : Nat) : Int) from (valC_dig hdy).2.symm))) ?_
          refine AG.takeW 14 rfl (by kernel_rfl) (by kernel_rfl) rfl rfl rfl (fun _ => Ev.to64 rfl rfl Tryd.underlying5 Tryd.underlying3 (by omega)) ?_
          refine AG.takeW 15 rfl (by kernel_rfl) (by kernel_rfl) rfl rfl rfl (fun _ => Ev.assign rfl rfl) ?_
          refine AG.takeW 16 rfl (by kernel_rfl) (by kernel_rfl) rfl rfl rfl (fun _ => Ev.assign rfl rfl) ?_
          refine AG.done (by kernel_rfl) ?_
          refine QW.sub (S' := [(7, _), (8, _), (9, _), (10, _), (12, _), (13, _), (14, _), (15, _), (16, _), (19, _), (20, _)]) ⟨rfl, rfl, rfl, rfl, rfl, rfl, rfl, rfl, rfl, rfl, rfl, trivial⟩ ?_
          refine QW.then_ ?_
          refine CW.seq ?_
          have hmb := mul_bb (x := wt ws (p + 1) - wt ws (p + 1 + 1)) (y := (valC x : Int) - (valC y : Int)) (by omega) (by omega) (by omega) (by omega)
          refine CW.region ?_
          refine RG.vl rfl rfl rfl (Ev.move rfl rfl) ?_
          refine RG.vl rfl rfl rfl (Ev.move rfl rfl) ?_
          refine RG.vl rfl rfl rfl (Ev.subI rfl rfl rfl (by omega)) ?_
          refine RG.vl rfl rfl rfl (Ev.move rfl rfl) ?_
          refine RG.vl rfl rfl rfl (Ev.move rfl rfl) ?_
          refine RG.vl rfl rfl rfl (Ev.subI rfl rfl rfl (by omega)) ?_
          refine RG.vl rfl rfl rfl (Ev.mulI rfl rfl rfl (by omega)) ?_
          refine RG.vl rfl rfl rfl (Ev.move rfl rfl) ?_
          refine RG.vl rfl rfl rfl (Ev.remT rfl rfl rfl (by decide)) ?_
          refine RG.vl rfl rfl rfl (Ev.eqI rfl rfl rfl) ?_
          refine RG.vl rfl rfl rfl (Ev.assign rfl rfl) ?_
          refine RG.done ?_
          refine QW.then_ ?_
          refine CW.seq ?_
          refine CW.draw [] (.ex) 22 rfl mixed (fun wd117 hxwd117 => ?_)
          replace hxwl97 := Ex.tr hxwl97 hxwd117
          replace hE115 := Ex.tr hE115 hxwd117
          have hE118 := hxwd117
          refine AG.take 0 rfl (by kernel_rfl) (by kernel_rfl) rfl rfl rfl (fun wq hq => Ev.ldAgg rfl rfl Tryd.underlying24 rfl sz_24 rfl (((hb68.ext hxwl97).ext hq).cells)) ?_
          refine AG.takeW 1 rfl (by kernel_rfl) (by kernel_rfl) rfl rfl rfl (fun _ => Ev.move rfl rfl) ?_
          refine AG.takeW 2 rfl (by kernel_rfl) (by kernel_rfl) rfl rfl rfl (fun _ => Ev.move rfl rfl) ?_
          refine AG.takeW 3 rfl (by kernel_rfl) (by kernel_rfl) rfl rfl rfl (fun _ => (Ev.subI rfl rfl rfl (by omega)).conv (congrArg (Value.int .i64) (show ((D.length - 1 - p : Nat) : Int) - 1 = ((i : Nat) : Int) by omega))) ?_
          refine AG.takeW 6 rfl (by kernel_rfl) (by kernel_rfl) rfl rfl rfl (fun _ => Ev.move rfl rfl) ?_
          refine AG.only 4 rfl (by kernel_rfl) ?_
          refine RG.call rfl rfl rfl rfl rfl rfl rfl en_28 (exch_ret T i y x _ hy hx' (by omega)) ?_
          rintro _ w120 ⟨rfl, hx120⟩
          replace hxwl97 := Ex.tr hxwl97 hx120
          replace hE115 := Ex.tr hE115 hx120
          replace hE118 := Ex.tr hE118 hx120
          have hE121 := hx120
          refine RG.done ?_
          refine QW.an (fun _ => hE121) ?_
          refine AG.only 5 rfl (by kernel_rfl) ?_
          refine RG.call rfl rfl rfl rfl rfl rfl rfl en_26 (Pss_is (k := 2) (ws := ws) (hws.ext hxwl97) hwl (by rw [List.length_set, List.length_set]; omega) (by rw [err_swap hr hck hpp (by omega) hy hx' hdy hdx, show T.length - 2 - i = p + 1 by omega])) ?_
          rintro _ w123 ⟨rfl, hx123⟩
          replace hxwl97 := Ex.tr hxwl97 hx123
          replace hE115 := Ex.tr hE115 hx123
          replace hE118 := Ex.tr hE118 hx123
          replace hE121 := Ex.tr hE121 hx123
          have hE124 := hx123
          refine RG.done ?_
          refine QW.an (fun _ => hE124) ?_
          refine AG.takeW 7 rfl (by kernel_rfl) (by kernel_rfl) rfl rfl rfl (fun _ => Ev.isF (Ev.neB rfl rfl rfl Tryd.underlying4) (fun h => h (by rw [exch_2]))) ?_
          refine AG.takeW 8 rfl (by kernel_rfl) (by kernel_rfl) rfl rfl rfl (fun _ => Ev.move rfl rfl) ?_
          refine AG.takeW 9 rfl (by kernel_rfl) (by kernel_rfl) rfl rfl rfl (fun _ => Ev.move rfl rfl) ?_
          refine AG.takeW 10 rfl (by kernel_rfl) (by kernel_rfl) rfl rfl rfl (fun _ => Ev.move rfl rfl) ?_
          refine AG.takeW 11 rfl (by kernel_rfl) (by kernel_rfl) rfl rfl rfl (fun _ => Ev.neI rfl rfl rfl) ?_
          refine AG.takeW 12 rfl (by kernel_rfl) (by kernel_rfl) rfl rfl rfl (fun _ => Ev.move rfl rfl) ?_
          refine AG.split (d := 161) rfl (fun hg125 => ?_) (fun hg125 => ?_)
          · refine AG.takeW 13 rfl (by kernel_rfl) (by kernel_rfl) rfl rfl rfl (fun _ => Ev.move rfl rfl) ?_
            refine AG.takeW 14 rfl (by kernel_rfl) (by kernel_rfl) rfl rfl rfl (fun _ => Ev.move rfl rfl) ?_
            refine AG.takeW 15 rfl (by kernel_rfl) (by kernel_rfl) rfl rfl rfl (fun _ => Ev.move rfl rfl) ?_
            refine AG.takeW 16 rfl (by kernel_rfl) (by kernel_rfl) rfl rfl rfl (fun _ => Ev.move rfl rfl) ?_
            refine AG.takeW 18 rfl (by kernel_rfl) (by kernel_rfl) rfl rfl rfl (fun _ => Ev.move rfl rfl) ?_
            refine AG.only 17 rfl (by kernel_rfl) ?_
            refine RG.call rfl rfl rfl rfl rfl rfl rfl en_30 (has_ret _ L true (p + 1) (valC x) (valC y) _ (Own.rdl (Own.ext hm78 hxwl97) encM_len) (by omega)) ?_
            rintro _ w127 ⟨rfl, hx127⟩
            replace hxwl97 := Ex.tr hxwl97 hx127
            replace hE115 := Ex.tr hE115 hx127
            replace hE118 := Ex.tr hE118 hx127
            replace hE121 := Ex.tr hE121 hx127
            replace hE124 := Ex.tr hE124 hx127
            have hE128 := hx127
            refine RG.done ?_
            refine QW.an (fun _ => hE128) ?_
            refine AG.takeW 19 rfl (by kernel_rfl) (by kernel_rfl) rfl rfl rfl (fun _ => Ev.isF (Ev.neB rfl rfl rfl Tryd.underlying4) (fun h => h (by rw [← hML, has_two hr (by omega) (by omega) (by omega) (by omega) (by omega) (by omega), exch_2]))) ?_
            refine AG.takeW 20 rfl (by kernel_rfl) (by kernel_rfl) rfl rfl rfl (fun _ => Ev.pickT rfl rfl rfl) ?_
            refine AG.takeW 21 rfl (by kernel_rfl) (by kernel_rfl) rfl rfl rfl (fun _ => Ev.pickF rfl rfl rfl) ?_
            refine AG.done (by kernel_rfl) ?_
            refine QW.sub (S' := [(7, _), (8, _), (9, _), (10, _), (12, _), (13, _), (170, _)]) ⟨rfl, rfl, rfl, rfl, rfl, rfl, rfl, trivial⟩ ?_
            refine QW.then_ ?_
            refine CW.condF rfl ?_
            refine CW.skip ?_
            refine QW.blockN ?_
            refine QW.then_ ?_
            refine CW.region ?_
            refine RG.vl rfl rfl rfl (Ev.move rfl rfl) ?_
            refine RG.vl rfl rfl rfl (Ev.addI rfl rfl rfl (by omega)) ?_
            refine RG.vl rfl rfl rfl (Ev.assign rfl rfl) ?_
            refine RG.done ?_
            refine QW.round1 (p + 1) ⟨rfl, trivial⟩ ⟨rfl, rfl, rfl, rfl, rfl, trivial⟩ ⟨by omega, (Ex.tr hR95 hxwl97)⟩ (by omega)
          · refine AG.pass 13 rfl (by kernel_rfl) (by kernel_rfl) rfl rfl rfl ?_
            refine AG.pass 14 rfl (by kernel_rfl) (by kernel_rfl) rfl rfl rfl ?_
            refine AG.pass 15 rfl (by kernel_rfl) (by kernel_rfl) rfl rfl rfl ?_
            refine AG.pass 16 rfl (by kernel_rfl) (by kernel_rfl) rfl rfl rfl ?_
            refine AG.pass 17 rfl (by kernel_rfl) (by kernel_rfl) rfl rfl rfl ?_
            refine AG.pass 18 rfl (by kernel_rfl) (by kernel_rfl) rfl rfl rfl ?_
            refine AG.pass 19 rfl (by kernel_rfl) (by kernel_rfl) rfl rfl rfl ?_
            refine AG.takeW 20 rfl (by kernel_rfl) (by kernel_rfl) rfl rfl rfl (fun _ => Ev.pickF rfl rfl rfl) ?_
            refine AG.takeW 21 rfl (by kernel_rfl) (by kernel_rfl) rfl rfl rfl (fun _ => Ev.pickF rfl rfl rfl) ?_
            refine AG.done (by kernel_rfl) ?_
            refine QW.sub (S' := [(7, _), (8, _), (9, _), (10, _), (12, _), (13, _), (170, _)]) ⟨rfl, rfl, rfl, rfl, rfl, rfl, rfl, trivial⟩ ?_
            refine QW.then_ ?_
            refine CW.condF rfl ?_
            refine CW.skip ?_
            refine QW.blockN ?_
            refine QW.then_ ?_
            refine CW.region ?_
            refine RG.vl rfl rfl rfl (Ev.move rfl rfl) ?_
            refine RG.vl rfl rfl rfl (Ev.addI rfl rfl rfl (by omega)) ?_
            refine RG.vl rfl rfl rfl (Ev.assign rfl rfl) ?_
            refine RG.done ?_
            refine QW.round1 (p + 1) ⟨rfl, trivial⟩ ⟨rfl, rfl, rfl, rfl, rfl, trivial⟩ ⟨by omega, (Ex.tr hR95 hxwl97)⟩ (by omega)
    · refine CW.exit ?_
      refine QW.thenExit ?_
      refine QW.thenExit ?_
      refine QW.blockHit ?_
      refine QW.then_ ?_
      refine CW.seq ?_
      refine CW.region ?_
      refine RG.call rfl rfl rfl rfl rfl rfl rfl en_12 (awake_ret _) ?_
      rintro _ w129 ⟨rfl, hx129⟩
      replace hxwl85 := Ex.tr hxwl85 hx129
      have hE130 := hx129
      refine RG.vl rfl rfl rfl (Ev.assign rfl rfl) ?_
      refine RG.done ?_
      refine QW.then_ ?_
      refine CW.ret ?_
      refine QW.ret1 rfl rfl ?_
      have hB := (Ex.tr hR80 hxwl85)
      exact ⟨rfl, hB⟩

end Go.Proofs.YtnhkhpnkhkagaaaDoor
