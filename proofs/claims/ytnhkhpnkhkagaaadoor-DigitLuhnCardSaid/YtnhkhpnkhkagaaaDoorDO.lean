/- Walks (DO). Written by program. -/
import Derived.Test.YtnhkhpnkhkagaaaDoorT
import Derived.Test.YtnhkhpnkhkagaaaDoorDW
namespace Go.Proofs.YtnhkhpnkhkagaaaDoor
open Go.RowKit
set_option maxRecDepth 100000 in
set_option maxHeartbeats 8000000 in
theorem digitLuhn_ret (lv : Value) (l : List UInt8) (w : World) (hl : RdL w 1 encB lv l) :
    Ret Tryd.prog 9 [lv] w (fun v w' => v = .bool true ∧ Ex w w') := by
  obtain ⟨lA, lC, rfl⟩ := hl.shape
  have hB0 : Ex w w := Ex.rfl_ _
  refine Ret.of Tryd.func9 rfl Tryd.ntmps9 rfl ?_
  refine CW.seq ?_
  refine CW.region ?_
  refine RG.vl rfl rfl rfl (Ev.assign rfl rfl) ?_
  refine RG.done ?_
  refine QW.then_ ?_
  refine CW.seq ?_
  refine CW.region ?_
  refine RG.vl rfl rfl rfl (Ev.build1 rfl rfl rfl inf_24 rfl rfl (by kernel_rfl) rfl) ?_
  refine RG.local_ rfl rfl rfl rfl (fun _ => rfl) rfl rfl (fun _ => rfl) inf_24 rfl rfl rfl (fun g1 w1 eg1 hx1 hb1 => ?_)
  have hle2 : w.heap.size ≤ g1 := by have := (Ex.rfl_ w).size; omega
  have hE3 := hx1
  refine RG.done ?_
  refine QW.then_ ?_
  refine CW.seq ?_
  refine CW.region ?_
  refine RG.vl rfl rfl rfl (Ev.move rfl rfl) ?_
  refine RG.call rfl rfl rfl rfl rfl rfl rfl en_19 (payload_ret _ l _ ((hl.ext hE3))) ?_
  rintro _ w4 ⟨rfl, hx4⟩
  replace hE3 := Ex.tr hE3 hx4
  have hE5 := hx4
  refine RG.vl rfl rfl rfl (Ev.assign rfl rfl) ?_
  refine RG.done ?_
  refine QW.then_ ?_
  refine CW.seq ?_
  obtain ⟨hD1, hD2⟩ := payL_len l
  have hDp := payL_pay l
  generalize payL l = D at *
  obtain ⟨hap, hck, hpp⟩ := append_pay (k := 3) (ws := []) (by decide) hDp hD2
  have hTl := apT_len 3 [] D
  have hDt : (apT 3 [] D).take D.length = D := by simp [apT]
  generalize apT 3 [] D = T at *
  have hTs := sbytes T
  have hDs := sbytes D
  refine CW.region ?_
  refine RG.vl rfl rfl rfl (Ev.ldAgg rfl rfl Tryd.underlying24 rfl sz_24 rfl ((hb1.ext hE5).cells)) ?_
  refine RG.vl rfl rfl rfl (Ev.move rfl rfl) ?_
  refine RG.call rfl rfl rfl rfl rfl rfl rfl en_25 (Append_is (k := 3) (ws := []) nil_arg (by decide) (by omega) (hap)) ?_
  rintro _ w6 ⟨rfl, hx6⟩
  replace hE3 := Ex.tr hE3 hx6
  replace hE5 := Ex.tr hE5 hx6
  have hE7 := hx6
  refine RG.vl rfl rfl rfl (Ev.move rfl rfl) ?_
  refine RG.vl rfl rfl rfl (Ev.extract rfl rfl rfl) ?_
  refine RG.vl rfl rfl rfl (Ev.extract rfl rfl rfl) ?_
  refine RG.vl rfl rfl rfl (Ev.assign rfl rfl) ?_
  refine RG.vl rfl rfl rfl (Ev.assign rfl rfl) ?_
  refine RG.done ?_
  refine QW.sub (S' := [(2, _), (3, _), (4, _), (5, _), (6, _)]) ⟨rfl, rfl, rfl, rfl, rfl, trivial⟩ ?_
  refine QW.then_ ?_
  refine CW.seq ?_
  refine CW.seq ?_
  refine CW.region ?_
  refine RG.vl rfl rfl rfl (Ev.move rfl rfl) ?_
  refine RG.vl rfl rfl rfl (Ev.isF (Ev.neI rfl rfl rfl) (fun h => h rfl)) ?_
  refine RG.vl rfl rfl rfl (Ev.move rfl rfl) ?_
  refine RG.vl rfl rfl rfl (Ev.move rfl rfl) ?_
  refine RG.vl rfl rfl rfl (Ev.lenStr rfl rfl rfl Tryd.underlying9) ?_
  refine RG.vl rfl rfl rfl (Ev.move rfl rfl) ?_
  refine RG.vl rfl rfl rfl (Ev.lenStr rfl rfl rfl Tryd.underlying9) ?_
  refine RG.vl rfl rfl rfl (Ev.addI rfl rfl rfl (by omega)) ?_
  refine RG.vl rfl rfl rfl (Ev.isF (Ev.neI rfl rfl rfl) (by omega)) ?_
  refine RG.vl rfl rfl rfl (Ev.pickF rfl rfl rfl) ?_
  refine RG.vl rfl rfl rfl (Ev.move rfl rfl) ?_
  refine RG.vl rfl rfl rfl (Ev.ldAgg rfl rfl Tryd.underlying24 rfl sz_24 rfl ((hb1.ext hE5).cells)) ?_
  refine RG.vl rfl rfl rfl (Ev.move rfl rfl) ?_
  refine RG.call rfl rfl rfl rfl rfl rfl rfl en_26 (Pss_is (k := 3) (ws := []) nil_arg (by decide) (by omega) (by rw [test_chk (by decide) (by omega) hck, hpp])) ?_
  rintro _ w8 ⟨rfl, hx8⟩
  replace hE3 := Ex.tr hE3 hx8
  replace hE5 := Ex.tr hE5 hx8
  replace hE7 := Ex.tr hE7 hx8
  have hE9 := hx8
  refine RG.vl rfl rfl rfl (Ev.notF rfl rfl) ?_
  refine RG.vl rfl rfl rfl (Ev.pickF rfl rfl rfl) ?_
  refine RG.done ?_
  refine QW.sub (S' := [(2, _), (3, _), (4, _), (5, _), (6, _), (37, _)]) ⟨rfl, rfl, rfl, rfl, rfl, rfl, trivial⟩ ?_
  refine QW.then_ ?_
  refine CW.condF rfl ?_
  refine CW.skip ?_
  refine QW.then_ ?_
  refine CW.seq ?_
  refine CW.seq ?_
  refine CW.region ?_
  refine RG.vl rfl rfl rfl (Ev.assign rfl rfl) ?_
  refine RG.done ?_
  refine QW.then_ ?_
  refine CW.block ?_
  replace hl := (hl.ext hE3)
  replace hb1 := (hb1.ext hE5)
  have hR10 := (Ex.tr hB0 hE3)
  have hR11 := hE5
  have hR12 := hE7
  have hR13 := hE9
  refine CW.loop1 [(3, _), (4, _), (5, _), (6, _)] ⟨rfl, rfl, rfl, rfl, trivial⟩ (fun (i : Nat) => [(7, .int .i64 i)]) (fun i w' => (i ≤ T.length) ∧ Ex w8 w') (fun i => T.length - i) (0) ⟨rfl, trivial⟩ ⟨by omega, (Ex.rfl_ _)⟩ ?_
  rintro i wl14 ⟨hi, hxwl14⟩
  refine CW.sub (S' := [(7, _), (3, _), (4, _), (5, _), (6, _)]) ⟨rfl, rfl, rfl, rfl, rfl, trivial⟩ ?_
  refine CW.seq ?_
  refine CW.seq ?_
  refine CW.region ?_
  refine RG.vl rfl rfl rfl (Ev.move rfl rfl) ?_
  refine RG.vl rfl rfl rfl (Ev.move rfl rfl) ?_
  refine RG.vl rfl rfl rfl (Ev.lenStr rfl rfl rfl Tryd.underlying9) ?_
  refine RG.vl rfl rfl rfl (Ev.lss rfl rfl rfl) ?_
  refine RG.done ?_
  refine QW.then_ ?_
  refine CW.condP rfl (fun hc15 => ?_) (fun hc15 => ?_)
  · refine CW.skip ?_
    refine QW.then_ ?_
    refine CW.seq ?_
    refine CW.block ?_
    refine CW.seq ?_
    refine CW.seq ?_
    obtain ⟨x, hx⟩ : ∃ x, T[i]? = some x := ⟨_, List.getElem?_eq_getElem (by omega)⟩
    refine CW.region ?_
    refine RG.vl rfl rfl rfl (Ev.assign rfl rfl) ?_
    refine RG.done ?_
    refine QW.then_ ?_
    refine CW.block ?_
    refine CW.loop1 [(3, _), (4, _), (5, _), (6, _), (7, _)] ⟨rfl, rfl, rfl, rfl, rfl, trivial⟩ (fun (c : Nat) => [(8, .int .u8 (c : Int))]) (fun c w' => (48 ≤ c ∧ c ≤ 58) ∧ Ex w8 w') (fun c => 58 - c) (48) ⟨rfl, trivial⟩ ⟨⟨by omega, by omega⟩, hxwl14⟩ ?_
    rintro c wl16 ⟨⟨hc1, hc2⟩, hxwl16⟩
    refine CW.sub (S' := [(8, _), (3, _), (4, _), (5, _), (6, _), (7, _)]) ⟨rfl, rfl, rfl, rfl, rfl, rfl, trivial⟩ ?_
    refine CW.seq ?_
    refine CW.seq ?_
    refine CW.region ?_
    refine RG.vl rfl rfl rfl (Ev.move rfl rfl) ?_
    refine RG.vl rfl rfl rfl (Ev.leq rfl rfl rfl) ?_
    refine RG.done ?_
    refine QW.then_ ?_
    refine CW.condP rfl (fun hc17 => ?_) (fun hc17 => ?_)
    · refine CW.skip ?_
      refine QW.then_ ?_
      refine CW.seq ?_
      refine CW.block ?_
      refine CW.seq ?_
      have hxc := x.toNat_lt
      refine CW.draw [] (.ex) 13 rfl mixed (fun wd18 hxwd18 => ?_)
      replace hxwl16 := Ex.tr hxwl16 hxwd18
      have hE19 := hxwd18
      refine AG.takeW 0 rfl (by kernel_rfl) (by kernel_rfl) rfl rfl rfl (fun _ => Ev.move rfl rfl) ?_
      refine AG.takeW 1 rfl (by kernel_rfl) (by kernel_rfl) rfl rfl rfl (fun _ => Ev.move rfl rfl) ?_
      refine AG.takeW 2 rfl (by kernel_rfl) (by kernel_rfl) rfl rfl rfl (fun _ => Ev.move rfl rfl) ?_
      refine AG.takeW 3 rfl (by kernel_rfl) (by kernel_rfl) rfl rfl rfl (fun _ => Ev.byteAt rfl rfl rfl Tryd.underlying9 (by omega) (hx)) ?_
      refine AG.takeW 4 rfl (by kernel_rfl) (by kernel_rfl) rfl rfl rfl (fun _ => Ev.neI rfl rfl rfl) ?_
      refine AG.takeW 5 rfl (by kernel_rfl) (by kernel_rfl) rfl rfl rfl (fun _ => Ev.move rfl rfl) ?_
      refine AG.split (d := 53) rfl (fun hg20 => ?_) (fun hg20 => ?_)
      · refine AG.take 6 rfl (by kernel_rfl) (by kernel_rfl) rfl rfl rfl (fun wq hq => Ev.ldAgg rfl rfl Tryd.underlying24 rfl sz_24 rfl (((hb1.ext hxwl16).ext hq).cells)) ?_
        refine AG.takeW 7 rfl (by kernel_rfl) (by kernel_rfl) rfl rfl rfl (fun _ => Ev.move rfl rfl) ?_
        refine AG.takeW 8 rfl (by kernel_rfl) (by kernel_rfl) rfl rfl rfl (fun _ => Ev.move rfl rfl) ?_
        refine AG.takeW 9 rfl (by kernel_rfl) (by kernel_rfl) rfl rfl rfl (fun _ => (Ev.move rfl rfl).conv (congrArg (Value.int .u8) (u8_of (c := c) (by omega)))) ?_
        refine AG.only 10 rfl (by kernel_rfl) ?_
        refine RG.call rfl rfl rfl rfl rfl rfl rfl en_27 (put_ret T i (UInt8.ofNat c) _ (by omega) (by omega)) ?_
        rintro _ w22 ⟨rfl, hx22⟩
        replace hxwl16 := Ex.tr hxwl16 hx22
        replace hE19 := Ex.tr hE19 hx22
        have hE23 := hx22
        refine RG.done ?_
        refine QW.an (fun _ => hE23) ?_
        refine AG.only 11 rfl (by kernel_rfl) ?_
        refine RG.call rfl rfl rfl rfl rfl rfl rfl en_26 (Pss_is (k := 3) (ws := []) nil_arg (by decide) (by (repeat rw [List.length_set]); omega) (one_char (by decide) (by decide) (by decide) hck hpp (by omega) hx (dig_of (by omega) (by omega)) (ne_of (by omega) (by assumption)))) ?_
        rintro _ w25 ⟨rfl, hx25⟩
        replace hxwl16 := Ex.tr hxwl16 hx25
        replace hE19 := Ex.tr hE19 hx25
        replace hE23 := Ex.tr hE23 hx25
        have hE26 := hx25
        refine RG.done ?_
        refine QW.an (fun _ => hE26) ?_
        refine AG.takeW 12 rfl (by kernel_rfl) (by kernel_rfl) rfl rfl rfl (fun _ => Ev.pickT rfl rfl rfl) ?_
        refine AG.done (by kernel_rfl) ?_
        refine QW.sub (S' := [(3, _), (4, _), (5, _), (6, _), (7, _), (8, _), (60, _)]) ⟨rfl, rfl, rfl, rfl, rfl, rfl, rfl, trivial⟩ ?_
        refine QW.then_ ?_
        refine CW.condF rfl ?_
        refine CW.skip ?_
        refine QW.blockN ?_
        refine QW.then_ ?_
        refine CW.region ?_
        refine RG.vl rfl rfl rfl (Ev.move rfl rfl) ?_
        refine RG.vl rfl rfl rfl (Ev.add8 rfl rfl rfl (by omega)) ?_
        refine RG.vl rfl rfl rfl (Ev.assign rfl rfl) ?_
        refine RG.done ?_
        refine QW.round1 (c + 1) ⟨rfl, trivial⟩ ⟨rfl, rfl, rfl, rfl, rfl, trivial⟩ ⟨⟨by omega, by omega⟩, hxwl16⟩ (by omega)
      · refine AG.pass 6 rfl (by kernel_rfl) (by kernel_rfl) rfl rfl rfl ?_
        refine AG.pass 7 rfl (by kernel_rfl) (by kernel_rfl) rfl rfl rfl ?_
        refine AG.pass 8 rfl (by kernel_rfl) (by kernel_rfl) rfl rfl rfl ?_
        refine AG.pass 9 rfl (by kernel_rfl) (by kernel_rfl) rfl rfl rfl ?_
        refine AG.pass 10 rfl (by kernel_rfl) (by kernel_rfl) rfl rfl rfl ?_
        refine AG.pass 11 rfl (by kernel_rfl) (by kernel_rfl) rfl rfl rfl ?_
        refine AG.takeW 12 rfl (by kernel_rfl) (by kernel_rfl) rfl rfl rfl (fun _ => Ev.pickF rfl rfl rfl) ?_
        refine AG.done (by kernel_rfl) ?_
        refine QW.sub (S' := [(3, _), (4, _), (5, _), (6, _), (7, _), (8, _), (60, _)]) ⟨rfl, rfl, rfl, rfl, rfl, rfl, rfl, trivial⟩ ?_
        refine QW.then_ ?_
        refine CW.condF rfl ?_
        refine CW.skip ?_
        refine QW.blockN ?_
        refine QW.then_ ?_
        refine CW.region ?_
        refine RG.vl rfl rfl rfl (Ev.move rfl rfl) ?_
        refine RG.vl rfl rfl rfl (Ev.add8 rfl rfl rfl (by omega)) ?_
        refine RG.vl rfl rfl rfl (Ev.assign rfl rfl) ?_
        refine RG.done ?_
        refine QW.round1 (c + 1) ⟨rfl, trivial⟩ ⟨rfl, rfl, rfl, rfl, rfl, trivial⟩ ⟨⟨by omega, by omega⟩, hxwl16⟩ (by omega)
    · refine CW.exit ?_
      refine QW.thenExit ?_
      refine QW.thenExit ?_
      refine QW.blockHit ?_
      refine QW.then_ ?_
      refine CW.seq ?_
      refine CW.region ?_
      refine RG.vl rfl rfl rfl (Ev.move rfl rfl) ?_
      refine RG.vl rfl rfl rfl (Ev.addI rfl rfl rfl (by omega)) ?_
      refine RG.vl rfl rfl rfl (Ev.move rfl rfl) ?_
      refine RG.vl rfl rfl rfl (Ev.lenStr rfl rfl rfl Tryd.underlying9) ?_
      refine RG.vl rfl rfl rfl (Ev.lss rfl rfl rfl) ?_
      refine RG.done ?_
      refine QW.then_ ?_
      refine CW.condP rfl (fun hc27 => ?_) (fun hc27 => ?_)
      · refine CW.seq ?_
        obtain ⟨y, hy⟩ : ∃ y, T[i + 1]? = some y := ⟨_, List.getElem?_eq_getElem (by omega)⟩
        have hdx := all_dig hck (by decide) x (List.mem_of_getElem? hx)
        have hdy := all_dig hck (by decide) y (List.mem_of_getElem? hy)
        refine CW.region ?_
        refine RG.vl rfl rfl rfl (Ev.move rfl rfl) ?_
        refine RG.vl rfl rfl rfl (Ev.move rfl rfl) ?_
        refine RG.vl rfl rfl rfl (Ev.byteAt rfl rfl rfl Tryd.underlying9 (by omega) (hx)) ?_
        refine RG.vl rfl rfl rfl (Ev.eqI rfl rfl rfl) ?_
        refine RG.vl rfl rfl rfl (Ev.move rfl rfl) ?_
        refine RG.split (d := 70) rfl (fun hg28 => ?_) (fun hg28 => ?_)
        · refine RG.vl rfl rfl rfl (Ev.move rfl rfl) ?_
          refine RG.vl rfl rfl rfl (Ev.move rfl rfl) ?_
          refine RG.vl rfl rfl rfl ((Ev.addI rfl rfl rfl (by omega)).conv (congrArg (Value.int .i64) (show (i : Int) + 1 = ((i + 1 : Nat) : Int) by omega))) ?_
          refine RG.vl rfl rfl rfl (Ev.byteAt rfl rfl rfl Tryd.underlying9 (by omega) ((show T[((i + 1 : Nat) : Int).toNat]? = some y from hy))) ?_
          refine RG.vl rfl rfl rfl (Ev.eqI rfl rfl rfl) ?_
          refine RG.vl rfl rfl rfl (Ev.pickT rfl rfl rfl) ?_
          refine RG.vl rfl rfl rfl (Ev.move rfl rfl) ?_
          refine RG.split (d := 77) rfl (fun hg29 => ?_) (fun hg29 => ?_)
          · refine RG.pass rfl rfl rfl ?_
            refine RG.pass rfl rfl rfl ?_
            refine RG.pass rfl rfl rfl ?_
            refine RG.pass rfl rfl rfl ?_
            refine RG.pass rfl rfl rfl ?_
            refine RG.pass rfl rfl rfl ?_
            refine RG.pass rfl rfl rfl ?_
            refine RG.pass rfl rfl rfl ?_
            refine RG.pass rfl rfl rfl ?_
            refine RG.pass rfl rfl rfl ?_
            refine RG.pass rfl rfl rfl ?_
            refine RG.vl rfl rfl rfl (Ev.pickT rfl rfl rfl) ?_
            refine RG.vl rfl rfl rfl (Ev.assign rfl rfl) ?_
            refine RG.done ?_
            refine QW.sub (S' := [(3, _), (4, _), (5, _), (6, _), (7, _), (9, _)]) ⟨rfl, rfl, rfl, rfl, rfl, rfl, trivial⟩ ?_
            refine QW.then_ ?_
            refine CW.seq ?_
            refine CW.draw [] (.ex) 17 rfl mixed (fun wd30 hxwd30 => ?_)
            replace hxwl16 := Ex.tr hxwl16 hxwd30
            have hE31 := hxwd30
            refine AG.take 0 rfl (by kernel_rfl) (by kernel_rfl) rfl rfl rfl (fun wq hq => Ev.ldAgg rfl rfl Tryd.underlying24 rfl sz_24 rfl (((hb1.ext hxwl16).ext hq).cells)) ?_
            refine AG.takeW 1 rfl (by kernel_rfl) (by kernel_rfl) rfl rfl rfl (fun _ => Ev.move rfl rfl) ?_
            refine AG.takeW 2 rfl (by kernel_rfl) (by kernel_rfl) rfl rfl rfl (fun _ => Ev.move rfl rfl) ?_
            refine AG.takeW 5 rfl (by kernel_rfl) (by kernel_rfl) rfl rfl rfl (fun _ => Ev.move rfl rfl) ?_
            refine AG.only 3 rfl (by kernel_rfl) ?_
            refine RG.call rfl rfl rfl rfl rfl rfl rfl en_28 (exch_ret T i x y _ hx hy (by omega)) ?_
            rintro _ w33 ⟨rfl, hx33⟩
            replace hxwl16 := Ex.tr hxwl16 hx33
            replace hE31 := Ex.tr hE31 hx33
            have hE34 := hx33
            refine RG.done ?_
            refine QW.an (fun _ => hE34) ?_
            refine AG.only 4 rfl (by kernel_rfl) ?_
            refine RG.call rfl rfl rfl rfl rfl rfl rfl en_26 (Pss_is (k := 3) (ws := []) nil_arg (by decide) (by (repeat rw [List.length_set]); omega) (luhn_two hck hpp (by omega) hx hy hdx hdy)) ?_
            rintro _ w36 ⟨rfl, hx36⟩
            replace hxwl16 := Ex.tr hxwl16 hx36
            replace hE31 := Ex.tr hE31 hx36
            replace hE34 := Ex.tr hE34 hx36
            have hE37 := hx36
            refine RG.done ?_
            refine QW.an (fun _ => hE37) ?_
            refine AG.takeW 6 rfl (by kernel_rfl) (by kernel_rfl) rfl rfl rfl (fun _ => Ev.move rfl rfl) ?_
            refine AG.pass 7 rfl (by kernel_rfl) (by kernel_rfl) rfl rfl rfl ?_
            refine AG.pass 8 rfl (by kernel_rfl) (by kernel_rfl) rfl rfl rfl ?_
            refine AG.pass 9 rfl (by kernel_rfl) (by kernel_rfl) rfl rfl rfl ?_
            refine AG.pass 10 rfl (by kernel_rfl) (by kernel_rfl) rfl rfl rfl ?_
            refine AG.pass 11 rfl (by kernel_rfl) (by kernel_rfl) rfl rfl rfl ?_
            refine AG.pass 12 rfl (by kernel_rfl) (by kernel_rfl) rfl rfl rfl ?_
            refine AG.pass 13 rfl (by kernel_rfl) (by kernel_rfl) rfl rfl rfl ?_
            refine AG.pass 14 rfl (by kernel_rfl) (by kernel_rfl) rfl rfl rfl ?_
            refine AG.takeW 15 rfl (by kernel_rfl) (by kernel_rfl) rfl rfl rfl (fun _ => Ev.pickT rfl rfl rfl) ?_
            refine AG.takeW 16 rfl (by kernel_rfl) (by kernel_rfl) rfl rfl rfl (fun _ => Ev.isF (Ev.neB rfl rfl rfl Tryd.underlying4) (fun h => h (by first | exact (decide_eq_true ((nine_iff hdx hdy).2 (by omega))) | exact (decide_eq_decide.2 ((nine_iff hdx hdy).trans (by omega)))))) ?_
            refine AG.done (by kernel_rfl) ?_
            refine QW.sub (S' := [(3, _), (4, _), (5, _), (6, _), (7, _), (106, _)]) ⟨rfl, rfl, rfl, rfl, rfl, rfl, trivial⟩ ?_
            refine QW.then_ ?_
            refine CW.condF rfl ?_
            refine CW.skip ?_
            refine QW.blockN ?_
            refine QW.then_ ?_
            refine CW.region ?_
            refine RG.vl rfl rfl rfl (Ev.move rfl rfl) ?_
            refine RG.vl rfl rfl rfl (Ev.addI rfl rfl rfl (by omega)) ?_
            refine RG.vl rfl rfl rfl (Ev.assign rfl rfl) ?_
            refine RG.done ?_
            refine QW.round1 (i + 1) ⟨rfl, trivial⟩ ⟨rfl, rfl, rfl, rfl, trivial⟩ ⟨by omega, hxwl16⟩ (by omega)
          · refine RG.vl rfl rfl rfl (Ev.move rfl rfl) ?_
            refine RG.vl rfl rfl rfl (Ev.move rfl rfl) ?_
            refine RG.vl rfl rfl rfl (Ev.byteAt rfl rfl rfl Tryd.underlying9 (by omega) (hx)) ?_
            refine RG.vl rfl rfl rfl (Ev.eqI rfl rfl rfl) ?_
            refine RG.vl rfl rfl rfl (Ev.move rfl rfl) ?_
            refine RG.split (d := 82) rfl (fun hg38 => ?_) (fun hg38 => ?_)
            · refine RG.vl rfl rfl rfl (Ev.move rfl rfl) ?_
              refine RG.vl rfl rfl rfl (Ev.move rfl rfl) ?_
              refine RG.vl rfl rfl rfl ((Ev.addI rfl rfl rfl (by omega)).conv (congrArg (Value.int .i64) (show (i : Int) + 1 = ((i + 1 : Nat) : Int) by omega))) ?_
              refine RG.vl rfl rfl rfl (Ev.byteAt rfl rfl rfl Tryd.underlying9 (by omega) ((show T[((i + 1 : Nat) : Int).toNat]? = some y from hy))) ?_
              refine RG.vl rfl rfl rfl (Ev.eqI rfl rfl rfl) ?_
              refine RG.vl rfl rfl rfl (Ev.pickT rfl rfl rfl) ?_
              refine RG.vl rfl rfl rfl (Ev.pickF rfl rfl rfl) ?_
              refine RG.vl rfl rfl rfl (Ev.assign rfl rfl) ?_
              refine RG.done ?_
              refine QW.sub (S' := [(3, _), (4, _), (5, _), (6, _), (7, _), (9, _)]) ⟨rfl, rfl, rfl, rfl, rfl, rfl, trivial⟩ ?_
              refine QW.then_ ?_
              refine CW.seq ?_
              refine CW.draw [] (.ex) 17 rfl mixed (fun wd39 hxwd39 => ?_)
              replace hxwl16 := Ex.tr hxwl16 hxwd39
              have hE40 := hxwd39
              refine AG.take 0 rfl (by kernel_rfl) (by kernel_rfl) rfl rfl rfl (fun wq hq => Ev.ldAgg rfl rfl Tryd.underlying24 rfl sz_24 rfl (((hb1.ext hxwl16).ext hq).cells)) ?_
              refine AG.takeW 1 rfl (by kernel_rfl) (by kernel_rfl) rfl rfl rfl (fun _ => Ev.move rfl rfl) ?_
              refine AG.takeW 2 rfl (by kernel_rfl) (by kernel_rfl) rfl rfl rfl (fun _ => Ev.move rfl rfl) ?_
              refine AG.takeW 5 rfl (by kernel_rfl) (by kernel_rfl) rfl rfl rfl (fun _ => Ev.move rfl rfl) ?_
              refine AG.only 3 rfl (by kernel_rfl) ?_
              refine RG.call rfl rfl rfl rfl rfl rfl rfl en_28 (exch_ret T i x y _ hx hy (by omega)) ?_
              rintro _ w42 ⟨rfl, hx42⟩
              replace hxwl16 := Ex.tr hxwl16 hx42
              replace hE40 := Ex.tr hE40 hx42
              have hE43 := hx42
              refine RG.done ?_
              refine QW.an (fun _ => hE43) ?_
              refine AG.only 4 rfl (by kernel_rfl) ?_
              refine RG.call rfl rfl rfl rfl rfl rfl rfl en_26 (Pss_is (k := 3) (ws := []) nil_arg (by decide) (by (repeat rw [List.length_set]); omega) (luhn_two hck hpp (by omega) hx hy hdx hdy)) ?_
              rintro _ w45 ⟨rfl, hx45⟩
              replace hxwl16 := Ex.tr hxwl16 hx45
              replace hE40 := Ex.tr hE40 hx45
              replace hE43 := Ex.tr hE43 hx45
              have hE46 := hx45
              refine RG.done ?_
              refine QW.an (fun _ => hE46) ?_
              refine AG.takeW 6 rfl (by kernel_rfl) (by kernel_rfl) rfl rfl rfl (fun _ => Ev.move rfl rfl) ?_
              refine AG.split (d := 96) rfl (fun hg47 => ?_) (fun hg47 => ?_)
              · refine AG.pass 7 rfl (by kernel_rfl) (by kernel_rfl) rfl rfl rfl ?_
                refine AG.pass 8 rfl (by kernel_rfl) (by kernel_rfl) rfl rfl rfl ?_
                refine AG.pass 9 rfl (by kernel_rfl) (by kernel_rfl) rfl rfl rfl ?_
                refine AG.pass 10 rfl (by kernel_rfl) (by kernel_rfl) rfl rfl rfl ?_
                refine AG.pass 11 rfl (by kernel_rfl) (by kernel_rfl) rfl rfl rfl ?_
                refine AG.pass 12 rfl (by kernel_rfl) (by kernel_rfl) rfl rfl rfl ?_
                refine AG.pass 13 rfl (by kernel_rfl) (by kernel_rfl) rfl rfl rfl ?_
                refine AG.pass 14 rfl (by kernel_rfl) (by kernel_rfl) rfl rfl rfl ?_
                refine AG.takeW 15 rfl (by kernel_rfl) (by kernel_rfl) rfl rfl rfl (fun _ => Ev.pickT rfl rfl rfl) ?_
                refine AG.takeW 16 rfl (by kernel_rfl) (by kernel_rfl) rfl rfl rfl (fun _ => Ev.isF (Ev.neB rfl rfl rfl Tryd.underlying4) (fun h => h (by first | exact (decide_eq_true ((nine_iff hdx hdy).2 (by omega))) | exact (decide_eq_decide.2 ((nine_iff hdx hdy).trans (by omega)))))) ?_
                refine AG.done (by kernel_rfl) ?_
                refine QW.sub (S' := [(3, _), (4, _), (5, _), (6, _), (7, _), (106, _)]) ⟨rfl, rfl, rfl, rfl, rfl, rfl, trivial⟩ ?_
                refine QW.then_ ?_
                refine CW.condF rfl ?_
                refine CW.skip ?_
                refine QW.blockN ?_
                refine QW.then_ ?_
                refine CW.region ?_
                refine RG.vl rfl rfl rfl (Ev.move rfl rfl) ?_
                refine RG.vl rfl rfl rfl (Ev.addI rfl rfl rfl (by omega)) ?_
                refine RG.vl rfl rfl rfl (Ev.assign rfl rfl) ?_
                refine RG.done ?_
                refine QW.round1 (i + 1) ⟨rfl, trivial⟩ ⟨rfl, rfl, rfl, rfl, trivial⟩ ⟨by omega, hxwl16⟩ (by omega)
              · refine AG.takeW 7 rfl (by kernel_rfl) (by kernel_rfl) rfl rfl rfl (fun _ => Ev.move rfl rfl) ?_
                refine AG.takeW 8 rfl (by kernel_rfl) (by kernel_rfl) rfl rfl rfl (fun _ => Ev.move rfl rfl) ?_
                refine AG.takeW 9 rfl (by kernel_rfl) (by kernel_rfl) rfl rfl rfl (fun _ => Ev.byteAt rfl rfl rfl Tryd.underlying9 (by omega) (hx)) ?_
                refine AG.takeW 10 rfl (by kernel_rfl) (by kernel_rfl) rfl rfl rfl (fun _ => Ev.move rfl rfl) ?_
                refine AG.takeW 11 rfl (by kernel_rfl) (by kernel_rfl) rfl rfl rfl (fun _ => Ev.move rfl rfl) ?_
                refine AG.takeW 12 rfl (by kernel_rfl) (by kernel_rfl) rfl rfl rfl (fun _ => (Ev.addI rfl rfl rfl (by omega)).conv (congrArg (Value.int .i64) (show (i : Int) + 1 = ((i + 1 : Nat) : Int) by omega))) ?_
                refine AG.takeW 13 rfl (by kernel_rfl) (by kernel_rfl) rfl rfl rfl (fun _ => Ev.byteAt rfl rfl rfl Tryd.underlying9 (by omega) ((show T[((i + 1 : Nat) : Int).toNat]? = some y from hy))) ?_
                refine AG.takeW 14 rfl (by kernel_rfl) (by kernel_rfl) rfl rfl rfl (fun _ => Ev.eqI rfl rfl rfl) ?_
                refine AG.takeW 15 rfl (by kernel_rfl) (by kernel_rfl) rfl rfl rfl (fun _ => Ev.pickF rfl rfl rfl) ?_
                refine AG.takeW 16 rfl (by kernel_rfl) (by kernel_rfl) rfl rfl rfl (fun _ => Ev.isF (Ev.neB rfl rfl rfl Tryd.underlying4) (fun h => h (by first | exact (decide_eq_true ((nine_iff hdx hdy).2 (by omega))) | exact (decide_eq_decide.2 ((nine_iff hdx hdy).trans (by omega)))))) ?_
                refine AG.done (by kernel_rfl) ?_
                refine QW.sub (S' := [(3, _), (4, _), (5, _), (6, _), (7, _), (106, _)]) ⟨rfl, rfl, rfl, rfl, rfl, rfl, trivial⟩ ?_
                refine QW.then_ ?_
                refine CW.condF rfl ?_
                refine CW.skip ?_
                refine QW.blockN ?_
                refine QW.then_ ?_
                refine CW.region ?_
                refine RG.vl rfl rfl rfl (Ev.move rfl rfl) ?_
                refine RG.vl rfl rfl rfl (Ev.addI rfl rfl rfl (by omega)) ?_
                refine RG.vl rfl rfl rfl (Ev.assign rfl rfl) ?_
                refine RG.done ?_
                refine QW.round1 (i + 1) ⟨rfl, trivial⟩ ⟨rfl, rfl, rfl, rfl, trivial⟩ ⟨by omega, hxwl16⟩ (by omega)
            · refine RG.pass rfl rfl rfl ?_
              refine RG.pass rfl rfl rfl ?_
              refine RG.pass rfl rfl rfl ?_
              refine RG.pass rfl rfl rfl ?_
              refine RG.pass rfl rfl rfl ?_
              refine RG.vl rfl rfl rfl (Ev.pickF rfl rfl rfl) ?_
              refine RG.vl rfl rfl rfl (Ev.pickF rfl rfl rfl) ?_
              refine RG.vl rfl rfl rfl (Ev.assign rfl rfl) ?_
              refine RG.done ?_
              refine QW.sub (S' := [(3, _), (4, _), (5, _), (6, _), (7, _), (9, _)]) ⟨rfl, rfl, rfl, rfl, rfl, rfl, trivial⟩ ?_
              refine QW.then_ ?_
              refine CW.seq ?_
              refine CW.draw [] (.ex) 17 rfl mixed (fun wd48 hxwd48 => ?_)
              replace hxwl16 := Ex.tr hxwl16 hxwd48
              have hE49 := hxwd48
              refine AG.take 0 rfl (by kernel_rfl) (by kernel_rfl) rfl rfl rfl (fun wq hq => Ev.ldAgg rfl rfl Tryd.underlying24 rfl sz_24 rfl (((hb1.ext hxwl16).ext hq).cells)) ?_
              refine AG.takeW 1 rfl (by kernel_rfl) (by kernel_rfl) rfl rfl rfl (fun _ => Ev.move rfl rfl) ?_
              refine AG.takeW 2 rfl (by kernel_rfl) (by kernel_rfl) rfl rfl rfl (fun _ => Ev.move rfl rfl) ?_
              refine AG.takeW 5 rfl (by kernel_rfl) (by kernel_rfl) rfl rfl rfl (fun _ => Ev.move rfl rfl) ?_
              refine AG.only 3 rfl (by kernel_rfl) ?_
              refine RG.call rfl rfl rfl rfl rfl rfl rfl en_28 (exch_ret T i x y _ hx hy (by omega)) ?_
              rintro _ w51 ⟨rfl, hx51⟩
              replace hxwl16 := Ex.tr hxwl16 hx51
              replace hE49 := Ex.tr hE49 hx51
              have hE52 := hx51
              refine RG.done ?_
              refine QW.an (fun _ => hE52) ?_
              refine AG.only 4 rfl (by kernel_rfl) ?_
              refine RG.call rfl rfl rfl rfl rfl rfl rfl en_26 (Pss_is (k := 3) (ws := []) nil_arg (by decide) (by (repeat rw [List.length_set]); omega) (luhn_two hck hpp (by omega) hx hy hdx hdy)) ?_
              rintro _ w54 ⟨rfl, hx54⟩
              replace hxwl16 := Ex.tr hxwl16 hx54
              replace hE49 := Ex.tr hE49 hx54
              replace hE52 := Ex.tr hE52 hx54
              have hE55 := hx54
              refine RG.done ?_
              refine QW.an (fun _ => hE55) ?_
              refine AG.takeW 6 rfl (by kernel_rfl) (by kernel_rfl) rfl rfl rfl (fun _ => Ev.move rfl rfl) ?_
              refine AG.takeW 7 rfl (by kernel_rfl) (by kernel_rfl) rfl rfl rfl (fun _ => Ev.move rfl rfl) ?_
              refine AG.takeW 8 rfl (by kernel_rfl) (by kernel_rfl) rfl rfl rfl (fun _ => Ev.move rfl rfl) ?_
              refine AG.takeW 9 rfl (by kernel_rfl) (by kernel_rfl) rfl rfl rfl (fun _ => Ev.byteAt rfl rfl rfl Tryd.underlying9 (by omega) (hx)) ?_
              refine AG.takeW 10 rfl (by kernel_rfl) (by kernel_rfl) rfl rfl rfl (fun _ => Ev.move rfl rfl) ?_
              refine AG.takeW 11 rfl (by kernel_rfl) (by kernel_rfl) rfl rfl rfl (fun _ => Ev.move rfl rfl) ?_
              refine AG.takeW 12 rfl (by kernel_rfl) (by kernel_rfl) rfl rfl rfl (fun _ => (Ev.addI rfl rfl rfl (by omega)).conv (congrArg (Value.int .i64) (show (i : Int) + 1 = ((i + 1 : Nat) : Int) by omega))) ?_
              refine AG.takeW 13 rfl (by kernel_rfl) (by kernel_rfl) rfl rfl rfl (fun _ => Ev.byteAt rfl rfl rfl Tryd.underlying9 (by omega) ((show T[((i + 1 : Nat) : Int).toNat]? = some y from hy))) ?_
              refine AG.takeW 14 rfl (by kernel_rfl) (by kernel_rfl) rfl rfl rfl (fun _ => Ev.eqI rfl rfl rfl) ?_
              refine AG.takeW 15 rfl (by kernel_rfl) (by kernel_rfl) rfl rfl rfl (fun _ => Ev.pickF rfl rfl rfl) ?_
              refine AG.takeW 16 rfl (by kernel_rfl) (by kernel_rfl) rfl rfl rfl (fun _ => Ev.isF (Ev.neB rfl rfl rfl Tryd.underlying4) (fun h => h (by first | exact (decide_eq_true ((nine_iff hdx hdy).2 (by omega))) | exact (decide_eq_decide.2 ((nine_iff hdx hdy).trans (by omega)))))) ?_
              refine AG.done (by kernel_rfl) ?_
              refine QW.sub (S' := [(3, _), (4, _), (5, _), (6, _), (7, _), (106, _)]) ⟨rfl, rfl, rfl, rfl, rfl, rfl, trivial⟩ ?_
              refine QW.then_ ?_
              refine CW.condF rfl ?_
              refine CW.skip ?_
              refine QW.blockN ?_
              refine QW.then_ ?_
              refine CW.region ?_
              refine RG.vl rfl rfl rfl (Ev.move rfl rfl) ?_
              refine RG.vl rfl rfl rfl (Ev.addI rfl rfl rfl (by omega)) ?_
              refine RG.vl rfl rfl rfl (Ev.assign rfl rfl) ?_
              refine RG.done ?_
              refine QW.round1 (i + 1) ⟨rfl, trivial⟩ ⟨rfl, rfl, rfl, rfl, trivial⟩ ⟨by omega, hxwl16⟩ (by omega)
        · refine RG.pass rfl rfl rfl ?_
          refine RG.pass rfl rfl rfl ?_
          refine RG.pass rfl rfl rfl ?_
          refine RG.pass rfl rfl rfl ?_
          refine RG.pass rfl rfl rfl ?_
          refine RG.vl rfl rfl rfl (Ev.pickF rfl rfl rfl) ?_
          refine RG.vl rfl rfl rfl (Ev.move rfl rfl) ?_
          refine RG.vl rfl rfl rfl (Ev.move rfl rfl) ?_
          refine RG.vl rfl rfl rfl (Ev.move rfl rfl) ?_
          refine RG.vl rfl rfl rfl (Ev.byteAt rfl rfl rfl Tryd.underlying9 (by omega) (hx)) ?_
          refine RG.vl rfl rfl rfl (Ev.eqI rfl rfl rfl) ?_
          refine RG.vl rfl rfl rfl (Ev.move rfl rfl) ?_
          refine RG.split (d := 82) rfl (fun hg56 => ?_) (fun hg56 => ?_)
          · refine RG.vl rfl rfl rfl (Ev.move rfl rfl) ?_
            refine RG.vl rfl rfl rfl (Ev.move rfl rfl) ?_
            refine RG.vl rfl rfl rfl ((Ev.addI rfl rfl rfl (by omega)).conv (congrArg (Value.int .i64) (show (i : Int) + 1 = ((i + 1 : Nat) : Int) by omega))) ?_
            refine RG.vl rfl rfl rfl (Ev.byteAt rfl rfl rfl Tryd.underlying9 (by omega) ((show T[((i + 1 : Nat) : Int).toNat]? = some y from hy))) ?_
            refine RG.vl rfl rfl rfl (Ev.eqI rfl rfl rfl) ?_
            refine RG.vl rfl rfl rfl (Ev.pickT rfl rfl rfl) ?_
            refine RG.vl rfl rfl rfl (Ev.pickF rfl rfl rfl) ?_
            refine RG.vl rfl rfl rfl (Ev.assign rfl rfl) ?_
            refine RG.done ?_
            refine QW.sub (S' := [(3, _), (4, _), (5, _), (6, _), (7, _), (9, _)]) ⟨rfl, rfl, rfl, rfl, rfl, rfl, trivial⟩ ?_
            refine QW.then_ ?_
            refine CW.seq ?_
            refine CW.draw [] (.ex) 17 rfl mixed (fun wd57 hxwd57 => ?_)
            replace hxwl16 := Ex.tr hxwl16 hxwd57
            have hE58 := hxwd57
            refine AG.take 0 rfl (by kernel_rfl) (by kernel_rfl) rfl rfl rfl (fun wq hq => Ev.ldAgg rfl rfl Tryd.underlying24 rfl sz_24 rfl (((hb1.ext hxwl16).ext hq).cells)) ?_
            refine AG.takeW 1 rfl (by kernel_rfl) (by kernel_rfl) rfl rfl rfl (fun _ => Ev.move rfl rfl) ?_
            refine AG.takeW 2 rfl (by kernel_rfl) (by kernel_rfl) rfl rfl rfl (fun _ => Ev.move rfl rfl) ?_
            refine AG.takeW 5 rfl (by kernel_rfl) (by kernel_rfl) rfl rfl rfl (fun _ => Ev.move rfl rfl) ?_
            refine AG.only 3 rfl (by kernel_rfl) ?_
            refine RG.call rfl rfl rfl rfl rfl rfl rfl en_28 (exch_ret T i x y _ hx hy (by omega)) ?_
            rintro _ w60 ⟨rfl, hx60⟩
            replace hxwl16 := Ex.tr hxwl16 hx60
            replace hE58 := Ex.tr hE58 hx60
            have hE61 := hx60
            refine RG.done ?_
            refine QW.an (fun _ => hE61) ?_
            refine AG.only 4 rfl (by kernel_rfl) ?_
            refine RG.call rfl rfl rfl rfl rfl rfl rfl en_26 (Pss_is (k := 3) (ws := []) nil_arg (by decide) (by (repeat rw [List.length_set]); omega) (luhn_two hck hpp (by omega) hx hy hdx hdy)) ?_
            rintro _ w63 ⟨rfl, hx63⟩
            replace hxwl16 := Ex.tr hxwl16 hx63
            replace hE58 := Ex.tr hE58 hx63
            replace hE61 := Ex.tr hE61 hx63
            have hE64 := hx63
            refine RG.done ?_
            refine QW.an (fun _ => hE64) ?_
            refine AG.takeW 6 rfl (by kernel_rfl) (by kernel_rfl) rfl rfl rfl (fun _ => Ev.move rfl rfl) ?_
            refine AG.split (d := 96) rfl (fun hg65 => ?_) (fun hg65 => ?_)
            · refine AG.pass 7 rfl (by kernel_rfl) (by kernel_rfl) rfl rfl rfl ?_
              refine AG.pass 8 rfl (by kernel_rfl) (by kernel_rfl) rfl rfl rfl ?_
              refine AG.pass 9 rfl (by kernel_rfl) (by kernel_rfl) rfl rfl rfl ?_
              refine AG.pass 10 rfl (by kernel_rfl) (by kernel_rfl) rfl rfl rfl ?_
              refine AG.pass 11 rfl (by kernel_rfl) (by kernel_rfl) rfl rfl rfl ?_
              refine AG.pass 12 rfl (by kernel_rfl) (by kernel_rfl) rfl rfl rfl ?_
              refine AG.pass 13 rfl (by kernel_rfl) (by kernel_rfl) rfl rfl rfl ?_
              refine AG.pass 14 rfl (by kernel_rfl) (by kernel_rfl) rfl rfl rfl ?_
              refine AG.takeW 15 rfl (by kernel_rfl) (by kernel_rfl) rfl rfl rfl (fun _ => Ev.pickT rfl rfl rfl) ?_
              refine AG.takeW 16 rfl (by kernel_rfl) (by kernel_rfl) rfl rfl rfl (fun _ => Ev.isF (Ev.neB rfl rfl rfl Tryd.underlying4) (fun h => h (by first | exact (decide_eq_true ((nine_iff hdx hdy).2 (by omega))) | exact (decide_eq_decide.2 ((nine_iff hdx hdy).trans (by omega)))))) ?_
              refine AG.done (by kernel_rfl) ?_
              refine QW.sub (S' := [(3, _), (4, _), (5, _), (6, _), (7, _), (106, _)]) ⟨rfl, rfl, rfl, rfl, rfl, rfl, trivial⟩ ?_
              refine QW.then_ ?_
              refine CW.condF rfl ?_
              refine CW.skip ?_
              refine QW.blockN ?_
              refine QW.then_ ?_
              refine CW.region ?_
              refine RG.vl rfl rfl rfl (Ev.move rfl rfl) ?_
              refine RG.vl rfl rfl rfl (Ev.addI rfl rfl rfl (by omega)) ?_
              refine RG.vl rfl rfl rfl (Ev.assign rfl rfl) ?_
              refine RG.done ?_
              refine QW.round1 (i + 1) ⟨rfl, trivial⟩ ⟨rfl, rfl, rfl, rfl, trivial⟩ ⟨by omega, hxwl16⟩ (by omega)
            · refine AG.takeW 7 rfl (by kernel_rfl) (by kernel_rfl) rfl rfl rfl (fun _ => Ev.move rfl rfl) ?_
              refine AG.takeW 8 rfl (by kernel_rfl) (by kernel_rfl) rfl rfl rfl (fun _ => Ev.move rfl rfl) ?_
              refine AG.takeW 9 rfl (by kernel_rfl) (by kernel_rfl) rfl rfl rfl (fun _ => Ev.byteAt rfl rfl rfl Tryd.underlying9 (by omega) (hx)) ?_
              refine AG.takeW 10 rfl (by kernel_rfl) (by kernel_rfl) rfl rfl rfl (fun _ => Ev.move rfl rfl) ?_
              refine AG.takeW 11 rfl (by kernel_rfl) (by kernel_rfl) rfl rfl rfl (fun _ => Ev.move rfl rfl) ?_
              refine AG.takeW 12 rfl (by kernel_rfl) (by kernel_rfl) rfl rfl rfl (fun _ => (Ev.addI rfl rfl rfl (by omega)).conv (congrArg (Value.int .i64) (show (i : Int) + 1 = ((i + 1 : Nat) : Int) by omega))) ?_
              refine AG.takeW 13 rfl (by kernel_rfl) (by kernel_rfl) rfl rfl rfl (fun _ => Ev.byteAt rfl rfl rfl Tryd.underlying9 (by omega) ((show T[((i + 1 : Nat) : Int).toNat]? = some y from hy))) ?_
              refine AG.takeW 14 rfl (by kernel_rfl) (by kernel_rfl) rfl rfl rfl (fun _ => Ev.eqI rfl rfl rfl) ?_
              refine AG.takeW 15 rfl (by kernel_rfl) (by kernel_rfl) rfl rfl rfl (fun _ => Ev.pickF rfl rfl rfl) ?_
              refine AG.takeW 16 rfl (by kernel_rfl) (by kernel_rfl) rfl rfl rfl (fun _ => Ev.isF (Ev.neB rfl rfl rfl Tryd.underlying4) (fun h => h (by first | exact (decide_eq_true ((nine_iff hdx hdy).2 (by omega))) | exact (decide_eq_decide.2 ((nine_iff hdx hdy).trans (by omega)))))) ?_
              refine AG.done (by kernel_rfl) ?_
              refine QW.sub (S' := [(3, _), (4, _), (5, _), (6, _), (7, _), (106, _)]) ⟨rfl, rfl, rfl, rfl, rfl, rfl, trivial⟩ ?_
              refine QW.then_ ?_
              refine CW.condF rfl ?_
              refine CW.skip ?_
              refine QW.blockN ?_
              refine QW.then_ ?_
              refine CW.region ?_
              refine RG.vl rfl rfl rfl (Ev.move rfl rfl) ?_
              refine RG.vl rfl rfl rfl (Ev.addI rfl rfl rfl (by omega)) ?_
              refine RG.vl rfl rfl rfl (Ev.assign rfl rfl) ?_
              refine RG.done ?_
              refine QW.round1 (i + 1) ⟨rfl, trivial⟩ ⟨rfl, rfl, rfl, rfl, trivial⟩ ⟨by omega, hxwl16⟩ (by omega)
          · refine RG.pass rfl rfl rfl ?_
            refine RG.pass rfl rfl rfl ?_
            refine RG.pass rfl rfl rfl ?_
            refine RG.pass rfl rfl rfl ?_
            refine RG.pass rfl rfl rfl ?_
            refine RG.vl rfl rfl rfl (Ev.pickF rfl rfl rfl) ?_
            refine RG.vl rfl rfl rfl (Ev.pickF rfl rfl rfl) ?_
            refine RG.vl rfl rfl rfl (Ev.assign rfl rfl) ?_
            refine RG.done ?_
            refine QW.sub (S' := [(3, _), (4, _), (5, _), (6, _), (7, _), (9, _)]) ⟨rfl, rfl, rfl, rfl, rfl, rfl, trivial⟩ ?_
            refine QW.then_ ?_
            refine CW.seq ?_
            refine CW.draw [] (.ex) 17 rfl mixed (fun wd66 hxwd66 => ?_)
            replace hxwl16 := Ex.tr hxwl16 hxwd66
            have hE67 := hxwd66
            refine AG.take 0 rfl (by kernel_rfl) (by kernel_rfl) rfl rfl rfl (fun wq hq => Ev.ldAgg rfl rfl Tryd.underlying24 rfl sz_24 rfl (((hb1.ext hxwl16).ext hq).cells)) ?_
            refine AG.takeW 1 rfl (by kernel_rfl) (by kernel_rfl) rfl rfl rfl (fun _ => Ev.move rfl rfl) ?_
            refine AG.takeW 2 rfl (by kernel_rfl) (by kernel_rfl) rfl rfl rfl (fun _ => Ev.move rfl rfl) ?_
            refine AG.takeW 5 rfl (by kernel_rfl) (by kernel_rfl) rfl rfl rfl (fun _ => Ev.move rfl rfl) ?_
            refine AG.only 3 rfl (by kernel_rfl) ?_
            refine RG.call rfl rfl rfl rfl rfl rfl rfl en_28 (exch_ret T i x y _ hx hy (by omega)) ?_
            rintro _ w69 ⟨rfl, hx69⟩
            replace hxwl16 := Ex.tr hxwl16 hx69
            replace hE67 := Ex.tr hE67 hx69
            have hE70 := hx69
            refine RG.done ?_
            refine QW.an (fun _ => hE70) ?_
            refine AG.only 4 rfl (by kernel_rfl) ?_
            refine RG.call rfl rfl rfl rfl rfl rfl rfl en_26 (Pss_is (k := 3) (ws := []) nil_arg (by decide) (by (repeat rw [List.length_set]); omega) (luhn_two hck hpp (by omega) hx hy hdx hdy)) ?_
            rintro _ w72 ⟨rfl, hx72⟩
            replace hxwl16 := Ex.tr hxwl16 hx72
            replace hE67 := Ex.tr hE67 hx72
            replace hE70 := Ex.tr hE70 hx72
            have hE73 := hx72
            refine RG.done ?_
            refine QW.an (fun _ => hE73) ?_
            refine AG.takeW 6 rfl (by kernel_rfl) (by kernel_rfl) rfl rfl rfl (fun _ => Ev.move rfl rfl) ?_
            refine AG.takeW 7 rfl (by kernel_rfl) (by kernel_rfl) rfl rfl rfl (fun _ => Ev.move rfl rfl) ?_
            refine AG.takeW 8 rfl (by kernel_rfl) (by kernel_rfl) rfl rfl rfl (fun _ => Ev.move rfl rfl) ?_
            refine AG.takeW 9 rfl (by kernel_rfl) (by kernel_rfl) rfl rfl rfl (fun _ => Ev.byteAt rfl rfl rfl Tryd.underlying9 (by omega) (hx)) ?_
            refine AG.takeW 10 rfl (by kernel_rfl) (by kernel_rfl) rfl rfl rfl (fun _ => Ev.move rfl rfl) ?_
            refine AG.takeW 11 rfl (by kernel_rfl) (by kernel_rfl) rfl rfl rfl (fun _ => Ev.move rfl rfl) ?_
            refine AG.takeW 12 rfl (by kernel_rfl) (by kernel_rfl) rfl rfl rfl (fun _ => (Ev.addI rfl rfl rfl (by omega)).conv (congrArg (Value.int .i64) (show (i : Int) + 1 = ((i + 1 : Nat) : Int) by omega))) ?_
            refine AG.takeW 13 rfl (by kernel_rfl) (by kernel_rfl) rfl rfl rfl (fun _ => Ev.byteAt rfl rfl rfl Tryd.underlying9 (by omega) ((show T[((i + 1 : Nat) : Int).toNat]? = some y from hy))) ?_
            refine AG.takeW 14 rfl (by kernel_rfl) (by kernel_rfl) rfl rfl rfl (fun _ => Ev.eqI rfl rfl rfl) ?_
            refine AG.takeW 15 rfl (by kernel_rfl) (by kernel_rfl) rfl rfl rfl (fun _ => Ev.pickF rfl rfl rfl) ?_
            refine AG.takeW 16 rfl (by kernel_rfl) (by kernel_rfl) rfl rfl rfl (fun _ => Ev.isF (Ev.neB rfl rfl rfl Tryd.underlying4) (fun h => h (by first | exact (decide_eq_true ((nine_iff hdx hdy).2 (by omega))) | exact (decide_eq_decide.2 ((nine_iff hdx hdy).trans (by omega)))))) ?_
            refine AG.done (by kernel_rfl) ?_
            refine QW.sub (S' := [(3, _), (4, _), (5, _), (6, _), (7, _), (106, _)]) ⟨rfl, rfl, rfl, rfl, rfl, rfl, trivial⟩ ?_
            refine QW.then_ ?_
            refine CW.condF rfl ?_
            refine CW.skip ?_
            refine QW.blockN ?_
            refine QW.then_ ?_
            refine CW.region ?_
            refine RG.vl rfl rfl rfl (Ev.move rfl rfl) ?_
            refine RG.vl rfl rfl rfl (Ev.addI rfl rfl rfl (by omega)) ?_
            refine RG.vl rfl rfl rfl (Ev.assign rfl rfl) ?_
            refine RG.done ?_
            refine QW.round1 (i + 1) ⟨rfl, trivial⟩ ⟨rfl, rfl, rfl, rfl, trivial⟩ ⟨by omega, hxwl16⟩ (by omega)
      · refine CW.skip ?_
        refine QW.blockN ?_
        refine QW.then_ ?_
        refine CW.region ?_
        refine RG.vl rfl rfl rfl (Ev.move rfl rfl) ?_
        refine RG.vl rfl rfl rfl (Ev.addI rfl rfl rfl (by omega)) ?_
        refine RG.vl rfl rfl rfl (Ev.assign rfl rfl) ?_
        refine RG.done ?_
        refine QW.round1 (i + 1) ⟨rfl, trivial⟩ ⟨rfl, rfl, rfl, rfl, trivial⟩ ⟨by omega, hxwl16⟩ (by omega)
  · refine CW.exit ?_
    refine QW.thenExit ?_
    refine QW.thenExit ?_
    refine QW.blockHit ?_
    refine QW.then_ ?_
    refine CW.seq ?_
    have hML := miss_luhn_is hD1 hD2
    have hLl := lnL_len D.length
    have hLa := fun i (h : i < (lnL D.length).length) => lnL_at h
    generalize lnL D.length = L at *
    refine CW.region ?_
    refine RG.vl rfl rfl rfl (Ev.ldAgg rfl rfl Tryd.underlying24 rfl sz_24 rfl ((hb1.ext hxwl14).cells)) ?_
    refine RG.vl rfl rfl rfl (Ev.move rfl rfl) ?_
    refine RG.vl rfl rfl rfl (Ev.lenStr rfl rfl rfl Tryd.underlying9) ?_
    refine RG.call rfl rfl rfl rfl rfl rfl rfl en_15 (Misses_is (k := 3) (ws := []) nil_arg (by decide) (hML)) ?_
    have hpre74 := (Ex.tr hR10 hxwl14)
    rintro _ w74 ⟨r74, rfl, hm74, hx74⟩
    replace hxwl14 := Ex.tr hxwl14 hx74
    have hE75 := hx74
    refine RG.vl rfl rfl rfl (Ev.move rfl rfl) ?_
    refine RG.vl rfl rfl rfl (Ev.extract rfl rfl rfl) ?_
    refine RG.vl rfl rfl rfl (Ev.extract rfl rfl rfl) ?_
    refine RG.vl rfl rfl rfl (Ev.assign rfl rfl) ?_
    refine RG.vl rfl rfl rfl (Ev.assign rfl rfl) ?_
    refine RG.done ?_
    refine QW.then_ ?_
    refine CW.seq ?_
    refine CW.seq ?_
    refine CW.region ?_
    refine RG.vl rfl rfl rfl (Ev.move rfl rfl) ?_
    refine RG.vl rfl rfl rfl (Ev.isF (Ev.neI rfl rfl rfl) (fun h => h rfl)) ?_
    refine RG.vl rfl rfl rfl (Ev.move rfl rfl) ?_
    refine RG.vl rfl rfl rfl (Ev.move rfl rfl) ?_
    refine RG.vl rfl rfl rfl (Ev.lenL rfl rfl rfl Tryd.underlying30 ((hm74.rdl encM_len))) ?_
    refine RG.vl rfl rfl rfl (Ev.move rfl rfl) ?_
    refine RG.vl rfl rfl rfl (Ev.lenStr rfl rfl rfl Tryd.underlying9) ?_
    refine RG.vl rfl rfl rfl (Ev.subI rfl rfl rfl (by omega)) ?_
    refine RG.vl rfl rfl rfl (Ev.isF (Ev.neI rfl rfl rfl) (by omega)) ?_
    refine RG.vl rfl rfl rfl (Ev.pickF rfl rfl rfl) ?_
    refine RG.done ?_
    refine QW.sub (S' := [(10, _), (123, _)]) ⟨rfl, rfl, trivial⟩ ?_
    refine QW.then_ ?_
    refine CW.condF rfl ?_
    refine CW.skip ?_
    refine QW.then_ ?_
    refine CW.seq ?_
    refine CW.seq ?_
    refine CW.region ?_
    refine RG.vl rfl rfl rfl (Ev.move rfl rfl) ?_
    refine RG.vl rfl rfl rfl (Ev.lenL rfl rfl rfl Tryd.underlying30 ((hm74.rdl encM_len))) ?_
    refine RG.vl rfl rfl rfl (Ev.move rfl rfl) ?_
    refine RG.done ?_
    refine QW.then_ ?_
    refine CW.block ?_
    replace hl := (hl.ext hxwl14)
    replace hb1 := (hb1.ext hxwl14)
    have hR76 := (Ex.tr hR10 hxwl14)
    have hR77 := (Ex.tr hR11 hxwl14)
    have hR78 := (Ex.tr hR12 hxwl14)
    have hR79 := (Ex.tr hR13 hxwl14)
    have hR80 := hxwl14
    have hR81 := hE75
    refine CW.loop1 [(124, _), (125, _)] ⟨rfl, rfl, trivial⟩ (fun (i : Nat) => [(126, .int .i64 (i : Int))]) (fun i w' => (i ≤ L.length) ∧ Ex w74 w') (fun i => L.length - i) (0) ⟨rfl, trivial⟩ ⟨by omega, (Ex.rfl_ _)⟩ ?_
    rintro i wl82 ⟨hi, hxwl82⟩
    refine CW.sub (S' := [(126, _), (124, _), (125, _)]) ⟨rfl, rfl, rfl, trivial⟩ ?_
    refine CW.seq ?_
    refine CW.region ?_
    refine RG.vl rfl rfl rfl (Ev.lss rfl rfl rfl) ?_
    refine RG.done ?_
    refine QW.then_ ?_
    refine CW.seq ?_
    refine CW.condP rfl (fun hc83 => ?_) (fun hc83 => ?_)
    · refine CW.skip ?_
      refine QW.then_ ?_
      refine CW.seq ?_
      refine CW.block ?_
      refine CW.seq ?_
      have hm := hLa i (by omega)
      refine CW.region ?_
      refine RG.vl rfl rfl rfl (Ev.move rfl rfl) ?_
      refine RG.idxO rfl rfl rfl rfl rfl rfl Tryd.underlying30 sz_36 encM_len ((Own.ext hm74 hxwl82)) (hm) (fun g85 hg85 hBg85 hp84b hp84 => ?_)
      refine RG.vl rfl rfl rfl (Ev.ldAgg rfl rfl Tryd.underlying36 rfl sz_36 rfl (hp84)) ?_
      refine RG.alloc_ rfl rfl rfl rfl inf_36 (fun g86 w86 eg86 hx86 hb86 => ?_)
      have hsb87 := fun e => sep_new (g := g86) (Own.ext hm74 hxwl82) eg86 e
      have hle88 : w74.heap.size ≤ g86 := by have := hxwl82.size; omega
      have hle89 : wl82.heap.size ≤ g86 := by have := (Ex.rfl_ wl82).size; omega
      have hlt90 : g1 < g86 := by have := Blk.lt (hb1.ext hxwl82); omega
      replace hxwl82 := Ex.tr hxwl82 hx86
      have hE91 := hx86
      refine RG.vl rfl rfl rfl (Ev.assign rfl rfl) ?_
      refine RG.stAll (g := g86) rfl rfl rfl rfl rfl sz_36 rfl rfl rfl hb86 (fun ws92 hwws92 hbws92 => ?_)
      replace hxwl82 := Wr.below hxwl82 hwws92 hle88
      replace hE91 := Wr.below hE91 hwws92 hle89
      refine RG.done ?_
      refine QW.then_ ?_
      refine CW.seq ?_
      refine CW.region ?_
      refine RG.vl rfl rfl rfl (Ev.ldAgg rfl rfl Tryd.underlying36 rfl sz_36 rfl (hbws92.cells)) ?_
      refine RG.vl rfl rfl rfl (Ev.move rfl rfl) ?_
      refine RG.vl rfl rfl rfl (Ev.addI rfl rfl rfl (by omega)) ?_
      refine RG.vl rfl rfl rfl (Ev.build1 rfl rfl rfl inf_36 rfl rfl (by kernel_rfl) rfl) ?_
      refine RG.vl rfl rfl rfl ((Ev.neA rfl rfl rfl (by kernel_rfl)).conv ((show Value.bool (!(veqs (encM (true, i + 1, 0, 9)) (encM (true, i + 1, 0, 9)))) = Value.bool false by rw [veqs_miss]; simp))) ?_
      refine RG.done ?_
      refine QW.then_ ?_
      refine CW.condF rfl ?_
      refine CW.skip ?_
      refine QW.blockN ?_
      refine QW.then_ ?_
      refine CW.region ?_
      refine RG.vl rfl rfl rfl (Ev.addI rfl rfl rfl (by omega)) ?_
      refine RG.vl rfl rfl rfl (Ev.move rfl rfl) ?_
      refine RG.done ?_
      refine QW.round1 (i + 1) ⟨rfl, trivial⟩ ⟨rfl, rfl, trivial⟩ ⟨by omega, hxwl82⟩ (by omega)
    · refine CW.exit ?_
      refine QW.thenExit ?_
      refine QW.thenExit ?_
      refine QW.blockHit ?_
      refine QW.then_ ?_
      refine CW.seq ?_
      refine CW.region ?_
      refine RG.call rfl rfl rfl rfl rfl rfl rfl en_12 (awake_ret _) ?_
      rintro _ w93 ⟨rfl, hx93⟩
      replace hxwl82 := Ex.tr hxwl82 hx93
      have hE94 := hx93
      refine RG.vl rfl rfl rfl (Ev.assign rfl rfl) ?_
      refine RG.done ?_
      refine QW.then_ ?_
      refine CW.ret ?_
      refine QW.ret1 rfl rfl ?_
      have hB := (Ex.tr hR76 hxwl82)
      exact ⟨rfl, hB⟩

end Go.Proofs.YtnhkhpnkhkagaaaDoor
