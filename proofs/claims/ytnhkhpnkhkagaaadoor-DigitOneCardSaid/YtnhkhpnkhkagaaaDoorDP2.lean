/- Walks (DP2). Written by program. -/
import Derived.Test.YtnhkhpnkhkagaaaDoorT
import Derived.Test.YtnhkhpnkhkagaaaDoorDW
namespace Go.Proofs.YtnhkhpnkhkagaaaDoor
open Go.RowKit
set_option maxRecDepth 100000 in
set_option maxHeartbeats 8000000 in
theorem digitOne_ret (kd : Nat) (mv lv : Value) (m l : List UInt8) (w : World) (hm : RdL w 1 encB mv m) (hl : RdL w 1 encB lv l) (hk : kd < 256) :
    Ret Tryd.prog 4 [.int .u8 (kd : Int), mv, lv] w (fun v w' => v = .bool true ∧ Ex w w') := by
  obtain ⟨mA, mC, rfl⟩ := hm.shape
  obtain ⟨lA, lC, rfl⟩ := hl.shape
  have hB0 : Ex w w := Ex.rfl_ _
  refine Ret.of Tryd.func4 rfl Tryd.ntmps4 rfl ?_
  refine CW.seq ?_
  refine CW.region ?_
  refine RG.vl rfl rfl rfl (Ev.assign rfl rfl) ?_
  refine RG.done ?_
  refine QW.then_ ?_
  refine CW.seq ?_
  refine CW.region ?_
  refine RG.vl rfl rfl rfl (Ev.move rfl rfl) ?_
  refine RG.vl rfl rfl rfl (Ev.move rfl rfl) ?_
  refine RG.call rfl rfl rfl rfl rfl rfl rfl en_18 (any_ret kd _ m _ hm hk) ?_
  rintro _ w1 ⟨k, ws, wv, rfl, hws, hr, hx1⟩
  have hE2 := hx1
  replace hws := Own.rdl hws encI_len
  obtain ⟨wA, wC, rfl⟩ := hws.shape
  have hwl : ws.length ≤ 100000 := right_len10 hr
  refine RG.local_ rfl rfl rfl rfl (fun _ => rfl) rfl rfl (fun _ => rfl) inf_24 rfl rfl rfl (fun g3 w3 eg3 hx3 hb3 => ?_)
  have hle4 : w.heap.size ≤ g3 := by have := hE2.size; omega
  have hle5 : w1.heap.size ≤ g3 := by have := (Ex.rfl_ w1).size; omega
  replace hE2 := Ex.tr hE2 hx3
  have hE6 := hx3
  refine RG.done ?_
  refine QW.then_ ?_
  refine CW.seq ?_
  refine CW.region ?_
  refine RG.vl rfl rfl rfl (Ev.move rfl rfl) ?_
  refine RG.call rfl rfl rfl rfl rfl rfl rfl en_19 (payload_ret _ l _ (hl.ext hE2)) ?_
  rintro _ w7 ⟨rfl, hx7⟩
  replace hE2 := Ex.tr hE2 hx7
  replace hE6 := Ex.tr hE6 hx7
  have hE8 := hx7
  refine RG.vl rfl rfl rfl (Ev.assign rfl rfl) ?_
  refine RG.done ?_
  refine QW.then_ ?_
  refine CW.seq ?_
  obtain ⟨hD1, hD2⟩ := payL_len l
  have hDp := payL_pay l
  generalize payL l = D at *
  have hDs := sbytes D
  have hDn : D ≠ [] := fun e => by subst e; exact absurd hD1 (by decide)
  have hch := check_right hr hDp hD2
  have hcl := checkD_le k ws (vals (D ++ [48]))
  have hmo := mostD_or k
  have hcn := chr_nat (i := checkD k ws (vals (D ++ [48]))) (by omega)
  refine CW.region ?_
  refine RG.vl rfl rfl rfl (Ev.ldAgg rfl rfl Tryd.underlying24 rfl sz_24 rfl ((hb3.ext hE8).cells)) ?_
  refine RG.vl rfl rfl rfl (Ev.move rfl rfl) ?_
  refine RG.call rfl rfl rfl rfl rfl rfl rfl en_20 (Check_is (k := k) (ws := ws) (hws.ext hE6) hwl (by omega) (hch)) ?_
  rintro _ w9 ⟨rfl, hx9⟩
  replace hE2 := Ex.tr hE2 hx9
  replace hE6 := Ex.tr hE6 hx9
  replace hE8 := Ex.tr hE8 hx9
  have hE10 := hx9
  refine RG.vl rfl rfl rfl (Ev.move rfl rfl) ?_
  refine RG.vl rfl rfl rfl (Ev.extract rfl rfl rfl) ?_
  refine RG.vl rfl rfl rfl (Ev.extract rfl rfl rfl) ?_
  refine RG.vl rfl rfl rfl (Ev.assign rfl rfl) ?_
  refine RG.vl rfl rfl rfl (Ev.assign rfl rfl) ?_
  refine RG.done ?_
  refine QW.sub (S' := [(6, _), (7, _), (8, _), (9, _), (10, _)]) ⟨rfl, rfl, rfl, rfl, rfl, trivial⟩ ?_
  refine QW.then_ ?_
  refine CW.seq ?_
  refine CW.seq ?_
  refine CW.region ?_
  refine RG.vl rfl rfl rfl (Ev.move rfl rfl) ?_
  refine RG.vl rfl rfl rfl (Ev.isF (Ev.neI rfl rfl rfl) (fun h => h rfl)) ?_
  refine RG.done ?_
  refine QW.then_ ?_
  refine CW.condF rfl ?_
  refine CW.skip ?_
  refine QW.then_ ?_
  refine CW.seq ?_
  refine CW.seq ?_
  refine CW.region ?_
  refine RG.vl rfl rfl rfl (Ev.assign rfl rfl) ?_
  refine RG.done ?_
  refine QW.then_ ?_
  refine CW.block ?_
  replace hm := (hm.ext hE2)
  replace hl := (hl.ext hE2)
  replace hws := (hws.ext hE6)
  replace hb3 := (hb3.ext hE8)
  have hR11 := (Ex.tr hB0 hE2)
  have hR12 := hE8
  have hR13 := hE10
  refine CW.loop1 [(7, _), (8, _), (9, _), (10, _)] ⟨rfl, rfl, rfl, rfl, trivial⟩ (fun (i : Nat) => [(11, .int .i64 (i : Int))]) (fun i w' => (i ≤ 11) ∧ Ex w9 w') (fun i => 11 - i) (0) ⟨rfl, trivial⟩ ⟨by omega, (Ex.rfl_ _)⟩ ?_
  rintro i wl14 ⟨hi, hxwl14⟩
  refine CW.sub (S' := [(11, _), (7, _), (8, _), (9, _), (10, _)]) ⟨rfl, rfl, rfl, rfl, rfl, trivial⟩ ?_
  refine CW.seq ?_
  refine CW.seq ?_
  refine CW.region ?_
  refine RG.vl rfl rfl rfl (Ev.move rfl rfl) ?_
  refine RG.vl rfl rfl rfl (Ev.lss rfl rfl rfl) ?_
  refine RG.done ?_
  refine QW.then_ ?_
  refine CW.condP rfl (fun hc15 => ?_) (fun hc15 => ?_)
  · refine CW.skip ?_
    refine QW.then_ ?_
    refine CW.seq ?_
    refine CW.block ?_
    refine CW.seq ?_
    obtain ⟨E, hE, hEE⟩ := one_test (i := i) hr hDp hD2 (by omega)
    have hin := chr_nat (i := i) (by omega)
    have hl1 : (D ++ [chr i]).length = D.length + 1 := by simp
    refine CW.draw [] (.ex) 13 rfl mixed (fun wd16 hxwd16 => ?_)
    replace hxwl14 := Ex.tr hxwl14 hxwd16
    have hE17 := hxwd16
    refine AG.take 0 rfl (by kernel_rfl) (by kernel_rfl) rfl rfl rfl (fun wq hq => Ev.ldAgg rfl rfl Tryd.underlying24 rfl sz_24 rfl (((hb3.ext hxwl14).ext hq).cells)) ?_
    refine AG.takeW 1 rfl (by kernel_rfl) (by kernel_rfl) rfl rfl rfl (fun _ => Ev.move rfl rfl) ?_
    refine AG.takeW 2 rfl (by kernel_rfl) (by kernel_rfl) rfl rfl rfl (fun _ => Ev.move rfl rfl) ?_
    refine AG.takeW 3 rfl (by kernel_rfl) (by kernel_rfl) rfl rfl rfl (fun _ => Ev.move rfl rfl) ?_
    refine AG.takeW 4 rfl (by kernel_rfl) (by kernel_rfl) rfl rfl rfl (fun _ => Ev.addI rfl rfl rfl (by omega)) ?_
    refine AG.takeW 5 rfl (by kernel_rfl) (by kernel_rfl) rfl rfl rfl (fun _ => (Ev.cutStr (i := i) (j := i + 1) rfl rfl Tryd.underlying9 rfl rfl (by omega) (by rw [show (⟨allC.toArray⟩ : ByteArray).size = 11 from rfl]; omega)).conv (congrArg Value.string (all_cut (i := i) (by omega)))) ?_
    refine AG.takeW 6 rfl (by kernel_rfl) (by kernel_rfl) rfl rfl rfl (fun _ => (Ev.cat rfl rfl rfl (by rw [sbytes, sbytes]; show _ + 1 ≤ _; omega)).conv (congrArg Value.string (bx_cat D [chr i]))) ?_
    refine AG.only 7 rfl (by kernel_rfl) ?_
    refine RG.call rfl rfl rfl rfl rfl rfl rfl en_21 (Test_is (k := k) (ws := ws) (hws.ext hxwl14) hwl (by omega) (hE)) ?_
    rintro _ w19 ⟨rfl, hx19⟩
    replace hxwl14 := Ex.tr hxwl14 hx19
    replace hE17 := Ex.tr hE17 hx19
    have hE20 := hx19
    refine RG.done ?_
    refine QW.an (fun _ => hE20) ?_
    refine AG.takeW 8 rfl (by kernel_rfl) (by kernel_rfl) rfl rfl rfl (fun _ => Ev.move rfl rfl) ?_
    refine AG.takeW 9 rfl (by kernel_rfl) (by kernel_rfl) rfl rfl rfl (fun _ => Ev.extract rfl rfl rfl) ?_
    refine AG.takeW 10 rfl (by kernel_rfl) (by kernel_rfl) rfl rfl rfl (fun _ => Ev.extract rfl rfl rfl) ?_
    refine AG.takeW 11 rfl (by kernel_rfl) (by kernel_rfl) rfl rfl rfl (fun _ => Ev.assign rfl rfl) ?_
    refine AG.takeW 12 rfl (by kernel_rfl) (by kernel_rfl) rfl rfl rfl (fun _ => Ev.assign rfl rfl) ?_
    refine AG.done (by kernel_rfl) ?_
    refine QW.sub (S' := [(7, _), (8, _), (9, _), (10, _), (11, _), (12, _), (13, _)]) ⟨rfl, rfl, rfl, rfl, rfl, rfl, rfl, trivial⟩ ?_
    refine QW.then_ ?_
    refine CW.seq ?_
    refine CW.region ?_
    refine RG.vl rfl rfl rfl (Ev.move rfl rfl) ?_
    refine RG.vl rfl rfl rfl (Ev.byteAt rfl rfl rfl Tryd.underlying9 (by omega) ((show _ = some (chr i) from all_at (i := i) (by omega)))) ?_
    refine RG.vl rfl rfl rfl (Ev.eqI rfl rfl rfl) ?_
    refine RG.vl rfl rfl rfl (Ev.move rfl rfl) ?_
    refine RG.split (d := 48) rfl (fun hg21 => ?_) (fun hg21 => ?_)
    · refine RG.vl rfl rfl rfl (Ev.fld rfl rfl fld_24_0) ?_
      refine RG.vl rfl rfl rfl (Ev.ldAt rfl rfl Tryd.underlying5 rfl ((hb3.ext hxwl14).cells) (rfl)) ?_
      refine RG.vl rfl rfl rfl (Ev.neI rfl rfl rfl) ?_
      refine RG.vl rfl rfl rfl (Ev.pickT rfl rfl rfl) ?_
      refine RG.vl rfl rfl rfl (Ev.assign rfl rfl) ?_
      refine RG.done ?_
      refine QW.then_ ?_
      refine CW.seq ?_
      refine CW.region ?_
      refine RG.vl rfl rfl rfl (Ev.move rfl rfl) ?_
      refine RG.vl rfl rfl rfl (Ev.move rfl rfl) ?_
      refine RG.vl rfl rfl rfl (Ev.byteAt rfl rfl rfl Tryd.underlying9 (by omega) ((show _ = some (chr i) from all_at (i := i) (by omega)))) ?_
      refine RG.vl rfl rfl rfl (Ev.move rfl rfl) ?_
      refine RG.vl rfl rfl rfl (Ev.eqI rfl rfl rfl) ?_
      refine RG.vl rfl rfl rfl (Ev.isF (Ev.neB rfl rfl rfl Tryd.underlying4) (fun h => h (by first | exact decide_eq_decide.2 (by omega) | exact (decide_eq_true (by omega)) | exact (decide_eq_false (by omega)) | exact (decide_eq_true (by omega)).symm | exact (decide_eq_false (by omega)).symm))) ?_
      refine RG.vl rfl rfl rfl (Ev.move rfl rfl) ?_
      refine RG.vl rfl rfl rfl (Ev.move rfl rfl) ?_
      refine RG.vl rfl rfl rfl (Ev.eqI rfl rfl rfl) ?_
      refine RG.vl rfl rfl rfl (Ev.move rfl rfl) ?_
      refine RG.vl rfl rfl rfl (Ev.isF (Ev.neB rfl rfl rfl Tryd.underlying4) (fun h => h (by first | exact decide_eq_decide.2 (by omega) | exact (decide_eq_true (by omega)) | exact (decide_eq_false (by omega)) | exact (decide_eq_true (by omega)).symm | exact (decide_eq_false (by omega)).symm))) ?_
      refine RG.vl rfl rfl rfl (Ev.pickF rfl rfl rfl) ?_
      refine RG.vl rfl rfl rfl (Ev.move rfl rfl) ?_
      refine RG.vl rfl rfl rfl (Ev.move rfl rfl) ?_
      refine RG.vl rfl rfl rfl (Ev.notP rfl rfl) ?_
      refine RG.vl rfl rfl rfl (Ev.move rfl rfl) ?_
      refine RG.split (d := 68) rfl (fun hg22 => ?_) (fun hg22 => ?_)
      · refine RG.vl rfl rfl rfl (Ev.move rfl rfl) ?_
        refine RG.vl rfl rfl rfl (Ev.isF (Ev.neI rfl rfl rfl) (fun h => h (by omega))) ?_
        refine RG.vl rfl rfl rfl (Ev.pickT rfl rfl rfl) ?_
        refine RG.vl rfl rfl rfl (Ev.pickF rfl rfl rfl) ?_
        refine RG.done ?_
        refine QW.sub (S' := [(7, _), (8, _), (9, _), (10, _), (11, _), (72, _)]) ⟨rfl, rfl, rfl, rfl, rfl, rfl, trivial⟩ ?_
        refine QW.then_ ?_
        refine CW.condF rfl ?_
        refine CW.skip ?_
        refine QW.blockN ?_
        refine QW.then_ ?_
        refine CW.region ?_
        refine RG.vl rfl rfl rfl (Ev.move rfl rfl) ?_
        refine RG.vl rfl rfl rfl (Ev.addI rfl rfl rfl (by omega)) ?_
        refine RG.vl rfl rfl rfl (Ev.assign rfl rfl) ?_
        refine RG.done ?_
        refine QW.round1 (i + 1) ⟨rfl, trivial⟩ ⟨rfl, rfl, rfl, rfl, trivial⟩ ⟨by omega, hxwl14⟩ (by omega)
      · refine RG.pass rfl rfl rfl ?_
        refine RG.pass rfl rfl rfl ?_
        refine RG.vl rfl rfl rfl (Ev.pickF rfl rfl rfl) ?_
        refine RG.vl rfl rfl rfl (Ev.pickF rfl rfl rfl) ?_
        refine RG.done ?_
        refine QW.sub (S' := [(7, _), (8, _), (9, _), (10, _), (11, _), (72, _)]) ⟨rfl, rfl, rfl, rfl, rfl, rfl, trivial⟩ ?_
        refine QW.then_ ?_
        refine CW.condF rfl ?_
        refine CW.skip ?_
        refine QW.blockN ?_
        refine QW.then_ ?_
        refine CW.region ?_
        refine RG.vl rfl rfl rfl (Ev.move rfl rfl) ?_
        refine RG.vl rfl rfl rfl (Ev.addI rfl rfl rfl (by omega)) ?_
        refine RG.vl rfl rfl rfl (Ev.assign rfl rfl) ?_
        refine RG.done ?_
        refine QW.round1 (i + 1) ⟨rfl, trivial⟩ ⟨rfl, rfl, rfl, rfl, trivial⟩ ⟨by omega, hxwl14⟩ (by omega)
    · refine RG.pass rfl rfl rfl ?_
      refine RG.pass rfl rfl rfl ?_
      refine RG.pass rfl rfl rfl ?_
      refine RG.vl rfl rfl rfl (Ev.pickF rfl rfl rfl) ?_
      refine RG.vl rfl rfl rfl (Ev.assign rfl rfl) ?_
      refine RG.done ?_
      refine QW.then_ ?_
      refine CW.seq ?_
      refine CW.region ?_
      refine RG.vl rfl rfl rfl (Ev.move rfl rfl) ?_
      refine RG.vl rfl rfl rfl (Ev.move rfl rfl) ?_
      refine RG.vl rfl rfl rfl (Ev.byteAt rfl rfl rfl Tryd.underlying9 (by omega) ((show _ = some (chr i) from all_at (i := i) (by omega)))) ?_
      refine RG.vl rfl rfl rfl (Ev.move rfl rfl) ?_
      refine RG.vl rfl rfl rfl (Ev.eqI rfl rfl rfl) ?_
      refine RG.vl rfl rfl rfl (Ev.isF (Ev.neB rfl rfl rfl Tryd.underlying4) (fun h => h (by first | exact decide_eq_decide.2 (by omega) | exact (decide_eq_true (by omega)) | exact (decide_eq_false (by omega)) | exact (decide_eq_true (by omega)).symm | exact (decide_eq_false (by omega)).symm))) ?_
      refine RG.vl rfl rfl rfl (Ev.move rfl rfl) ?_
      refine RG.vl rfl rfl rfl (Ev.move rfl rfl) ?_
      refine RG.vl rfl rfl rfl (Ev.eqI rfl rfl rfl) ?_
      refine RG.vl rfl rfl rfl (Ev.move rfl rfl) ?_
      refine RG.vl rfl rfl rfl (Ev.isF (Ev.neB rfl rfl rfl Tryd.underlying4) (fun h => h (by first | exact decide_eq_decide.2 (by omega) | exact (decide_eq_true (by omega)) | exact (decide_eq_false (by omega)) | exact (decide_eq_true (by omega)).symm | exact (decide_eq_false (by omega)).symm))) ?_
      refine RG.vl rfl rfl rfl (Ev.pickF rfl rfl rfl) ?_
      refine RG.vl rfl rfl rfl (Ev.move rfl rfl) ?_
      refine RG.vl rfl rfl rfl (Ev.move rfl rfl) ?_
      refine RG.vl rfl rfl rfl (Ev.notT rfl rfl) ?_
      refine RG.vl rfl rfl rfl (Ev.move rfl rfl) ?_
      refine RG.vl rfl rfl rfl (Ev.move rfl rfl) ?_
      refine RG.vl rfl rfl rfl (Ev.isF (Ev.neI rfl rfl rfl) (fun h => h (by omega))) ?_
      refine RG.vl rfl rfl rfl (Ev.pickT rfl rfl rfl) ?_
      refine RG.vl rfl rfl rfl (Ev.pickF rfl rfl rfl) ?_
      refine RG.done ?_
      refine QW.sub (S' := [(7, _), (8, _), (9, _), (10, _), (11, _), (72, _)]) ⟨rfl, rfl, rfl, rfl, rfl, rfl, trivial⟩ ?_
      refine QW.then_ ?_
      refine CW.condF rfl ?_
      refine CW.skip ?_
      refine QW.blockN ?_
      refine QW.then_ ?_
      refine CW.region ?_
      refine RG.vl rfl rfl rfl (Ev.move rfl rfl) ?_
      refine RG.vl rfl rfl rfl (Ev.addI rfl rfl rfl (by omega)) ?_
      refine RG.vl rfl rfl rfl (Ev.assign rfl rfl) ?_
      refine RG.done ?_
      refine QW.round1 (i + 1) ⟨rfl, trivial⟩ ⟨rfl, rfl, rfl, rfl, trivial⟩ ⟨by omega, hxwl14⟩ (by omega)
  · refine CW.exit ?_
    refine QW.thenExit ?_
    refine QW.thenExit ?_
    refine QW.blockHit ?_
    refine QW.then_ ?_
    refine CW.seq ?_
    refine CW.region ?_
    refine RG.vl rfl rfl rfl (Ev.ldAgg rfl rfl Tryd.underlying24 rfl sz_24 rfl ((hb3.ext hxwl14).cells)) ?_
    refine RG.vl rfl rfl rfl (Ev.move rfl rfl) ?_
    refine RG.vl rfl rfl rfl ((Ev.cat rfl rfl rfl (by rw [sbytes, sbytes]; show 1 + _ ≤ _; omega)).conv (congrArg Value.string (bx_cat [88] D))) ?_
    refine RG.call rfl rfl rfl rfl rfl rfl rfl en_21 (Test_is (k := k) (ws := ws) (hws.ext hxwl14) hwl (by show D.length + 1 ≤ _; omega) (test_no_chk hr (chk_x k hDn (by decide)) (by show D.length + 1 ≤ 31; omega))) ?_
    rintro _ w23 ⟨rfl, hx23⟩
    replace hxwl14 := Ex.tr hxwl14 hx23
    have hE24 := hx23
    refine RG.vl rfl rfl rfl (Ev.move rfl rfl) ?_
    refine RG.vl rfl rfl rfl (Ev.extract rfl rfl rfl) ?_
    refine RG.vl rfl rfl rfl (Ev.extract rfl rfl rfl) ?_
    refine RG.vl rfl rfl rfl (Ev.assign rfl rfl) ?_
    refine RG.done ?_
    refine QW.then_ ?_
    refine CW.seq ?_
    refine CW.draw [] (.ex) 10 rfl mixed (fun wd25 hxwd25 => ?_)
    replace hxwl14 := Ex.tr hxwl14 hxwd25
    replace hE24 := Ex.tr hE24 hxwd25
    refine AG.take 0 rfl (by kernel_rfl) (by kernel_rfl) rfl rfl rfl (fun wq hq => Ev.ldAgg rfl rfl Tryd.underlying24 rfl sz_24 rfl (((hb3.ext hxwl14).ext hq).cells)) ?_
    refine AG.takeW 1 rfl (by kernel_rfl) (by kernel_rfl) rfl rfl rfl (fun _ => Ev.move rfl rfl) ?_
    refine AG.takeW 2 rfl (by kernel_rfl) (by kernel_rfl) rfl rfl rfl (fun _ => (Ev.cutStr (i := 1) (j := D.length) rfl rfl Tryd.underlying9 rfl rfl (by omega) (by omega)).conv (congrArg Value.string (bx_cut D 1 D.length))) ?_
    refine AG.takeW 3 rfl (by kernel_rfl) (by kernel_rfl) rfl rfl rfl (fun _ => (Ev.cat rfl rfl rfl (by rw [sbytes, sbytes]; simp; omega)).conv (congrArg Value.string (bx_cat [88] _))) ?_
    refine AG.only 4 rfl (by kernel_rfl) ?_
    refine RG.call rfl rfl rfl rfl rfl rfl rfl en_20 (Check_is (k := k) (ws := ws) (hws.ext hxwl14) hwl (by simp; omega) (check_no_pay hr (pay_x _ (by decide)) (by simp; omega))) ?_
    rintro _ w27 ⟨rfl, hx27⟩
    replace hxwl14 := Ex.tr hxwl14 hx27
    replace hE24 := Ex.tr hE24 hx27
    have hE28 := hx27
    refine RG.done ?_
    refine QW.an (fun _ => hE28) ?_
    refine AG.takeW 5 rfl (by kernel_rfl) (by kernel_rfl) rfl rfl rfl (fun _ => Ev.move rfl rfl) ?_
    refine AG.takeW 6 rfl (by kernel_rfl) (by kernel_rfl) rfl rfl rfl (fun _ => Ev.extract rfl rfl rfl) ?_
    refine AG.takeW 7 rfl (by kernel_rfl) (by kernel_rfl) rfl rfl rfl (fun _ => Ev.extract rfl rfl rfl) ?_
    refine AG.takeW 8 rfl (by kernel_rfl) (by kernel_rfl) rfl rfl rfl (fun _ => Ev.assign rfl rfl) ?_
    refine AG.takeW 9 rfl (by kernel_rfl) (by kernel_rfl) rfl rfl rfl (fun _ => Ev.assign rfl rfl) ?_
    refine AG.done (by kernel_rfl) ?_
    refine QW.sub (S' := [(10, _), (16, _)]) ⟨rfl, rfl, trivial⟩ ?_
    refine QW.then_ ?_
    refine CW.seq ?_
    refine CW.region ?_
    refine RG.call rfl rfl rfl rfl rfl rfl rfl en_12 (awake_ret _) ?_
    rintro _ w29 ⟨rfl, hx29⟩
    replace hxwl14 := Ex.tr hxwl14 hx29
    replace hE24 := Ex.tr hE24 hx29
    replace hE28 := Ex.tr hE28 hx29
    have hE30 := hx29
    refine RG.vl rfl rfl rfl (Ev.move rfl rfl) ?_
    refine RG.vl rfl rfl rfl (Ev.move rfl rfl) ?_
    refine RG.vl rfl rfl rfl (Ev.isT (Ev.eqI rfl rfl rfl) (rfl)) ?_
    refine RG.vl rfl rfl rfl (Ev.pickT rfl rfl rfl) ?_
    refine RG.vl rfl rfl rfl (Ev.move rfl rfl) ?_
    refine RG.vl rfl rfl rfl (Ev.move rfl rfl) ?_
    refine RG.vl rfl rfl rfl (Ev.isT (Ev.eqI rfl rfl rfl) (rfl)) ?_
    refine RG.vl rfl rfl rfl (Ev.pickT rfl rfl rfl) ?_
    refine RG.vl rfl rfl rfl (Ev.assign rfl rfl) ?_
    refine RG.done ?_
    refine QW.then_ ?_
    refine CW.ret ?_
    refine QW.ret1 rfl rfl ?_
    have hB := (Ex.tr hR11 hxwl14)
    exact ⟨rfl, hB⟩

end Go.Proofs.YtnhkhpnkhkagaaaDoor
