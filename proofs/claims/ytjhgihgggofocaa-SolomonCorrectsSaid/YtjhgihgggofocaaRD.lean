/- Walks (RD). Written by program. -/
import Derived.Test.YtjhgihgggofocaaT
import Derived.Test.YtjhgihgggofocaaRB
import Derived.Test.YtjhgihgggofocaaSY
namespace Go.Proofs.Ytjhgihgggofocaa
open Go.RowKit
set_option maxRecDepth 100000 in
set_option maxHeartbeats 8000000 in
theorem solomonCorrects_ret (lv mv : Value) (l : List Nat) (m : List Noi) (w : World) (hl : RdL w 1 encN lv l) (hm : RdL w 3 encNoi mv m) (hlb : ∀ c ∈ l, c < 256) (hmb : ∀ x ∈ m, x.p < 256 ∧ x.a < 256) :
    Ret Try.prog 6 [lv, mv] w (fun v w' => v = .bool true ∧ Ex w w') := by
  obtain ⟨lA, lC, rfl⟩ := hl.shape
  obtain ⟨mA, mC, rfl⟩ := hm.shape
  have hX1 := dataL_len l
  have hB0 : Ex w w := Ex.rfl_ _
  refine Ret.of Try.func6 rfl Try.ntmps6 rfl ?_
  refine CW.seq ?_
  refine CW.region ?_
  refine RG.vl rfl rfl rfl (Ev.assign rfl rfl) ?_
  refine RG.done ?_
  refine QW.then_ ?_
  refine CW.seq ?_
  refine CW.region ?_
  refine RG.vl rfl rfl rfl (Ev.move rfl rfl) ?_
  refine RG.call rfl rfl rfl rfl rfl rfl rfl en_21 (coded_ret _ l _ (hl) hlb) ?_
  have hpre1 := hB0
  rintro _ w1 ⟨r1, c, rfl, hoc, hen, hx1⟩
  have hE2 := hx1
  refine RG.vl rfl rfl rfl (Ev.move rfl rfl) ?_
  refine RG.vl rfl rfl rfl (Ev.extract rfl rfl rfl) ?_
  refine RG.vl rfl rfl rfl (Ev.extract rfl rfl rfl) ?_
  refine RG.vl rfl rfl rfl (Ev.assign rfl rfl) ?_
  refine RG.vl rfl rfl rfl (Ev.assign rfl rfl) ?_
  refine RG.done ?_
  refine QW.then_ ?_
  refine CW.seq ?_
  refine CW.seq ?_
  refine CW.region ?_
  refine RG.vl rfl rfl rfl (Ev.move rfl rfl) ?_
  refine RG.vl rfl rfl rfl (Ev.notF rfl rfl) ?_
  refine RG.done ?_
  refine QW.then_ ?_
  refine CW.condF rfl ?_
  refine CW.skip ?_
  refine QW.then_ ?_
  refine CW.seq ?_
  have hcl1 := hen.len
  have hc0 : 0 < c.length := by omega
  have hc1 : c.length ≤ 63 := by omega
  have hcl : El c := hen.el
  refine CW.region ?_
  refine RG.vl rfl rfl rfl (Ev.move rfl rfl) ?_
  refine RG.vl rfl rfl rfl (Ev.move rfl rfl) ?_
  refine RG.vl rfl rfl rfl (Ev.move rfl rfl) ?_
  refine RG.vl rfl rfl rfl (Ev.lenL rfl rfl rfl Try.underlying39 ((hm.ext hE2))) ?_
  refine RG.vl rfl rfl rfl ((Ev.min2 rfl rfl rfl rfl).conv (congrArg (Value.int .i64) (show min ((m.length : Nat) : Int) 6 = ((min m.length 6 : Nat) : Int) by omega))) ?_
  refine RG.sliceL (L := 0) (H := min m.length 6) _ rfl rfl rfl rfl rfl Try.underlying39 sz_70 (hm) (.inl ⟨rfl, rfl⟩) (.inr ⟨_, _, _, rfl, rfl, by omega⟩) (by omega) (by omega) (fun v3 hrv3 => ?_)
  rw [n19_min] at hrv3
  have hnb : ∀ x ∈ m.take 6, x.p < 256 ∧ x.a < 256 := fun x hx => hmb x (List.mem_of_mem_take hx)
  refine RG.call rfl rfl rfl rfl rfl rfl rfl en_22 (read_ret _ _ _ _ _ ((hoc.rdl encN_len)) ((hrv3.ext hE2)) hnb (by rw [List.length_take]; omega) hc0 hc1 hcl) ?_
  have hpre4 := (Ex.tr hB0 hE2)
  rintro _ w4 ⟨r4, e4, h4, o, er, ch, rfl, hor4, hoe4, hoh4, hol, hel, hnd, ⟨hern, hchn⟩, hall, hch, hx4⟩
  replace hE2 := Ex.tr hE2 hx4
  have hE5 := hx4
  refine RG.vl rfl rfl rfl (Ev.move rfl rfl) ?_
  refine RG.vl rfl rfl rfl (Ev.extract rfl rfl rfl) ?_
  refine RG.vl rfl rfl rfl (Ev.extract rfl rfl rfl) ?_
  refine RG.vl rfl rfl rfl (Ev.extract rfl rfl rfl) ?_
  refine RG.vl rfl rfl rfl (Ev.assign rfl rfl) ?_
  refine RG.vl rfl rfl rfl (Ev.assign rfl rfl) ?_
  refine RG.vl rfl rfl rfl (Ev.assign rfl rfl) ?_
  refine RG.done ?_
  refine QW.sub (S' := [(4, _), (5, _), (7, _), (8, _), (9, _)]) ⟨rfl, rfl, rfl, rfl, rfl, trivial⟩ ?_
  refine QW.then_ ?_
  refine CW.seq ?_
  have hWo : isW o = true := isW_iff.2 ⟨by omega, by omega, hel⟩
  have hCc : Code_ o.length c := by have k := enc_code hen; rw [← hen.len, ← hol] at k; exact k
  by_cases hbd : 2 * ch.length + er.length ≤ 4
  · refine CW.region ?_
    refine RG.vl rfl rfl rfl (Ev.move rfl rfl) ?_
    refine RG.vl rfl rfl rfl (Ev.move rfl rfl) ?_
    refine RG.call rfl rfl rfl rfl rfl rfl rfl en_13 (dec_is _ _ _ o (er.map fun n : Nat => (n : Int)) c ch ((hor4.rdl encN_len)) (rdl_i ((hoe4.rdl encZ_len))) hWo (okE_cast hnd hall) (by rw [List.length_map]; omega) hCc (by rw [erN_cast]; exact hch.symm) (by rw [List.length_map]; exact hbd)) ?_
    have hpre6 := (Ex.tr hB0 hE2)
    rintro _ w6 ⟨A1, B1, C1, D1, rfl, hox, hoy, hx6⟩
    replace hE2 := Ex.tr hE2 hx6
    replace hE5 := Ex.tr hE5 hx6
    have hE7 := hx6
    refine RG.vl rfl rfl rfl (Ev.move rfl rfl) ?_
    refine RG.vl rfl rfl rfl (Ev.extract rfl rfl rfl) ?_
    refine RG.vl rfl rfl rfl (Ev.extract rfl rfl rfl) ?_
    refine RG.local_ rfl rfl rfl rfl (fun _ => rfl) rfl rfl (fun _ => rfl) inf_28 rfl rfl rfl (fun g8 w8 eg8 hx8 hb8 => ?_)
    have hsb9 := fun e => sep_new (g := g8) (Own.ext hoc hE5) eg8 e
    have hsb10 := fun e => sep_new (g := g8) (Own.ext hor4 hE7) eg8 e
    have hsb11 := fun e => sep_new (g := g8) (Own.ext hoe4 hE7) eg8 e
    have hsb12 := fun e => sep_new (g := g8) (Own.ext hoh4 hE7) eg8 e
    have hsb13 := fun e => sep_new (g := g8) hox eg8 e
    have hsb14 := fun e => sep_new (g := g8) hoy eg8 e
    have hle15 : w.heap.size ≤ g8 := by have := hE2.size; omega
    have hle16 : w1.heap.size ≤ g8 := by have := hE5.size; omega
    have hle17 : w4.heap.size ≤ g8 := by have := hE7.size; omega
    have hle18 : w6.heap.size ≤ g8 := by have := (Ex.rfl_ w6).size; omega
    replace hE2 := Ex.tr hE2 hx8
    replace hE5 := Ex.tr hE5 hx8
    replace hE7 := Ex.tr hE7 hx8
    have hE19 := hx8
    refine RG.vl rfl rfl rfl (Ev.assign rfl rfl) ?_
    refine RG.done ?_
    refine QW.then_ ?_
    refine CW.seq ?_
    refine CW.seq ?_
    refine CW.region ?_
    refine RG.vl rfl rfl rfl (Ev.move rfl rfl) ?_
    refine RG.vl rfl rfl rfl (Ev.lenL rfl rfl rfl Try.underlying23 (((Own.ext hoh4 hE7).rdl encZ_len))) ?_
    refine RG.vl rfl rfl rfl (Ev.mulI rfl rfl rfl (by omega)) ?_
    refine RG.vl rfl rfl rfl (Ev.move rfl rfl) ?_
    refine RG.vl rfl rfl rfl (Ev.lenL rfl rfl rfl Try.underlying23 (((Own.ext hoe4 hE7).rdl encZ_len))) ?_
    refine RG.vl rfl rfl rfl (Ev.addI rfl rfl rfl (by omega)) ?_
    refine RG.vl rfl rfl rfl (Ev.isT (Ev.leq rfl rfl rfl) (by omega)) ?_
    refine RG.done ?_
    refine QW.sub (S' := [(4, _), (5, _), (7, _), (8, _), (9, _), (10, _), (11, _), (42, _)]) ⟨rfl, rfl, rfl, rfl, rfl, rfl, rfl, rfl, trivial⟩ ?_
    refine QW.then_ ?_
    refine CW.condT rfl ?_
    refine CW.seq ?_
    refine CW.region ?_
    refine RG.vl rfl rfl rfl (Ev.move rfl rfl) ?_
    refine RG.vl rfl rfl rfl (Ev.isT (Ev.eqI rfl rfl rfl) (rfl)) ?_
    refine RG.vl rfl rfl rfl (Ev.move rfl rfl) ?_
    refine RG.vl rfl rfl rfl (Ev.fld rfl rfl fld_28_0) ?_
    refine RG.vl rfl rfl rfl (Ev.ldAt rfl rfl Try.underlying22 rfl (hb8.cells) (rfl)) ?_
    refine RG.vl rfl rfl rfl (Ev.move rfl rfl) ?_
    refine RG.call rfl rfl rfl rfl rfl rfl rfl en_19 (sameBt_ret _ _ c _ (((Own.ext hox hE19).rdl encN_len)) (((Own.ext hoc hE5).rdl encN_len)) (by omega)) ?_
    rintro _ w20 ⟨rfl, hx20⟩
    replace hE2 := Ex.tr hE2 hx20
    replace hE5 := Ex.tr hE5 hx20
    replace hE7 := Ex.tr hE7 hx20
    replace hE19 := Ex.tr hE19 hx20
    have hE21 := hx20
    refine RG.vl rfl rfl rfl (Ev.pickT rfl rfl rfl) ?_
    refine RG.vl rfl rfl rfl (Ev.move rfl rfl) ?_
    refine RG.vl rfl rfl rfl (Ev.fld rfl rfl fld_28_1) ?_
    refine RG.vl rfl rfl rfl (Ev.ldAt rfl rfl Try.underlying23 rfl ((hb8.ext hE21).cells) (rfl)) ?_
    refine RG.vl rfl rfl rfl (Ev.move rfl rfl) ?_
    refine RG.call rfl rfl rfl rfl rfl rfl rfl en_20 (sameIt_ret _ _ ch _ (((Own.ext hoy hE19).rdl encZ_len)) (((Own.ext hoh4 hE7).rdl encZ_len)) (by omega)) ?_
    rintro _ w22 ⟨rfl, hx22⟩
    replace hE2 := Ex.tr hE2 hx22
    replace hE5 := Ex.tr hE5 hx22
    replace hE7 := Ex.tr hE7 hx22
    replace hE19 := Ex.tr hE19 hx22
    replace hE21 := Ex.tr hE21 hx22
    have hE23 := hx22
    refine RG.vl rfl rfl rfl (Ev.pickT rfl rfl rfl) ?_
    refine RG.vl rfl rfl rfl (Ev.move rfl rfl) ?_
    refine RG.call rfl rfl rfl rfl rfl rfl rfl en_10 (awake_ret _) ?_
    rintro _ w24 ⟨rfl, hx24⟩
    replace hE2 := Ex.tr hE2 hx24
    replace hE5 := Ex.tr hE5 hx24
    replace hE7 := Ex.tr hE7 hx24
    replace hE19 := Ex.tr hE19 hx24
    replace hE21 := Ex.tr hE21 hx24
    replace hE23 := Ex.tr hE23 hx24
    have hE25 := hx24
    refine RG.vl rfl rfl rfl (Ev.pickT rfl rfl rfl) ?_
    refine RG.vl rfl rfl rfl (Ev.assign rfl rfl) ?_
    refine RG.done ?_
    refine QW.sub (S' := [(4, _), (7, _), (8, _), (10, _), (11, _)]) ⟨rfl, rfl, rfl, rfl, rfl, trivial⟩ ?_
    refine QW.then_ ?_
    refine CW.ret ?_
    refine QW.thenRet ?_
    refine QW.ret1 rfl rfl ?_
    have hB := (Ex.tr hB0 hE2)
    exact ⟨rfl, hB⟩
  · refine CW.region ?_
    refine RG.vl rfl rfl rfl (Ev.move rfl rfl) ?_
    refine RG.vl rfl rfl rfl (Ev.move rfl rfl) ?_
    refine RG.call rfl rfl rfl rfl rfl rfl rfl en_13 (dec_gen _ _ _ o er ((hor4.rdl encN_len)) ((hoe4.rdl encZ_len)) hWo hnd hall) ?_
    have hpre26 := (Ex.tr hB0 hE2)
    rintro _ w26 ⟨A1, B1, C1, D1, d, es, e, rfl, hox, hoy, hout, hx26⟩
    replace hE2 := Ex.tr hE2 hx26
    replace hE5 := Ex.tr hE5 hx26
    have hE27 := hx26
    refine RG.vl rfl rfl rfl (Ev.move rfl rfl) ?_
    refine RG.vl rfl rfl rfl (Ev.extract rfl rfl rfl) ?_
    refine RG.vl rfl rfl rfl (Ev.extract rfl rfl rfl) ?_
    refine RG.local_ rfl rfl rfl rfl (fun _ => rfl) rfl rfl (fun _ => rfl) inf_28 rfl rfl rfl (fun g28 w28 eg28 hx28 hb28 => ?_)
    have hsb29 := fun e => sep_new (g := g28) (Own.ext hoc hE5) eg28 e
    have hsb30 := fun e => sep_new (g := g28) (Own.ext hor4 hE27) eg28 e
    have hsb31 := fun e => sep_new (g := g28) (Own.ext hoe4 hE27) eg28 e
    have hsb32 := fun e => sep_new (g := g28) (Own.ext hoh4 hE27) eg28 e
    have hsb33 := fun e => sep_new (g := g28) hox eg28 e
    have hsb34 := fun e => sep_new (g := g28) hoy eg28 e
    have hle35 : w.heap.size ≤ g28 := by have := hE2.size; omega
    have hle36 : w1.heap.size ≤ g28 := by have := hE5.size; omega
    have hle37 : w4.heap.size ≤ g28 := by have := hE27.size; omega
    have hle38 : w26.heap.size ≤ g28 := by have := (Ex.rfl_ w26).size; omega
    replace hE2 := Ex.tr hE2 hx28
    replace hE5 := Ex.tr hE5 hx28
    replace hE27 := Ex.tr hE27 hx28
    have hE39 := hx28
    refine RG.vl rfl rfl rfl (Ev.assign rfl rfl) ?_
    refine RG.done ?_
    refine QW.then_ ?_
    refine CW.seq ?_
    refine CW.seq ?_
    refine CW.region ?_
    refine RG.vl rfl rfl rfl (Ev.move rfl rfl) ?_
    refine RG.vl rfl rfl rfl (Ev.lenL rfl rfl rfl Try.underlying23 (((Own.ext hoh4 hE27).rdl encZ_len))) ?_
    refine RG.vl rfl rfl rfl (Ev.mulI rfl rfl rfl (by omega)) ?_
    refine RG.vl rfl rfl rfl (Ev.move rfl rfl) ?_
    refine RG.vl rfl rfl rfl (Ev.lenL rfl rfl rfl Try.underlying23 (((Own.ext hoe4 hE27).rdl encZ_len))) ?_
    refine RG.vl rfl rfl rfl (Ev.addI rfl rfl rfl (by omega)) ?_
    refine RG.vl rfl rfl rfl (Ev.isF (Ev.leq rfl rfl rfl) (by omega)) ?_
    refine RG.done ?_
    refine QW.sub (S' := [(4, _), (5, _), (7, _), (8, _), (9, _), (10, _), (11, _), (42, _)]) ⟨rfl, rfl, rfl, rfl, rfl, rfl, rfl, rfl, trivial⟩ ?_
    refine QW.then_ ?_
    refine CW.condF rfl ?_
    refine CW.skip ?_
    refine QW.then_ ?_
    refine CW.seq ?_
    refine CW.seq ?_
    rcases hout with ⟨rfl, rfl, rfl, hfar⟩ | ⟨rfl, hnear⟩
    · refine CW.region ?_
      refine RG.vl rfl rfl rfl (Ev.move rfl rfl) ?_
      refine RG.vl rfl rfl rfl (Ev.isT (Ev.neI rfl rfl rfl) (by decide)) ?_
      refine RG.done ?_
      refine QW.then_ ?_
      refine CW.condT rfl ?_
      refine CW.seq ?_
      refine CW.region ?_
      refine RG.vl rfl rfl rfl (Ev.move rfl rfl) ?_
      refine RG.vl rfl rfl rfl (Ev.isT (Ev.eqI rfl rfl rfl) (rfl)) ?_
      refine RG.vl rfl rfl rfl (Ev.move rfl rfl) ?_
      refine RG.vl rfl rfl rfl (Ev.fld rfl rfl fld_28_0) ?_
      refine RG.vl rfl rfl rfl (Ev.ldAt rfl rfl Try.underlying22 rfl (hb28.cells) (rfl)) ?_
      refine RG.vl rfl rfl rfl (Ev.lenSlice rfl rfl rfl Try.underlying22) ?_
      refine RG.vl rfl rfl rfl (Ev.fld rfl rfl fld_28_1) ?_
      refine RG.vl rfl rfl rfl (Ev.ldAt rfl rfl Try.underlying23 rfl (hb28.cells) (rfl)) ?_
      refine RG.vl rfl rfl rfl (Ev.lenSlice rfl rfl rfl Try.underlying23) ?_
      refine RG.vl rfl rfl rfl (Ev.addI rfl rfl rfl (by decide)) ?_
      refine RG.vl rfl rfl rfl (Ev.isT (Ev.eqI rfl rfl rfl) (by rfl)) ?_
      refine RG.vl rfl rfl rfl (Ev.pickT rfl rfl rfl) ?_
      refine RG.vl rfl rfl rfl (Ev.move rfl rfl) ?_
      refine RG.call rfl rfl rfl rfl rfl rfl rfl en_10 (awake_ret _) ?_
      rintro _ w40 ⟨rfl, hx40⟩
      replace hE2 := Ex.tr hE2 hx40
      replace hE5 := Ex.tr hE5 hx40
      replace hE27 := Ex.tr hE27 hx40
      replace hE39 := Ex.tr hE39 hx40
      have hE41 := hx40
      refine RG.vl rfl rfl rfl (Ev.pickT rfl rfl rfl) ?_
      refine RG.vl rfl rfl rfl (Ev.assign rfl rfl) ?_
      refine RG.done ?_
      refine QW.sub (S' := [(4, _), (7, _), (8, _), (10, _)]) ⟨rfl, rfl, rfl, rfl, trivial⟩ ?_
      refine QW.then_ ?_
      refine CW.ret ?_
      refine QW.thenRet ?_
      refine QW.ret1 rfl rfl ?_
      have hB := (Ex.tr hB0 hE2)
      exact ⟨rfl, hB⟩
    · have hdl := hnear.code.len
      have hDc : Code_ d.length d := by rw [hdl]; exact hnear.code
      have hvc : vldB d = true := vld_code hDc (by omega) (by omega)
      refine CW.region ?_
      refine RG.vl rfl rfl rfl (Ev.move rfl rfl) ?_
      refine RG.vl rfl rfl rfl (Ev.isF (Ev.neI rfl rfl rfl) (fun h => h rfl)) ?_
      refine RG.done ?_
      refine QW.then_ ?_
      refine CW.condF rfl ?_
      refine CW.skip ?_
      refine QW.then_ ?_
      refine CW.seq ?_
      refine CW.region ?_
      refine RG.vl rfl rfl rfl (Ev.move rfl rfl) ?_
      refine RG.vl rfl rfl rfl (Ev.move rfl rfl) ?_
      refine RG.vl rfl rfl rfl (Ev.ldAgg rfl rfl Try.underlying28 rfl sz_28 rfl (hb28.cells)) ?_
      refine RG.call rfl rfl rfl rfl rfl rfl rfl en_30 (within_ret _ _ o er d es A1 C1 B1 D1 _ (((Own.ext hor4 hE27).rdl encN_len)) (((Own.ext hoe4 hE27).rdl encZ_len)) ((Own.ext hox hE39).rdl encN_len) ((Own.ext hoy hE39).rdl encZ_len) hvc hdl hall hnear.told hnear.bound) ?_
      rintro _ w42 ⟨rfl, hx42⟩
      replace hE2 := Ex.tr hE2 hx42
      replace hE5 := Ex.tr hE5 hx42
      replace hE27 := Ex.tr hE27 hx42
      replace hE39 := Ex.tr hE39 hx42
      have hE43 := hx42
      refine RG.vl rfl rfl rfl (Ev.move rfl rfl) ?_
      refine RG.call rfl rfl rfl rfl rfl rfl rfl en_10 (awake_ret _) ?_
      rintro _ w44 ⟨rfl, hx44⟩
      replace hE2 := Ex.tr hE2 hx44
      replace hE5 := Ex.tr hE5 hx44
      replace hE27 := Ex.tr hE27 hx44
      replace hE39 := Ex.tr hE39 hx44
      replace hE43 := Ex.tr hE43 hx44
      have hE45 := hx44
      refine RG.vl rfl rfl rfl (Ev.pickT rfl rfl rfl) ?_
      refine RG.vl rfl rfl rfl (Ev.assign rfl rfl) ?_
      refine RG.done ?_
      refine QW.then_ ?_
      refine CW.ret ?_
      refine QW.ret1 rfl rfl ?_
      have hB := (Ex.tr hB0 hE2)
      exact ⟨rfl, hB⟩

end Go.Proofs.Ytjhgihgggofocaa
