/- Walks (RC). Written by program. -/
import Derived.Test.YtjhgihgggofocaaT
import Derived.Test.YtjhgihgggofocaaRB
namespace Go.Proofs.Ytjhgihgggofocaa
open Go.RowKit
set_option maxRecDepth 100000 in
set_option maxHeartbeats 8000000 in
theorem solomonApart_ret (lv mv : Value) (l : List Nat) (m : List Noi) (w : World) (hl : RdL w 1 encN lv l) (hm : RdL w 3 encNoi mv m) (hlb : ∀ c ∈ l, c < 256) (hmb : ∀ x ∈ m, x.p < 256 ∧ x.a < 256) :
    Ret Try.prog 4 [lv, mv] w (fun v w' => v = .bool true ∧ Ex w w') := by
  obtain ⟨lA, lC, rfl⟩ := hl.shape
  obtain ⟨mA, mC, rfl⟩ := hm.shape
  obtain ⟨X, hX⟩ : ∃ X, X = dataL l := ⟨_, rfl⟩
  have hX1 := dataL_len l
  have hok := dataL_ok l
  rw [← hX] at hX1 hok
  obtain ⟨hc0, hX2, hcl⟩ := encOk_iff.1 hok
  have hc1 : X.length ≤ 63 := by omega
  have hB0 : Ex w w := Ex.rfl_ _
  refine Ret.of Try.func4 rfl Try.ntmps4 rfl ?_
  refine CW.seq ?_
  refine CW.region ?_
  refine RG.vl rfl rfl rfl (Ev.assign rfl rfl) ?_
  refine RG.done ?_
  refine QW.then_ ?_
  refine CW.seq ?_
  refine CW.region ?_
  refine RG.vl rfl rfl rfl (Ev.move rfl rfl) ?_
  refine RG.call rfl rfl rfl rfl rfl rfl rfl en_21 (coded_ret _ l _ (hl) hlb) ?_
  have hpre1 := hB0
  rintro _ w1 ⟨r1, c, rfl, hoc, hen, hx1⟩
  have hE2 := hx1
  refine RG.vl rfl rfl rfl (Ev.move rfl rfl) ?_
  refine RG.vl rfl rfl rfl (Ev.extract rfl rfl rfl) ?_
  refine RG.vl rfl rfl rfl (Ev.extract rfl rfl rfl) ?_
  refine RG.vl rfl rfl rfl (Ev.assign rfl rfl) ?_
  refine RG.vl rfl rfl rfl (Ev.assign rfl rfl) ?_
  refine RG.done ?_
  refine QW.then_ ?_
  refine CW.seq ?_
  refine CW.seq ?_
  refine CW.region ?_
  refine RG.vl rfl rfl rfl (Ev.move rfl rfl) ?_
  refine RG.vl rfl rfl rfl (Ev.notF rfl rfl) ?_
  refine RG.done ?_
  refine QW.then_ ?_
  refine CW.condF rfl ?_
  refine CW.skip ?_
  refine QW.then_ ?_
  refine CW.seq ?_
  rw [← hX] at hen
  have hcl1 := hen.len
  refine CW.region ?_
  refine RG.vl rfl rfl rfl (Ev.move rfl rfl) ?_
  refine RG.vl rfl rfl rfl (Ev.move rfl rfl) ?_
  refine RG.vl rfl rfl rfl (Ev.lenL rfl rfl rfl Try.underlying22 ((hoc.rdl encN_len))) ?_
  refine RG.vl rfl rfl rfl ((Ev.subI rfl rfl rfl (by omega)).conv (congrArg (Value.int .i64) (show _ = (X.length : Int) by omega))) ?_
  refine RG.sliceL (L := 0) (H := X.length) _ rfl rfl rfl rfl rfl Try.underlying22 sz_5 ((hoc.rdl encN_len)) (.inl ⟨rfl, rfl⟩) (.inr ⟨_, _, _, rfl, rfl, by omega⟩) (by omega) (by omega) (fun v3 hrv3 => ?_)
  rw [List.drop_zero, hen.pre] at hrv3
  refine RG.vl rfl rfl rfl (Ev.assign rfl rfl) ?_
  refine RG.done ?_
  refine QW.sub (S' := [(1, _), (4, _), (5, _), (7, _)]) ⟨rfl, rfl, rfl, rfl, trivial⟩ ?_
  refine QW.then_ ?_
  refine CW.seq ?_
  refine CW.region ?_
  refine RG.vl rfl rfl rfl (Ev.move rfl rfl) ?_
  refine RG.vl rfl rfl rfl (Ev.move rfl rfl) ?_
  refine RG.vl rfl rfl rfl (Ev.move rfl rfl) ?_
  refine RG.vl rfl rfl rfl (Ev.lenL rfl rfl rfl Try.underlying39 ((hm.ext hE2))) ?_
  refine RG.vl rfl rfl rfl ((Ev.min2 rfl rfl rfl rfl).conv (congrArg (Value.int .i64) (show min ((m.length : Nat) : Int) 3 = ((min m.length 3 : Nat) : Int) by omega))) ?_
  refine RG.sliceL (L := 0) (H := min m.length 3) _ rfl rfl rfl rfl rfl Try.underlying39 sz_70 (hm) (.inl ⟨rfl, rfl⟩) (.inr ⟨_, _, _, rfl, rfl, by omega⟩) (by omega) (by omega) (fun v4 hrv4 => ?_)
  rw [n19_min] at hrv4
  have hnb : ∀ x ∈ m.take 3, x.p < 256 ∧ x.a < 256 := fun x hx => hmb x (List.mem_of_mem_take hx)
  refine RG.call rfl rfl rfl rfl rfl rfl rfl en_22 (read_ret _ _ _ _ _ (hrv3) ((hrv4.ext hE2)) hnb (by rw [List.length_take]; omega) hc0 hc1 hcl) ?_
  have hpre5 := (Ex.tr hB0 hE2)
  rintro _ w5 ⟨r5, e5, h5, o, er, ch, rfl, hor5, hoe5, hoh5, hol, hel, hnd, ⟨hern, hchn⟩, hall, hch, hx5⟩
  replace hE2 := Ex.tr hE2 hx5
  have hE6 := hx5
  refine RG.vl rfl rfl rfl (Ev.move rfl rfl) ?_
  refine RG.vl rfl rfl rfl (Ev.extract rfl rfl rfl) ?_
  refine RG.vl rfl rfl rfl (Ev.extract rfl rfl rfl) ?_
  refine RG.vl rfl rfl rfl (Ev.extract rfl rfl rfl) ?_
  refine RG.vl rfl rfl rfl (Ev.assign rfl rfl) ?_
  refine RG.vl rfl rfl rfl (Ev.assign rfl rfl) ?_
  refine RG.vl rfl rfl rfl (Ev.assign rfl rfl) ?_
  refine RG.done ?_
  refine QW.sub (S' := [(4, _), (5, _), (7, _), (8, _)]) ⟨rfl, rfl, rfl, rfl, trivial⟩ ?_
  refine QW.then_ ?_
  refine CW.seq ?_
  refine CW.region ?_
  refine RG.vl rfl rfl rfl (Ev.move rfl rfl) ?_
  refine RG.call rfl rfl rfl rfl rfl rfl rfl en_21 (coded_ret _ o _ ((hor5.rdl encN_len)) (fun a ha => Nat.lt_of_lt_of_le (hel a ha) (by omega))) ?_
  have hpre7 := (Ex.tr hB0 hE2)
  rintro _ w7 ⟨r2, c2, rfl, hoc2, hen2, hx7⟩
  replace hE2 := Ex.tr hE2 hx7
  replace hE6 := Ex.tr hE6 hx7
  have hE8 := hx7
  refine RG.vl rfl rfl rfl (Ev.move rfl rfl) ?_
  refine RG.vl rfl rfl rfl (Ev.extract rfl rfl rfl) ?_
  refine RG.vl rfl rfl rfl (Ev.extract rfl rfl rfl) ?_
  refine RG.vl rfl rfl rfl (Ev.assign rfl rfl) ?_
  refine RG.vl rfl rfl rfl (Ev.assign rfl rfl) ?_
  refine RG.done ?_
  refine QW.then_ ?_
  refine CW.seq ?_
  refine CW.seq ?_
  refine CW.region ?_
  refine RG.vl rfl rfl rfl (Ev.move rfl rfl) ?_
  refine RG.vl rfl rfl rfl (Ev.notF rfl rfl) ?_
  refine RG.done ?_
  refine QW.then_ ?_
  refine CW.condF rfl ?_
  refine CW.skip ?_
  refine QW.then_ ?_
  refine CW.seq ?_
  rw [data_is hel (by omega) (by omega)] at hen2
  have hcl2 := hen2.len
  refine CW.region ?_
  refine RG.vl rfl rfl rfl (Ev.assign rfl rfl) ?_
  refine RG.done ?_
  refine QW.then_ ?_
  refine CW.seq ?_
  refine CW.seq ?_
  refine CW.region ?_
  refine RG.vl rfl rfl rfl (Ev.move rfl rfl) ?_
  refine RG.vl rfl rfl rfl (Ev.lenL rfl rfl rfl Try.underlying22 (((Own.ext hoc hE6).rdl encN_len))) ?_
  refine RG.vl rfl rfl rfl (Ev.move rfl rfl) ?_
  refine RG.done ?_
  refine QW.then_ ?_
  refine CW.block ?_
  replace hl := (hl.ext hE2)
  replace hm := (hm.ext hE2)
  replace hoc := (Own.ext hoc hE6)
  replace hrv3 := (hrv3.ext hE6)
  replace hrv4 := (hrv4.ext hE2)
  replace hor5 := (Own.ext hor5 hE8)
  replace hoe5 := (Own.ext hoe5 hE8)
  replace hoh5 := (Own.ext hoh5 hE8)
  have hR9 := (Ex.tr hB0 hE2)
  have hR10 := hE6
  have hR11 := hE8
  refine CW.loop2 [(4, _), (5, _), (7, _), (8, _), (11, _), (46, _)] ⟨rfl, rfl, rfl, rfl, rfl, rfl, trivial⟩ (fun (i : Nat) (q : Nat) => [(47, .int .i64 (i : Int)), (13, .int .i64 (q : Int))]) (fun i q w' => (i ≤ c.length ∧ q = ((List.range i).filter (difB c c2)).length) ∧ Ex w7 w') (fun i q => c.length - i) (0) (0) ⟨rfl, rfl, trivial⟩ ⟨⟨Nat.zero_le _, rfl⟩, (Ex.rfl_ _)⟩ ?_
  rintro i q wl12 ⟨⟨hi, hq⟩, hxwl12⟩
  refine CW.sub (S' := [(47, _), (13, _), (4, _), (5, _), (7, _), (8, _), (11, _), (46, _)]) ⟨rfl, rfl, rfl, rfl, rfl, rfl, rfl, rfl, trivial⟩ ?_
  have hqi := fil_len (difB c c2) i
  refine CW.seq ?_
  refine CW.region ?_
  refine RG.vl rfl rfl rfl (Ev.lss rfl rfl rfl) ?_
  refine RG.done ?_
  refine QW.then_ ?_
  refine CW.seq ?_
  refine CW.condP rfl (fun hc13 => ?_) (fun hc13 => ?_)
  · refine CW.skip ?_
    refine QW.then_ ?_
    refine CW.seq ?_
    refine CW.block ?_
    refine CW.seq ?_
    have hx1 : c[i]? = some (cf c i) := getElem?_cf (by omega)
    have hx2 : c2[i]? = some (cf c2 i) := getElem?_cf (by omega)
    have hmo := told_len (difB c c2) i
    have hdi : difB c c2 i = decide (cf c i ≠ cf c2 i) := rfl
    refine CW.region ?_
    refine RG.vl rfl rfl rfl (Ev.move rfl rfl) ?_
    refine RG.vl rfl rfl rfl (Ev.assign rfl rfl) ?_
    refine RG.done ?_
    refine QW.then_ ?_
    refine CW.seq ?_
    refine CW.draw [] (.ex) 9 rfl mixed (fun wd14 hxwd14 => ?_)
    replace hxwl12 := Ex.tr hxwl12 hxwd14
    have hE15 := hxwd14
    refine AG.takeW 0 rfl (by kernel_rfl) (by kernel_rfl) rfl rfl rfl (fun _ => Ev.move rfl rfl) ?_
    refine AG.takeW 1 rfl (by kernel_rfl) (by kernel_rfl) rfl rfl rfl (fun _ => Ev.move rfl rfl) ?_
    refine AG.idxO _ 2 rfl (by kernel_rfl) (by kernel_rfl) rfl rfl rfl rfl rfl rfl Try.underlying22 sz_5 encN_len ((Own.ext hoc hxwl12)) (hx1) (fun g17 hg17 hBg17 hp16b hp16 => ?_)
    refine AG.take 3 rfl (by kernel_rfl) (by kernel_rfl) rfl rfl rfl (fun wq hq => Ev.ld0 rfl rfl Try.underlying5 rfl (hp16.ext hq hp16b) (rfl)) ?_
    refine AG.takeW 4 rfl (by kernel_rfl) (by kernel_rfl) rfl rfl rfl (fun _ => Ev.move rfl rfl) ?_
    refine AG.takeW 5 rfl (by kernel_rfl) (by kernel_rfl) rfl rfl rfl (fun _ => Ev.move rfl rfl) ?_
    refine AG.idxO _ 6 rfl (by kernel_rfl) (by kernel_rfl) rfl rfl rfl rfl rfl rfl Try.underlying22 sz_5 encN_len ((Own.ext hoc2 hxwl12)) (hx2) (fun g19 hg19 hBg19 hp18b hp18 => ?_)
    refine AG.take 7 rfl (by kernel_rfl) (by kernel_rfl) rfl rfl rfl (fun wq hq => Ev.ld0 rfl rfl Try.underlying5 rfl (hp18.ext hq hp18b) (rfl)) ?_
    refine AG.takeW 8 rfl (by kernel_rfl) (by kernel_rfl) rfl rfl rfl (fun _ => Ev.neI rfl rfl rfl) ?_
    refine AG.done (by kernel_rfl) ?_
    refine QW.then_ ?_
    refine CW.condP rfl (fun hc20 => ?_) (fun hc20 => ?_)
    · rw [hdi, if_pos (decide_eq_true (by omega))] at hmo
      refine CW.region ?_
      refine RG.vl rfl rfl rfl (Ev.move rfl rfl) ?_
      refine RG.vl rfl rfl rfl (Ev.addI rfl rfl rfl (by omega)) ?_
      refine RG.vl rfl rfl rfl (Ev.assign rfl rfl) ?_
      refine RG.done ?_
      refine QW.sub (S' := [(4, _), (5, _), (7, _), (8, _), (11, _), (13, _), (46, _), (47, _)]) ⟨rfl, rfl, rfl, rfl, rfl, rfl, rfl, rfl, trivial⟩ ?_
      refine QW.blockN ?_
      refine QW.then_ ?_
      refine CW.region ?_
      refine RG.vl rfl rfl rfl (Ev.addI rfl rfl rfl (by omega)) ?_
      refine RG.vl rfl rfl rfl (Ev.move rfl rfl) ?_
      refine RG.done ?_
      refine QW.round2 (i + 1) (q + 1) ⟨rfl, rfl, trivial⟩ ⟨rfl, rfl, rfl, rfl, rfl, rfl, trivial⟩ ⟨⟨by omega, by omega⟩, hxwl12⟩ (by omega)
    · refine CW.skip ?_
      refine QW.blockN ?_
      refine QW.then_ ?_
      rw [hdi, if_neg (by rw [decide_eq_true_iff]; omega)] at hmo
      refine CW.region ?_
      refine RG.vl rfl rfl rfl (Ev.addI rfl rfl rfl (by omega)) ?_
      refine RG.vl rfl rfl rfl (Ev.move rfl rfl) ?_
      refine RG.done ?_
      refine QW.sub (S' := [(4, _), (5, _), (7, _), (8, _), (11, _), (13, _), (46, _), (47, _)]) ⟨rfl, rfl, rfl, rfl, rfl, rfl, rfl, rfl, trivial⟩ ?_
      refine QW.round2 (i + 1) (q) ⟨rfl, rfl, trivial⟩ ⟨rfl, rfl, rfl, rfl, rfl, rfl, trivial⟩ ⟨⟨by omega, by omega⟩, hxwl12⟩ (by omega)
  · refine CW.exit ?_
    refine QW.thenExit ?_
    refine QW.thenExit ?_
    refine QW.blockHit ?_
    refine QW.then_ ?_
    refine CW.seq ?_
    have hend : i = c.length := by omega
    rw [hend] at hq
    rcases apart_ hX2 hol hen hen2 with ⟨hXo, h0⟩ | ⟨hXo, h5⟩
    · have hq0 : q = 0 := by omega
      subst hXo
      refine CW.region ?_
      refine RG.vl rfl rfl rfl (Ev.move rfl rfl) ?_
      refine RG.vl rfl rfl rfl (Ev.isT (Ev.eqI rfl rfl rfl) (by omega)) ?_
      refine RG.vl rfl rfl rfl (Ev.move rfl rfl) ?_
      refine RG.vl rfl rfl rfl (Ev.move rfl rfl) ?_
      refine RG.call rfl rfl rfl rfl rfl rfl rfl en_19 (sameBt_ret _ _ X _ ((hrv3.ext hxwl12)) (((Own.ext hor5 hxwl12).rdl encN_len)) (by omega)) ?_
      rintro _ w21 ⟨rfl, hx21⟩
      replace hxwl12 := Ex.tr hxwl12 hx21
      have hE22 := hx21
      refine RG.vl rfl rfl rfl (Ev.isT (Ev.eqB rfl rfl rfl Try.underlying4) (rfl)) ?_
      refine RG.vl rfl rfl rfl (Ev.move rfl rfl) ?_
      refine RG.vl rfl rfl rfl (Ev.move rfl rfl) ?_
      refine RG.vl rfl rfl rfl (Ev.isT (Ev.eqI rfl rfl rfl) (by omega)) ?_
      refine RG.vl rfl rfl rfl (Ev.move rfl rfl) ?_
      refine RG.pass rfl rfl rfl ?_
      refine RG.pass rfl rfl rfl ?_
      refine RG.vl rfl rfl rfl (Ev.pickT rfl rfl rfl) ?_
      refine RG.vl rfl rfl rfl (Ev.pickT rfl rfl rfl) ?_
      refine RG.vl rfl rfl rfl (Ev.move rfl rfl) ?_
      refine RG.call rfl rfl rfl rfl rfl rfl rfl en_10 (awake_ret _) ?_
      rintro _ w23 ⟨rfl, hx23⟩
      replace hxwl12 := Ex.tr hxwl12 hx23
      replace hE22 := Ex.tr hE22 hx23
      have hE24 := hx23
      refine RG.vl rfl rfl rfl (Ev.pickT rfl rfl rfl) ?_
      refine RG.vl rfl rfl rfl (Ev.assign rfl rfl) ?_
      refine RG.done ?_
      refine QW.sub (S' := [(4, _)]) ⟨rfl, trivial⟩ ?_
      refine QW.then_ ?_
      refine CW.ret ?_
      refine QW.ret1 rfl rfl ?_
      have hB := (Ex.tr hR9 hxwl12)
      exact ⟨rfl, hB⟩
    · have hq5 : 5 ≤ q := by omega
      refine CW.region ?_
      refine RG.vl rfl rfl rfl (Ev.move rfl rfl) ?_
      refine RG.vl rfl rfl rfl (Ev.isF (Ev.eqI rfl rfl rfl) (by omega)) ?_
      refine RG.vl rfl rfl rfl (Ev.move rfl rfl) ?_
      refine RG.vl rfl rfl rfl (Ev.move rfl rfl) ?_
      refine RG.call rfl rfl rfl rfl rfl rfl rfl en_19 ((by have k := sameB_ret _ _ X o _ ((hrv3.ext hxwl12)) (((Own.ext hor5 hxwl12).rdl encN_len)) (by omega); rw [decide_eq_false hXo] at k; exact k)) ?_
      rintro _ w25 ⟨rfl, hx25⟩
      replace hxwl12 := Ex.tr hxwl12 hx25
      have hE26 := hx25
      refine RG.vl rfl rfl rfl (Ev.isT (Ev.eqB rfl rfl rfl Try.underlying4) (rfl)) ?_
      refine RG.vl rfl rfl rfl (Ev.move rfl rfl) ?_
      refine RG.vl rfl rfl rfl (Ev.move rfl rfl) ?_
      refine RG.vl rfl rfl rfl (Ev.isF (Ev.eqI rfl rfl rfl) (by omega)) ?_
      refine RG.vl rfl rfl rfl (Ev.move rfl rfl) ?_
      refine RG.vl rfl rfl rfl (Ev.move rfl rfl) ?_
      refine RG.vl rfl rfl rfl (Ev.isT (Ev.geq rfl rfl rfl) (by omega)) ?_
      refine RG.vl rfl rfl rfl (Ev.pickF rfl rfl rfl) ?_
      refine RG.vl rfl rfl rfl (Ev.pickT rfl rfl rfl) ?_
      refine RG.vl rfl rfl rfl (Ev.move rfl rfl) ?_
      refine RG.call rfl rfl rfl rfl rfl rfl rfl en_10 (awake_ret _) ?_
      rintro _ w27 ⟨rfl, hx27⟩
      replace hxwl12 := Ex.tr hxwl12 hx27
      replace hE26 := Ex.tr hE26 hx27
      have hE28 := hx27
      refine RG.vl rfl rfl rfl (Ev.pickT rfl rfl rfl) ?_
      refine RG.vl rfl rfl rfl (Ev.assign rfl rfl) ?_
      refine RG.done ?_
      refine QW.sub (S' := [(4, _)]) ⟨rfl, trivial⟩ ?_
      refine QW.then_ ?_
      refine CW.ret ?_
      refine QW.ret1 rfl rfl ?_
      have hB := (Ex.tr hR9 hxwl12)
      exact ⟨rfl, hB⟩

end Go.Proofs.Ytjhgihgggofocaa
