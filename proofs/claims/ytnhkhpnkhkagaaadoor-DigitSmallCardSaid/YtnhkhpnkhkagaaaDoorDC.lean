/- Walks (DC). Written by program. -/
import Derived.Test.YtnhkhpnkhkagaaaDoorT
import Derived.Test.YtnhkhpnkhkagaaaDoorDB
namespace Go.Proofs.YtnhkhpnkhkagaaaDoor
open Go.RowKit
set_option maxRecDepth 100000 in
set_option maxHeartbeats 1000000 in
theorem isChk_ret (k : Nat) (wv : Value) (t : List UInt8) (w : World) (hlen : t.length ≤ 100000) :
    Ret Tryd.prog 39 [.agg #[.int .u8 (k : Int), wv], .string ⟨t.toArray⟩] w (fun v w' => v = .bool (isChk k t) ∧ Ex w w') := by
  have hB0 : Ex w w := Ex.rfl_ _
  refine Ret.of Tryd.func39 rfl Tryd.ntmps39 rfl ?_
  refine CW.seq ?_
  refine CW.region ?_
  refine RG.box rfl rfl rfl rfl rfl (fun g1 w1 eg1 hx1 hb1 => ?_)
  have hle2 : w.heap.size ≤ g1 := by have := (Ex.rfl_ w).size; omega
  have hE3 := hx1
  refine RG.vl rfl rfl rfl (Ev.assign rfl rfl) ?_
  refine RG.done ?_
  refine QW.then_ ?_
  refine CW.seq ?_
  refine CW.seq ?_
  refine CW.region ?_
  refine RG.vl rfl rfl rfl (Ev.move rfl rfl) ?_
  refine RG.vl rfl rfl rfl (Ev.eqS rfl rfl rfl) ?_
  refine RG.done ?_
  refine QW.then_ ?_
  refine CW.condP rfl (fun hc4 => ?_) (fun hc4 => ?_)
  · refine CW.seq ?_
    refine CW.region ?_
    refine RG.vl rfl rfl rfl (Ev.assign rfl rfl) ?_
    refine RG.done ?_
    refine QW.then_ ?_
    refine CW.ret ?_
    refine QW.thenRet ?_
    refine QW.ret1 rfl rfl ?_
    have hB := (Ex.tr hB0 hE3)
    obtain rfl := (binj (b := [])).1 (by assumption)
    exact ⟨by rw [isChk_nil], hB⟩
  · refine CW.skip ?_
    refine QW.then_ ?_
    refine CW.seq ?_
    obtain ⟨s, c, rfl⟩ := snoc_of (by assumption)
    have hc8 := c.toNat_lt
    have hl2 : (s ++ [c]).length = s.length + 1 := by simp
    have hsz := sbytes (s ++ [c])
    refine CW.region ?_
    refine RG.vl rfl rfl rfl (Ev.move rfl rfl) ?_
    refine RG.vl rfl rfl rfl (Ev.move rfl rfl) ?_
    refine RG.vl rfl rfl rfl (Ev.lenStr rfl rfl rfl Tryd.underlying9) ?_
    refine RG.vl rfl rfl rfl ((Ev.subI rfl rfl rfl (by omega)).conv (congrArg (Value.int .i64) (show ((⟨(s ++ [c]).toArray⟩ : ByteArray).size : Int) - 1 = (s.length : Nat) by omega))) ?_
    refine RG.vl rfl rfl rfl (Ev.byteAt rfl rfl rfl Tryd.underlying9 (by omega) ((show (s ++ [c])[s.length]? = some c by simp))) ?_
    refine RG.vl rfl rfl rfl (Ev.assign rfl rfl) ?_
    refine RG.done ?_
    refine QW.then_ ?_
    refine CW.seq ?_
    refine CW.region ?_
    refine RG.vl rfl rfl rfl (Ev.move rfl rfl) ?_
    refine RG.vl rfl rfl rfl (Ev.move rfl rfl) ?_
    refine RG.vl rfl rfl rfl (Ev.lenStr rfl rfl rfl Tryd.underlying9) ?_
    refine RG.vl rfl rfl rfl ((Ev.subI rfl rfl rfl (by omega)).conv (congrArg (Value.int .i64) (show ((⟨(s ++ [c]).toArray⟩ : ByteArray).size : Int) - 1 = (s.length : Nat) by omega))) ?_
    refine RG.vl rfl rfl rfl ((Ev.cutStr (i := 0) (j := s.length) rfl rfl Tryd.underlying9 rfl rfl (by omega) (by omega)).conv (congrArg Value.string (show _ = (⟨s.toArray⟩ : ByteArray) from (bx_cut _ 0 s.length).trans (by simp)))) ?_
    refine RG.call rfl rfl rfl rfl rfl rfl rfl en_35 (pay_ret _ _ (by omega)) ?_
    rintro _ w5 ⟨rfl, hx5⟩
    replace hE3 := Ex.tr hE3 hx5
    have hE6 := hx5
    refine RG.vl rfl rfl rfl (Ev.move rfl rfl) ?_
    refine RG.splitB (d := 19) rfl (fun hg7 => ?_) (fun hg7 => ?_)
    · refine RG.vl rfl rfl rfl (Ev.move rfl rfl) ?_
      refine RG.vl rfl rfl rfl (Ev.geq rfl rfl rfl) ?_
      refine RG.vl rfl rfl rfl (Ev.move rfl rfl) ?_
      refine RG.split (d := 22) rfl (fun hg8 => ?_) (fun hg8 => ?_)
      · refine RG.vl rfl rfl rfl (Ev.move rfl rfl) ?_
        refine RG.vl rfl rfl rfl (Ev.leq rfl rfl rfl) ?_
        refine RG.vl rfl rfl rfl (Ev.pickT rfl rfl rfl) ?_
        refine RG.vl rfl rfl rfl (Ev.move rfl rfl) ?_
        refine RG.split (d := 26) rfl (fun hg9 => ?_) (fun hg9 => ?_)
        · refine RG.pass rfl rfl rfl ?_
          refine RG.pass rfl rfl rfl ?_
          refine RG.pass rfl rfl rfl ?_
          refine RG.pass rfl rfl rfl ?_
          refine RG.pass rfl rfl rfl ?_
          refine RG.pass rfl rfl rfl ?_
          refine RG.pass rfl rfl rfl ?_
          refine RG.vl rfl rfl rfl (Ev.pickT rfl rfl rfl) ?_
          refine RG.vl rfl rfl rfl (Ev.pickT rfl rfl rfl) ?_
          refine RG.vl rfl rfl rfl (Ev.assign rfl rfl) ?_
          refine RG.done ?_
          refine QW.sub (S' := [(4, _)]) ⟨rfl, trivial⟩ ?_
          refine QW.then_ ?_
          refine CW.ret ?_
          refine QW.ret1 rfl rfl ?_
          have hB := (Ex.tr hB0 hE3)
          refine ⟨congrArg Value.bool ?_, hB⟩
          rw [isChk_snoc]
          have hmk := mostD_10 k
          first
            | (rw [show isPay s = false by assumption]; rfl)
            | (rw [show isPay s = true by assumption, Bool.true_and, isEnd_dec, eq_comm]; first | (rw [decide_eq_decide]; omega) | (rw [decide_eq_true_iff]; omega) | (rw [decide_eq_false_iff_not]; omega))
        · refine RG.vl rfl rfl rfl (Ev.move rfl rfl) ?_
          refine RG.vl rfl rfl rfl (Ev.eqI rfl rfl rfl) ?_
          refine RG.vl rfl rfl rfl (Ev.move rfl rfl) ?_
          refine RG.split (d := 29) rfl (fun hg10 => ?_) (fun hg10 => ?_)
          · refine RG.vl rfl rfl rfl (Ev.ldAgg rfl rfl Tryd.underlying24 rfl sz_24 rfl ((hb1.ext hE6).cells)) ?_
            refine RG.call rfl rfl rfl rfl rfl rfl rfl en_49 (most_ret k _ _) ?_
            rintro _ w11 ⟨rfl, hx11⟩
            replace hE3 := Ex.tr hE3 hx11
            replace hE6 := Ex.tr hE6 hx11
            have hE12 := hx11
            refine RG.vl rfl rfl rfl (Ev.eqI rfl rfl rfl) ?_
            refine RG.vl rfl rfl rfl (Ev.pickT rfl rfl rfl) ?_
            refine RG.vl rfl rfl rfl (Ev.pickF rfl rfl rfl) ?_
            refine RG.vl rfl rfl rfl (Ev.pickT rfl rfl rfl) ?_
            refine RG.vl rfl rfl rfl (Ev.assign rfl rfl) ?_
            refine RG.done ?_
            refine QW.sub (S' := [(4, _)]) ⟨rfl, trivial⟩ ?_
            refine QW.then_ ?_
            refine CW.ret ?_
            refine QW.ret1 rfl rfl ?_
            have hB := (Ex.tr hB0 hE3)
            refine ⟨congrArg Value.bool ?_, hB⟩
            rw [isChk_snoc]
            have hmk := mostD_10 k
            first
              | (rw [show isPay s = false by assumption]; rfl)
              | (rw [show isPay s = true by assumption, Bool.true_and, isEnd_dec, eq_comm]; first | (rw [decide_eq_decide]; omega) | (rw [decide_eq_true_iff]; omega) | (rw [decide_eq_false_iff_not]; omega))
          · refine RG.pass rfl rfl rfl ?_
            refine RG.pass rfl rfl rfl ?_
            refine RG.pass rfl rfl rfl ?_
            refine RG.vl rfl rfl rfl (Ev.pickF rfl rfl rfl) ?_
            refine RG.vl rfl rfl rfl (Ev.pickF rfl rfl rfl) ?_
            refine RG.vl rfl rfl rfl (Ev.pickT rfl rfl rfl) ?_
            refine RG.vl rfl rfl rfl (Ev.assign rfl rfl) ?_
            refine RG.done ?_
            refine QW.sub (S' := [(4, _)]) ⟨rfl, trivial⟩ ?_
            refine QW.then_ ?_
            refine CW.ret ?_
            refine QW.ret1 rfl rfl ?_
            have hB := (Ex.tr hB0 hE3)
            refine ⟨congrArg Value.bool ?_, hB⟩
            rw [isChk_snoc]
            have hmk := mostD_10 k
            first
              | (rw [show isPay s = false by assumption]; rfl)
              | (rw [show isPay s = true by assumption, Bool.true_and, isEnd_dec, eq_comm]; first | (rw [decide_eq_decide]; omega) | (rw [decide_eq_true_iff]; omega) | (rw [decide_eq_false_iff_not]; omega))
      · refine RG.pass rfl rfl rfl ?_
        refine RG.pass rfl rfl rfl ?_
        refine RG.vl rfl rfl rfl (Ev.pickF rfl rfl rfl) ?_
        refine RG.vl rfl rfl rfl (Ev.move rfl rfl) ?_
        refine RG.vl rfl rfl rfl (Ev.move rfl rfl) ?_
        refine RG.vl rfl rfl rfl (Ev.eqI rfl rfl rfl) ?_
        refine RG.vl rfl rfl rfl (Ev.move rfl rfl) ?_
        refine RG.split (d := 29) rfl (fun hg13 => ?_) (fun hg13 => ?_)
        · refine RG.vl rfl rfl rfl (Ev.ldAgg rfl rfl Tryd.underlying24 rfl sz_24 rfl ((hb1.ext hE6).cells)) ?_
          refine RG.call rfl rfl rfl rfl rfl rfl rfl en_49 (most_ret k _ _) ?_
          rintro _ w14 ⟨rfl, hx14⟩
          replace hE3 := Ex.tr hE3 hx14
          replace hE6 := Ex.tr hE6 hx14
          have hE15 := hx14
          refine RG.vl rfl rfl rfl (Ev.eqI rfl rfl rfl) ?_
          refine RG.vl rfl rfl rfl (Ev.pickT rfl rfl rfl) ?_
          refine RG.vl rfl rfl rfl (Ev.pickF rfl rfl rfl) ?_
          refine RG.vl rfl rfl rfl (Ev.pickT rfl rfl rfl) ?_
          refine RG.vl rfl rfl rfl (Ev.assign rfl rfl) ?_
          refine RG.done ?_
          refine QW.sub (S' := [(4, _)]) ⟨rfl, trivial⟩ ?_
          refine QW.then_ ?_
          refine CW.ret ?_
          refine QW.ret1 rfl rfl ?_
          have hB := (Ex.tr hB0 hE3)
          refine ⟨congrArg Value.bool ?_, hB⟩
          rw [isChk_snoc]
          have hmk := mostD_10 k
          first
            | (rw [show isPay s = false by assumption]; rfl)
            | (rw [show isPay s = true by assumption, Bool.true_and, isEnd_dec, eq_comm]; first | (rw [decide_eq_decide]; omega) | (rw [decide_eq_true_iff]; omega) | (rw [decide_eq_false_iff_not]; omega))
        · refine RG.pass rfl rfl rfl ?_
          refine RG.pass rfl rfl rfl ?_
          refine RG.pass rfl rfl rfl ?_
          refine RG.vl rfl rfl rfl (Ev.pickF rfl rfl rfl) ?_
          refine RG.vl rfl rfl rfl (Ev.pickF rfl rfl rfl) ?_
          refine RG.vl rfl rfl rfl (Ev.pickT rfl rfl rfl) ?_
          refine RG.vl rfl rfl rfl (Ev.assign rfl rfl) ?_
          refine RG.done ?_
          refine QW.sub (S' := [(4, _)]) ⟨rfl, trivial⟩ ?_
          refine QW.then_ ?_
          refine CW.ret ?_
          refine QW.ret1 rfl rfl ?_
          have hB := (Ex.tr hB0 hE3)
          refine ⟨congrArg Value.bool ?_, hB⟩
          rw [isChk_snoc]
          have hmk := mostD_10 k
          first
            | (rw [show isPay s = false by assumption]; rfl)
            | (rw [show isPay s = true by assumption, Bool.true_and, isEnd_dec, eq_comm]; first | (rw [decide_eq_decide]; omega) | (rw [decide_eq_true_iff]; omega) | (rw [decide_eq_false_iff_not]; omega))
    · refine RG.pass rfl rfl rfl ?_
      refine RG.pass rfl rfl rfl ?_
      refine RG.pass rfl rfl rfl ?_
      refine RG.pass rfl rfl rfl ?_
      refine RG.pass rfl rfl rfl ?_
      refine RG.pass rfl rfl rfl ?_
      refine RG.pass rfl rfl rfl ?_
      refine RG.pass rfl rfl rfl ?_
      refine RG.pass rfl rfl rfl ?_
      refine RG.pass rfl rfl rfl ?_
      refine RG.pass rfl rfl rfl ?_
      refine RG.pass rfl rfl rfl ?_
      refine RG.pass rfl rfl rfl ?_
      refine RG.pass rfl rfl rfl ?_
      refine RG.pass rfl rfl rfl ?_
      refine RG.vl rfl rfl rfl (Ev.pickF rfl rfl rfl) ?_
      refine RG.vl rfl rfl rfl (Ev.assign rfl rfl) ?_
      refine RG.done ?_
      refine QW.sub (S' := [(4, _)]) ⟨rfl, trivial⟩ ?_
      refine QW.then_ ?_
      refine CW.ret ?_
      refine QW.ret1 rfl rfl ?_
      have hB := (Ex.tr hB0 hE3)
      refine ⟨congrArg Value.bool ?_, hB⟩
      rw [isChk_snoc]
      have hmk := mostD_10 k
      first
        | (rw [show isPay s = false by assumption]; rfl)
        | (rw [show isPay s = true by assumption, Bool.true_and, isEnd_dec, eq_comm]; first | (rw [decide_eq_decide]; omega) | (rw [decide_eq_true_iff]; omega) | (rw [decide_eq_false_iff_not]; omega))

set_option maxRecDepth 100000 in
set_option maxHeartbeats 1000000 in
theorem sum_ret (k : Nat) (wv vv : Value) (ws : List Int) (vs : List Nat) (w : World) (hws : RdL w 1 encI wv ws) (hv : RdL w 1 encZ vv vs) (h1 : 1 ≤ ws.length) (hb : ∀ x ∈ ws, 1 ≤ x ∧ x ≤ 10) (hlen : vs.length ≤ 100) (hvs : ∀ x ∈ vs, x ≤ 10) :
    Ret Tryd.prog 69 [.agg #[.int .u8 (k : Int), wv], vv] w (fun v w' => v = .int .i64 (sumD ws 0 vs) ∧ 0 ≤ sumD ws 0 vs ∧ Ex w w') := by
  obtain ⟨wA, wC, rfl⟩ := hws.shape
  obtain ⟨vA, vC, rfl⟩ := hv.shape
  have hB0 : Ex w w := Ex.rfl_ _
  refine Ret.of Tryd.func69 rfl Tryd.ntmps69 rfl ?_
  refine CW.seq ?_
  refine CW.region ?_
  refine RG.box rfl rfl rfl rfl rfl (fun g1 w1 eg1 hx1 hb1 => ?_)
  have hle2 : w.heap.size ≤ g1 := by have := (Ex.rfl_ w).size; omega
  have hE3 := hx1
  refine RG.vl rfl rfl rfl (Ev.assign rfl rfl) ?_
  refine RG.done ?_
  refine QW.then_ ?_
  refine CW.seq ?_
  refine CW.region ?_
  refine RG.vl rfl rfl rfl (Ev.assign rfl rfl) ?_
  refine RG.done ?_
  refine QW.then_ ?_
  refine CW.seq ?_
  refine CW.seq ?_
  refine CW.region ?_
  refine RG.vl rfl rfl rfl (Ev.move rfl rfl) ?_
  refine RG.vl rfl rfl rfl (Ev.lenL rfl rfl rfl Tryd.underlying22 ((hv.ext hE3))) ?_
  refine RG.vl rfl rfl rfl (Ev.move rfl rfl) ?_
  refine RG.done ?_
  refine QW.then_ ?_
  refine CW.block ?_
  replace hws := (hws.ext hE3)
  replace hv := (hv.ext hE3)
  have hR4 := (Ex.tr hB0 hE3)
  refine CW.loop2 [(2, _), (4, _), (8, _), (9, _)] ⟨rfl, rfl, rfl, rfl, trivial⟩ (fun (i : Nat) (tot : Int) => [(10, .int .i64 i), (5, .int .i64 tot)]) (fun i tot w' => (i ≤ vs.length ∧ tot + sumD ws i (vs.drop i) = sumD ws 0 vs ∧ 0 ≤ tot ∧ tot ≤ 100 * i) ∧ Ex w1 w') (fun i tot => vs.length - i) (0) (0) ⟨rfl, rfl, trivial⟩ ⟨⟨Nat.zero_le _, by rw [Int.zero_add]; rfl, by omega, by omega⟩, (Ex.rfl_ _)⟩ ?_
  rintro i tot wl5 ⟨⟨hi, hs, ht0, ht1⟩, hxwl5⟩
  refine CW.sub (S' := [(10, _), (5, _), (2, _), (4, _), (8, _), (9, _)]) ⟨rfl, rfl, rfl, rfl, rfl, rfl, trivial⟩ ?_
  refine CW.seq ?_
  refine CW.region ?_
  refine RG.vl rfl rfl rfl (Ev.lss rfl rfl rfl) ?_
  refine RG.done ?_
  refine QW.then_ ?_
  refine CW.seq ?_
  refine CW.condP rfl (fun hc6 => ?_) (fun hc6 => ?_)
  · refine CW.skip ?_
    refine QW.then_ ?_
    refine CW.seq ?_
    refine CW.block ?_
    refine CW.seq ?_
    obtain ⟨x, hx⟩ : ∃ x, vs[i]? = some x := ⟨_, List.getElem?_eq_getElem (by omega)⟩
    have hx10 := hvs x (List.mem_of_getElem? hx)
    refine CW.region ?_
    refine RG.vl rfl rfl rfl (Ev.move rfl rfl) ?_
    refine RG.idxL rfl rfl rfl rfl rfl rfl Tryd.underlying22 sz_3 ((hv.ext hxwl5)) (hx) (fun p7 hp7b hp7 => ?_)
    refine RG.vl rfl rfl rfl (Ev.ld0 rfl rfl Tryd.underlying3 rfl (hp7) (rfl)) ?_
    refine RG.vl rfl rfl rfl (Ev.assign rfl rfl) ?_
    refine RG.vl rfl rfl rfl (Ev.assign rfl rfl) ?_
    refine RG.done ?_
    refine QW.then_ ?_
    refine CW.seq ?_
    refine CW.region ?_
    refine RG.vl rfl rfl rfl (Ev.move rfl rfl) ?_
    refine RG.vl rfl rfl rfl (Ev.eqI rfl rfl rfl) ?_
    refine RG.done ?_
    refine QW.then_ ?_
    refine CW.condP rfl (fun hc8 => ?_) (fun hc8 => ?_)
    · refine CW.region ?_
      refine RG.vl rfl rfl rfl (Ev.move rfl rfl) ?_
      refine RG.vl rfl rfl rfl (Ev.move rfl rfl) ?_
      refine RG.vl rfl rfl rfl (Ev.addI rfl rfl rfl (by omega)) ?_
      refine RG.vl rfl rfl rfl (Ev.assign rfl rfl) ?_
      refine RG.done ?_
      refine QW.blockN ?_
      refine QW.then_ ?_
      refine CW.region ?_
      refine RG.vl rfl rfl rfl (Ev.addI rfl rfl rfl (by omega)) ?_
      refine RG.vl rfl rfl rfl (Ev.move rfl rfl) ?_
      refine RG.done ?_
      refine QW.sub (S' := [(2, _), (4, _), (5, _), (8, _), (9, _), (10, _)]) ⟨rfl, rfl, rfl, rfl, rfl, rfl, trivial⟩ ?_
      refine QW.round2 (i + 1) (tot + x) ⟨rfl, rfl, trivial⟩ ⟨rfl, rfl, rfl, rfl, trivial⟩ ⟨⟨by omega, by rw [sum_step hx, show wt ws i = 1 from (by rw [show i = 0 by omega]; rfl), Int.mul_one] at hs; omega, by omega, by omega⟩, hxwl5⟩ (by omega)
    · have hm := mul_b hx10 (wt_b1 hb h1 i)
      refine CW.draw [] (.ex) 15 rfl mixed (fun wd9 hxwd9 => ?_)
      replace hxwl5 := Ex.tr hxwl5 hxwd9
      have hE10 := hxwd9
      refine AG.takeW 0 rfl (by kernel_rfl) (by kernel_rfl) rfl rfl rfl (fun _ => Ev.move rfl rfl) ?_
      refine AG.takeW 1 rfl (by kernel_rfl) (by kernel_rfl) rfl rfl rfl (fun _ => Ev.move rfl rfl) ?_
      refine AG.takeW 2 rfl (by kernel_rfl) (by kernel_rfl) rfl rfl rfl (fun _ => Ev.fld rfl rfl fld_24_1) ?_
      refine AG.take 3 rfl (by kernel_rfl) (by kernel_rfl) rfl rfl rfl (fun wq hq => Ev.ldAt rfl rfl Tryd.underlying22 rfl (((hb1.ext hxwl5).ext hq).cells) (rfl)) ?_
      refine AG.takeW 4 rfl (by kernel_rfl) (by kernel_rfl) rfl rfl rfl (fun _ => Ev.move rfl rfl) ?_
      refine AG.takeW 5 rfl (by kernel_rfl) (by kernel_rfl) rfl rfl rfl (fun _ => Ev.subI rfl rfl rfl (by omega)) ?_
      refine AG.takeW 6 rfl (by kernel_rfl) (by kernel_rfl) rfl rfl rfl (fun _ => Ev.fld rfl rfl fld_24_1) ?_
      refine AG.take 7 rfl (by kernel_rfl) (by kernel_rfl) rfl rfl rfl (fun wq hq => Ev.ldAt rfl rfl Tryd.underlying22 rfl (((hb1.ext hxwl5).ext hq).cells) (rfl)) ?_
      refine AG.takeW 8 rfl (by kernel_rfl) (by kernel_rfl) rfl rfl rfl (fun _ => Ev.lenL rfl rfl rfl Tryd.underlying22 ((hws.ext hxwl5))) ?_
      refine AG.takeW 9 rfl (by kernel_rfl) (by kernel_rfl) rfl rfl rfl (fun _ => (Ev.remI rfl rfl rfl (by omega)).conv (congrArg (Value.int .i64) (show ((i : Int) - 1) % (ws.length : Int) = (((i - 1) % ws.length : Nat) : Int) by rw [Int.natCast_emod, show ((i - 1 : Nat) : Int) = (i : Int) - 1 by omega]))) ?_
      refine AG.idxL _ 10 rfl (by kernel_rfl) (by kernel_rfl) rfl rfl rfl rfl rfl rfl Tryd.underlying22 sz_3 ((hws.ext hxwl5)) (wt_at h1 (by omega)) (fun p11 hp11b hp11 => ?_)
      refine AG.take 11 rfl (by kernel_rfl) (by kernel_rfl) rfl rfl rfl (fun wq hq => Ev.ld0 rfl rfl Tryd.underlying3 rfl (hp11.ext hq hp11b) (rfl)) ?_
      refine AG.takeW 12 rfl (by kernel_rfl) (by kernel_rfl) rfl rfl rfl (fun _ => Ev.mulI rfl rfl rfl (by omega)) ?_
      refine AG.takeW 13 rfl (by kernel_rfl) (by kernel_rfl) rfl rfl rfl (fun _ => Ev.addI rfl rfl rfl (by omega)) ?_
      refine AG.takeW 14 rfl (by kernel_rfl) (by kernel_rfl) rfl rfl rfl (fun _ => Ev.assign rfl rfl) ?_
      refine AG.done (by kernel_rfl) ?_
      refine QW.sub (S' := [(2, _), (4, _), (5, _), (8, _), (9, _), (10, _)]) ⟨rfl, rfl, rfl, rfl, rfl, rfl, trivial⟩ ?_
      refine QW.blockN ?_
      refine QW.then_ ?_
      refine CW.region ?_
      refine RG.vl rfl rfl rfl (Ev.addI rfl rfl rfl (by omega)) ?_
      refine RG.vl rfl rfl rfl (Ev.move rfl rfl) ?_
      refine RG.done ?_
      refine QW.round2 (i + 1) (tot + x * wt ws i) ⟨rfl, rfl, trivial⟩ ⟨rfl, rfl, rfl, rfl, trivial⟩ ⟨⟨by omega, by rw [sum_step hx] at hs; omega, by omega, by omega⟩, hxwl5⟩ (by omega)
  · refine CW.exit ?_
    refine QW.thenExit ?_
    refine QW.thenExit ?_
    refine QW.blockHit ?_
    refine QW.then_ ?_
    refine CW.seq ?_
    refine CW.region ?_
    refine RG.vl rfl rfl rfl (Ev.move rfl rfl) ?_
    refine RG.vl rfl rfl rfl (Ev.assign rfl rfl) ?_
    refine RG.done ?_
    refine QW.then_ ?_
    refine CW.ret ?_
    refine QW.ret1 rfl rfl ?_
    have hB := (Ex.tr hR4 hxwl5)
    obtain rfl : i = vs.length := by omega
    rw [List.drop_length] at hs
    have e : tot = sumD ws 0 vs := by rw [← hs]; simp [sumD]
    exact ⟨by rw [e], by omega, hB⟩

set_option maxRecDepth 100000 in
set_option maxHeartbeats 1000000 in
theorem mod10_ret (k : Nat) (wv vv : Value) (ws : List Int) (vs : List Nat) (w : World) (hws : RdL w 1 encI wv ws) (hv : RdL w 1 encZ vv vs) (h1 : 1 ≤ ws.length) (hb : ∀ x ∈ ws, 1 ≤ x ∧ x ≤ 10) (hlen : vs.length ≤ 100) (hvs : ∀ x ∈ vs, x ≤ 10) :
    Ret Tryd.prog 52 [.agg #[.int .u8 (k : Int), wv], vv] w (fun v w' => v = .bool (decide (sumD ws 0 vs % 10 = 0)) ∧ Ex w w') := by
  obtain ⟨wA, wC, rfl⟩ := hws.shape
  obtain ⟨vA, vC, rfl⟩ := hv.shape
  have hB0 : Ex w w := Ex.rfl_ _
  refine Ret.of Tryd.func52 rfl Tryd.ntmps52 rfl ?_
  refine CW.seq ?_
  refine CW.region ?_
  refine RG.box rfl rfl rfl rfl rfl (fun g1 w1 eg1 hx1 hb1 => ?_)
  have hle2 : w.heap.size ≤ g1 := by have := (Ex.rfl_ w).size; omega
  have hE3 := hx1
  refine RG.vl rfl rfl rfl (Ev.assign rfl rfl) ?_
  refine RG.done ?_
  refine QW.then_ ?_
  refine CW.seq ?_
  refine CW.region ?_
  refine RG.vl rfl rfl rfl (Ev.ldAgg rfl rfl Tryd.underlying24 rfl sz_24 rfl (hb1.cells)) ?_
  refine RG.vl rfl rfl rfl (Ev.move rfl rfl) ?_
  refine RG.call rfl rfl rfl rfl rfl rfl rfl en_69 (sum_ret k _ _ ws vs _ (hws.ext hE3) (hv.ext hE3) h1 hb hlen hvs) ?_
  rintro _ w4 ⟨rfl, hs0, hx4⟩
  replace hE3 := Ex.tr hE3 hx4
  have hE5 := hx4
  refine RG.vl rfl rfl rfl (Ev.remI rfl rfl rfl (by omega)) ?_
  refine RG.vl rfl rfl rfl (Ev.eqI rfl rfl rfl) ?_
  refine RG.vl rfl rfl rfl (Ev.assign rfl rfl) ?_
  refine RG.done ?_
  refine QW.then_ ?_
  refine CW.ret ?_
  refine QW.ret1 rfl rfl ?_
  have hB := (Ex.tr hB0 hE3)
  exact ⟨rfl, hB⟩

set_option maxRecDepth 100000 in
set_option maxHeartbeats 1000000 in
theorem mod11_ret (k : Nat) (wv vv : Value) (ws : List Int) (vs : List Nat) (w : World) (hws : RdL w 1 encI wv ws) (hv : RdL w 1 encZ vv vs) (h1 : 1 ≤ ws.length) (hb : ∀ x ∈ ws, 1 ≤ x ∧ x ≤ 10) (hlen : vs.length ≤ 100) (hvs : ∀ x ∈ vs, x ≤ 10) :
    Ret Tryd.prog 53 [.agg #[.int .u8 (k : Int), wv], vv] w (fun v w' => v = .bool (decide (sumD ws 0 vs % 11 = 0)) ∧ Ex w w') := by
  obtain ⟨wA, wC, rfl⟩ := hws.shape
  obtain ⟨vA, vC, rfl⟩ := hv.shape
  have hB0 : Ex w w := Ex.rfl_ _
  refine Ret.of Tryd.func53 rfl Tryd.ntmps53 rfl ?_
  refine CW.seq ?_
  refine CW.region ?_
  refine RG.box rfl rfl rfl rfl rfl (fun g1 w1 eg1 hx1 hb1 => ?_)
  have hle2 : w.heap.size ≤ g1 := by have := (Ex.rfl_ w).size; omega
  have hE3 := hx1
  refine RG.vl rfl rfl rfl (Ev.assign rfl rfl) ?_
  refine RG.done ?_
  refine QW.then_ ?_
  refine CW.seq ?_
  refine CW.region ?_
  refine RG.vl rfl rfl rfl (Ev.ldAgg rfl rfl Tryd.underlying24 rfl sz_24 rfl (hb1.cells)) ?_
  refine RG.vl rfl rfl rfl (Ev.move rfl rfl) ?_
  refine RG.call rfl rfl rfl rfl rfl rfl rfl en_69 (sum_ret k _ _ ws vs _ (hws.ext hE3) (hv.ext hE3) h1 hb hlen hvs) ?_
  rintro _ w4 ⟨rfl, hs0, hx4⟩
  replace hE3 := Ex.tr hE3 hx4
  have hE5 := hx4
  refine RG.vl rfl rfl rfl (Ev.remI rfl rfl rfl (by omega)) ?_
  refine RG.vl rfl rfl rfl (Ev.eqI rfl rfl rfl) ?_
  refine RG.vl rfl rfl rfl (Ev.assign rfl rfl) ?_
  refine RG.done ?_
  refine QW.then_ ?_
  refine CW.ret ?_
  refine QW.ret1 rfl rfl ?_
  have hB := (Ex.tr hB0 hE3)
  exact ⟨rfl, hB⟩

set_option maxRecDepth 100000 in
set_option maxHeartbeats 1000000 in
theorem luhn_ret (k : Nat) (wv vv : Value) (ws : List Int) (vs : List Nat) (w : World) (hws : RdL w 1 encI wv ws) (hv : RdL w 1 encZ vv vs) (hlen : vs.length ≤ 100) (hvs : ∀ x ∈ vs, x ≤ 10) :
    Ret Tryd.prog 54 [.agg #[.int .u8 (k : Int), wv], vv] w (fun v w' => v = .bool (decide (luhnD 0 vs % 10 = 0)) ∧ Ex w w') := by
  obtain ⟨wA, wC, rfl⟩ := hws.shape
  obtain ⟨vA, vC, rfl⟩ := hv.shape
  have hB0 : Ex w w := Ex.rfl_ _
  refine Ret.of Tryd.func54 rfl Tryd.ntmps54 rfl ?_
  refine CW.seq ?_
  refine CW.region ?_
  refine RG.box rfl rfl rfl rfl rfl (fun g1 w1 eg1 hx1 hb1 => ?_)
  have hle2 : w.heap.size ≤ g1 := by have := (Ex.rfl_ w).size; omega
  have hE3 := hx1
  refine RG.vl rfl rfl rfl (Ev.assign rfl rfl) ?_
  refine RG.done ?_
  refine QW.then_ ?_
  refine CW.seq ?_
  refine CW.region ?_
  refine RG.vl rfl rfl rfl (Ev.assign rfl rfl) ?_
  refine RG.done ?_
  refine QW.then_ ?_
  refine CW.seq ?_
  refine CW.seq ?_
  refine CW.region ?_
  refine RG.vl rfl rfl rfl (Ev.move rfl rfl) ?_
  refine RG.vl rfl rfl rfl (Ev.lenL rfl rfl rfl Tryd.underlying22 ((hv.ext hE3))) ?_
  refine RG.vl rfl rfl rfl (Ev.move rfl rfl) ?_
  refine RG.done ?_
  refine QW.then_ ?_
  refine CW.block ?_
  replace hws := (hws.ext hE3)
  replace hv := (hv.ext hE3)
  have hR4 := (Ex.tr hB0 hE3)
  refine CW.loop2 [(4, _), (8, _), (9, _)] ⟨rfl, rfl, rfl, trivial⟩ (fun (i : Nat) (tot : Nat) => [(10, .int .i64 i), (5, .int .i64 tot)]) (fun i tot w' => (i ≤ vs.length ∧ tot + luhnD i (vs.drop i) = luhnD 0 vs ∧ tot ≤ 100 * i) ∧ Ex w1 w') (fun i tot => vs.length - i) (0) (0) ⟨rfl, rfl, trivial⟩ ⟨⟨Nat.zero_le _, by rw [Nat.zero_add]; rfl, by omega⟩, (Ex.rfl_ _)⟩ ?_
  rintro i tot wl5 ⟨⟨hi, hs, ht1⟩, hxwl5⟩
  refine CW.sub (S' := [(10, _), (5, _), (4, _), (8, _), (9, _)]) ⟨rfl, rfl, rfl, rfl, rfl, trivial⟩ ?_
  refine CW.seq ?_
  refine CW.region ?_
  refine RG.vl rfl rfl rfl (Ev.lss rfl rfl rfl) ?_
  refine RG.done ?_
  refine QW.then_ ?_
  refine CW.seq ?_
  refine CW.condP rfl (fun hc6 => ?_) (fun hc6 => ?_)
  · refine CW.skip ?_
    refine QW.then_ ?_
    refine CW.seq ?_
    refine CW.block ?_
    refine CW.seq ?_
    obtain ⟨x, hx⟩ : ∃ x, vs[i]? = some x := ⟨_, List.getElem?_eq_getElem (by omega)⟩
    have hx10 := hvs x (List.mem_of_getElem? hx)
    refine CW.region ?_
    refine RG.vl rfl rfl rfl (Ev.move rfl rfl) ?_
    refine RG.idxL rfl rfl rfl rfl rfl rfl Tryd.underlying22 sz_3 ((hv.ext hxwl5)) (hx) (fun p7 hp7b hp7 => ?_)
    refine RG.vl rfl rfl rfl (Ev.ld0 rfl rfl Tryd.underlying3 rfl (hp7) (rfl)) ?_
    refine RG.vl rfl rfl rfl (Ev.assign rfl rfl) ?_
    refine RG.vl rfl rfl rfl (Ev.assign rfl rfl) ?_
    refine RG.done ?_
    refine QW.then_ ?_
    refine CW.seq ?_
    refine CW.seq ?_
    refine CW.region ?_
    refine RG.vl rfl rfl rfl (Ev.move rfl rfl) ?_
    refine RG.vl rfl rfl rfl (Ev.remI rfl rfl rfl (by omega)) ?_
    refine RG.vl rfl rfl rfl (Ev.eqI rfl rfl rfl) ?_
    refine RG.done ?_
    refine QW.then_ ?_
    refine CW.condP rfl (fun hc8 => ?_) (fun hc8 => ?_)
    · refine CW.region ?_
      refine RG.vl rfl rfl rfl (Ev.move rfl rfl) ?_
      refine RG.vl rfl rfl rfl (Ev.mulI rfl rfl rfl (by omega)) ?_
      refine RG.vl rfl rfl rfl (Ev.quoI rfl rfl rfl (by omega)) ?_
      refine RG.vl rfl rfl rfl (Ev.move rfl rfl) ?_
      refine RG.vl rfl rfl rfl (Ev.mulI rfl rfl rfl (by omega)) ?_
      refine RG.vl rfl rfl rfl (Ev.remI rfl rfl rfl (by omega)) ?_
      refine RG.vl rfl rfl rfl (Ev.addI rfl rfl rfl (by omega)) ?_
      refine RG.vl rfl rfl rfl (Ev.assign rfl rfl) ?_
      refine RG.done ?_
      refine QW.sub (S' := [(4, _), (5, _), (7, _), (8, _), (9, _), (10, _)]) ⟨rfl, rfl, rfl, rfl, rfl, rfl, trivial⟩ ?_
      refine QW.then_ ?_
      have hlu : lu i x = 2 * x / 10 + 2 * x % 10 := if_pos (by omega)
      refine CW.region ?_
      refine RG.vl rfl rfl rfl (Ev.move rfl rfl) ?_
      refine RG.vl rfl rfl rfl (Ev.move rfl rfl) ?_
      refine RG.vl rfl rfl rfl ((Ev.addI rfl rfl rfl (by omega)).conv (congrArg (Value.int .i64) (show (tot : Int) + (2 * (x : Int) / 10 + 2 * (x : Int) % 10) = ((tot + lu i x : Nat) : Int) by omega))) ?_
      refine RG.vl rfl rfl rfl (Ev.assign rfl rfl) ?_
      refine RG.done ?_
      refine QW.blockN ?_
      refine QW.then_ ?_
      refine CW.region ?_
      refine RG.vl rfl rfl rfl (Ev.addI rfl rfl rfl (by omega)) ?_
      refine RG.vl rfl rfl rfl (Ev.move rfl rfl) ?_
      refine RG.done ?_
      refine QW.round2 (i + 1) (tot + lu i x) ⟨rfl, rfl, trivial⟩ ⟨rfl, rfl, rfl, trivial⟩ ⟨⟨by omega, by rw [luhn_step hx] at hs; omega, by omega⟩, hxwl5⟩ (by omega)
    · refine CW.skip ?_
      refine QW.then_ ?_
      have hlu : lu i x = x := if_neg (by omega)
      refine CW.region ?_
      refine RG.vl rfl rfl rfl (Ev.move rfl rfl) ?_
      refine RG.vl rfl rfl rfl (Ev.move rfl rfl) ?_
      refine RG.vl rfl rfl rfl ((Ev.addI rfl rfl rfl (by omega)).conv (congrArg (Value.int .i64) (show (tot : Int) + x = ((tot + lu i x : Nat) : Int) by omega))) ?_
      refine RG.vl rfl rfl rfl (Ev.assign rfl rfl) ?_
      refine RG.done ?_
      refine QW.blockN ?_
      refine QW.then_ ?_
      refine CW.region ?_
      refine RG.vl rfl rfl rfl (Ev.addI rfl rfl rfl (by omega)) ?_
      refine RG.vl rfl rfl rfl (Ev.move rfl rfl) ?_
      refine RG.done ?_
      refine QW.sub (S' := [(4, _), (5, _), (8, _), (9, _), (10, _)]) ⟨rfl, rfl, rfl, rfl, rfl, trivial⟩ ?_
      refine QW.round2 (i + 1) (tot + lu i x) ⟨rfl, rfl, trivial⟩ ⟨rfl, rfl, rfl, trivial⟩ ⟨⟨by omega, by rw [luhn_step hx] at hs; omega, by omega⟩, hxwl5⟩ (by omega)
  · refine CW.exit ?_
    refine QW.thenExit ?_
    refine QW.thenExit ?_
    refine QW.blockHit ?_
    refine QW.then_ ?_
    refine CW.seq ?_
    refine CW.region ?_
    refine RG.vl rfl rfl rfl (Ev.move rfl rfl) ?_
    refine RG.vl rfl rfl rfl (Ev.remI rfl rfl rfl (by omega)) ?_
    refine RG.vl rfl rfl rfl (Ev.eqI rfl rfl rfl) ?_
    refine RG.vl rfl rfl rfl (Ev.assign rfl rfl) ?_
    refine RG.done ?_
    refine QW.then_ ?_
    refine CW.ret ?_
    refine QW.ret1 rfl rfl ?_
    have hB := (Ex.tr hR4 hxwl5)
    obtain rfl : i = vs.length := by omega
    rw [List.drop_length] at hs
    have e : tot = luhnD 0 vs := by rw [← hs]; simp [luhnD]
    exact ⟨congrArg Value.bool (by rw [decide_eq_decide]; omega), hB⟩

set_option maxRecDepth 100000 in
set_option maxHeartbeats 4000000 in
theorem prods_ret  (w : World)  :
    Ret Tryd.prog 70 [] w (fun v w' => v = .agg (u8c tmT.flatten).toArray ∧ Ex w w') := by
  have hB0 : Ex w w := Ex.rfl_ _
  refine Ret.of Tryd.func70 rfl Tryd.ntmps70 rfl ?_
  refine CW.seq ?_
  refine CW.region ?_
  refine RG.alloc_ rfl rfl rfl rfl inf_105 (fun g1 w1 eg1 hx1 hb1 => ?_)
  have hle2 : w.heap.size ≤ g1 := by have := (Ex.rfl_ w).size; omega
  have hE3 := hx1
  refine RG.done ?_
  refine QW.then_ ?_
  refine CW.seq ?_
  refine CW.region ?_
  refine RG.vl rfl rfl rfl (Ev.buildA (len := 10) (xs := [_, _, _, _, _, _, _, _, _, _]) rfl rfl rfl rfl Tryd.underlying104 sz_5 inf_104 rfl rfl) ?_
  refine RG.vl rfl rfl rfl (Ev.buildA (len := 10) (xs := [_, _, _, _, _, _, _, _, _, _]) rfl rfl rfl rfl Tryd.underlying104 sz_5 inf_104 rfl rfl) ?_
  refine RG.vl rfl rfl rfl (Ev.buildA (len := 10) (xs := [_, _, _, _, _, _, _, _, _, _]) rfl rfl rfl rfl Tryd.underlying104 sz_5 inf_104 rfl rfl) ?_
  refine RG.vl rfl rfl rfl (Ev.buildA (len := 10) (xs := [_, _, _, _, _, _, _, _, _, _]) rfl rfl rfl rfl Tryd.underlying104 sz_5 inf_104 rfl rfl) ?_
  refine RG.vl rfl rfl rfl (Ev.buildA (len := 10) (xs := [_, _, _, _, _, _, _, _, _, _]) rfl rfl rfl rfl Tryd.underlying104 sz_5 inf_104 rfl rfl) ?_
  refine RG.vl rfl rfl rfl (Ev.buildA (len := 10) (xs := [_, _, _, _, _, _, _, _, _, _]) rfl rfl rfl rfl Tryd.underlying104 sz_5 inf_104 rfl rfl) ?_
  refine RG.vl rfl rfl rfl (Ev.buildA (len := 10) (xs := [_, _, _, _, _, _, _, _, _, _]) rfl rfl rfl rfl Tryd.underlying104 sz_5 inf_104 rfl rfl) ?_
  refine RG.vl rfl rfl rfl (Ev.buildA (len := 10) (xs := [_, _, _, _, _, _, _, _, _, _]) rfl rfl rfl rfl Tryd.underlying104 sz_5 inf_104 rfl rfl) ?_
  refine RG.vl rfl rfl rfl (Ev.buildA (len := 10) (xs := [_, _, _, _, _, _, _, _, _, _]) rfl rfl rfl rfl Tryd.underlying104 sz_5 inf_104 rfl rfl) ?_
  refine RG.vl rfl rfl rfl (Ev.buildA (len := 10) (xs := [_, _, _, _, _, _, _, _, _, _]) rfl rfl rfl rfl Tryd.underlying104 sz_5 inf_104 rfl rfl) ?_
  refine RG.vl rfl rfl rfl (Ev.buildA (len := 10) (xs := [.tmp 1, .tmp 2, .tmp 3, .tmp 4, .tmp 5, .tmp 6, .tmp 7, .tmp 8, .tmp 9, .tmp 10]) rfl rfl rfl rfl Tryd.underlying105 sz_104 inf_105 rfl rfl) ?_
  refine RG.stAll (g := g1) rfl rfl rfl rfl rfl sz_105 rfl rfl rfl hb1 (fun ws4 hwws4 hbws4 => ?_)
  replace hE3 := Wr.below hE3 hwws4 hle2
  refine RG.done ?_
  refine QW.then_ ?_
  refine CW.ret ?_
  refine QW.retC rfl rfl Tryd.underlying105 rfl sz_105 rfl hbws4 ?_
  have hB := (Ex.tr hB0 hE3)
  exact ⟨rfl, hB⟩

set_option maxRecDepth 100000 in
set_option maxHeartbeats 4000000 in
theorem perms_ret  (w : World)  :
    Ret Tryd.prog 71 [] w (fun v w' => v = .agg (u8c tnT.flatten).toArray ∧ Ex w w') := by
  have hB0 : Ex w w := Ex.rfl_ _
  refine Ret.of Tryd.func71 rfl Tryd.ntmps71 rfl ?_
  refine CW.seq ?_
  refine CW.region ?_
  refine RG.alloc_ rfl rfl rfl rfl inf_107 (fun g1 w1 eg1 hx1 hb1 => ?_)
  have hle2 : w.heap.size ≤ g1 := by have := (Ex.rfl_ w).size; omega
  have hE3 := hx1
  refine RG.done ?_
  refine QW.then_ ?_
  refine CW.seq ?_
  refine CW.region ?_
  refine RG.vl rfl rfl rfl (Ev.buildA (len := 10) (xs := [_, _, _, _, _, _, _, _, _, _]) rfl rfl rfl rfl Tryd.underlying104 sz_5 inf_104 rfl rfl) ?_
  refine RG.vl rfl rfl rfl (Ev.buildA (len := 10) (xs := [_, _, _, _, _, _, _, _, _, _]) rfl rfl rfl rfl Tryd.underlying104 sz_5 inf_104 rfl rfl) ?_
  refine RG.vl rfl rfl rfl (Ev.buildA (len := 10) (xs := [_, _, _, _, _, _, _, _, _, _]) rfl rfl rfl rfl Tryd.underlying104 sz_5 inf_104 rfl rfl) ?_
  refine RG.vl rfl rfl rfl (Ev.buildA (len := 10) (xs := [_, _, _, _, _, _, _, _, _, _]) rfl rfl rfl rfl Tryd.underlying104 sz_5 inf_104 rfl rfl) ?_
  refine RG.vl rfl rfl rfl (Ev.buildA (len := 10) (xs := [_, _, _, _, _, _, _, _, _, _]) rfl rfl rfl rfl Tryd.underlying104 sz_5 inf_104 rfl rfl) ?_
  refine RG.vl rfl rfl rfl (Ev.buildA (len := 10) (xs := [_, _, _, _, _, _, _, _, _, _]) rfl rfl rfl rfl Tryd.underlying104 sz_5 inf_104 rfl rfl) ?_
  refine RG.vl rfl rfl rfl (Ev.buildA (len := 10) (xs := [_, _, _, _, _, _, _, _, _, _]) rfl rfl rfl rfl Tryd.underlying104 sz_5 inf_104 rfl rfl) ?_
  refine RG.vl rfl rfl rfl (Ev.buildA (len := 10) (xs := [_, _, _, _, _, _, _, _, _, _]) rfl rfl rfl rfl Tryd.underlying104 sz_5 inf_104 rfl rfl) ?_
  refine RG.vl rfl rfl rfl (Ev.buildA (len := 8) (xs := [.tmp 1, .tmp 2, .tmp 3, .tmp 4, .tmp 5, .tmp 6, .tmp 7, .tmp 8]) rfl rfl rfl rfl Tryd.underlying107 sz_104 inf_107 rfl rfl) ?_
  refine RG.stAll (g := g1) rfl rfl rfl rfl rfl sz_107 rfl rfl rfl hb1 (fun ws4 hwws4 hbws4 => ?_)
  replace hE3 := Wr.below hE3 hwws4 hle2
  refine RG.done ?_
  refine QW.then_ ?_
  refine CW.ret ?_
  refine QW.retC rfl rfl Tryd.underlying107 rfl sz_107 rfl hbws4 ?_
  have hB := (Ex.tr hB0 hE3)
  exact ⟨rfl, hB⟩

set_option maxRecDepth 100000 in
set_option maxHeartbeats 1000000 in
theorem perm_ret (k : Nat) (wv vv : Value) (ws : List Int) (vs : List Nat) (w : World) (hws : RdL w 1 encI wv ws) (hv : RdL w 1 encZ vv vs) (hlen : vs.length ≤ 100) (hvs : ∀ x ∈ vs, x < 10) :
    Ret Tryd.prog 55 [.agg #[.int .u8 (k : Int), wv], vv] w (fun v w' => v = .bool (decide (permD 0 0 vs = 0)) ∧ Ex w w') := by
  obtain ⟨wA, wC, rfl⟩ := hws.shape
  obtain ⟨vA, vC, rfl⟩ := hv.shape
  have hB0 : Ex w w := Ex.rfl_ _
  refine Ret.of Tryd.func55 rfl Tryd.ntmps55 rfl ?_
  refine CW.seq ?_
  refine CW.region ?_
  refine RG.box rfl rfl rfl rfl rfl (fun g1 w1 eg1 hx1 hb1 => ?_)
  have hle2 : w.heap.size ≤ g1 := by have := (Ex.rfl_ w).size; omega
  have hE3 := hx1
  refine RG.vl rfl rfl rfl (Ev.assign rfl rfl) ?_
  refine RG.done ?_
  refine QW.then_ ?_
  refine CW.seq ?_
  refine CW.region ?_
  refine RG.call rfl rfl rfl rfl rfl rfl rfl en_70 (prods_ret _) ?_
  rintro _ w4 ⟨rfl, hx4⟩
  replace hE3 := Ex.tr hE3 hx4
  have hE5 := hx4
  refine RG.call rfl rfl rfl rfl rfl rfl rfl en_71 (perms_ret _) ?_
  rintro _ w6 ⟨rfl, hx6⟩
  replace hE3 := Ex.tr hE3 hx6
  replace hE5 := Ex.tr hE5 hx6
  have hE7 := hx6
  refine RG.alloc_ rfl rfl rfl rfl inf_105 (fun g8 w8 eg8 hx8 hb8 => ?_)
  have hle9 : w.heap.size ≤ g8 := by have := hE3.size; omega
  have hle10 : w1.heap.size ≤ g8 := by have := hE5.size; omega
  have hle11 : w4.heap.size ≤ g8 := by have := hE7.size; omega
  have hle12 : w6.heap.size ≤ g8 := by have := (Ex.rfl_ w6).size; omega
  have hlt13 : g1 < g8 := by have := Blk.lt (hb1.ext hE5); omega
  replace hE3 := Ex.tr hE3 hx8
  replace hE5 := Ex.tr hE5 hx8
  replace hE7 := Ex.tr hE7 hx8
  refine RG.alloc_ rfl rfl rfl rfl inf_107 (fun g14 w14 eg14 hx14 hb14 => ?_)
  have hle15 : w.heap.size ≤ g14 := by have := hE3.size; omega
  have hle16 : w1.heap.size ≤ g14 := by have := hE5.size; omega
  have hle17 : w4.heap.size ≤ g14 := by have := hE7.size; omega
  have hle18 : w8.heap.size ≤ g14 := by have := (Ex.rfl_ w8).size; omega
  have hlt19 : g1 < g14 := by have := Blk.lt (hb1.ext hE5); omega
  have hlt20 : g8 < g14 := by have := Blk.lt hb8; omega
  replace hE3 := Ex.tr hE3 hx14
  replace hE5 := Ex.tr hE5 hx14
  replace hE7 := Ex.tr hE7 hx14
  have hE21 := hx14
  refine RG.stAll (g := g8) rfl rfl rfl rfl rfl sz_105 rfl rfl rfl (hb8.ext hE21) (fun ws22 hwws22 hbws22 => ?_)
  replace hb14 := Blk.far hb14 hwws22 (by omega)
  replace hE3 := Wr.below hE3 hwws22 hle9
  replace hE5 := Wr.below hE5 hwws22 hle10
  replace hE7 := Wr.below hE7 hwws22 hle11
  refine RG.stAll (g := g14) rfl rfl rfl rfl rfl sz_107 rfl rfl rfl hb14 (fun ws23 hwws23 hbws23 => ?_)
  replace hbws22 := Blk.far hbws22 hwws23 (by omega)
  replace hE3 := Wr.below hE3 hwws23 hle15
  replace hE5 := Wr.below hE5 hwws23 hle16
  replace hE7 := Wr.below hE7 hwws23 hle17
  refine RG.done ?_
  refine QW.then_ ?_
  refine CW.seq ?_
  refine CW.region ?_
  refine RG.vl rfl rfl rfl (Ev.assign rfl rfl) ?_
  refine RG.done ?_
  refine QW.then_ ?_
  refine CW.seq ?_
  refine CW.seq ?_
  refine CW.region ?_
  refine RG.vl rfl rfl rfl (Ev.move rfl rfl) ?_
  refine RG.vl rfl rfl rfl (Ev.lenL rfl rfl rfl Tryd.underlying22 ((hv.ext hE3))) ?_
  refine RG.vl rfl rfl rfl (Ev.move rfl rfl) ?_
  refine RG.done ?_
  refine QW.then_ ?_
  refine CW.block ?_
  replace hws := (hws.ext hE3)
  replace hv := (hv.ext hE3)
  replace hb1 := (hb1.ext hE5)
  have hR24 := (Ex.tr hB0 hE3)
  have hR25 := hE5
  have hR26 := hE7
  refine CW.loop2 [(4, _), (5, _), (6, _), (12, _), (13, _)] ⟨rfl, rfl, rfl, rfl, rfl, trivial⟩ (fun (i : Nat) (q : Nat) => [(14, .int .i64 i), (7, .int .u8 q)]) (fun i q w' => (i ≤ vs.length ∧ permD q i (vs.drop i) = permD 0 0 vs ∧ q < 10) ∧ Ex ws23 w') (fun i q => vs.length - i) (0) (0) ⟨rfl, rfl, trivial⟩ ⟨⟨Nat.zero_le _, rfl, by omega⟩, (Ex.rfl_ _)⟩ ?_
  rintro i q wl27 ⟨⟨hi, hs, hq10⟩, hxwl27⟩
  refine CW.sub (S' := [(14, _), (7, _), (4, _), (5, _), (6, _), (12, _), (13, _)]) ⟨rfl, rfl, rfl, rfl, rfl, rfl, rfl, trivial⟩ ?_
  refine CW.seq ?_
  refine CW.region ?_
  refine RG.vl rfl rfl rfl (Ev.lss rfl rfl rfl) ?_
  refine RG.done ?_
  refine QW.then_ ?_
  refine CW.seq ?_
  refine CW.condP rfl (fun hc28 => ?_) (fun hc28 => ?_)
  · refine CW.skip ?_
    refine QW.then_ ?_
    refine CW.seq ?_
    refine CW.block ?_
    refine CW.seq ?_
    obtain ⟨x, hx⟩ : ∃ x, vs[i]? = some x := ⟨_, List.getElem?_eq_getElem (by omega)⟩
    have hx10 := hvs x (List.mem_of_getElem? hx)
    have hx8 : i % 8 < 8 := Nat.mod_lt _ (by omega)
    refine CW.region ?_
    refine RG.vl rfl rfl rfl (Ev.move rfl rfl) ?_
    refine RG.idxL rfl rfl rfl rfl rfl rfl Tryd.underlying22 sz_3 ((hv.ext hxwl27)) (hx) (fun p29 hp29b hp29 => ?_)
    refine RG.vl rfl rfl rfl (Ev.ld0 rfl rfl Tryd.underlying3 rfl (hp29) (rfl)) ?_
    refine RG.vl rfl rfl rfl (Ev.assign rfl rfl) ?_
    refine RG.vl rfl rfl rfl (Ev.assign rfl rfl) ?_
    refine RG.done ?_
    refine QW.then_ ?_
    refine CW.draw [] (.ex) 11 rfl mixed (fun wd30 hxwd30 => ?_)
    replace hxwl27 := Ex.tr hxwl27 hxwd30
    have hE31 := hxwd30
    refine AG.takeW 0 rfl (by kernel_rfl) (by kernel_rfl) rfl rfl rfl (fun _ => Ev.move rfl rfl) ?_
    refine AG.takeW 1 rfl (by kernel_rfl) (by kernel_rfl) rfl rfl rfl (fun _ => Ev.move rfl rfl) ?_
    refine AG.takeW 2 rfl (by kernel_rfl) (by kernel_rfl) rfl rfl rfl (fun _ => (Ev.remI rfl rfl rfl (by omega)).conv (congrArg (Value.int .i64) (show (i : Int) % 8 = ((i % 8 : Nat) : Int) by omega))) ?_
    refine AG.takeW 3 rfl (by kernel_rfl) (by kernel_rfl) rfl rfl rfl (fun _ => Ev.move rfl rfl) ?_
    refine AG.takeW 4 rfl (by kernel_rfl) (by kernel_rfl) rfl rfl rfl (fun _ => Ev.idxA rfl rfl rfl Tryd.underlying107 sz_104 (by omega)) ?_
    refine AG.takeW 5 rfl (by kernel_rfl) (by kernel_rfl) rfl rfl rfl (fun _ => Ev.idxA rfl rfl rfl Tryd.underlying104 sz_5 (by omega)) ?_
    refine AG.take 6 rfl (by kernel_rfl) (by kernel_rfl) rfl rfl rfl (fun wq hq => Ev.ldAA rfl rfl Tryd.underlying5 rfl (((hbws23.ext hxwl27).ext hq).cells) (tn_cell hx8 hx10)) ?_
    refine AG.takeW 7 rfl (by kernel_rfl) (by kernel_rfl) rfl rfl rfl (fun _ => Ev.idxA rfl rfl rfl Tryd.underlying105 sz_104 (by omega)) ?_
    refine AG.takeW 8 rfl (by kernel_rfl) (by kernel_rfl) rfl rfl rfl (fun _ => Ev.idxA rfl rfl rfl Tryd.underlying104 sz_5 (tn_lt _ hx8 x hx10)) ?_
    refine AG.take 9 rfl (by kernel_rfl) (by kernel_rfl) rfl rfl rfl (fun wq hq => Ev.ldAA rfl rfl Tryd.underlying5 rfl (((hbws22.ext hxwl27).ext hq).cells) (tm_cell hq10 (tn_lt _ hx8 x hx10))) ?_
    refine AG.takeW 10 rfl (by kernel_rfl) (by kernel_rfl) rfl rfl rfl (fun _ => Ev.assign rfl rfl) ?_
    refine AG.done (by kernel_rfl) ?_
    refine QW.sub (S' := [(4, _), (5, _), (6, _), (7, _), (12, _), (13, _), (14, _)]) ⟨rfl, rfl, rfl, rfl, rfl, rfl, rfl, trivial⟩ ?_
    refine QW.blockN ?_
    refine QW.then_ ?_
    refine CW.region ?_
    refine RG.vl rfl rfl rfl (Ev.addI rfl rfl rfl (by omega)) ?_
    refine RG.vl rfl rfl rfl (Ev.move rfl rfl) ?_
    refine RG.done ?_
    refine QW.round2 (i + 1) (tm q (tn (i % 8) x)) ⟨rfl, rfl, trivial⟩ ⟨rfl, rfl, rfl, rfl, rfl, trivial⟩ ⟨⟨by omega, by rw [perm_step hx] at hs; exact hs, tm_lt q hq10 _ (tn_lt _ hx8 x hx10)⟩, hxwl27⟩ (by omega)
  · refine CW.exit ?_
    refine QW.thenExit ?_
    refine QW.thenExit ?_
    refine QW.blockHit ?_
    refine QW.then_ ?_
    refine CW.seq ?_
    refine CW.region ?_
    refine RG.vl rfl rfl rfl (Ev.move rfl rfl) ?_
    refine RG.vl rfl rfl rfl (Ev.eqI rfl rfl rfl) ?_
    refine RG.vl rfl rfl rfl (Ev.assign rfl rfl) ?_
    refine RG.done ?_
    refine QW.then_ ?_
    refine CW.ret ?_
    refine QW.ret1 rfl rfl ?_
    have hB := (Ex.tr hR24 hxwl27)
    obtain rfl : i = vs.length := by omega
    rw [List.drop_length] at hs
    have e : q = permD 0 0 vs := by rw [← hs]; simp [permD]
    exact ⟨congrArg Value.bool (by rw [decide_eq_decide]; omega), hB⟩

end Go.Proofs.YtnhkhpnkhkagaaaDoor
