/- Walks (DB). Written by program. -/
import Derived.Test.YtnhkhpnkhkagaaaDoorT
import Derived.Test.YtnhkhpnkhkagaaaDoorDA
namespace Go.Proofs.YtnhkhpnkhkagaaaDoor
open Go.RowKit
set_option maxRecDepth 100000 in
set_option maxHeartbeats 1000000 in
theorem right_ret (k : Nat) (wv : Value) (ws : List Int) (w : World) (hws : RdL w 1 encI wv ws) (hlen : ws.length ≤ 100000) :
    Ret Tryd.prog 22 [.agg #[.int .u8 (k : Int), wv]] w (fun v w' => v = .bool (rightD k ws) ∧ Ex w w') := by
  obtain ⟨wA, wC, rfl⟩ := hws.shape
  have hB0 : Ex w w := Ex.rfl_ _
  refine Ret.of Tryd.func22 rfl Tryd.ntmps22 rfl ?_
  refine CW.seq ?_
  refine CW.region ?_
  refine RG.box rfl rfl rfl rfl rfl (fun g1 w1 eg1 hx1 hb1 => ?_)
  have hle2 : w.heap.size ≤ g1 := by have := (Ex.rfl_ w).size; omega
  have hE3 := hx1
  refine RG.vl rfl rfl rfl (Ev.assign rfl rfl) ?_
  refine RG.done ?_
  refine QW.then_ ?_
  refine CW.seq ?_
  refine CW.region ?_
  refine RG.local_ rfl rfl rfl rfl (fun _ => rfl) rfl rfl (fun _ => rfl) inf_3 rfl rfl rfl (fun gM w4 egM hx4 hb4 => ?_)
  have hle5 : w.heap.size ≤ gM := by have := hE3.size; omega
  have hle6 : w1.heap.size ≤ gM := by have := (Ex.rfl_ w1).size; omega
  have hlt7 : g1 < gM := by have := Blk.lt hb1; omega
  replace hE3 := Ex.tr hE3 hx4
  have hE8 := hx4
  refine RG.done ?_
  refine QW.then_ ?_
  refine CW.seq ?_
  refine CW.seq ?_
  refine CW.region ?_
  refine RG.vl rfl rfl rfl (Ev.fld rfl rfl fld_24_0) ?_
  refine RG.vl rfl rfl rfl (Ev.ldAt rfl rfl Tryd.underlying5 rfl ((hb1.ext hE8).cells) (rfl)) ?_
  refine RG.done ?_
  refine QW.then_ ?_
  refine CW.block ?_
  refine CW.seq ?_
  refine CW.region ?_
  refine RG.vl rfl rfl rfl (Ev.eqI rfl rfl rfl) ?_
  refine RG.vl rfl rfl rfl (Ev.assign rfl rfl) ?_
  refine RG.done ?_
  refine QW.then_ ?_
  refine CW.condP rfl (fun hc9 => ?_) (fun hc9 => ?_)
  · refine CW.region ?_
    refine RG.st (g := gM) (k := 0) rfl rfl rfl rfl rfl sz_3 rfl hb4 rfl (fun ws10 hwws10 hbws10 => ?_)
    replace hE3 := Wr.below hE3 hwws10 hle5
    replace hE8 := Wr.below hE8 hwws10 hle6
    refine RG.done ?_
    refine QW.blockN ?_
    refine QW.then_ ?_
    refine CW.seq ?_
    refine CW.seq ?_
    refine CW.region ?_
    refine RG.vl rfl rfl rfl (Ev.fld rfl rfl fld_24_1) ?_
    refine RG.vl rfl rfl rfl (Ev.ldAt rfl rfl Tryd.underlying22 rfl ((hb1.ext hE8).cells) (rfl)) ?_
    refine RG.vl rfl rfl rfl (Ev.lenL rfl rfl rfl Tryd.underlying22 ((hws.ext hE3))) ?_
    refine RG.vl rfl rfl rfl (Ev.lss rfl rfl rfl) ?_
    refine RG.vl rfl rfl rfl (Ev.move rfl rfl) ?_
    refine RG.split (d := 21) rfl (fun hg11 => ?_) (fun hg11 => ?_)
    · refine RG.pass rfl rfl rfl ?_
      refine RG.pass rfl rfl rfl ?_
      refine RG.pass rfl rfl rfl ?_
      refine RG.pass rfl rfl rfl ?_
      refine RG.vl rfl rfl rfl (Ev.pickT rfl rfl rfl) ?_
      refine RG.done ?_
      refine QW.sub (S' := [(1, _), (2, _), (3, _), (26, _)]) ⟨rfl, rfl, rfl, rfl, trivial⟩ ?_
      refine QW.then_ ?_
      refine CW.condT rfl ?_
      refine CW.seq ?_
      refine CW.region ?_
      refine RG.vl rfl rfl rfl (Ev.assign rfl rfl) ?_
      refine RG.done ?_
      refine QW.then_ ?_
      refine CW.ret ?_
      refine QW.thenRet ?_
      refine QW.ret1 rfl rfl ?_
      have hB := (Ex.tr hB0 hE3)
      exact ⟨congrArg Value.bool (right_len (by omega) (by omega)), hB⟩
    · refine RG.vl rfl rfl rfl (Ev.fld rfl rfl fld_24_1) ?_
      refine RG.vl rfl rfl rfl (Ev.ldAt rfl rfl Tryd.underlying22 rfl ((hb1.ext hE8).cells) (rfl)) ?_
      refine RG.vl rfl rfl rfl (Ev.lenL rfl rfl rfl Tryd.underlying22 ((hws.ext hE3))) ?_
      refine RG.vl rfl rfl rfl (Ev.gtr rfl rfl rfl) ?_
      refine RG.vl rfl rfl rfl (Ev.pickF rfl rfl rfl) ?_
      refine RG.done ?_
      refine QW.sub (S' := [(1, _), (2, _), (3, _), (26, _)]) ⟨rfl, rfl, rfl, rfl, trivial⟩ ?_
      refine QW.then_ ?_
      refine CW.condP rfl (fun hc12 => ?_) (fun hc12 => ?_)
      · refine CW.seq ?_
        refine CW.region ?_
        refine RG.vl rfl rfl rfl (Ev.assign rfl rfl) ?_
        refine RG.done ?_
        refine QW.then_ ?_
        refine CW.ret ?_
        refine QW.thenRet ?_
        refine QW.ret1 rfl rfl ?_
        have hB := (Ex.tr hB0 hE3)
        exact ⟨congrArg Value.bool (right_len (by omega) (by omega)), hB⟩
      · refine CW.skip ?_
        refine QW.then_ ?_
        refine CW.seq ?_
        refine CW.region ?_
        refine RG.vl rfl rfl rfl (Ev.fld rfl rfl fld_24_1) ?_
        refine RG.vl rfl rfl rfl (Ev.ldAt rfl rfl Tryd.underlying22 rfl ((hb1.ext hE8).cells) (rfl)) ?_
        refine RG.vl rfl rfl rfl (Ev.mkFn rfl rfl rfl rfl rfl) ?_
        refine RG.call rfl rfl rfl rfl rfl rfl rfl en_41 (contf_ret _ ws _ gM _ ((hws.ext hE3)) hbws10 hlen) ?_
        rintro _ w13 ⟨rfl, hx13⟩
        replace hE3 := Ex.tr hE3 hx13
        replace hE8 := Ex.tr hE8 hx13
        have hE14 := hx13
        refine RG.vl rfl rfl rfl (Ev.not rfl rfl) ?_
        refine RG.vl rfl rfl rfl (Ev.assign rfl rfl) ?_
        refine RG.done ?_
        refine QW.then_ ?_
        refine CW.ret ?_
        refine QW.ret1 rfl rfl ?_
        have hB := (Ex.tr hB0 hE3)
        exact ⟨congrArg Value.bool (right_12 (by omega) (by omega) (by omega) (by omega)), hB⟩
  · refine CW.seq ?_
    refine CW.region ?_
    refine RG.vl rfl rfl rfl (Ev.eqI rfl rfl rfl) ?_
    refine RG.vl rfl rfl rfl (Ev.assign rfl rfl) ?_
    refine RG.done ?_
    refine QW.then_ ?_
    refine CW.condP rfl (fun hc15 => ?_) (fun hc15 => ?_)
    · refine CW.region ?_
      refine RG.st (g := gM) (k := 0) rfl rfl rfl rfl rfl sz_3 rfl hb4 rfl (fun ws16 hwws16 hbws16 => ?_)
      replace hE3 := Wr.below hE3 hwws16 hle5
      replace hE8 := Wr.below hE8 hwws16 hle6
      refine RG.done ?_
      refine QW.blockN ?_
      refine QW.then_ ?_
      refine CW.seq ?_
      refine CW.seq ?_
      refine CW.region ?_
      refine RG.vl rfl rfl rfl (Ev.fld rfl rfl fld_24_1) ?_
      refine RG.vl rfl rfl rfl (Ev.ldAt rfl rfl Tryd.underlying22 rfl ((hb1.ext hE8).cells) (rfl)) ?_
      refine RG.vl rfl rfl rfl (Ev.lenL rfl rfl rfl Tryd.underlying22 ((hws.ext hE3))) ?_
      refine RG.vl rfl rfl rfl (Ev.lss rfl rfl rfl) ?_
      refine RG.vl rfl rfl rfl (Ev.move rfl rfl) ?_
      refine RG.split (d := 21) rfl (fun hg17 => ?_) (fun hg17 => ?_)
      · refine RG.pass rfl rfl rfl ?_
        refine RG.pass rfl rfl rfl ?_
        refine RG.pass rfl rfl rfl ?_
        refine RG.pass rfl rfl rfl ?_
        refine RG.vl rfl rfl rfl (Ev.pickT rfl rfl rfl) ?_
        refine RG.done ?_
        refine QW.sub (S' := [(1, _), (2, _), (3, _), (26, _)]) ⟨rfl, rfl, rfl, rfl, trivial⟩ ?_
        refine QW.then_ ?_
        refine CW.condT rfl ?_
        refine CW.seq ?_
        refine CW.region ?_
        refine RG.vl rfl rfl rfl (Ev.assign rfl rfl) ?_
        refine RG.done ?_
        refine QW.then_ ?_
        refine CW.ret ?_
        refine QW.thenRet ?_
        refine QW.ret1 rfl rfl ?_
        have hB := (Ex.tr hB0 hE3)
        exact ⟨congrArg Value.bool (right_len (by omega) (by omega)), hB⟩
      · refine RG.vl rfl rfl rfl (Ev.fld rfl rfl fld_24_1) ?_
        refine RG.vl rfl rfl rfl (Ev.ldAt rfl rfl Tryd.underlying22 rfl ((hb1.ext hE8).cells) (rfl)) ?_
        refine RG.vl rfl rfl rfl (Ev.lenL rfl rfl rfl Tryd.underlying22 ((hws.ext hE3))) ?_
        refine RG.vl rfl rfl rfl (Ev.gtr rfl rfl rfl) ?_
        refine RG.vl rfl rfl rfl (Ev.pickF rfl rfl rfl) ?_
        refine RG.done ?_
        refine QW.sub (S' := [(1, _), (2, _), (3, _), (26, _)]) ⟨rfl, rfl, rfl, rfl, trivial⟩ ?_
        refine QW.then_ ?_
        refine CW.condP rfl (fun hc18 => ?_) (fun hc18 => ?_)
        · refine CW.seq ?_
          refine CW.region ?_
          refine RG.vl rfl rfl rfl (Ev.assign rfl rfl) ?_
          refine RG.done ?_
          refine QW.then_ ?_
          refine CW.ret ?_
          refine QW.thenRet ?_
          refine QW.ret1 rfl rfl ?_
          have hB := (Ex.tr hB0 hE3)
          exact ⟨congrArg Value.bool (right_len (by omega) (by omega)), hB⟩
        · refine CW.skip ?_
          refine QW.then_ ?_
          refine CW.seq ?_
          refine CW.region ?_
          refine RG.vl rfl rfl rfl (Ev.fld rfl rfl fld_24_1) ?_
          refine RG.vl rfl rfl rfl (Ev.ldAt rfl rfl Tryd.underlying22 rfl ((hb1.ext hE8).cells) (rfl)) ?_
          refine RG.vl rfl rfl rfl (Ev.mkFn rfl rfl rfl rfl rfl) ?_
          refine RG.call rfl rfl rfl rfl rfl rfl rfl en_41 (contf_ret _ ws _ gM _ ((hws.ext hE3)) hbws16 hlen) ?_
          rintro _ w19 ⟨rfl, hx19⟩
          replace hE3 := Ex.tr hE3 hx19
          replace hE8 := Ex.tr hE8 hx19
          have hE20 := hx19
          refine RG.vl rfl rfl rfl (Ev.not rfl rfl) ?_
          refine RG.vl rfl rfl rfl (Ev.assign rfl rfl) ?_
          refine RG.done ?_
          refine QW.then_ ?_
          refine CW.ret ?_
          refine QW.ret1 rfl rfl ?_
          have hB := (Ex.tr hB0 hE3)
          exact ⟨congrArg Value.bool (right_12 (by omega) (by omega) (by omega) (by omega)), hB⟩
    · refine CW.seq ?_
      refine CW.seq ?_
      refine CW.region ?_
      refine RG.vl rfl rfl rfl (Ev.eqI rfl rfl rfl) ?_
      refine RG.vl rfl rfl rfl (Ev.assign rfl rfl) ?_
      refine RG.done ?_
      refine QW.then_ ?_
      refine CW.condP rfl (fun hc21 => ?_) (fun hc21 => ?_)
      · refine CW.skip ?_
        refine QW.then_ ?_
        refine CW.condP rfl (fun hc22 => ?_) (fun hc22 => absurd hc21 hc22)
        refine CW.seq ?_
        refine CW.region ?_
        refine RG.vl rfl rfl rfl (Ev.fld rfl rfl fld_24_1) ?_
        refine RG.vl rfl rfl rfl (Ev.ldAt rfl rfl Tryd.underlying22 rfl ((hb1.ext hE8).cells) (rfl)) ?_
        refine RG.vl rfl rfl rfl (Ev.lenL rfl rfl rfl Tryd.underlying22 ((hws.ext hE3))) ?_
        refine RG.vl rfl rfl rfl (Ev.eqI rfl rfl rfl) ?_
        refine RG.vl rfl rfl rfl (Ev.assign rfl rfl) ?_
        refine RG.done ?_
        refine QW.sub (S' := [(1, _), (2, _), (3, _)]) ⟨rfl, rfl, rfl, trivial⟩ ?_
        refine QW.then_ ?_
        refine CW.ret ?_
        refine QW.blockR ?_
        refine QW.thenRet ?_
        refine QW.ret1 rfl rfl ?_
        have hB := (Ex.tr hB0 hE3)
        exact ⟨congrArg Value.bool (right_34 (by omega) ws), hB⟩
      · refine CW.region ?_
        refine RG.vl rfl rfl rfl (Ev.eqI rfl rfl rfl) ?_
        refine RG.vl rfl rfl rfl (Ev.assign rfl rfl) ?_
        refine RG.done ?_
        refine QW.then_ ?_
        refine CW.condP rfl (fun hc23 => ?_) (fun hc23 => ?_)
        · refine CW.seq ?_
          refine CW.region ?_
          refine RG.vl rfl rfl rfl (Ev.fld rfl rfl fld_24_1) ?_
          refine RG.vl rfl rfl rfl (Ev.ldAt rfl rfl Tryd.underlying22 rfl ((hb1.ext hE8).cells) (rfl)) ?_
          refine RG.vl rfl rfl rfl (Ev.lenL rfl rfl rfl Tryd.underlying22 ((hws.ext hE3))) ?_
          refine RG.vl rfl rfl rfl (Ev.eqI rfl rfl rfl) ?_
          refine RG.vl rfl rfl rfl (Ev.assign rfl rfl) ?_
          refine RG.done ?_
          refine QW.sub (S' := [(1, _), (2, _), (3, _)]) ⟨rfl, rfl, rfl, trivial⟩ ?_
          refine QW.then_ ?_
          refine CW.ret ?_
          refine QW.blockR ?_
          refine QW.thenRet ?_
          refine QW.ret1 rfl rfl ?_
          have hB := (Ex.tr hB0 hE3)
          exact ⟨congrArg Value.bool (right_34 (by omega) ws), hB⟩
        · refine CW.seq ?_
          refine CW.region ?_
          refine RG.vl rfl rfl rfl (Ev.assign rfl rfl) ?_
          refine RG.done ?_
          refine QW.sub (S' := [(1, _), (2, _), (3, _)]) ⟨rfl, rfl, rfl, trivial⟩ ?_
          refine QW.then_ ?_
          refine CW.ret ?_
          refine QW.blockR ?_
          refine QW.thenRet ?_
          refine QW.ret1 rfl rfl ?_
          have hB := (Ex.tr hB0 hE3)
          exact ⟨congrArg Value.bool (right_no (by omega) ws), hB⟩

set_option maxRecDepth 100000 in
set_option maxHeartbeats 1000000 in
theorem pay_ret (t : List UInt8) (w : World) (hlen : t.length ≤ 100000) :
    Ret Tryd.prog 35 [.string ⟨t.toArray⟩] w (fun v w' => v = .bool (isPay t) ∧ Ex w w') := by
  have hsz := sbytes t
  have hB0 : Ex w w := Ex.rfl_ _
  refine Ret.of Tryd.func35 rfl Tryd.ntmps35 rfl ?_
  refine CW.seq ?_
  refine CW.region ?_
  refine RG.vl rfl rfl rfl (Ev.assign rfl rfl) ?_
  refine RG.done ?_
  refine QW.then_ ?_
  refine CW.seq ?_
  refine CW.seq ?_
  refine CW.region ?_
  refine RG.vl rfl rfl rfl (Ev.move rfl rfl) ?_
  refine RG.toBytes rfl rfl rfl rfl rfl Tryd.underlying9 Tryd.underlying39 Tryd.underlying5 (by simp only [maxLen]; omega) (fun v1 wk2 hxwk2 hrwk2 => ?_)
  have hE3 := hxwk2
  replace hrwk2 : RdL wk2 1 encB _ t := hrwk2
  refine RG.vl rfl rfl rfl (Ev.lenL rfl rfl rfl Tryd.underlying39 (hrwk2)) ?_
  refine RG.vl rfl rfl rfl (Ev.move rfl rfl) ?_
  refine RG.done ?_
  refine QW.then_ ?_
  refine CW.block ?_
  have hR4 := (Ex.tr hB0 hE3)
  refine CW.loop1 [(0, _), (6, _), (7, _)] ⟨rfl, rfl, rfl, trivial⟩ (fun (i : Nat) => [(8, .int .i64 i)]) (fun i w' => (i ≤ t.length ∧ (t.take i).all isDig = true) ∧ Ex wk2 w') (fun i => t.length - i) (0) ⟨rfl, trivial⟩ ⟨⟨Nat.zero_le _, rfl⟩, (Ex.rfl_ _)⟩ ?_
  rintro i wl5 ⟨⟨hi, hall⟩, hxwl5⟩
  refine CW.sub (S' := [(8, _), (0, _), (6, _), (7, _)]) ⟨rfl, rfl, rfl, rfl, trivial⟩ ?_
  refine CW.seq ?_
  refine CW.region ?_
  refine RG.vl rfl rfl rfl (Ev.lss rfl rfl rfl) ?_
  refine RG.done ?_
  refine QW.then_ ?_
  refine CW.seq ?_
  refine CW.condP rfl (fun hc6 => ?_) (fun hc6 => ?_)
  · refine CW.skip ?_
    refine QW.then_ ?_
    refine CW.seq ?_
    refine CW.block ?_
    refine CW.seq ?_
    obtain ⟨c, hc⟩ : ∃ c, t[i]? = some c := ⟨_, List.getElem?_eq_getElem (by omega)⟩
    have hc8 := c.toNat_lt
    refine CW.region ?_
    refine RG.idxL rfl rfl rfl rfl rfl rfl Tryd.underlying39 sz_5 ((hrwk2.ext hxwl5)) (hc) (fun p7 hp7b hp7 => ?_)
    refine RG.vl rfl rfl rfl (Ev.ld0 rfl rfl Tryd.underlying5 rfl (hp7) (rfl)) ?_
    refine RG.vl rfl rfl rfl (Ev.assign rfl rfl) ?_
    refine RG.done ?_
    refine QW.then_ ?_
    refine CW.seq ?_
    refine CW.region ?_
    refine RG.vl rfl rfl rfl (Ev.move rfl rfl) ?_
    refine RG.vl rfl rfl rfl (Ev.lss rfl rfl rfl) ?_
    refine RG.vl rfl rfl rfl (Ev.move rfl rfl) ?_
    refine RG.split (d := 14) rfl (fun hg8 => ?_) (fun hg8 => ?_)
    · refine RG.pass rfl rfl rfl ?_
      refine RG.pass rfl rfl rfl ?_
      refine RG.vl rfl rfl rfl (Ev.pickT rfl rfl rfl) ?_
      refine RG.done ?_
      refine QW.then_ ?_
      refine CW.condT rfl ?_
      refine CW.seq ?_
      refine CW.region ?_
      refine RG.vl rfl rfl rfl (Ev.assign rfl rfl) ?_
      refine RG.done ?_
      refine QW.then_ ?_
      refine CW.ret ?_
      refine QW.blockR ?_
      refine QW.thenRet ?_
      refine QW.thenRet ?_
      refine QW.blockR ?_
      refine QW.thenRet ?_
      refine QW.ret1 rfl rfl ?_
      have hB := (Ex.tr hR4 hxwl5)
      exact ⟨congrArg Value.bool (pay_bad hc (by omega)), hB⟩
    · refine RG.vl rfl rfl rfl (Ev.move rfl rfl) ?_
      refine RG.vl rfl rfl rfl (Ev.gtr rfl rfl rfl) ?_
      refine RG.vl rfl rfl rfl (Ev.pickF rfl rfl rfl) ?_
      refine RG.done ?_
      refine QW.then_ ?_
      refine CW.condP rfl (fun hc9 => ?_) (fun hc9 => ?_)
      · refine CW.seq ?_
        refine CW.region ?_
        refine RG.vl rfl rfl rfl (Ev.assign rfl rfl) ?_
        refine RG.done ?_
        refine QW.then_ ?_
        refine CW.ret ?_
        refine QW.blockR ?_
        refine QW.thenRet ?_
        refine QW.thenRet ?_
        refine QW.blockR ?_
        refine QW.thenRet ?_
        refine QW.ret1 rfl rfl ?_
        have hB := (Ex.tr hR4 hxwl5)
        exact ⟨congrArg Value.bool (pay_bad hc (by omega)), hB⟩
      · refine CW.skip ?_
        refine QW.blockN ?_
        refine QW.then_ ?_
        refine CW.region ?_
        refine RG.vl rfl rfl rfl (Ev.addI rfl rfl rfl (by omega)) ?_
        refine RG.vl rfl rfl rfl (Ev.move rfl rfl) ?_
        refine RG.done ?_
        refine QW.round1 (i + 1) ⟨rfl, trivial⟩ ⟨rfl, rfl, rfl, trivial⟩ ⟨⟨by omega, pay_more hc hall (by omega) (by omega)⟩, hxwl5⟩ (by omega)
  · refine CW.exit ?_
    refine QW.thenExit ?_
    refine QW.thenExit ?_
    refine QW.blockHit ?_
    refine QW.then_ ?_
    refine CW.seq ?_
    refine CW.region ?_
    refine RG.vl rfl rfl rfl (Ev.move rfl rfl) ?_
    refine RG.vl rfl rfl rfl (Ev.neS rfl rfl rfl) ?_
    refine RG.vl rfl rfl rfl (Ev.assign rfl rfl) ?_
    refine RG.done ?_
    refine QW.then_ ?_
    refine CW.ret ?_
    refine QW.ret1 rfl rfl ?_
    have hB := (Ex.tr hR4 hxwl5)
    obtain rfl : i = t.length := by omega
    rw [List.take_length] at hall
    exact ⟨congrArg Value.bool (pay_end hall), hB⟩

set_option maxRecDepth 100000 in
set_option maxHeartbeats 1000000 in
theorem most_ret (k : Nat) (wv : Value) (w : World)  :
    Ret Tryd.prog 49 [.agg #[.int .u8 (k : Int), wv]] w (fun v w' => v = .int .i64 (mostD k : Nat) ∧ Ex w w') := by
  have hB0 : Ex w w := Ex.rfl_ _
  refine Ret.of Tryd.func49 rfl Tryd.ntmps49 rfl ?_
  refine CW.seq ?_
  refine CW.region ?_
  refine RG.box rfl rfl rfl rfl rfl (fun g1 w1 eg1 hx1 hb1 => ?_)
  have hle2 : w.heap.size ≤ g1 := by have := (Ex.rfl_ w).size; omega
  have hE3 := hx1
  refine RG.vl rfl rfl rfl (Ev.assign rfl rfl) ?_
  refine RG.done ?_
  refine QW.then_ ?_
  refine CW.seq ?_
  refine CW.seq ?_
  refine CW.region ?_
  refine RG.vl rfl rfl rfl (Ev.fld rfl rfl fld_24_0) ?_
  refine RG.vl rfl rfl rfl (Ev.ldAt rfl rfl Tryd.underlying5 rfl (hb1.cells) (rfl)) ?_
  refine RG.vl rfl rfl rfl (Ev.eqI rfl rfl rfl) ?_
  refine RG.done ?_
  refine QW.then_ ?_
  refine CW.condP rfl (fun hc4 => ?_) (fun hc4 => ?_)
  · refine CW.seq ?_
    refine CW.region ?_
    refine RG.vl rfl rfl rfl (Ev.assign rfl rfl) ?_
    refine RG.done ?_
    refine QW.then_ ?_
    refine CW.ret ?_
    refine QW.thenRet ?_
    refine QW.ret1 rfl rfl ?_
    have hB := (Ex.tr hB0 hE3)
    exact ⟨(by unfold mostD; first | rw [if_pos (by omega)]; rfl | rw [if_neg (by omega)]; rfl), hB⟩
  · refine CW.skip ?_
    refine QW.then_ ?_
    refine CW.seq ?_
    refine CW.region ?_
    refine RG.vl rfl rfl rfl (Ev.assign rfl rfl) ?_
    refine RG.done ?_
    refine QW.then_ ?_
    refine CW.ret ?_
    refine QW.ret1 rfl rfl ?_
    have hB := (Ex.tr hB0 hE3)
    exact ⟨(by unfold mostD; first | rw [if_pos (by omega)]; rfl | rw [if_neg (by omega)]; rfl), hB⟩

set_option maxRecDepth 100000 in
set_option maxHeartbeats 1000000 in
theorem chr_ret (x : Nat) (w : World) (hv : x ≤ 10) :
    Ret Tryd.prog 38 [.int .i64 (x : Int)] w (fun v w' => v = .int .u8 (chr x).toNat ∧ Ex w w') := by
  have hB0 : Ex w w := Ex.rfl_ _
  refine Ret.of Tryd.func38 rfl Tryd.ntmps38 rfl ?_
  refine CW.seq ?_
  refine CW.region ?_
  refine RG.vl rfl rfl rfl (Ev.assign rfl rfl) ?_
  refine RG.done ?_
  refine QW.then_ ?_
  refine CW.seq ?_
  refine CW.seq ?_
  refine CW.region ?_
  refine RG.vl rfl rfl rfl (Ev.move rfl rfl) ?_
  refine RG.vl rfl rfl rfl (Ev.eqI rfl rfl rfl) ?_
  refine RG.done ?_
  refine QW.then_ ?_
  refine CW.condP rfl (fun hc1 => ?_) (fun hc1 => ?_)
  · refine CW.seq ?_
    refine CW.region ?_
    refine RG.vl rfl rfl rfl (Ev.assign rfl rfl) ?_
    refine RG.done ?_
    refine QW.then_ ?_
    refine CW.ret ?_
    refine QW.thenRet ?_
    refine QW.ret1 rfl rfl ?_
    have hB := hB0
    exact ⟨(by rw [chr_toNat hv, if_pos (by omega)]; rfl), hB⟩
  · refine CW.skip ?_
    refine QW.then_ ?_
    refine CW.seq ?_
    refine CW.region ?_
    refine RG.vl rfl rfl rfl (Ev.move rfl rfl) ?_
    refine RG.vl rfl rfl rfl (Ev.addI rfl rfl rfl (by omega)) ?_
    refine RG.vl rfl rfl rfl (Ev.to8 rfl rfl Tryd.underlying3 Tryd.underlying5 (by omega)) ?_
    refine RG.vl rfl rfl rfl (Ev.assign rfl rfl) ?_
    refine RG.done ?_
    refine QW.then_ ?_
    refine CW.ret ?_
    refine QW.ret1 rfl rfl ?_
    have hB := hB0
    exact ⟨(by rw [chr_toNat hv, if_neg (by omega)]; congr 1), hB⟩

set_option maxRecDepth 100000 in
set_option maxHeartbeats 1000000 in
theorem vals_ret (t : List UInt8) (w : World) (hlen : t.length ≤ 100000) (hok : ∀ c ∈ t, isDig c = true ∨ c.toNat = 88) :
    Ret Tryd.prog 36 [.string ⟨t.toArray⟩] w (fun v w' => Own w' w.heap.size 3 1 encZ v (vals t) ∧ Ex w w') := by
  have hsz := sbytes t
  have hB0 : Ex w w := Ex.rfl_ _
  refine Ret.of Tryd.func36 rfl Tryd.ntmps36 rfl ?_
  refine CW.seq ?_
  refine CW.region ?_
  refine RG.vl rfl rfl rfl (Ev.assign rfl rfl) ?_
  refine RG.done ?_
  refine QW.then_ ?_
  refine CW.seq ?_
  refine CW.region ?_
  refine RG.vl rfl rfl rfl (Ev.move rfl rfl) ?_
  refine RG.vl rfl rfl rfl (Ev.lenStr rfl rfl rfl Tryd.underlying9) ?_
  refine RG.makeO (m := t.length) (enc := encZ) 0 rfl rfl rfl rfl rfl rfl (by rw [sbytes]) Tryd.underlying22 inf_3 encZ_len rfl rfl (by omega) (by simp only [maxLen]; omega) (fun u wk1 hxwk1 hown2 hnew3 => ?_)
  have hE4 := hxwk1
  refine RG.vl rfl rfl rfl (Ev.assign rfl rfl) ?_
  refine RG.done ?_
  refine QW.then_ ?_
  refine CW.seq ?_
  refine CW.seq ?_
  refine CW.region ?_
  refine RG.vl rfl rfl rfl (Ev.move rfl rfl) ?_
  refine RG.toBytesM rfl rfl rfl rfl rfl Tryd.underlying9 Tryd.underlying39 Tryd.underlying5 (by simp only [maxLen]; omega) (fun gB cgB wk5 egB hxwk5 hbgB hc1gB hc2gB => ?_)
  have hsb6 := fun e => sep_new (g := gB) hown2 egB e
  have hle7 : w.heap.size ≤ gB := by have := hE4.size; omega
  have hle8 : wk1.heap.size ≤ gB := by have := (Ex.rfl_ wk1).size; omega
  replace hE4 := Ex.tr hE4 hxwk5
  have hE9 := hxwk5
  refine RG.vl rfl rfl rfl (Ev.lenL rfl rfl rfl Tryd.underlying39 ((Mkd.rdl hbgB rfl hc1gB hc2gB))) ?_
  refine RG.vl rfl rfl rfl (Ev.move rfl rfl) ?_
  refine RG.done ?_
  refine QW.then_ ?_
  refine CW.block ?_
  refine CW.loop2 [(0, _), (2, _), (3, _), (11, _), (12, _)] ⟨rfl, rfl, rfl, rfl, rfl, trivial⟩ (fun (i : Nat) (us : List Nat) => [(13, .int .i64 i)]) (fun i us w' => (VW t i us ∧ Own w' w.heap.size 3 1 encZ u us ∧ Mkd w' gB 5 t) ∧ Ex w w') (fun i us => t.length - i) (0) (List.replicate t.length 0) ⟨rfl, trivial⟩ ⟨⟨vw_start t, (Own.ext hown2 hE9), hbgB⟩, (Ex.tr hB0 hE4)⟩ ?_
  rintro i us wl10 ⟨⟨hus, hown, hgB⟩, hxwl10⟩
  refine CW.sub (S' := [(13, _), (0, _), (2, _), (3, _), (11, _), (12, _)]) ⟨rfl, rfl, rfl, rfl, rfl, rfl, trivial⟩ ?_
  have hi := hus.2.1
  refine CW.seq ?_
  refine CW.region ?_
  refine RG.vl rfl rfl rfl (Ev.lss rfl rfl rfl) ?_
  refine RG.done ?_
  refine QW.then_ ?_
  refine CW.seq ?_
  refine CW.condP rfl (fun hc11 => ?_) (fun hc11 => ?_)
  · refine CW.skip ?_
    refine QW.then_ ?_
    refine CW.seq ?_
    refine CW.block ?_
    refine CW.seq ?_
    obtain ⟨c, hc⟩ : ∃ c, t[i]? = some c := ⟨_, List.getElem?_eq_getElem (by omega)⟩
    have hc8 := c.toNat_lt
    have hcd := hok c (List.mem_of_getElem? hc)
    obtain ⟨y, hy⟩ : ∃ y, us[t.length - 1 - i]? = some y := ⟨_, List.getElem?_eq_getElem (by have := hus.1; omega)⟩
    refine CW.region ?_
    refine RG.vl rfl rfl rfl (Ev.move rfl rfl) ?_
    refine RG.idxL rfl rfl rfl rfl rfl rfl Tryd.underlying39 sz_5 (Mkd.rdl hgB rfl hc1gB hc2gB) (hc) (fun p12 hp12b hp12 => ?_)
    refine RG.vl rfl rfl rfl (Ev.ld0 rfl rfl Tryd.underlying5 rfl (hp12) (rfl)) ?_
    refine RG.vl rfl rfl rfl (Ev.assign rfl rfl) ?_
    refine RG.vl rfl rfl rfl (Ev.assign rfl rfl) ?_
    refine RG.done ?_
    refine QW.then_ ?_
    refine CW.seq ?_
    refine CW.region ?_
    refine RG.vl rfl rfl rfl (Ev.assign rfl rfl) ?_
    refine RG.done ?_
    refine QW.then_ ?_
    refine CW.seq ?_
    refine CW.seq ?_
    refine CW.region ?_
    refine RG.vl rfl rfl rfl (Ev.move rfl rfl) ?_
    refine RG.vl rfl rfl rfl (Ev.neI rfl rfl rfl) ?_
    refine RG.done ?_
    refine QW.then_ ?_
    refine CW.condP rfl (fun hc13 => ?_) (fun hc13 => ?_)
    · have hcd2 := dig_bounds (hcd.resolve_right (by omega))
      refine CW.region ?_
      refine RG.vl rfl rfl rfl (Ev.move rfl rfl) ?_
      refine RG.vl rfl rfl rfl (Ev.sub8 rfl rfl rfl (by omega)) ?_
      refine RG.vl rfl rfl rfl (Ev.to64 rfl rfl Tryd.underlying5 Tryd.underlying3 (by omega)) ?_
      refine RG.vl rfl rfl rfl (Ev.assign rfl rfl) ?_
      refine RG.done ?_
      refine QW.then_ ?_
      refine CW.region ?_
      refine RG.vl rfl rfl rfl (Ev.move rfl rfl) ?_
      refine RG.vl rfl rfl rfl (Ev.move rfl rfl) ?_
      refine RG.vl rfl rfl rfl (Ev.lenStr rfl rfl rfl Tryd.underlying9) ?_
      refine RG.vl rfl rfl rfl (Ev.subI rfl rfl rfl (by omega)) ?_
      refine RG.vl rfl rfl rfl (Ev.move rfl rfl) ?_
      refine RG.vl rfl rfl rfl ((Ev.subI rfl rfl rfl (by omega)).conv (congrArg (Value.int .i64) (show (⟨t.toArray⟩ : ByteArray).size - 1 - (i : Int) = ((t.length - 1 - i : Nat) : Int) by rw [sbytes]; omega))) ?_
      refine RG.vl rfl rfl rfl (Ev.move rfl rfl) ?_
      refine RG.idxO rfl rfl rfl rfl rfl rfl Tryd.underlying22 sz_3 encZ_len (hown) (hy) (fun g15 hg15 hBg15 hp14b hp14 => ?_)
      refine RG.stOw0 (g := g15) (valC c) rfl rfl rfl rfl rfl sz_3 rfl (fun _ => rfl) hown hg15 (hy) rfl (congrArg (fun n : Int => [Value.int .i64 n]) (show (c.toNat : Int) - 48 = ((valC c : Nat) : Int) by unfold valC; rw [if_neg (by omega)]; omega)) (fun ws16 hwws16 hown17 => ?_)
      replace hgB := Mkd.far hgB hwws16 (fun e => hsb6 (by rw [e]; exact hg15))
      replace hxwl10 := Wr.below hxwl10 hwws16 hBg15
      refine RG.done ?_
      refine QW.sub (S' := [(0, _), (2, _), (3, _), (11, _), (12, _), (13, _)]) ⟨rfl, rfl, rfl, rfl, rfl, rfl, trivial⟩ ?_
      refine QW.blockN ?_
      refine QW.then_ ?_
      refine CW.region ?_
      refine RG.vl rfl rfl rfl (Ev.addI rfl rfl rfl (by omega)) ?_
      refine RG.vl rfl rfl rfl (Ev.move rfl rfl) ?_
      refine RG.done ?_
      refine QW.round2 (i + 1) (us.set (t.length - 1 - i) (valC c)) ⟨rfl, trivial⟩ ⟨rfl, rfl, rfl, rfl, rfl, trivial⟩ ⟨⟨vw_more hus hc, hown17, hgB⟩, (Ex.tr hB0 hxwl10)⟩ (by omega)
    · refine CW.skip ?_
      refine QW.then_ ?_
      refine CW.region ?_
      refine RG.vl rfl rfl rfl (Ev.move rfl rfl) ?_
      refine RG.vl rfl rfl rfl (Ev.move rfl rfl) ?_
      refine RG.vl rfl rfl rfl (Ev.lenStr rfl rfl rfl Tryd.underlying9) ?_
      refine RG.vl rfl rfl rfl (Ev.subI rfl rfl rfl (by omega)) ?_
      refine RG.vl rfl rfl rfl (Ev.move rfl rfl) ?_
      refine RG.vl rfl rfl rfl ((Ev.subI rfl rfl rfl (by omega)).conv (congrArg (Value.int .i64) (show (⟨t.toArray⟩ : ByteArray).size - 1 - (i : Int) = ((t.length - 1 - i : Nat) : Int) by rw [sbytes]; omega))) ?_
      refine RG.vl rfl rfl rfl (Ev.move rfl rfl) ?_
      refine RG.idxO rfl rfl rfl rfl rfl rfl Tryd.underlying22 sz_3 encZ_len (hown) (hy) (fun g19 hg19 hBg19 hp18b hp18 => ?_)
      refine RG.stOw0 (g := g19) (valC c) rfl rfl rfl rfl rfl sz_3 rfl (fun _ => rfl) hown hg19 (hy) rfl (congrArg (fun n : Int => [Value.int .i64 n]) (show (10 : Int) = ((valC c : Nat) : Int) by unfold valC; rw [if_pos (by omega)]; omega)) (fun ws20 hwws20 hown21 => ?_)
      replace hgB := Mkd.far hgB hwws20 (fun e => hsb6 (by rw [e]; exact hg19))
      replace hxwl10 := Wr.below hxwl10 hwws20 hBg19
      refine RG.done ?_
      refine QW.sub (S' := [(0, _), (2, _), (3, _), (11, _), (12, _), (13, _)]) ⟨rfl, rfl, rfl, rfl, rfl, rfl, trivial⟩ ?_
      refine QW.blockN ?_
      refine QW.then_ ?_
      refine CW.region ?_
      refine RG.vl rfl rfl rfl (Ev.addI rfl rfl rfl (by omega)) ?_
      refine RG.vl rfl rfl rfl (Ev.move rfl rfl) ?_
      refine RG.done ?_
      refine QW.round2 (i + 1) (us.set (t.length - 1 - i) (valC c)) ⟨rfl, trivial⟩ ⟨rfl, rfl, rfl, rfl, rfl, trivial⟩ ⟨⟨vw_more hus hc, hown21, hgB⟩, (Ex.tr hB0 hxwl10)⟩ (by omega)
  · refine CW.exit ?_
    refine QW.thenExit ?_
    refine QW.thenExit ?_
    refine QW.blockHit ?_
    refine QW.then_ ?_
    refine CW.seq ?_
    refine CW.region ?_
    refine RG.vl rfl rfl rfl (Ev.move rfl rfl) ?_
    refine RG.vl rfl rfl rfl (Ev.assign rfl rfl) ?_
    refine RG.done ?_
    refine QW.then_ ?_
    refine CW.ret ?_
    refine QW.ret1 rfl rfl ?_
    have hB := (Ex.tr hB0 hxwl10)
    obtain rfl : i = t.length := by omega
    rw [vals_done hus] at hown
    exact ⟨hown, hB⟩

end Go.Proofs.YtnhkhpnkhkagaaaDoor
