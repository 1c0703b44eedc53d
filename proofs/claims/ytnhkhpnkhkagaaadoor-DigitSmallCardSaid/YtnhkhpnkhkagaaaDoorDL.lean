/- Walks (DL). Written by program. -/
import Derived.Test.YtnhkhpnkhkagaaaDoorT
import Derived.Test.YtnhkhpnkhkagaaaDoorDJ
import Derived.Test.YtnhkhpnkhkagaaaDoorDU
namespace Go.Proofs.YtnhkhpnkhkagaaaDoor
open Go.RowKit
set_option maxRecDepth 100000 in
set_option maxHeartbeats 1000000 in
theorem payload_ret (lv : Value) (l : List UInt8) (w : World) (hl : RdL w 1 encB lv l) :
    Ret Tryd.prog 19 [lv] w (fun v w' => v = .string ⟨(payL l).toArray⟩ ∧ Ex w w') := by
  obtain ⟨lA, lC, rfl⟩ := hl.shape
  have hB0 : Ex w w := Ex.rfl_ _
  refine Ret.of Tryd.func19 rfl Tryd.ntmps19 rfl ?_
  refine CW.seq ?_
  refine CW.region ?_
  refine RG.vl rfl rfl rfl (Ev.assign rfl rfl) ?_
  refine RG.done ?_
  refine QW.then_ ?_
  refine CW.seq ?_
  refine CW.region ?_
  refine RG.vl rfl rfl rfl (Ev.assign rfl rfl) ?_
  refine RG.done ?_
  refine QW.then_ ?_
  refine CW.seq ?_
  refine CW.seq ?_
  refine CW.region ?_
  refine RG.vl rfl rfl rfl (Ev.assign rfl rfl) ?_
  refine RG.done ?_
  refine QW.then_ ?_
  refine CW.block ?_
  refine CW.loop1 [(0, _), (2, _)] ⟨rfl, rfl, trivial⟩ (fun (i : Nat) => [(4, .int .i64 i), (3, .string ⟨((l.take i).map dgt).toArray⟩)]) (fun i w' => (i ≤ 30 ∧ i ≤ l.length) ∧ Ex w w') (fun i => 30 - i) (0) ⟨rfl, rfl, trivial⟩ ⟨⟨by omega, by omega⟩, hB0⟩ ?_
  rintro i wl1 ⟨⟨hi, hi2⟩, hxwl1⟩
  refine CW.sub (S' := [(4, _), (3, _), (0, _), (2, _)]) ⟨rfl, rfl, rfl, rfl, trivial⟩ ?_
  refine CW.seq ?_
  refine CW.seq ?_
  refine CW.region ?_
  refine RG.vl rfl rfl rfl (Ev.move rfl rfl) ?_
  refine RG.vl rfl rfl rfl (Ev.move rfl rfl) ?_
  refine RG.vl rfl rfl rfl (Ev.lenL rfl rfl rfl Tryd.underlying39 ((hl.ext hxwl1))) ?_
  refine RG.vl rfl rfl rfl (Ev.lss rfl rfl rfl) ?_
  refine RG.vl rfl rfl rfl (Ev.move rfl rfl) ?_
  refine RG.split (d := 9) rfl (fun hg2 => ?_) (fun hg2 => ?_)
  · refine RG.vl rfl rfl rfl (Ev.move rfl rfl) ?_
    refine RG.vl rfl rfl rfl (Ev.lss rfl rfl rfl) ?_
    refine RG.vl rfl rfl rfl (Ev.pickT rfl rfl rfl) ?_
    refine RG.done ?_
    refine QW.then_ ?_
    refine CW.condP rfl (fun hc3 => ?_) (fun hc3 => ?_)
    · refine CW.skip ?_
      refine QW.then_ ?_
      refine CW.seq ?_
      refine CW.block ?_
      obtain ⟨b, hb⟩ : ∃ b, l[i]? = some b := ⟨_, List.getElem?_eq_getElem (by omega)⟩
      have hb8 := b.toNat_lt
      refine CW.region ?_
      refine RG.vl rfl rfl rfl (Ev.move rfl rfl) ?_
      refine RG.vl rfl rfl rfl (Ev.move rfl rfl) ?_
      refine RG.vl rfl rfl rfl (Ev.move rfl rfl) ?_
      refine RG.idxL rfl rfl rfl rfl rfl rfl Tryd.underlying39 sz_5 ((hl.ext hxwl1)) (hb) (fun p4 hp4b hp4 => ?_)
      refine RG.vl rfl rfl rfl (Ev.ld0 rfl rfl Tryd.underlying5 rfl (hp4) (rfl)) ?_
      refine RG.vl rfl rfl rfl (Ev.rem8 rfl rfl rfl (by omega)) ?_
      refine RG.vl rfl rfl rfl ((Ev.add8 rfl rfl rfl (by omega)).conv (congrArg (Value.int .u8) (dgt_nat b))) ?_
      refine RG.litO (os := [.tmp 21]) (enc := encB) ([dgt b]) rfl rfl rfl rfl rfl rfl rfl Tryd.underlying39 inf_5 rfl rfl rfl rfl rfl encB_len rfl rfl (fun v5 wk6 hxwk6 hown7 hnew8 => ?_)
      replace hxwl1 := Ex.tr hxwl1 hxwk6
      have hE9 := hxwk6
      refine RG.vl rfl rfl rfl (Ev.toStr rfl rfl Tryd.underlying39 Tryd.underlying5 Tryd.underlying9 ((Own.rdl hown7 encB_len))) ?_
      refine RG.vl rfl rfl rfl ((Ev.cat rfl rfl rfl (by rw [sbytes, sbytes, List.length_map, List.length_take]; show _ + 1 ≤ _; omega)).conv (congrArg Value.string (show _ = (⟨((l.take (i + 1)).map dgt).toArray⟩ : ByteArray) by rw [bx_cat, take_more hb, List.map_append]; rfl))) ?_
      refine RG.vl rfl rfl rfl (Ev.assign rfl rfl) ?_
      refine RG.done ?_
      refine QW.sub (S' := [(0, _), (2, _), (3, _), (4, _)]) ⟨rfl, rfl, rfl, rfl, trivial⟩ ?_
      refine QW.blockN ?_
      refine QW.then_ ?_
      refine CW.region ?_
      refine RG.vl rfl rfl rfl (Ev.move rfl rfl) ?_
      refine RG.vl rfl rfl rfl (Ev.addI rfl rfl rfl (by omega)) ?_
      refine RG.vl rfl rfl rfl (Ev.assign rfl rfl) ?_
      refine RG.done ?_
      refine QW.round1 (i + 1) ⟨rfl, rfl, trivial⟩ ⟨rfl, rfl, trivial⟩ ⟨⟨by omega, by omega⟩, (Ex.tr hB0 hxwl1)⟩ (by omega)
    · refine CW.exit ?_
      refine QW.thenExit ?_
      refine QW.thenExit ?_
      refine QW.blockHit ?_
      refine QW.then_ ?_
      refine CW.seq ?_
      refine CW.seq ?_
      refine CW.region ?_
      refine RG.vl rfl rfl rfl (Ev.move rfl rfl) ?_
      refine RG.vl rfl rfl rfl (Ev.eqS rfl rfl rfl) ?_
      refine RG.done ?_
      refine QW.then_ ?_
      refine CW.condP rfl (fun hc10 => ?_) (fun hc10 => ?_)
      · refine CW.seq ?_
        refine CW.region ?_
        refine RG.vl rfl rfl rfl (Ev.assign rfl rfl) ?_
        refine RG.done ?_
        refine QW.then_ ?_
        refine CW.ret ?_
        refine QW.thenRet ?_
        refine QW.ret1 rfl rfl ?_
        have hB := (Ex.tr hB0 hxwl1)
        have e : l.take i = l.take 30 := pay_take (by omega) (by omega)
        have h0 : l.take i = [] := List.map_eq_nil_iff.1 ((binj (b := [])).1 (by assumption))
        exact ⟨by unfold payL; rw [if_pos (by rw [← e]; exact h0)], hB⟩
      · refine CW.skip ?_
        refine QW.then_ ?_
        refine CW.seq ?_
        refine CW.region ?_
        refine RG.vl rfl rfl rfl (Ev.move rfl rfl) ?_
        refine RG.vl rfl rfl rfl (Ev.assign rfl rfl) ?_
        refine RG.done ?_
        refine QW.then_ ?_
        refine CW.ret ?_
        refine QW.ret1 rfl rfl ?_
        have hB := (Ex.tr hB0 hxwl1)
        have e : l.take i = l.take 30 := pay_take (by omega) (by omega)
        have h0 : l.take i ≠ [] := fun h => absurd ((binj (b := [])).2 (show (l.take i).map dgt = [] by rw [h]; rfl)) (by assumption)
        exact ⟨by unfold payL; rw [← e, if_neg h0], hB⟩
  · refine RG.pass rfl rfl rfl ?_
    refine RG.pass rfl rfl rfl ?_
    refine RG.vl rfl rfl rfl (Ev.pickF rfl rfl rfl) ?_
    refine RG.done ?_
    refine QW.then_ ?_
    refine CW.condF rfl ?_
    refine CW.exit ?_
    refine QW.thenExit ?_
    refine QW.thenExit ?_
    refine QW.blockHit ?_
    refine QW.then_ ?_
    refine CW.seq ?_
    refine CW.seq ?_
    refine CW.region ?_
    refine RG.vl rfl rfl rfl (Ev.move rfl rfl) ?_
    refine RG.vl rfl rfl rfl (Ev.eqS rfl rfl rfl) ?_
    refine RG.done ?_
    refine QW.then_ ?_
    refine CW.condP rfl (fun hc11 => ?_) (fun hc11 => ?_)
    · refine CW.seq ?_
      refine CW.region ?_
      refine RG.vl rfl rfl rfl (Ev.assign rfl rfl) ?_
      refine RG.done ?_
      refine QW.then_ ?_
      refine CW.ret ?_
      refine QW.thenRet ?_
      refine QW.ret1 rfl rfl ?_
      have hB := (Ex.tr hB0 hxwl1)
      have e : l.take i = l.take 30 := pay_take (by omega) (by omega)
      have h0 : l.take i = [] := List.map_eq_nil_iff.1 ((binj (b := [])).1 (by assumption))
      exact ⟨by unfold payL; rw [if_pos (by rw [← e]; exact h0)], hB⟩
    · refine CW.skip ?_
      refine QW.then_ ?_
      refine CW.seq ?_
      refine CW.region ?_
      refine RG.vl rfl rfl rfl (Ev.move rfl rfl) ?_
      refine RG.vl rfl rfl rfl (Ev.assign rfl rfl) ?_
      refine RG.done ?_
      refine QW.then_ ?_
      refine CW.ret ?_
      refine QW.ret1 rfl rfl ?_
      have hB := (Ex.tr hB0 hxwl1)
      have e : l.take i = l.take 30 := pay_take (by omega) (by omega)
      have h0 : l.take i ≠ [] := fun h => absurd ((binj (b := [])).2 (show (l.take i).map dgt = [] by rw [h]; rfl)) (by assumption)
      exact ⟨by unfold payL; rw [← e, if_neg h0], hB⟩

set_option maxRecDepth 100000 in
set_option maxHeartbeats 1000000 in
theorem put_ret (t : List UInt8) (i : Nat) (c : UInt8) (w : World) (hi : i < t.length) (hlen : t.length ≤ 100000) :
    Ret Tryd.prog 27 [.string ⟨t.toArray⟩, .int .i64 (i : Int), .int .u8 c.toNat] w (fun v w' => v = .string ⟨(t.set i c).toArray⟩ ∧ Ex w w') := by
  have hsz := sbytes t
  have hB0 : Ex w w := Ex.rfl_ _
  refine Ret.of Tryd.func27 rfl Tryd.ntmps27 rfl ?_
  refine CW.seq ?_
  refine CW.region ?_
  refine RG.vl rfl rfl rfl (Ev.assign rfl rfl) ?_
  refine RG.done ?_
  refine QW.then_ ?_
  refine CW.seq ?_
  refine CW.region ?_
  refine RG.vl rfl rfl rfl (Ev.move rfl rfl) ?_
  refine RG.toBytesM rfl rfl rfl rfl rfl Tryd.underlying9 Tryd.underlying39 Tryd.underlying5 (by simp only [maxLen]; omega) (fun gB cgB wk1 egB hxwk1 hbgB hc1gB hc2gB => ?_)
  have hle2 : w.heap.size ≤ gB := by have := (Ex.rfl_ w).size; omega
  have hE3 := hxwk1
  refine RG.vl rfl rfl rfl (Ev.assign rfl rfl) ?_
  refine RG.done ?_
  refine QW.then_ ?_
  refine CW.seq ?_
  refine CW.region ?_
  refine RG.vl rfl rfl rfl (Ev.move rfl rfl) ?_
  refine RG.vl rfl rfl rfl (Ev.move rfl rfl) ?_
  refine RG.vl rfl rfl rfl (Ev.move rfl rfl) ?_
  refine RG.vl rfl rfl rfl (Ev.idxN rfl rfl rfl Tryd.underlying39 sz_5 (by omega)) ?_
  refine RG.stM (g := gB) (c) rfl rfl rfl rfl rfl sz_5 hbgB (by omega) (fun ws4 hwws4 hbws4 => ?_)
  replace hE3 := Wr.below hE3 hwws4 hle2
  refine RG.done ?_
  refine QW.then_ ?_
  refine CW.seq ?_
  refine CW.region ?_
  refine RG.vl rfl rfl rfl (Ev.move rfl rfl) ?_
  refine RG.vl rfl rfl rfl (Ev.toStr rfl rfl Tryd.underlying39 Tryd.underlying5 Tryd.underlying9 ((Mkd.rdl hbws4 List.length_set hc1gB hc2gB))) ?_
  refine RG.vl rfl rfl rfl (Ev.assign rfl rfl) ?_
  refine RG.done ?_
  refine QW.then_ ?_
  refine CW.ret ?_
  refine QW.ret1 rfl rfl ?_
  have hB := (Ex.tr hB0 hE3)
  exact ⟨rfl, hB⟩

set_option maxRecDepth 100000 in
set_option maxHeartbeats 1000000 in
theorem exch_ret (t : List UInt8) (i : Nat) (a b : UInt8) (w : World) (ha : t[i]? = some a) (hb : t[i + 1]? = some b) (hlen : t.length ≤ 100000) :
    Ret Tryd.prog 28 [.string ⟨t.toArray⟩, .int .i64 (i : Int)] w (fun v w' => v = .string ⟨((t.set i b).set (i + 1) a).toArray⟩ ∧ Ex w w') := by
  have hsz := sbytes t
  have hi1 := (List.getElem?_eq_some_iff.1 hb).1
  have hB0 : Ex w w := Ex.rfl_ _
  refine Ret.of Tryd.func28 rfl Tryd.ntmps28 rfl ?_
  refine CW.seq ?_
  refine CW.region ?_
  refine RG.vl rfl rfl rfl (Ev.assign rfl rfl) ?_
  refine RG.done ?_
  refine QW.then_ ?_
  refine CW.seq ?_
  refine CW.region ?_
  refine RG.vl rfl rfl rfl (Ev.move rfl rfl) ?_
  refine RG.toBytesM rfl rfl rfl rfl rfl Tryd.underlying9 Tryd.underlying39 Tryd.underlying5 (by simp only [maxLen]; omega) (fun gB cgB wk1 egB hxwk1 hbgB hc1gB hc2gB => ?_)
  have hle2 : w.heap.size ≤ gB := by have := (Ex.rfl_ w).size; omega
  have hE3 := hxwk1
  refine RG.vl rfl rfl rfl (Ev.assign rfl rfl) ?_
  refine RG.done ?_
  refine QW.then_ ?_
  refine CW.seq ?_
  refine CW.draw [15, 17] (.ex) 18 rfl mixed (fun wd4 hxwd4 => ?_)
  replace hE3 := Ex.tr hE3 hxwd4
  have hE5 := hxwd4
  refine AG.takeW 0 rfl (by kernel_rfl) (by kernel_rfl) rfl rfl rfl (fun _ => Ev.move rfl rfl) ?_
  refine AG.takeW 1 rfl (by kernel_rfl) (by kernel_rfl) rfl rfl rfl (fun _ => Ev.move rfl rfl) ?_
  refine AG.takeW 2 rfl (by kernel_rfl) (by kernel_rfl) rfl rfl rfl (fun _ => Ev.move rfl rfl) ?_
  refine AG.takeW 3 rfl (by kernel_rfl) (by kernel_rfl) rfl rfl rfl (fun _ => Ev.move rfl rfl) ?_
  refine AG.takeW 4 rfl (by kernel_rfl) (by kernel_rfl) rfl rfl rfl (fun _ => (Ev.addI rfl rfl rfl (by omega)).conv (congrArg (Value.int .i64) (show (i : Int) + 1 = ((i + 1 : Nat) : Int) by omega))) ?_
  refine AG.takeW 5 rfl (by kernel_rfl) (by kernel_rfl) rfl rfl rfl (fun _ => Ev.move rfl rfl) ?_
  refine AG.takeW 6 rfl (by kernel_rfl) (by kernel_rfl) rfl rfl rfl (fun _ => Ev.move rfl rfl) ?_
  refine AG.takeW 7 rfl (by kernel_rfl) (by kernel_rfl) rfl rfl rfl (fun _ => (Ev.addI rfl rfl rfl (by omega)).conv (congrArg (Value.int .i64) (show (i : Int) + 1 = ((i + 1 : Nat) : Int) by omega))) ?_
  refine AG.takeW 8 rfl (by kernel_rfl) (by kernel_rfl) rfl rfl rfl (fun _ => Ev.idxN rfl rfl rfl Tryd.underlying39 sz_5 (by omega)) ?_
  refine AG.take 9 rfl (by kernel_rfl) (by kernel_rfl) rfl rfl rfl (fun wq hq => Ev.ldAt rfl rfl Tryd.underlying5 rfl (Mkd.cells ((hbgB.ext hE5).ext hq)) (flat_b hb)) ?_
  refine AG.takeW 10 rfl (by kernel_rfl) (by kernel_rfl) rfl rfl rfl (fun _ => Ev.move rfl rfl) ?_
  refine AG.takeW 11 rfl (by kernel_rfl) (by kernel_rfl) rfl rfl rfl (fun _ => Ev.move rfl rfl) ?_
  refine AG.takeW 12 rfl (by kernel_rfl) (by kernel_rfl) rfl rfl rfl (fun _ => Ev.idxN rfl rfl rfl Tryd.underlying39 sz_5 (by omega)) ?_
  refine AG.take 13 rfl (by kernel_rfl) (by kernel_rfl) rfl rfl rfl (fun wq hq => Ev.ldAt rfl rfl Tryd.underlying5 rfl (Mkd.cells ((hbgB.ext hE5).ext hq)) (flat_b ha)) ?_
  refine AG.takeW 14 rfl (by kernel_rfl) (by kernel_rfl) rfl rfl rfl (fun _ => Ev.idxN rfl rfl rfl Tryd.underlying39 sz_5 (by omega)) ?_
  refine AG.only 15 rfl (by kernel_rfl) ?_
  refine RG.stM (g := gB) (b) rfl rfl rfl rfl rfl sz_5 (hbgB.ext hE5) (by omega) (fun ws7 hwws7 hbws7 => ?_)
  replace hE3 := Wr.below hE3 hwws7 hle2
  refine RG.done ?_
  refine QW.an (fun h => by simp at h) ?_
  refine AG.takeW 16 rfl (by kernel_rfl) (by kernel_rfl) rfl rfl rfl (fun _ => Ev.idxN rfl rfl rfl Tryd.underlying39 sz_5 (by omega)) ?_
  refine AG.only 17 rfl (by kernel_rfl) ?_
  refine RG.stM (g := gB) (a) rfl rfl rfl rfl rfl sz_5 hbws7 (by rw [List.length_set]; omega) (fun ws9 hwws9 hbws9 => ?_)
  replace hE3 := Wr.below hE3 hwws9 hle2
  refine RG.done ?_
  refine QW.an (fun h => by simp at h) ?_
  refine AG.done (by kernel_rfl) ?_
  refine QW.sub (S' := [(4, _), (5, _)]) ⟨rfl, rfl, trivial⟩ ?_
  refine QW.then_ ?_
  refine CW.seq ?_
  refine CW.region ?_
  refine RG.vl rfl rfl rfl (Ev.move rfl rfl) ?_
  refine RG.vl rfl rfl rfl (Ev.toStr rfl rfl Tryd.underlying39 Tryd.underlying5 Tryd.underlying9 ((Mkd.rdl hbws9 (by rw [List.length_set, List.length_set]) hc1gB hc2gB))) ?_
  refine RG.vl rfl rfl rfl (Ev.assign rfl rfl) ?_
  refine RG.done ?_
  refine QW.then_ ?_
  refine CW.ret ?_
  refine QW.ret1 rfl rfl ?_
  have hB := (Ex.tr hB0 hE3)
  exact ⟨rfl, hB⟩

set_option maxRecDepth 100000 in
set_option maxHeartbeats 1000000 in
theorem pss_ret (k : Nat) (wv : Value) (ws : List Int) (t : List UInt8) (w : World) (hws : RdL w 1 encI wv ws) (hwl : ws.length ≤ 100000) (hlen : t.length ≤ 100000) :
    Ret Tryd.prog 26 [.agg #[.int .u8 (k : Int), wv], .string ⟨t.toArray⟩] w (fun v w' => v = .bool (decide (testR k ws t = (true, 0))) ∧ Ex w w') := by
  obtain ⟨wA, wC, rfl⟩ := hws.shape
  have hB0 : Ex w w := Ex.rfl_ _
  refine Ret.of Tryd.func26 rfl Tryd.ntmps26 rfl ?_
  refine CW.seq ?_
  refine CW.region ?_
  refine RG.box rfl rfl rfl rfl rfl (fun g1 w1 eg1 hx1 hb1 => ?_)
  have hle2 : w.heap.size ≤ g1 := by have := (Ex.rfl_ w).size; omega
  have hE3 := hx1
  refine RG.vl rfl rfl rfl (Ev.assign rfl rfl) ?_
  refine RG.done ?_
  refine QW.then_ ?_
  refine CW.seq ?_
  refine CW.region ?_
  refine RG.vl rfl rfl rfl (Ev.ldAgg rfl rfl Tryd.underlying24 rfl sz_24 rfl (hb1.cells)) ?_
  refine RG.vl rfl rfl rfl (Ev.move rfl rfl) ?_
  refine RG.call rfl rfl rfl rfl rfl rfl rfl en_21 (Test_ret k _ ws _ _ (hws.ext hE3) (by omega) (by omega)) ?_
  rintro _ w4 ⟨rfl, hx4⟩
  replace hE3 := Ex.tr hE3 hx4
  have hE5 := hx4
  refine RG.vl rfl rfl rfl (Ev.move rfl rfl) ?_
  refine RG.vl rfl rfl rfl (Ev.extract rfl rfl rfl) ?_
  refine RG.vl rfl rfl rfl (Ev.extract rfl rfl rfl) ?_
  refine RG.vl rfl rfl rfl (Ev.assign rfl rfl) ?_
  refine RG.vl rfl rfl rfl (Ev.assign rfl rfl) ?_
  refine RG.done ?_
  refine QW.then_ ?_
  refine CW.seq ?_
  refine CW.region ?_
  refine RG.vl rfl rfl rfl (Ev.move rfl rfl) ?_
  refine RG.vl rfl rfl rfl (Ev.move rfl rfl) ?_
  refine RG.splitB (d := 14) rfl (fun hg6 => ?_) (fun hg6 => ?_)
  · refine RG.vl rfl rfl rfl (Ev.move rfl rfl) ?_
    refine RG.vl rfl rfl rfl (Ev.eqI rfl rfl rfl) ?_
    refine RG.vl rfl rfl rfl (Ev.pickT rfl rfl rfl) ?_
    refine RG.vl rfl rfl rfl (Ev.assign rfl rfl) ?_
    refine RG.done ?_
    refine QW.sub (S' := [(4, _)]) ⟨rfl, trivial⟩ ?_
    refine QW.then_ ?_
    refine CW.ret ?_
    refine QW.ret1 rfl rfl ?_
    have hB := (Ex.tr hB0 hE3)
    exact ⟨congrArg Value.bool (by first | exact pair_iff (by assumption) | exact pair_no (by assumption)), hB⟩
  · refine RG.pass rfl rfl rfl ?_
    refine RG.pass rfl rfl rfl ?_
    refine RG.vl rfl rfl rfl (Ev.pickF rfl rfl rfl) ?_
    refine RG.vl rfl rfl rfl (Ev.assign rfl rfl) ?_
    refine RG.done ?_
    refine QW.sub (S' := [(4, _)]) ⟨rfl, trivial⟩ ?_
    refine QW.then_ ?_
    refine CW.ret ?_
    refine QW.ret1 rfl rfl ?_
    have hB := (Ex.tr hB0 hE3)
    exact ⟨congrArg Value.bool (by first | exact pair_iff (by assumption) | exact pair_no (by assumption)), hB⟩

end Go.Proofs.YtnhkhpnkhkagaaaDoor
