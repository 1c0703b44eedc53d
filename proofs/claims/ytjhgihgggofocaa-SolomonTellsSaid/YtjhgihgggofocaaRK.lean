/- Walks (RK). Written by program. -/
import Derived.Test.YtjhgihgggofocaaT
import Derived.Test.YtjhgihgggofocaaLQ
import Derived.Test.YtjhgihgggofocaaSD
namespace Go.Proofs.Ytjhgihgggofocaa
open Go.RowKit
set_option maxRecDepth 100000 in
set_option maxHeartbeats 1000000 in
theorem mark_ret (k i : Nat) (w : World) (hk : k ≤ 1000) (hi : i ≤ 1000000) :
    Ret Try.prog 33 [.int .i64 (k : Int), .int .i64 (i : Int)] w (fun v w' => v = .int .i64 (1000003 * ((k : Int) + 7) + (i : Int)) ∧ Ex w w') := by
  have hB0 : Ex w w := Ex.rfl_ _
  refine Ret.of Try.func33 rfl Try.ntmps33 rfl ?_
  refine CW.seq ?_
  refine CW.region ?_
  refine RG.vl rfl rfl rfl (Ev.assign rfl rfl) ?_
  refine RG.done ?_
  refine QW.then_ ?_
  refine CW.seq ?_
  refine CW.region ?_
  refine RG.vl rfl rfl rfl (Ev.move rfl rfl) ?_
  refine RG.vl rfl rfl rfl (Ev.addI rfl rfl rfl (by omega)) ?_
  refine RG.vl rfl rfl rfl (Ev.mulI rfl rfl rfl (by omega)) ?_
  refine RG.vl rfl rfl rfl (Ev.move rfl rfl) ?_
  refine RG.vl rfl rfl rfl (Ev.addI rfl rfl rfl (by omega)) ?_
  refine RG.vl rfl rfl rfl (Ev.assign rfl rfl) ?_
  refine RG.done ?_
  refine QW.then_ ?_
  refine CW.ret ?_
  refine QW.ret1 rfl rfl ?_
  have hB := hB0
  exact ⟨rfl, hB⟩

set_option maxRecDepth 100000 in
set_option maxHeartbeats 1000000 in
theorem markB_ret (k i : Nat) (w : World) (hk : k ≤ 1000) (hi : i ≤ 1000000) :
    Ret Try.prog 32 [.int .i64 (k : Int), .int .i64 (i : Int)] w (fun v w' => v = .int .u8 (mkB k i : Int) ∧ Ex w w') := by
  have hB0 : Ex w w := Ex.rfl_ _
  refine Ret.of Try.func32 rfl Try.ntmps32 rfl ?_
  refine CW.seq ?_
  refine CW.region ?_
  refine RG.vl rfl rfl rfl (Ev.assign rfl rfl) ?_
  refine RG.done ?_
  refine QW.then_ ?_
  refine CW.seq ?_
  refine CW.region ?_
  refine RG.vl rfl rfl rfl (Ev.move rfl rfl) ?_
  refine RG.vl rfl rfl rfl (Ev.move rfl rfl) ?_
  refine RG.call rfl rfl rfl rfl rfl rfl rfl en_33 (mark_ret _ _ _ hk hi) ?_
  rintro _ w1 ⟨rfl, hx1⟩
  have hE2 := hx1
  refine RG.vl rfl rfl rfl (Ev.toInt rfl rfl Try.underlying3 Try.underlying81) ?_
  refine RG.vl rfl rfl rfl (Ev.arith rfl rfl rfl (.inr (.inr ⟨rfl, rfl⟩))) ?_
  refine RG.vl rfl rfl rfl (Ev.shrI rfl rfl rfl (by omega)) ?_
  refine RG.vl rfl rfl rfl (Ev.toInt rfl rfl Try.underlying81 Try.underlying5) ?_
  refine RG.vl rfl rfl rfl (Ev.assign rfl rfl) ?_
  refine RG.done ?_
  refine QW.then_ ?_
  refine CW.ret ?_
  refine QW.ret1 rfl rfl ?_
  have hB := (Ex.tr hB0 hE2)
  exact ⟨by rw [mkB_cast]; rfl, hB⟩

set_option maxRecDepth 100000 in
set_option maxHeartbeats 1000000 in
theorem lent_ret (u0 : Value) (l : List Nat) (w : World) (hl : RdL w 1 encN u0 l) (hlen : l.length ≤ 100000) :
    Ret Try.prog 11 [u0] w (fun v w' => ∃ g cap, v = .slice (some ⟨g, 0, none⟩) l.length cap ∧ Own w' w.heap.size 5 1 encN (.slice (some ⟨g, 0, none⟩) (l.length + 12) cap) (l ++ mks 1 12) ∧ Ex w w') := by
  have hB0 : Ex w w := Ex.rfl_ _
  refine Ret.of Try.func11 rfl Try.ntmps11 rfl ?_
  refine CW.seq ?_
  refine CW.region ?_
  refine RG.vl rfl rfl rfl (Ev.assign rfl rfl) ?_
  refine RG.done ?_
  refine QW.then_ ?_
  refine CW.seq ?_
  refine CW.region ?_
  refine RG.vl rfl rfl rfl (Ev.move rfl rfl) ?_
  refine RG.vl rfl rfl rfl (Ev.lenL rfl rfl rfl Try.underlying22 (hl)) ?_
  refine RG.vl rfl rfl rfl (Ev.addI rfl rfl rfl (by omega)) ?_
  refine RG.make0O (m := l.length + 12) (enc := encN) rfl rfl rfl rfl rfl rfl (by omega) Try.underlying22 inf_5 (by omega) (by simp only [maxLen]; omega) (fun vz wk1 hxwk1 hown2 hnew3 => ?_)
  have hE4 := hxwk1
  refine RG.vl rfl rfl rfl (Ev.assign rfl rfl) ?_
  refine RG.done ?_
  refine QW.then_ ?_
  refine CW.seq ?_
  have hn0 : ([] : List Nat).length = 0 := rfl
  refine CW.region ?_
  refine RG.vl rfl rfl rfl (Ev.move rfl rfl) ?_
  refine RG.vl rfl rfl rfl (Ev.move rfl rfl) ?_
  refine RG.appO rfl rfl rfl rfl rfl rfl rfl Try.underlying22 inf_5 rfl rfl encN_len (fun _ => rfl) hown2 ((hl.ext hE4)) (by simp only [maxLen]; omega) (by omega) (hE4.size) (fun v5 wa6 hown7 hgr8 hat9 => ?_)
  replace hE4 := own_block hown2 hE4 hgr8 (Nat.le_refl _) hE4.size
  refine RG.vl rfl rfl rfl (Ev.assign rfl rfl) ?_
  refine RG.done ?_
  refine QW.then_ ?_
  refine CW.seq ?_
  refine CW.seq ?_
  refine CW.region ?_
  refine RG.vl rfl rfl rfl (Ev.assign rfl rfl) ?_
  refine RG.done ?_
  refine QW.then_ ?_
  refine CW.block ?_
  refine CW.loop2 [(0, _), (2, _)] ⟨rfl, rfl, trivial⟩ (fun (i : Nat) (u : Value) => [(4, .int .i64 i), (3, u)]) (fun i u w' => (i ≤ 12 ∧ Own w' w.heap.size 5 1 encN u (l ++ mks 1 i)) ∧ Ex w w') (fun i u => 12 - i) (0) (_) ⟨rfl, rfl, trivial⟩ ⟨⟨by omega, by rw [show mks 1 0 = [] from rfl, List.append_nil]; exact hown7⟩, (Ex.tr hB0 hE4)⟩ ?_
  rintro i u wl10 ⟨⟨hi, hown⟩, hxwl10⟩
  refine CW.sub (S' := [(4, _), (3, _), (0, _), (2, _)]) ⟨rfl, rfl, rfl, rfl, trivial⟩ ?_
  refine CW.seq ?_
  refine CW.seq ?_
  refine CW.region ?_
  refine RG.vl rfl rfl rfl (Ev.move rfl rfl) ?_
  refine RG.vl rfl rfl rfl (Ev.lss rfl rfl rfl) ?_
  refine RG.done ?_
  refine QW.then_ ?_
  refine CW.condP rfl (fun hc11 => ?_) (fun hc11 => ?_)
  · refine CW.skip ?_
    refine QW.then_ ?_
    refine CW.seq ?_
    refine CW.block ?_
    have hml := mks_len 1 i
    have hlm : (l ++ mks 1 i).length = l.length + i := by rw [List.length_append, hml]
    refine CW.region ?_
    refine RG.vl rfl rfl rfl (Ev.move rfl rfl) ?_
    refine RG.vl rfl rfl rfl (Ev.move rfl rfl) ?_
    refine RG.call rfl rfl rfl rfl rfl rfl rfl en_32 (markB_ret 1 _ _ (by omega) (by omega)) ?_
    rintro _ w12 ⟨rfl, hx12⟩
    replace hxwl10 := Ex.tr hxwl10 hx12
    have hE13 := hx12
    refine RG.litO (os := [.tmp 18]) (enc := encN) ([mkB 1 i]) rfl rfl rfl rfl rfl rfl rfl Try.underlying22 inf_5 rfl rfl rfl rfl rfl encN_len rfl rfl (fun v14 wk15 hxwk15 hown16 hnew17 => ?_)
    have hsep18 : Sep v14 _ := Sep.of_new (Own.ext hown hE13) hnew17
    replace hxwl10 := Ex.tr hxwl10 hxwk15
    replace hE13 := Ex.tr hE13 hxwk15
    have hE19 := hxwk15
    refine RG.appO rfl rfl rfl rfl rfl rfl rfl Try.underlying22 inf_5 rfl rfl encN_len (fun _ => rfl) (Own.ext hown hE13) ((hown16.rdl encN_len)) (by show _ + 1 ≤ maxLen; simp only [maxLen]; omega) (by show (_ + 1) * _ ≤ _; omega) (hxwl10.size) (fun v20 wa21 hown22 hgr23 hat24 => ?_)
    have hsep26 := Sep.app (Sep.symm hsep18) hown16 hat24
    have hown25 := Own.grown hown16 hgr23 (fun k a b => (Sep.symm hsep18) k b a)
    replace hxwl10 := own_block (Own.ext hown hE13) hxwl10 hgr23 (Nat.le_refl _) hxwl10.size
    refine RG.vl rfl rfl rfl (Ev.assign rfl rfl) ?_
    refine RG.done ?_
    refine QW.blockN ?_
    refine QW.then_ ?_
    refine CW.region ?_
    refine RG.vl rfl rfl rfl (Ev.move rfl rfl) ?_
    refine RG.vl rfl rfl rfl (Ev.addI rfl rfl rfl (by omega)) ?_
    refine RG.vl rfl rfl rfl (Ev.assign rfl rfl) ?_
    refine RG.done ?_
    refine QW.round2 (i + 1) (v20) ⟨rfl, rfl, trivial⟩ ⟨rfl, rfl, trivial⟩ ⟨⟨by omega, by rw [mks_more, ← List.append_assoc]; exact hown22⟩, (Ex.tr hB0 hxwl10)⟩ (by omega)
  · refine CW.exit ?_
    refine QW.thenExit ?_
    refine QW.thenExit ?_
    refine QW.blockHit ?_
    refine QW.then_ ?_
    refine CW.seq ?_
    obtain rfl : i = 12 := by omega
    refine CW.region ?_
    refine RG.vl rfl rfl rfl (Ev.move rfl rfl) ?_
    refine RG.vl rfl rfl rfl (Ev.move rfl rfl) ?_
    refine RG.vl rfl rfl rfl (Ev.lenL rfl rfl rfl Try.underlying22 ((hl.ext hxwl10))) ?_
    obtain ⟨g, cap, rfl, hgB, hgl⟩ := own_at hown (by rw [List.length_append, mks_len]; omega)
    have hcap := Own.cap hown
    refine RG.vl rfl rfl rfl (Ev.upTo rfl rfl rfl Try.underlying22 sz_5 (by rw [List.length_append] at hcap; omega)) ?_
    refine RG.vl rfl rfl rfl (Ev.assign rfl rfl) ?_
    refine RG.done ?_
    refine QW.then_ ?_
    refine CW.ret ?_
    refine QW.ret1 rfl rfl ?_
    have hB := (Ex.tr hB0 hxwl10)
    rw [show (l ++ mks 1 12).length = l.length + 12 from by rw [List.length_append, mks_len]] at hown
    exact ⟨g, cap, rfl, hown.low (by have := hB0.size; omega), hB⟩

set_option maxRecDepth 100000 in
set_option maxHeartbeats 4000000 in
theorem kept_ret (g cap : Nat) (u0 : Value) (l : List Nat) (w : World) (hbig : RdL w 1 encN (.slice (some ⟨g, 0, none⟩) (l.length + 12) cap) (l ++ mks 1 12)) (hl : RdL w 1 encN u0 l) (hcap : l.length + 12 ≤ cap) (hlen : l.length ≤ 100000) :
    Ret Try.prog 14 [.slice (some ⟨g, 0, none⟩) l.length cap, u0] w (fun v w' => v = .bool true ∧ Ex w w') := by
  have hB0 : Ex w w := Ex.rfl_ _
  refine Ret.of Try.func14 rfl Try.ntmps14 rfl ?_
  refine CW.seq ?_
  refine CW.region ?_
  refine RG.vl rfl rfl rfl (Ev.assign rfl rfl) ?_
  refine RG.done ?_
  refine QW.then_ ?_
  refine CW.seq ?_
  refine CW.seq ?_
  refine CW.region ?_
  refine RG.vl rfl rfl rfl (Ev.move rfl rfl) ?_
  refine RG.vl rfl rfl rfl (Ev.lenSlice rfl rfl rfl Try.underlying22) ?_
  refine RG.vl rfl rfl rfl (Ev.move rfl rfl) ?_
  refine RG.vl rfl rfl rfl (Ev.lenL rfl rfl rfl Try.underlying22 (hl)) ?_
  refine RG.vl rfl rfl rfl (Ev.isF (Ev.neI rfl rfl rfl) (fun h => h rfl)) ?_
  refine RG.done ?_
  refine QW.then_ ?_
  refine CW.condF rfl ?_
  refine CW.skip ?_
  refine QW.then_ ?_
  refine CW.seq ?_
  refine CW.region ?_
  refine RG.vl rfl rfl rfl (Ev.move rfl rfl) ?_
  refine RG.vl rfl rfl rfl (Ev.move rfl rfl) ?_
  refine RG.vl rfl rfl rfl (Ev.lenL rfl rfl rfl Try.underlying22 (hl)) ?_
  refine RG.vl rfl rfl rfl ((Ev.addI rfl rfl rfl (by omega)).conv (congrArg (Value.int .i64) (show (l.length : Int) + 12 = ((l.length + 12 : Nat) : Int) by omega))) ?_
  refine RG.vl rfl rfl rfl (Ev.upTo (H := l.length + 12) rfl rfl rfl Try.underlying22 sz_5 hcap) ?_
  refine RG.vl rfl rfl rfl (Ev.assign rfl rfl) ?_
  refine RG.done ?_
  refine QW.then_ ?_
  refine CW.seq ?_
  refine CW.seq ?_
  have hbl : (l ++ mks 1 12).length = l.length + 12 := by rw [List.length_append, mks_len]
  refine CW.region ?_
  refine RG.vl rfl rfl rfl (Ev.assign rfl rfl) ?_
  refine RG.done ?_
  refine QW.then_ ?_
  refine CW.block ?_
  refine CW.loop1 [(1, _), (5, _)] ⟨rfl, rfl, trivial⟩ (fun (i : Nat) => [(6, .int .i64 i)]) (fun i w' => (i ≤ l.length + 12) ∧ Ex w w') (fun i => l.length + 12 - i) (0) ⟨rfl, trivial⟩ ⟨Nat.zero_le _, hB0⟩ ?_
  rintro i wl1 ⟨hi, hxwl1⟩
  refine CW.sub (S' := [(6, _), (1, _), (5, _)]) ⟨rfl, rfl, rfl, trivial⟩ ?_
  refine CW.seq ?_
  refine CW.seq ?_
  refine CW.region ?_
  refine RG.vl rfl rfl rfl (Ev.move rfl rfl) ?_
  refine RG.vl rfl rfl rfl (Ev.move rfl rfl) ?_
  refine RG.vl rfl rfl rfl (Ev.lenL rfl rfl rfl Try.underlying22 ((hbig.ext hxwl1))) ?_
  refine RG.vl rfl rfl rfl (Ev.lss rfl rfl rfl) ?_
  refine RG.done ?_
  refine QW.then_ ?_
  refine CW.condP rfl (fun hc2 => ?_) (fun hc2 => ?_)
  · refine CW.skip ?_
    refine QW.then_ ?_
    refine CW.seq ?_
    refine CW.block ?_
    refine CW.seq ?_
    refine CW.draw [] (.ex) 35 rfl mixed (fun wd3 hxwd3 => ?_)
    replace hxwl1 := Ex.tr hxwl1 hxwd3
    have hE4 := hxwd3
    refine AG.takeW 0 rfl (by kernel_rfl) (by kernel_rfl) rfl rfl rfl (fun _ => Ev.move rfl rfl) ?_
    refine AG.takeW 1 rfl (by kernel_rfl) (by kernel_rfl) rfl rfl rfl (fun _ => Ev.move rfl rfl) ?_
    refine AG.takeW 2 rfl (by kernel_rfl) (by kernel_rfl) rfl rfl rfl (fun _ => Ev.lenL rfl rfl rfl Try.underlying22 ((hl.ext hxwl1))) ?_
    refine AG.takeW 3 rfl (by kernel_rfl) (by kernel_rfl) rfl rfl rfl (fun _ => Ev.lss rfl rfl rfl) ?_
    refine AG.takeW 4 rfl (by kernel_rfl) (by kernel_rfl) rfl rfl rfl (fun _ => Ev.move rfl rfl) ?_
    refine AG.split (d := 27) rfl (fun hg5 => ?_) (fun hg5 => ?_)
    · refine AG.takeW 5 rfl (by kernel_rfl) (by kernel_rfl) rfl rfl rfl (fun _ => Ev.move rfl rfl) ?_
      refine AG.takeW 6 rfl (by kernel_rfl) (by kernel_rfl) rfl rfl rfl (fun _ => Ev.move rfl rfl) ?_
      refine AG.idxL _ 7 rfl (by kernel_rfl) (by kernel_rfl) rfl rfl rfl rfl rfl rfl Try.underlying22 sz_5 ((hbig.ext hxwl1)) (kept_l (by omega)) (fun p6 hp6b hp6 => ?_)
      refine AG.take 8 rfl (by kernel_rfl) (by kernel_rfl) rfl rfl rfl (fun wq hq => Ev.ld0 rfl rfl Try.underlying5 rfl (hp6.ext hq hp6b) (rfl)) ?_
      refine AG.takeW 9 rfl (by kernel_rfl) (by kernel_rfl) rfl rfl rfl (fun _ => Ev.move rfl rfl) ?_
      refine AG.takeW 10 rfl (by kernel_rfl) (by kernel_rfl) rfl rfl rfl (fun _ => Ev.move rfl rfl) ?_
      refine AG.idxL _ 11 rfl (by kernel_rfl) (by kernel_rfl) rfl rfl rfl rfl rfl rfl Try.underlying22 sz_5 ((hl.ext hxwl1)) (List.getElem?_eq_getElem (by omega)) (fun p7 hp7b hp7 => ?_)
      refine AG.take 12 rfl (by kernel_rfl) (by kernel_rfl) rfl rfl rfl (fun wq hq => Ev.ld0 rfl rfl Try.underlying5 rfl (hp7.ext hq hp7b) (rfl)) ?_
      refine AG.takeW 13 rfl (by kernel_rfl) (by kernel_rfl) rfl rfl rfl (fun _ => Ev.isT (Ev.eqI rfl rfl rfl) (rfl)) ?_
      refine AG.takeW 14 rfl (by kernel_rfl) (by kernel_rfl) rfl rfl rfl (fun _ => Ev.notF rfl rfl) ?_
      refine AG.takeW 15 rfl (by kernel_rfl) (by kernel_rfl) rfl rfl rfl (fun _ => Ev.pickT rfl rfl rfl) ?_
      refine AG.takeW 16 rfl (by kernel_rfl) (by kernel_rfl) rfl rfl rfl (fun _ => Ev.move rfl rfl) ?_
      refine AG.takeW 17 rfl (by kernel_rfl) (by kernel_rfl) rfl rfl rfl (fun _ => Ev.move rfl rfl) ?_
      refine AG.takeW 18 rfl (by kernel_rfl) (by kernel_rfl) rfl rfl rfl (fun _ => Ev.move rfl rfl) ?_
      refine AG.takeW 19 rfl (by kernel_rfl) (by kernel_rfl) rfl rfl rfl (fun _ => Ev.lenL rfl rfl rfl Try.underlying22 ((hl.ext hxwl1))) ?_
      refine AG.takeW 20 rfl (by kernel_rfl) (by kernel_rfl) rfl rfl rfl (fun _ => Ev.isF (Ev.geq rfl rfl rfl) (by omega)) ?_
      refine AG.takeW 21 rfl (by kernel_rfl) (by kernel_rfl) rfl rfl rfl (fun _ => Ev.move rfl rfl) ?_
      refine AG.pass 22 rfl (by kernel_rfl) (by kernel_rfl) rfl rfl rfl ?_
      refine AG.pass 23 rfl (by kernel_rfl) (by kernel_rfl) rfl rfl rfl ?_
      refine AG.pass 24 rfl (by kernel_rfl) (by kernel_rfl) rfl rfl rfl ?_
      refine AG.pass 25 rfl (by kernel_rfl) (by kernel_rfl) rfl rfl rfl ?_
      refine AG.pass 26 rfl (by kernel_rfl) (by kernel_rfl) rfl rfl rfl ?_
      refine AG.pass 27 rfl (by kernel_rfl) (by kernel_rfl) rfl rfl rfl ?_
      refine AG.pass 28 rfl (by kernel_rfl) (by kernel_rfl) rfl rfl rfl ?_
      refine AG.pass 29 rfl (by kernel_rfl) (by kernel_rfl) rfl rfl rfl ?_
      refine AG.pass 30 rfl (by kernel_rfl) (by kernel_rfl) rfl rfl rfl ?_
      refine AG.pass 31 rfl (by kernel_rfl) (by kernel_rfl) rfl rfl rfl ?_
      refine AG.pass 32 rfl (by kernel_rfl) (by kernel_rfl) rfl rfl rfl ?_
      refine AG.takeW 33 rfl (by kernel_rfl) (by kernel_rfl) rfl rfl rfl (fun _ => Ev.pickF rfl rfl rfl) ?_
      refine AG.takeW 34 rfl (by kernel_rfl) (by kernel_rfl) rfl rfl rfl (fun _ => Ev.pickF rfl rfl rfl) ?_
      refine AG.done (by kernel_rfl) ?_
      refine QW.sub (S' := [(1, _), (5, _), (6, _), (57, _)]) ⟨rfl, rfl, rfl, rfl, trivial⟩ ?_
      refine QW.then_ ?_
      refine CW.condF rfl ?_
      refine CW.skip ?_
      refine QW.blockN ?_
      refine QW.then_ ?_
      refine CW.region ?_
      refine RG.vl rfl rfl rfl (Ev.move rfl rfl) ?_
      refine RG.vl rfl rfl rfl (Ev.addI rfl rfl rfl (by omega)) ?_
      refine RG.vl rfl rfl rfl (Ev.assign rfl rfl) ?_
      refine RG.done ?_
      refine QW.round1 (i + 1) ⟨rfl, trivial⟩ ⟨rfl, rfl, trivial⟩ ⟨by omega, (Ex.tr hB0 hxwl1)⟩ (by omega)
    · refine AG.pass 5 rfl (by kernel_rfl) (by kernel_rfl) rfl rfl rfl ?_
      refine AG.pass 6 rfl (by kernel_rfl) (by kernel_rfl) rfl rfl rfl ?_
      refine AG.pass 7 rfl (by kernel_rfl) (by kernel_rfl) rfl rfl rfl ?_
      refine AG.pass 8 rfl (by kernel_rfl) (by kernel_rfl) rfl rfl rfl ?_
      refine AG.pass 9 rfl (by kernel_rfl) (by kernel_rfl) rfl rfl rfl ?_
      refine AG.pass 10 rfl (by kernel_rfl) (by kernel_rfl) rfl rfl rfl ?_
      refine AG.pass 11 rfl (by kernel_rfl) (by kernel_rfl) rfl rfl rfl ?_
      refine AG.pass 12 rfl (by kernel_rfl) (by kernel_rfl) rfl rfl rfl ?_
      refine AG.pass 13 rfl (by kernel_rfl) (by kernel_rfl) rfl rfl rfl ?_
      refine AG.pass 14 rfl (by kernel_rfl) (by kernel_rfl) rfl rfl rfl ?_
      refine AG.takeW 15 rfl (by kernel_rfl) (by kernel_rfl) rfl rfl rfl (fun _ => Ev.pickF rfl rfl rfl) ?_
      refine AG.takeW 16 rfl (by kernel_rfl) (by kernel_rfl) rfl rfl rfl (fun _ => Ev.move rfl rfl) ?_
      refine AG.takeW 17 rfl (by kernel_rfl) (by kernel_rfl) rfl rfl rfl (fun _ => Ev.move rfl rfl) ?_
      refine AG.takeW 18 rfl (by kernel_rfl) (by kernel_rfl) rfl rfl rfl (fun _ => Ev.move rfl rfl) ?_
      refine AG.takeW 19 rfl (by kernel_rfl) (by kernel_rfl) rfl rfl rfl (fun _ => Ev.lenL rfl rfl rfl Try.underlying22 ((hl.ext hxwl1))) ?_
      refine AG.takeW 20 rfl (by kernel_rfl) (by kernel_rfl) rfl rfl rfl (fun _ => Ev.isT (Ev.geq rfl rfl rfl) (by omega)) ?_
      refine AG.takeW 21 rfl (by kernel_rfl) (by kernel_rfl) rfl rfl rfl (fun _ => Ev.move rfl rfl) ?_
      refine AG.takeW 22 rfl (by kernel_rfl) (by kernel_rfl) rfl rfl rfl (fun _ => Ev.move rfl rfl) ?_
      refine AG.takeW 23 rfl (by kernel_rfl) (by kernel_rfl) rfl rfl rfl (fun _ => Ev.move rfl rfl) ?_
      refine AG.idxL _ 24 rfl (by kernel_rfl) (by kernel_rfl) rfl rfl rfl rfl rfl rfl Try.underlying22 sz_5 ((hbig.ext hxwl1)) (kept_m (by omega) (by omega)) (fun p8 hp8b hp8 => ?_)
      refine AG.take 25 rfl (by kernel_rfl) (by kernel_rfl) rfl rfl rfl (fun wq hq => Ev.ld0 rfl rfl Try.underlying5 rfl (hp8.ext hq hp8b) (rfl)) ?_
      refine AG.takeW 26 rfl (by kernel_rfl) (by kernel_rfl) rfl rfl rfl (fun _ => Ev.move rfl rfl) ?_
      refine AG.takeW 27 rfl (by kernel_rfl) (by kernel_rfl) rfl rfl rfl (fun _ => Ev.move rfl rfl) ?_
      refine AG.takeW 28 rfl (by kernel_rfl) (by kernel_rfl) rfl rfl rfl (fun _ => Ev.lenL rfl rfl rfl Try.underlying22 ((hl.ext hxwl1))) ?_
      refine AG.takeW 29 rfl (by kernel_rfl) (by kernel_rfl) rfl rfl rfl (fun _ => (Ev.subI rfl rfl rfl (by omega)).conv (congrArg (Value.int .i64) (show (i : Int) - (l.length : Int) = ((i - l.length : Nat) : Int) by omega))) ?_
      refine AG.only 30 rfl (by kernel_rfl) ?_
      refine RG.call rfl rfl rfl rfl rfl rfl rfl en_32 (markB_ret 1 _ _ (by omega) (by omega)) ?_
      rintro _ w10 ⟨rfl, hx10⟩
      replace hxwl1 := Ex.tr hxwl1 hx10
      replace hE4 := Ex.tr hE4 hx10
      have hE11 := hx10
      refine RG.done ?_
      refine QW.an (fun _ => hE11) ?_
      refine AG.takeW 31 rfl (by kernel_rfl) (by kernel_rfl) rfl rfl rfl (fun _ => Ev.isT (Ev.eqI rfl rfl rfl) (rfl)) ?_
      refine AG.takeW 32 rfl (by kernel_rfl) (by kernel_rfl) rfl rfl rfl (fun _ => Ev.notF rfl rfl) ?_
      refine AG.takeW 33 rfl (by kernel_rfl) (by kernel_rfl) rfl rfl rfl (fun _ => Ev.pickT rfl rfl rfl) ?_
      refine AG.takeW 34 rfl (by kernel_rfl) (by kernel_rfl) rfl rfl rfl (fun _ => Ev.pickF rfl rfl rfl) ?_
      refine AG.done (by kernel_rfl) ?_
      refine QW.sub (S' := [(1, _), (5, _), (6, _), (57, _)]) ⟨rfl, rfl, rfl, rfl, trivial⟩ ?_
      refine QW.then_ ?_
      refine CW.condF rfl ?_
      refine CW.skip ?_
      refine QW.blockN ?_
      refine QW.then_ ?_
      refine CW.region ?_
      refine RG.vl rfl rfl rfl (Ev.move rfl rfl) ?_
      refine RG.vl rfl rfl rfl (Ev.addI rfl rfl rfl (by omega)) ?_
      refine RG.vl rfl rfl rfl (Ev.assign rfl rfl) ?_
      refine RG.done ?_
      refine QW.round1 (i + 1) ⟨rfl, trivial⟩ ⟨rfl, rfl, trivial⟩ ⟨by omega, (Ex.tr hB0 hxwl1)⟩ (by omega)
  · refine CW.exit ?_
    refine QW.thenExit ?_
    refine QW.thenExit ?_
    refine QW.blockHit ?_
    refine QW.then_ ?_
    refine CW.seq ?_
    refine CW.region ?_
    refine RG.vl rfl rfl rfl (Ev.assign rfl rfl) ?_
    refine RG.done ?_
    refine QW.then_ ?_
    refine CW.ret ?_
    refine QW.ret1 rfl rfl ?_
    have hB := (Ex.tr hB0 hxwl1)
    exact ⟨rfl, hB⟩

set_option maxRecDepth 100000 in
set_option maxHeartbeats 1000000 in
theorem over_ret (w0 : World) (g cap n : Nat) (L0 : List Nat) (w : World) (hx0 : Ex w0 w) (hown : Own w w0.heap.size 5 1 encN (.slice (some ⟨g, 0, none⟩) L0.length cap) L0) (hcap : L0.length ≤ cap) (hn : L0.length = n + 12) (hlen : n ≤ 100000) :
    Ret Try.prog 16 [.slice (some ⟨g, 0, none⟩) n cap] w (fun _ w' => ∃ L, Own w' w0.heap.size 5 1 encN (.slice (some ⟨g, 0, none⟩) L0.length cap) L ∧ w.grownBy w' (some g)) := by
  have hB0 : Ex w w := Ex.rfl_ _
  refine Ret.of Try.func16 rfl Try.ntmps16 rfl ?_
  refine CW.seq ?_
  refine CW.region ?_
  refine RG.vl rfl rfl rfl (Ev.move rfl rfl) ?_
  refine RG.vl rfl rfl rfl (Ev.move rfl rfl) ?_
  refine RG.vl rfl rfl rfl (Ev.capSlice rfl rfl rfl Try.underlying22) ?_
  refine RG.vl rfl rfl rfl (Ev.move rfl rfl) ?_
  refine RG.vl rfl rfl rfl (Ev.lenSlice rfl rfl rfl Try.underlying22) ?_
  refine RG.vl rfl rfl rfl (Ev.addI rfl rfl rfl (by omega)) ?_
  refine RG.vl rfl rfl rfl ((Ev.min2 rfl rfl rfl rfl).conv (congrArg (Value.int .i64) (show min (cap : Int) ((n : Int) + 12) = (L0.length : Int) by omega))) ?_
  refine RG.vl rfl rfl rfl (Ev.upTo (H := L0.length) rfl rfl rfl Try.underlying22 sz_5 hcap) ?_
  refine RG.vl rfl rfl rfl (Ev.assign rfl rfl) ?_
  refine RG.done ?_
  refine QW.then_ ?_
  refine CW.seq ?_
  refine CW.region ?_
  refine RG.vl rfl rfl rfl (Ev.assign rfl rfl) ?_
  refine RG.done ?_
  refine QW.then_ ?_
  refine CW.block ?_
  refine CW.loop2 [(2, _)] ⟨rfl, trivial⟩ (fun (i : Nat) (L : List Nat) => [(3, .int .i64 i)]) (fun i L w' => (i ≤ L0.length ∧ L.length = L0.length ∧ Own w' w0.heap.size 5 1 encN (.slice (some ⟨g, 0, none⟩) L0.length cap) L ∧ w.grownBy w' (some g)) ∧ Ex w0 w') (fun i L => L0.length - i) (0) (L0) ⟨rfl, trivial⟩ ⟨⟨Nat.zero_le _, rfl, hown, World.grownBy.refl _ _⟩, hx0⟩ ?_
  rintro i L wl1 ⟨⟨hi, hLl, hown, hgr⟩, hxwl1⟩
  refine CW.sub (S' := [(3, _), (2, _)]) ⟨rfl, rfl, trivial⟩ ?_
  refine CW.seq ?_
  refine CW.seq ?_
  refine CW.region ?_
  refine RG.vl rfl rfl rfl (Ev.move rfl rfl) ?_
  refine RG.vl rfl rfl rfl (Ev.move rfl rfl) ?_
  refine RG.vl rfl rfl rfl (Ev.lenL rfl rfl rfl Try.underlying22 ((hown.rdl encN_len))) ?_
  refine RG.vl rfl rfl rfl (Ev.lss rfl rfl rfl) ?_
  refine RG.done ?_
  refine QW.then_ ?_
  refine CW.condP rfl (fun hc2 => ?_) (fun hc2 => ?_)
  · refine CW.skip ?_
    refine QW.then_ ?_
    refine CW.seq ?_
    refine CW.block ?_
    refine CW.region ?_
    refine RG.vl rfl rfl rfl (Ev.move rfl rfl) ?_
    refine RG.vl rfl rfl rfl (Ev.move rfl rfl) ?_
    refine RG.vl rfl rfl rfl (Ev.move rfl rfl) ?_
    refine RG.call rfl rfl rfl rfl rfl rfl rfl en_32 (markB_ret 2 _ _ (by omega) (by omega)) ?_
    rintro _ w3 ⟨rfl, hx3⟩
    replace hxwl1 := Ex.tr hxwl1 hx3
    have hE4 := hx3
    refine RG.idxO rfl rfl rfl rfl rfl rfl Try.underlying22 sz_5 encN_len ((Own.ext hown hE4)) (getElem?_one (show i < L.length by omega)) (fun g6 hg6 hBg6 hp5b hp5 => ?_)
    refine RG.stOw0 (g := g6) (_) rfl rfl rfl rfl rfl sz_5 rfl (fun _ => rfl) (Own.ext hown hE4) hg6 (getElem?_one (show i < L.length by omega)) rfl (rfl) (fun ws7 hwws7 hown8 => ?_)
    have hpreL := hE4
    replace hxwl1 := Wr.below hxwl1 hwws7 hBg6
    refine RG.done ?_
    refine QW.blockN ?_
    refine QW.then_ ?_
    refine CW.region ?_
    refine RG.vl rfl rfl rfl (Ev.move rfl rfl) ?_
    refine RG.vl rfl rfl rfl (Ev.addI rfl rfl rfl (by omega)) ?_
    refine RG.vl rfl rfl rfl (Ev.assign rfl rfl) ?_
    refine RG.done ?_
    refine QW.round2 (i + 1) (_) ⟨rfl, trivial⟩ ⟨rfl, trivial⟩ ⟨⟨by omega, by rw [List.length_set]; exact hLl, hown8, grown_tr hgr (grown_of hpreL hwws7 hg6)⟩, hxwl1⟩ (by omega)
  · refine CW.exit ?_
    refine QW.thenExit ?_
    refine QW.thenExit ?_
    refine QW.blockHit ?_
    refine QW.end0 rfl ?_
    exact ⟨L, hown, hgr⟩

set_option maxRecDepth 100000 in
set_option maxHeartbeats 1000000 in
theorem lentz_ret (u0 : Value) (l : List Int) (w : World) (hl : RdL w 1 encI u0 l) (hlen : l.length ≤ 100000) :
    Ret Try.prog 12 [u0] w (fun v w' => ∃ g cap, v = .slice (some ⟨g, 0, none⟩) l.length cap ∧ Own w' w.heap.size 3 1 encI (.slice (some ⟨g, 0, none⟩) (l.length + 12) cap) (l ++ mzs 1 12) ∧ Ex w w') := by
  have hB0 : Ex w w := Ex.rfl_ _
  refine Ret.of Try.func12 rfl Try.ntmps12 rfl ?_
  refine CW.seq ?_
  refine CW.region ?_
  refine RG.vl rfl rfl rfl (Ev.assign rfl rfl) ?_
  refine RG.done ?_
  refine QW.then_ ?_
  refine CW.seq ?_
  refine CW.region ?_
  refine RG.vl rfl rfl rfl (Ev.move rfl rfl) ?_
  refine RG.vl rfl rfl rfl (Ev.lenL rfl rfl rfl Try.underlying23 (hl)) ?_
  refine RG.vl rfl rfl rfl (Ev.addI rfl rfl rfl (by omega)) ?_
  refine RG.make0O (m := l.length + 12) (enc := encI) rfl rfl rfl rfl rfl rfl (by omega) Try.underlying23 inf_3 (by omega) (by simp only [maxLen]; omega) (fun vz wk1 hxwk1 hown2 hnew3 => ?_)
  have hE4 := hxwk1
  refine RG.vl rfl rfl rfl (Ev.assign rfl rfl) ?_
  refine RG.done ?_
  refine QW.then_ ?_
  refine CW.seq ?_
  have hn0 : ([] : List Int).length = 0 := rfl
  refine CW.region ?_
  refine RG.vl rfl rfl rfl (Ev.move rfl rfl) ?_
  refine RG.vl rfl rfl rfl (Ev.move rfl rfl) ?_
  refine RG.appO rfl rfl rfl rfl rfl rfl rfl Try.underlying23 inf_3 rfl rfl encI_len (fun _ => rfl) hown2 ((hl.ext hE4)) (by simp only [maxLen]; omega) (by omega) (hE4.size) (fun v5 wa6 hown7 hgr8 hat9 => ?_)
  replace hE4 := own_block hown2 hE4 hgr8 (Nat.le_refl _) hE4.size
  refine RG.vl rfl rfl rfl (Ev.assign rfl rfl) ?_
  refine RG.done ?_
  refine QW.then_ ?_
  refine CW.seq ?_
  refine CW.seq ?_
  refine CW.region ?_
  refine RG.vl rfl rfl rfl (Ev.assign rfl rfl) ?_
  refine RG.done ?_
  refine QW.then_ ?_
  refine CW.block ?_
  refine CW.loop2 [(0, _), (2, _)] ⟨rfl, rfl, trivial⟩ (fun (i : Nat) (u : Value) => [(4, .int .i64 i), (3, u)]) (fun i u w' => (i ≤ 12 ∧ Own w' w.heap.size 3 1 encI u (l ++ mzs 1 i)) ∧ Ex w w') (fun i u => 12 - i) (0) (_) ⟨rfl, rfl, trivial⟩ ⟨⟨by omega, by rw [show mzs 1 0 = [] from rfl, List.append_nil]; exact hown7⟩, (Ex.tr hB0 hE4)⟩ ?_
  rintro i u wl10 ⟨⟨hi, hown⟩, hxwl10⟩
  refine CW.sub (S' := [(4, _), (3, _), (0, _), (2, _)]) ⟨rfl, rfl, rfl, rfl, trivial⟩ ?_
  refine CW.seq ?_
  refine CW.seq ?_
  refine CW.region ?_
  refine RG.vl rfl rfl rfl (Ev.move rfl rfl) ?_
  refine RG.vl rfl rfl rfl (Ev.lss rfl rfl rfl) ?_
  refine RG.done ?_
  refine QW.then_ ?_
  refine CW.condP rfl (fun hc11 => ?_) (fun hc11 => ?_)
  · refine CW.skip ?_
    refine QW.then_ ?_
    refine CW.seq ?_
    refine CW.block ?_
    have hml := mzs_len 1 i
    have hlm : (l ++ mzs 1 i).length = l.length + i := by rw [List.length_append, hml]
    refine CW.region ?_
    refine RG.vl rfl rfl rfl (Ev.move rfl rfl) ?_
    refine RG.vl rfl rfl rfl (Ev.move rfl rfl) ?_
    refine RG.call rfl rfl rfl rfl rfl rfl rfl en_33 (mark_ret 1 _ _ (by omega) (by omega)) ?_
    rintro _ w12 ⟨rfl, hx12⟩
    replace hxwl10 := Ex.tr hxwl10 hx12
    have hE13 := hx12
    refine RG.litO (os := [.tmp 18]) (enc := encI) ([mkZ 1 i]) rfl rfl rfl rfl rfl rfl rfl Try.underlying23 inf_3 rfl rfl rfl rfl rfl encI_len rfl rfl (fun v14 wk15 hxwk15 hown16 hnew17 => ?_)
    have hsep18 : Sep v14 _ := Sep.of_new (Own.ext hown hE13) hnew17
    replace hxwl10 := Ex.tr hxwl10 hxwk15
    replace hE13 := Ex.tr hE13 hxwk15
    have hE19 := hxwk15
    refine RG.appO rfl rfl rfl rfl rfl rfl rfl Try.underlying23 inf_3 rfl rfl encI_len (fun _ => rfl) (Own.ext hown hE13) ((hown16.rdl encI_len)) (by show _ + 1 ≤ maxLen; simp only [maxLen]; omega) (by show (_ + 1) * _ ≤ _; omega) (hxwl10.size) (fun v20 wa21 hown22 hgr23 hat24 => ?_)
    have hsep26 := Sep.app (Sep.symm hsep18) hown16 hat24
    have hown25 := Own.grown hown16 hgr23 (fun k a b => (Sep.symm hsep18) k b a)
    replace hxwl10 := own_block (Own.ext hown hE13) hxwl10 hgr23 (Nat.le_refl _) hxwl10.size
    refine RG.vl rfl rfl rfl (Ev.assign rfl rfl) ?_
    refine RG.done ?_
    refine QW.blockN ?_
    refine QW.then_ ?_
    refine CW.region ?_
    refine RG.vl rfl rfl rfl (Ev.move rfl rfl) ?_
    refine RG.vl rfl rfl rfl (Ev.addI rfl rfl rfl (by omega)) ?_
    refine RG.vl rfl rfl rfl (Ev.assign rfl rfl) ?_
    refine RG.done ?_
    refine QW.round2 (i + 1) (v20) ⟨rfl, rfl, trivial⟩ ⟨rfl, rfl, trivial⟩ ⟨⟨by omega, by rw [mzs_more, ← List.append_assoc]; exact hown22⟩, (Ex.tr hB0 hxwl10)⟩ (by omega)
  · refine CW.exit ?_
    refine QW.thenExit ?_
    refine QW.thenExit ?_
    refine QW.blockHit ?_
    refine QW.then_ ?_
    refine CW.seq ?_
    obtain rfl : i = 12 := by omega
    refine CW.region ?_
    refine RG.vl rfl rfl rfl (Ev.move rfl rfl) ?_
    refine RG.vl rfl rfl rfl (Ev.move rfl rfl) ?_
    refine RG.vl rfl rfl rfl (Ev.lenL rfl rfl rfl Try.underlying23 ((hl.ext hxwl10))) ?_
    obtain ⟨g, cap, rfl, hgB, hgl⟩ := own_at hown (by rw [List.length_append, mzs_len]; omega)
    have hcap := Own.capz hown
    refine RG.vl rfl rfl rfl (Ev.upTo rfl rfl rfl Try.underlying23 sz_3 (by rw [List.length_append] at hcap; omega)) ?_
    refine RG.vl rfl rfl rfl (Ev.assign rfl rfl) ?_
    refine RG.done ?_
    refine QW.then_ ?_
    refine CW.ret ?_
    refine QW.ret1 rfl rfl ?_
    have hB := (Ex.tr hB0 hxwl10)
    rw [show (l ++ mzs 1 12).length = l.length + 12 from by rw [List.length_append, mzs_len]] at hown
    exact ⟨g, cap, rfl, hown.low (by have := hB0.size; omega), hB⟩

set_option maxRecDepth 100000 in
set_option maxHeartbeats 4000000 in
theorem keptz_ret (g cap : Nat) (u0 : Value) (l : List Int) (w : World) (hbig : RdL w 1 encI (.slice (some ⟨g, 0, none⟩) (l.length + 12) cap) (l ++ mzs 1 12)) (hl : RdL w 1 encI u0 l) (hcap : l.length + 12 ≤ cap) (hlen : l.length ≤ 100000) :
    Ret Try.prog 15 [.slice (some ⟨g, 0, none⟩) l.length cap, u0] w (fun v w' => v = .bool true ∧ Ex w w') := by
  have hB0 : Ex w w := Ex.rfl_ _
  refine Ret.of Try.func15 rfl Try.ntmps15 rfl ?_
  refine CW.seq ?_
  refine CW.region ?_
  refine RG.vl rfl rfl rfl (Ev.assign rfl rfl) ?_
  refine RG.done ?_
  refine QW.then_ ?_
  refine CW.seq ?_
  refine CW.seq ?_
  refine CW.region ?_
  refine RG.vl rfl rfl rfl (Ev.move rfl rfl) ?_
  refine RG.vl rfl rfl rfl (Ev.lenSlice rfl rfl rfl Try.underlying23) ?_
  refine RG.vl rfl rfl rfl (Ev.move rfl rfl) ?_
  refine RG.vl rfl rfl rfl (Ev.lenL rfl rfl rfl Try.underlying23 (hl)) ?_
  refine RG.vl rfl rfl rfl (Ev.isF (Ev.neI rfl rfl rfl) (fun h => h rfl)) ?_
  refine RG.done ?_
  refine QW.then_ ?_
  refine CW.condF rfl ?_
  refine CW.skip ?_
  refine QW.then_ ?_
  refine CW.seq ?_
  refine CW.region ?_
  refine RG.vl rfl rfl rfl (Ev.move rfl rfl) ?_
  refine RG.vl rfl rfl rfl (Ev.move rfl rfl) ?_
  refine RG.vl rfl rfl rfl (Ev.lenL rfl rfl rfl Try.underlying23 (hl)) ?_
  refine RG.vl rfl rfl rfl ((Ev.addI rfl rfl rfl (by omega)).conv (congrArg (Value.int .i64) (show (l.length : Int) + 12 = ((l.length + 12 : Nat) : Int) by omega))) ?_
  refine RG.vl rfl rfl rfl (Ev.upTo (H := l.length + 12) rfl rfl rfl Try.underlying23 sz_3 hcap) ?_
  refine RG.vl rfl rfl rfl (Ev.assign rfl rfl) ?_
  refine RG.done ?_
  refine QW.then_ ?_
  refine CW.seq ?_
  refine CW.seq ?_
  have hbl : (l ++ mzs 1 12).length = l.length + 12 := by rw [List.length_append, mzs_len]
  refine CW.region ?_
  refine RG.vl rfl rfl rfl (Ev.assign rfl rfl) ?_
  refine RG.done ?_
  refine QW.then_ ?_
  refine CW.block ?_
  refine CW.loop1 [(1, _), (5, _)] ⟨rfl, rfl, trivial⟩ (fun (i : Nat) => [(6, .int .i64 i)]) (fun i w' => (i ≤ l.length + 12) ∧ Ex w w') (fun i => l.length + 12 - i) (0) ⟨rfl, trivial⟩ ⟨Nat.zero_le _, hB0⟩ ?_
  rintro i wl1 ⟨hi, hxwl1⟩
  refine CW.sub (S' := [(6, _), (1, _), (5, _)]) ⟨rfl, rfl, rfl, trivial⟩ ?_
  refine CW.seq ?_
  refine CW.seq ?_
  refine CW.region ?_
  refine RG.vl rfl rfl rfl (Ev.move rfl rfl) ?_
  refine RG.vl rfl rfl rfl (Ev.move rfl rfl) ?_
  refine RG.vl rfl rfl rfl (Ev.lenL rfl rfl rfl Try.underlying23 ((hbig.ext hxwl1))) ?_
  refine RG.vl rfl rfl rfl (Ev.lss rfl rfl rfl) ?_
  refine RG.done ?_
  refine QW.then_ ?_
  refine CW.condP rfl (fun hc2 => ?_) (fun hc2 => ?_)
  · refine CW.skip ?_
    refine QW.then_ ?_
    refine CW.seq ?_
    refine CW.block ?_
    refine CW.seq ?_
    refine CW.draw [] (.ex) 35 rfl mixed (fun wd3 hxwd3 => ?_)
    replace hxwl1 := Ex.tr hxwl1 hxwd3
    have hE4 := hxwd3
    refine AG.takeW 0 rfl (by kernel_rfl) (by kernel_rfl) rfl rfl rfl (fun _ => Ev.move rfl rfl) ?_
    refine AG.takeW 1 rfl (by kernel_rfl) (by kernel_rfl) rfl rfl rfl (fun _ => Ev.move rfl rfl) ?_
    refine AG.takeW 2 rfl (by kernel_rfl) (by kernel_rfl) rfl rfl rfl (fun _ => Ev.lenL rfl rfl rfl Try.underlying23 ((hl.ext hxwl1))) ?_
    refine AG.takeW 3 rfl (by kernel_rfl) (by kernel_rfl) rfl rfl rfl (fun _ => Ev.lss rfl rfl rfl) ?_
    refine AG.takeW 4 rfl (by kernel_rfl) (by kernel_rfl) rfl rfl rfl (fun _ => Ev.move rfl rfl) ?_
    refine AG.split (d := 27) rfl (fun hg5 => ?_) (fun hg5 => ?_)
    · refine AG.takeW 5 rfl (by kernel_rfl) (by kernel_rfl) rfl rfl rfl (fun _ => Ev.move rfl rfl) ?_
      refine AG.takeW 6 rfl (by kernel_rfl) (by kernel_rfl) rfl rfl rfl (fun _ => Ev.move rfl rfl) ?_
      refine AG.idxL _ 7 rfl (by kernel_rfl) (by kernel_rfl) rfl rfl rfl rfl rfl rfl Try.underlying23 sz_3 ((hbig.ext hxwl1)) (keptz_l (by omega)) (fun p6 hp6b hp6 => ?_)
      refine AG.take 8 rfl (by kernel_rfl) (by kernel_rfl) rfl rfl rfl (fun wq hq => Ev.ld0 rfl rfl Try.underlying3 rfl (hp6.ext hq hp6b) (rfl)) ?_
      refine AG.takeW 9 rfl (by kernel_rfl) (by kernel_rfl) rfl rfl rfl (fun _ => Ev.move rfl rfl) ?_
      refine AG.takeW 10 rfl (by kernel_rfl) (by kernel_rfl) rfl rfl rfl (fun _ => Ev.move rfl rfl) ?_
      refine AG.idxL _ 11 rfl (by kernel_rfl) (by kernel_rfl) rfl rfl rfl rfl rfl rfl Try.underlying23 sz_3 ((hl.ext hxwl1)) (List.getElem?_eq_getElem (by omega)) (fun p7 hp7b hp7 => ?_)
      refine AG.take 12 rfl (by kernel_rfl) (by kernel_rfl) rfl rfl rfl (fun wq hq => Ev.ld0 rfl rfl Try.underlying3 rfl (hp7.ext hq hp7b) (rfl)) ?_
      refine AG.takeW 13 rfl (by kernel_rfl) (by kernel_rfl) rfl rfl rfl (fun _ => Ev.isT (Ev.eqI rfl rfl rfl) (rfl)) ?_
      refine AG.takeW 14 rfl (by kernel_rfl) (by kernel_rfl) rfl rfl rfl (fun _ => Ev.notF rfl rfl) ?_
      refine AG.takeW 15 rfl (by kernel_rfl) (by kernel_rfl) rfl rfl rfl (fun _ => Ev.pickT rfl rfl rfl) ?_
      refine AG.takeW 16 rfl (by kernel_rfl) (by kernel_rfl) rfl rfl rfl (fun _ => Ev.move rfl rfl) ?_
      refine AG.takeW 17 rfl (by kernel_rfl) (by kernel_rfl) rfl rfl rfl (fun _ => Ev.move rfl rfl) ?_
      refine AG.takeW 18 rfl (by kernel_rfl) (by kernel_rfl) rfl rfl rfl (fun _ => Ev.move rfl rfl) ?_
      refine AG.takeW 19 rfl (by kernel_rfl) (by kernel_rfl) rfl rfl rfl (fun _ => Ev.lenL rfl rfl rfl Try.underlying23 ((hl.ext hxwl1))) ?_
      refine AG.takeW 20 rfl (by kernel_rfl) (by kernel_rfl) rfl rfl rfl (fun _ => Ev.isF (Ev.geq rfl rfl rfl) (by omega)) ?_
      refine AG.takeW 21 rfl (by kernel_rfl) (by kernel_rfl) rfl rfl rfl (fun _ => Ev.move rfl rfl) ?_
      refine AG.pass 22 rfl (by kernel_rfl) (by kernel_rfl) rfl rfl rfl ?_
      refine AG.pass 23 rfl (by kernel_rfl) (by kernel_rfl) rfl rfl rfl ?_
      refine AG.pass 24 rfl (by kernel_rfl) (by kernel_rfl) rfl rfl rfl ?_
      refine AG.pass 25 rfl (by kernel_rfl) (by kernel_rfl) rfl rfl rfl ?_
      refine AG.pass 26 rfl (by kernel_rfl) (by kernel_rfl) rfl rfl rfl ?_
      refine AG.pass 27 rfl (by kernel_rfl) (by kernel_rfl) rfl rfl rfl ?_
      refine AG.pass 28 rfl (by kernel_rfl) (by kernel_rfl) rfl rfl rfl ?_
      refine AG.pass 29 rfl (by kernel_rfl) (by kernel_rfl) rfl rfl rfl ?_
      refine AG.pass 30 rfl (by kernel_rfl) (by kernel_rfl) rfl rfl rfl ?_
      refine AG.pass 31 rfl (by kernel_rfl) (by kernel_rfl) rfl rfl rfl ?_
      refine AG.pass 32 rfl (by kernel_rfl) (by kernel_rfl) rfl rfl rfl ?_
      refine AG.takeW 33 rfl (by kernel_rfl) (by kernel_rfl) rfl rfl rfl (fun _ => Ev.pickF rfl rfl rfl) ?_
      refine AG.takeW 34 rfl (by kernel_rfl) (by kernel_rfl) rfl rfl rfl (fun _ => Ev.pickF rfl rfl rfl) ?_
      refine AG.done (by kernel_rfl) ?_
      refine QW.sub (S' := [(1, _), (5, _), (6, _), (57, _)]) ⟨rfl, rfl, rfl, rfl, trivial⟩ ?_
      refine QW.then_ ?_
      refine CW.condF rfl ?_
      refine CW.skip ?_
      refine QW.blockN ?_
      refine QW.then_ ?_
      refine CW.region ?_
      refine RG.vl rfl rfl rfl (Ev.move rfl rfl) ?_
      refine RG.vl rfl rfl rfl (Ev.addI rfl rfl rfl (by omega)) ?_
      refine RG.vl rfl rfl rfl (Ev.assign rfl rfl) ?_
      refine RG.done ?_
      refine QW.round1 (i + 1) ⟨rfl, trivial⟩ ⟨rfl, rfl, trivial⟩ ⟨by omega, (Ex.tr hB0 hxwl1)⟩ (by omega)
    · refine AG.pass 5 rfl (by kernel_rfl) (by kernel_rfl) rfl rfl rfl ?_
      refine AG.pass 6 rfl (by kernel_rfl) (by kernel_rfl) rfl rfl rfl ?_
      refine AG.pass 7 rfl (by kernel_rfl) (by kernel_rfl) rfl rfl rfl ?_
      refine AG.pass 8 rfl (by kernel_rfl) (by kernel_rfl) rfl rfl rfl ?_
      refine AG.pass 9 rfl (by kernel_rfl) (by kernel_rfl) rfl rfl rfl ?_
      refine AG.pass 10 rfl (by kernel_rfl) (by kernel_rfl) rfl rfl rfl ?_
      refine AG.pass 11 rfl (by kernel_rfl) (by kernel_rfl) rfl rfl rfl ?_
      refine AG.pass 12 rfl (by kernel_rfl) (by kernel_rfl) rfl rfl rfl ?_
      refine AG.pass 13 rfl (by kernel_rfl) (by kernel_rfl) rfl rfl rfl ?_
      refine AG.pass 14 rfl (by kernel_rfl) (by kernel_rfl) rfl rfl rfl ?_
      refine AG.takeW 15 rfl (by kernel_rfl) (by kernel_rfl) rfl rfl rfl (fun _ => Ev.pickF rfl rfl rfl) ?_
      refine AG.takeW 16 rfl (by kernel_rfl) (by kernel_rfl) rfl rfl rfl (fun _ => Ev.move rfl rfl) ?_
      refine AG.takeW 17 rfl (by kernel_rfl) (by kernel_rfl) rfl rfl rfl (fun _ => Ev.move rfl rfl) ?_
      refine AG.takeW 18 rfl (by kernel_rfl) (by kernel_rfl) rfl rfl rfl (fun _ => Ev.move rfl rfl) ?_
      refine AG.takeW 19 rfl (by kernel_rfl) (by kernel_rfl) rfl rfl rfl (fun _ => Ev.lenL rfl rfl rfl Try.underlying23 ((hl.ext hxwl1))) ?_
      refine AG.takeW 20 rfl (by kernel_rfl) (by kernel_rfl) rfl rfl rfl (fun _ => Ev.isT (Ev.geq rfl rfl rfl) (by omega)) ?_
      refine AG.takeW 21 rfl (by kernel_rfl) (by kernel_rfl) rfl rfl rfl (fun _ => Ev.move rfl rfl) ?_
      refine AG.takeW 22 rfl (by kernel_rfl) (by kernel_rfl) rfl rfl rfl (fun _ => Ev.move rfl rfl) ?_
      refine AG.takeW 23 rfl (by kernel_rfl) (by kernel_rfl) rfl rfl rfl (fun _ => Ev.move rfl rfl) ?_
      refine AG.idxL _ 24 rfl (by kernel_rfl) (by kernel_rfl) rfl rfl rfl rfl rfl rfl Try.underlying23 sz_3 ((hbig.ext hxwl1)) (keptz_m (by omega) (by omega)) (fun p8 hp8b hp8 => ?_)
      refine AG.take 25 rfl (by kernel_rfl) (by kernel_rfl) rfl rfl rfl (fun wq hq => Ev.ld0 rfl rfl Try.underlying3 rfl (hp8.ext hq hp8b) (rfl)) ?_
      refine AG.takeW 26 rfl (by kernel_rfl) (by kernel_rfl) rfl rfl rfl (fun _ => Ev.move rfl rfl) ?_
      refine AG.takeW 27 rfl (by kernel_rfl) (by kernel_rfl) rfl rfl rfl (fun _ => Ev.move rfl rfl) ?_
      refine AG.takeW 28 rfl (by kernel_rfl) (by kernel_rfl) rfl rfl rfl (fun _ => Ev.lenL rfl rfl rfl Try.underlying23 ((hl.ext hxwl1))) ?_
      refine AG.takeW 29 rfl (by kernel_rfl) (by kernel_rfl) rfl rfl rfl (fun _ => (Ev.subI rfl rfl rfl (by omega)).conv (congrArg (Value.int .i64) (show (i : Int) - (l.length : Int) = ((i - l.length : Nat) : Int) by omega))) ?_
      refine AG.only 30 rfl (by kernel_rfl) ?_
      refine RG.call rfl rfl rfl rfl rfl rfl rfl en_33 (mark_ret 1 _ _ (by omega) (by omega)) ?_
      rintro _ w10 ⟨rfl, hx10⟩
      replace hxwl1 := Ex.tr hxwl1 hx10
      replace hE4 := Ex.tr hE4 hx10
      have hE11 := hx10
      refine RG.done ?_
      refine QW.an (fun _ => hE11) ?_
      refine AG.takeW 31 rfl (by kernel_rfl) (by kernel_rfl) rfl rfl rfl (fun _ => Ev.isT (Ev.eqI rfl rfl rfl) (rfl)) ?_
      refine AG.takeW 32 rfl (by kernel_rfl) (by kernel_rfl) rfl rfl rfl (fun _ => Ev.notF rfl rfl) ?_
      refine AG.takeW 33 rfl (by kernel_rfl) (by kernel_rfl) rfl rfl rfl (fun _ => Ev.pickT rfl rfl rfl) ?_
      refine AG.takeW 34 rfl (by kernel_rfl) (by kernel_rfl) rfl rfl rfl (fun _ => Ev.pickF rfl rfl rfl) ?_
      refine AG.done (by kernel_rfl) ?_
      refine QW.sub (S' := [(1, _), (5, _), (6, _), (57, _)]) ⟨rfl, rfl, rfl, rfl, trivial⟩ ?_
      refine QW.then_ ?_
      refine CW.condF rfl ?_
      refine CW.skip ?_
      refine QW.blockN ?_
      refine QW.then_ ?_
      refine CW.region ?_
      refine RG.vl rfl rfl rfl (Ev.move rfl rfl) ?_
      refine RG.vl rfl rfl rfl (Ev.addI rfl rfl rfl (by omega)) ?_
      refine RG.vl rfl rfl rfl (Ev.assign rfl rfl) ?_
      refine RG.done ?_
      refine QW.round1 (i + 1) ⟨rfl, trivial⟩ ⟨rfl, rfl, trivial⟩ ⟨by omega, (Ex.tr hB0 hxwl1)⟩ (by omega)
  · refine CW.exit ?_
    refine QW.thenExit ?_
    refine QW.thenExit ?_
    refine QW.blockHit ?_
    refine QW.then_ ?_
    refine CW.seq ?_
    refine CW.region ?_
    refine RG.vl rfl rfl rfl (Ev.assign rfl rfl) ?_
    refine RG.done ?_
    refine QW.then_ ?_
    refine CW.ret ?_
    refine QW.ret1 rfl rfl ?_
    have hB := (Ex.tr hB0 hxwl1)
    exact ⟨rfl, hB⟩

set_option maxRecDepth 100000 in
set_option maxHeartbeats 1000000 in
theorem overz_ret (w0 : World) (g cap n : Nat) (L0 : List Int) (w : World) (hx0 : Ex w0 w) (hown : Own w w0.heap.size 3 1 encI (.slice (some ⟨g, 0, none⟩) L0.length cap) L0) (hcap : L0.length ≤ cap) (hn : L0.length = n + 12) (hlen : n ≤ 100000) :
    Ret Try.prog 17 [.slice (some ⟨g, 0, none⟩) n cap] w (fun _ w' => ∃ L, Own w' w0.heap.size 3 1 encI (.slice (some ⟨g, 0, none⟩) L0.length cap) L ∧ w.grownBy w' (some g)) := by
  have hB0 : Ex w w := Ex.rfl_ _
  refine Ret.of Try.func17 rfl Try.ntmps17 rfl ?_
  refine CW.seq ?_
  refine CW.region ?_
  refine RG.vl rfl rfl rfl (Ev.move rfl rfl) ?_
  refine RG.vl rfl rfl rfl (Ev.move rfl rfl) ?_
  refine RG.vl rfl rfl rfl (Ev.capSlice rfl rfl rfl Try.underlying23) ?_
  refine RG.vl rfl rfl rfl (Ev.move rfl rfl) ?_
  refine RG.vl rfl rfl rfl (Ev.lenSlice rfl rfl rfl Try.underlying23) ?_
  refine RG.vl rfl rfl rfl (Ev.addI rfl rfl rfl (by omega)) ?_
  refine RG.vl rfl rfl rfl ((Ev.min2 rfl rfl rfl rfl).conv (congrArg (Value.int .i64) (show min (cap : Int) ((n : Int) + 12) = (L0.length : Int) by omega))) ?_
  refine RG.vl rfl rfl rfl (Ev.upTo (H := L0.length) rfl rfl rfl Try.underlying23 sz_3 hcap) ?_
  refine RG.vl rfl rfl rfl (Ev.assign rfl rfl) ?_
  refine RG.done ?_
  refine QW.then_ ?_
  refine CW.seq ?_
  refine CW.region ?_
  refine RG.vl rfl rfl rfl (Ev.assign rfl rfl) ?_
  refine RG.done ?_
  refine QW.then_ ?_
  refine CW.block ?_
  refine CW.loop2 [(2, _)] ⟨rfl, trivial⟩ (fun (i : Nat) (L : List Int) => [(3, .int .i64 i)]) (fun i L w' => (i ≤ L0.length ∧ L.length = L0.length ∧ Own w' w0.heap.size 3 1 encI (.slice (some ⟨g, 0, none⟩) L0.length cap) L ∧ w.grownBy w' (some g)) ∧ Ex w0 w') (fun i L => L0.length - i) (0) (L0) ⟨rfl, trivial⟩ ⟨⟨Nat.zero_le _, rfl, hown, World.grownBy.refl _ _⟩, hx0⟩ ?_
  rintro i L wl1 ⟨⟨hi, hLl, hown, hgr⟩, hxwl1⟩
  refine CW.sub (S' := [(3, _), (2, _)]) ⟨rfl, rfl, trivial⟩ ?_
  refine CW.seq ?_
  refine CW.seq ?_
  refine CW.region ?_
  refine RG.vl rfl rfl rfl (Ev.move rfl rfl) ?_
  refine RG.vl rfl rfl rfl (Ev.move rfl rfl) ?_
  refine RG.vl rfl rfl rfl (Ev.lenL rfl rfl rfl Try.underlying23 ((hown.rdl encI_len))) ?_
  refine RG.vl rfl rfl rfl (Ev.lss rfl rfl rfl) ?_
  refine RG.done ?_
  refine QW.then_ ?_
  refine CW.condP rfl (fun hc2 => ?_) (fun hc2 => ?_)
  · refine CW.skip ?_
    refine QW.then_ ?_
    refine CW.seq ?_
    refine CW.block ?_
    refine CW.region ?_
    refine RG.vl rfl rfl rfl (Ev.move rfl rfl) ?_
    refine RG.vl rfl rfl rfl (Ev.move rfl rfl) ?_
    refine RG.vl rfl rfl rfl (Ev.move rfl rfl) ?_
    refine RG.call rfl rfl rfl rfl rfl rfl rfl en_33 (mark_ret 2 _ _ (by omega) (by omega)) ?_
    rintro _ w3 ⟨rfl, hx3⟩
    replace hxwl1 := Ex.tr hxwl1 hx3
    have hE4 := hx3
    refine RG.idxO rfl rfl rfl rfl rfl rfl Try.underlying23 sz_3 encI_len ((Own.ext hown hE4)) (getz_one (show i < L.length by omega)) (fun g6 hg6 hBg6 hp5b hp5 => ?_)
    refine RG.stOw0 (g := g6) (_) rfl rfl rfl rfl rfl sz_3 rfl (fun _ => rfl) (Own.ext hown hE4) hg6 (getz_one (show i < L.length by omega)) rfl (rfl) (fun ws7 hwws7 hown8 => ?_)
    have hpreL := hE4
    replace hxwl1 := Wr.below hxwl1 hwws7 hBg6
    refine RG.done ?_
    refine QW.blockN ?_
    refine QW.then_ ?_
    refine CW.region ?_
    refine RG.vl rfl rfl rfl (Ev.move rfl rfl) ?_
    refine RG.vl rfl rfl rfl (Ev.addI rfl rfl rfl (by omega)) ?_
    refine RG.vl rfl rfl rfl (Ev.assign rfl rfl) ?_
    refine RG.done ?_
    refine QW.round2 (i + 1) (_) ⟨rfl, trivial⟩ ⟨rfl, trivial⟩ ⟨⟨by omega, by rw [List.length_set]; exact hLl, hown8, grown_tr hgr (grown_of hpreL hwws7 hg6)⟩, hxwl1⟩ (by omega)
  · refine CW.exit ?_
    refine QW.thenExit ?_
    refine QW.thenExit ?_
    refine QW.blockHit ?_
    refine QW.end0 rfl ?_
    exact ⟨L, hown, hgr⟩

end Go.Proofs.Ytjhgihgggofocaa
