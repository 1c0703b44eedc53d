/- Walks (GE). Written by program. -/
import Derived.Test.YtjaledljhiihmaaT
import Derived.Test.YtjaledljhiihmaaGD
namespace Go.Proofs.Ytjaledljhiihmaa
open Go.RowKit
set_option maxRecDepth 100000 in
set_option maxHeartbeats 1000000 in
theorem rtrim_ret (u0 : Value) (p : List Nat) (w : World) (hl : RdL w 1 encN u0 p) (hlen : p.length ≤ 100000) :
    Ret Try.prog 40 [u0] w (fun v w' => Own w' w.heap.size 5 1 encN v (tr p) ∧ Ex w w') := by
  have hB0 : Ex w w := Ex.rfl_ _
  refine Ret.of Try.func40 rfl Try.ntmps40 rfl ?_
  refine CW.seq ?_
  refine CW.region ?_
  refine RG.vl rfl rfl rfl (Ev.assign rfl rfl) ?_
  refine RG.done ?_
  refine QW.then_ ?_
  refine CW.seq ?_
  refine CW.region ?_
  refine RG.vl rfl rfl rfl (Ev.assign rfl rfl) ?_
  refine RG.done ?_
  refine QW.then_ ?_
  refine CW.seq ?_
  refine CW.seq ?_
  refine CW.region ?_
  refine RG.vl rfl rfl rfl (Ev.assign rfl rfl) ?_
  refine RG.done ?_
  refine QW.then_ ?_
  refine CW.block ?_
  refine CW.loop2 [(0, _), (2, _)] ⟨rfl, rfl, trivial⟩ (fun (i : Nat) (u : Value) => [(4, .int .i64 i), (3, u)]) (fun i u w' => (i ≤ dg p ∧ Own w' w.heap.size 5 1 encN u (p.take i)) ∧ Ex w w') (fun i u => dg p - i) (0) (.slice none 0 0) ⟨rfl, rfl, trivial⟩ ⟨⟨Nat.zero_le _, Own.nil_ _ _ _ _ _⟩, hB0⟩ ?_
  rintro i u wl1 ⟨⟨hi, hown⟩, hxwl1⟩
  refine CW.sub (S' := [(4, _), (3, _), (0, _), (2, _)]) ⟨rfl, rfl, rfl, rfl, trivial⟩ ?_
  refine CW.seq ?_
  refine CW.seq ?_
  have hdl := dg_len p
  have htl : (p.take i).length = i := by rw [List.length_take]; omega
  refine CW.region ?_
  refine RG.vl rfl rfl rfl (Ev.move rfl rfl) ?_
  refine RG.vl rfl rfl rfl (Ev.move rfl rfl) ?_
  refine RG.call rfl rfl rfl rfl rfl rfl rfl en_30 (rdeg_ret _ _ _ ((hl.ext hxwl1)) (by omega)) ?_
  rintro _ w2 ⟨rfl, hx2⟩
  replace hxwl1 := Ex.tr hxwl1 hx2
  have hE3 := hx2
  refine RG.vl rfl rfl rfl (Ev.leq rfl rfl rfl) ?_
  refine RG.done ?_
  refine QW.then_ ?_
  refine CW.condP rfl (fun hc4 => ?_) (fun hc4 => ?_)
  · refine CW.skip ?_
    refine QW.then_ ?_
    refine CW.seq ?_
    refine CW.block ?_
    obtain ⟨c, hc⟩ : ∃ c, p[i]? = some c := ⟨_, List.getElem?_eq_getElem (by omega)⟩
    refine CW.region ?_
    refine RG.vl rfl rfl rfl (Ev.move rfl rfl) ?_
    refine RG.vl rfl rfl rfl (Ev.move rfl rfl) ?_
    refine RG.vl rfl rfl rfl (Ev.move rfl rfl) ?_
    refine RG.idxL rfl rfl rfl rfl rfl rfl Try.underlying39 sz_5 ((hl.ext hxwl1)) (hc) (fun p5 hp5b hp5 => ?_)
    refine RG.vl rfl rfl rfl (Ev.ld0 rfl rfl Try.underlying5 rfl (hp5) (rfl)) ?_
    refine RG.litO (os := [.tmp 15]) (enc := encN) ([c]) rfl rfl rfl rfl rfl rfl rfl Try.underlying39 inf_5 rfl rfl rfl rfl rfl encN_len rfl rfl (fun v6 wk7 hxwk7 hown8 hnew9 => ?_)
    have hsep10 : Sep v6 _ := Sep.of_new (Own.ext hown hE3) hnew9
    replace hxwl1 := Ex.tr hxwl1 hxwk7
    replace hE3 := Ex.tr hE3 hxwk7
    have hE11 := hxwk7
    refine RG.appO rfl rfl rfl rfl rfl rfl rfl Try.underlying39 inf_5 rfl rfl encN_len (fun _ => rfl) (Own.ext hown hE3) ((hown8.rdl encN_len)) (by show _ + 1 ≤ maxLen; simp only [maxLen]; omega) (by show (_ + 1) * _ ≤ _; omega) (hxwl1.size) (fun v12 wa13 hown14 hgr15 hat16 => ?_)
    have hsep18 := Sep.app (Sep.symm hsep10) hown8 hat16
    have hown17 := Own.grown hown8 hgr15 (fun k a b => (Sep.symm hsep10) k b a)
    replace hxwl1 := own_block (Own.ext hown hE3) hxwl1 hgr15 (Nat.le_refl _) hxwl1.size
    refine RG.vl rfl rfl rfl (Ev.assign rfl rfl) ?_
    refine RG.done ?_
    refine QW.blockN ?_
    refine QW.then_ ?_
    refine CW.region ?_
    refine RG.vl rfl rfl rfl (Ev.move rfl rfl) ?_
    refine RG.vl rfl rfl rfl (Ev.addI rfl rfl rfl (by omega)) ?_
    refine RG.vl rfl rfl rfl (Ev.assign rfl rfl) ?_
    refine RG.done ?_
    refine QW.sub (S' := [(0, _), (2, _), (3, _), (4, _)]) ⟨rfl, rfl, rfl, rfl, trivial⟩ ?_
    refine QW.round2 (i + 1) (v12) ⟨rfl, rfl, trivial⟩ ⟨rfl, rfl, trivial⟩ ⟨⟨by omega, by rw [take_more p i c hc]; exact hown14⟩, (Ex.tr hB0 hxwl1)⟩ (by omega)
  · refine CW.exit ?_
    refine QW.thenExit ?_
    refine QW.thenExit ?_
    refine QW.blockHit ?_
    refine QW.then_ ?_
    refine CW.seq ?_
    refine CW.region ?_
    refine RG.vl rfl rfl rfl (Ev.move rfl rfl) ?_
    refine RG.vl rfl rfl rfl (Ev.assign rfl rfl) ?_
    refine RG.done ?_
    refine QW.then_ ?_
    refine CW.ret ?_
    refine QW.ret1 rfl rfl ?_
    have hB := (Ex.tr hB0 hxwl1)
    have e : i = dg p := by omega
    rw [e] at hown
    exact ⟨(Own.ext hown hE3).low (by have := hB0.size; omega), hB⟩

set_option maxRecDepth 100000 in
set_option maxHeartbeats 1000000 in
theorem rsum_ret (u0 v0 : Value) (p q : List Nat) (w : World) (hl : RdL w 1 encN u0 p) (hm : RdL w 1 encN v0 q) (hlen : p.length ≤ 100000) (hlen2 : q.length ≤ 100000) (hp : El p) (hq : El q) :
    Ret Try.prog 41 [u0, v0] w (fun v w' => Own w' w.heap.size 5 1 encN v (tr (pa p q)) ∧ Ex w w') := by
  have hB0 : Ex w w := Ex.rfl_ _
  refine Ret.of Try.func41 rfl Try.ntmps41 rfl ?_
  refine CW.seq ?_
  refine CW.region ?_
  refine RG.vl rfl rfl rfl (Ev.assign rfl rfl) ?_
  refine RG.done ?_
  refine QW.then_ ?_
  refine CW.seq ?_
  refine CW.region ?_
  refine RG.vl rfl rfl rfl (Ev.assign rfl rfl) ?_
  refine RG.done ?_
  refine QW.then_ ?_
  refine CW.seq ?_
  refine CW.seq ?_
  refine CW.region ?_
  refine RG.vl rfl rfl rfl (Ev.assign rfl rfl) ?_
  refine RG.done ?_
  refine QW.then_ ?_
  refine CW.block ?_
  refine CW.loop2 [(0, _), (1, _), (4, _)] ⟨rfl, rfl, rfl, trivial⟩ (fun (i : Nat) (u : Value) => [(6, .int .i64 i), (5, u)]) (fun i u w' => (i ≤ max p.length q.length ∧ Own w' w.heap.size 5 1 encN u ((pa p q).take i)) ∧ Ex w w') (fun i u => max p.length q.length - i) (0) (.slice none 0 0) ⟨rfl, rfl, trivial⟩ ⟨⟨Nat.zero_le _, Own.nil_ _ _ _ _ _⟩, hB0⟩ ?_
  rintro i u wl1 ⟨⟨hi, hown⟩, hxwl1⟩
  refine CW.sub (S' := [(6, _), (5, _), (0, _), (1, _), (4, _)]) ⟨rfl, rfl, rfl, rfl, rfl, trivial⟩ ?_
  refine CW.seq ?_
  refine CW.seq ?_
  have hpal := pa_len p q
  have htl : ((pa p q).take i).length = i := by rw [List.length_take]; omega
  refine CW.region ?_
  refine RG.vl rfl rfl rfl (Ev.move rfl rfl) ?_
  refine RG.vl rfl rfl rfl (Ev.move rfl rfl) ?_
  refine RG.vl rfl rfl rfl (Ev.lenL rfl rfl rfl Try.underlying39 ((hl.ext hxwl1))) ?_
  refine RG.vl rfl rfl rfl (Ev.lss rfl rfl rfl) ?_
  refine RG.vl rfl rfl rfl (Ev.move rfl rfl) ?_
  refine RG.split (d := 11) rfl (fun hg2 => ?_) (fun hg2 => ?_)
  · refine RG.pass rfl rfl rfl ?_
    refine RG.pass rfl rfl rfl ?_
    refine RG.pass rfl rfl rfl ?_
    refine RG.pass rfl rfl rfl ?_
    refine RG.vl rfl rfl rfl (Ev.pickT rfl rfl rfl) ?_
    refine RG.done ?_
    refine QW.then_ ?_
    refine CW.condT rfl ?_
    refine CW.skip ?_
    refine QW.then_ ?_
    refine CW.seq ?_
    refine CW.block ?_
    have h1 := hp.cf i
    have h2 := hq.cf i
    refine CW.region ?_
    refine RG.vl rfl rfl rfl (Ev.move rfl rfl) ?_
    refine RG.vl rfl rfl rfl (Ev.move rfl rfl) ?_
    refine RG.vl rfl rfl rfl (Ev.move rfl rfl) ?_
    refine RG.call rfl rfl rfl rfl rfl rfl rfl en_55 (coef_ret _ _ _ _ ((hl.ext hxwl1))) ?_
    rintro _ w3 ⟨rfl, hx3⟩
    replace hxwl1 := Ex.tr hxwl1 hx3
    have hE4 := hx3
    refine RG.vl rfl rfl rfl (Ev.move rfl rfl) ?_
    refine RG.vl rfl rfl rfl (Ev.move rfl rfl) ?_
    refine RG.call rfl rfl rfl rfl rfl rfl rfl en_55 (coef_ret _ _ _ _ ((hm.ext hxwl1))) ?_
    rintro _ w5 ⟨rfl, hx5⟩
    replace hxwl1 := Ex.tr hxwl1 hx5
    replace hE4 := Ex.tr hE4 hx5
    have hE6 := hx5
    refine RG.vl rfl rfl rfl (Ev.xor8 rfl rfl rfl (by omega) (by omega)) ?_
    refine RG.litO (os := [.tmp 26]) (enc := encN) ([cf p i ^^^ cf q i]) rfl rfl rfl rfl rfl rfl rfl Try.underlying39 inf_5 rfl rfl rfl rfl rfl encN_len rfl rfl (fun v7 wk8 hxwk8 hown9 hnew10 => ?_)
    replace hxwl1 := Ex.tr hxwl1 hxwk8
    replace hE4 := Ex.tr hE4 hxwk8
    replace hE6 := Ex.tr hE6 hxwk8
    have hE11 := hxwk8
    refine RG.appO rfl rfl rfl rfl rfl rfl rfl Try.underlying39 inf_5 rfl rfl encN_len (fun _ => rfl) (Own.ext hown hE4) ((hown9.rdl encN_len)) (by show _ + 1 ≤ maxLen; simp only [maxLen]; omega) (by show (_ + 1) * _ ≤ _; omega) (hxwl1.size) (fun v12 wa13 hown14 hgr15 hat16 => ?_)
    replace hxwl1 := own_block (Own.ext hown hE4) hxwl1 hgr15 (Nat.le_refl _) hxwl1.size
    refine RG.vl rfl rfl rfl (Ev.assign rfl rfl) ?_
    refine RG.done ?_
    refine QW.sub (S' := [(0, _), (1, _), (4, _), (5, _), (6, _)]) ⟨rfl, rfl, rfl, rfl, rfl, trivial⟩ ?_
    refine QW.blockN ?_
    refine QW.then_ ?_
    refine CW.region ?_
    refine RG.vl rfl rfl rfl (Ev.move rfl rfl) ?_
    refine RG.vl rfl rfl rfl (Ev.addI rfl rfl rfl (by omega)) ?_
    refine RG.vl rfl rfl rfl (Ev.assign rfl rfl) ?_
    refine RG.done ?_
    refine QW.round2 (i + 1) (v12) ⟨rfl, rfl, trivial⟩ ⟨rfl, rfl, rfl, trivial⟩ ⟨⟨by omega, by rw [take_more _ i _ (pa_at (by omega))]; exact hown14⟩, (Ex.tr hB0 hxwl1)⟩ (by omega)
  · refine RG.vl rfl rfl rfl (Ev.move rfl rfl) ?_
    refine RG.vl rfl rfl rfl (Ev.move rfl rfl) ?_
    refine RG.vl rfl rfl rfl (Ev.lenL rfl rfl rfl Try.underlying39 ((hm.ext hxwl1))) ?_
    refine RG.vl rfl rfl rfl (Ev.lss rfl rfl rfl) ?_
    refine RG.vl rfl rfl rfl (Ev.pickF rfl rfl rfl) ?_
    refine RG.done ?_
    refine QW.then_ ?_
    refine CW.condP rfl (fun hc17 => ?_) (fun hc17 => ?_)
    · refine CW.skip ?_
      refine QW.then_ ?_
      refine CW.seq ?_
      refine CW.block ?_
      have h1 := hp.cf i
      have h2 := hq.cf i
      refine CW.region ?_
      refine RG.vl rfl rfl rfl (Ev.move rfl rfl) ?_
      refine RG.vl rfl rfl rfl (Ev.move rfl rfl) ?_
      refine RG.vl rfl rfl rfl (Ev.move rfl rfl) ?_
      refine RG.call rfl rfl rfl rfl rfl rfl rfl en_55 (coef_ret _ _ _ _ ((hl.ext hxwl1))) ?_
      rintro _ w18 ⟨rfl, hx18⟩
      replace hxwl1 := Ex.tr hxwl1 hx18
      have hE19 := hx18
      refine RG.vl rfl rfl rfl (Ev.move rfl rfl) ?_
      refine RG.vl rfl rfl rfl (Ev.move rfl rfl) ?_
      refine RG.call rfl rfl rfl rfl rfl rfl rfl en_55 (coef_ret _ _ _ _ ((hm.ext hxwl1))) ?_
      rintro _ w20 ⟨rfl, hx20⟩
      replace hxwl1 := Ex.tr hxwl1 hx20
      replace hE19 := Ex.tr hE19 hx20
      have hE21 := hx20
      refine RG.vl rfl rfl rfl (Ev.xor8 rfl rfl rfl (by omega) (by omega)) ?_
      refine RG.litO (os := [.tmp 26]) (enc := encN) ([cf p i ^^^ cf q i]) rfl rfl rfl rfl rfl rfl rfl Try.underlying39 inf_5 rfl rfl rfl rfl rfl encN_len rfl rfl (fun v22 wk23 hxwk23 hown24 hnew25 => ?_)
      replace hxwl1 := Ex.tr hxwl1 hxwk23
      replace hE19 := Ex.tr hE19 hxwk23
      replace hE21 := Ex.tr hE21 hxwk23
      have hE26 := hxwk23
      refine RG.appO rfl rfl rfl rfl rfl rfl rfl Try.underlying39 inf_5 rfl rfl encN_len (fun _ => rfl) (Own.ext hown hE19) ((hown24.rdl encN_len)) (by show _ + 1 ≤ maxLen; simp only [maxLen]; omega) (by show (_ + 1) * _ ≤ _; omega) (hxwl1.size) (fun v27 wa28 hown29 hgr30 hat31 => ?_)
      replace hxwl1 := own_block (Own.ext hown hE19) hxwl1 hgr30 (Nat.le_refl _) hxwl1.size
      refine RG.vl rfl rfl rfl (Ev.assign rfl rfl) ?_
      refine RG.done ?_
      refine QW.sub (S' := [(0, _), (1, _), (4, _), (5, _), (6, _)]) ⟨rfl, rfl, rfl, rfl, rfl, trivial⟩ ?_
      refine QW.blockN ?_
      refine QW.then_ ?_
      refine CW.region ?_
      refine RG.vl rfl rfl rfl (Ev.move rfl rfl) ?_
      refine RG.vl rfl rfl rfl (Ev.addI rfl rfl rfl (by omega)) ?_
      refine RG.vl rfl rfl rfl (Ev.assign rfl rfl) ?_
      refine RG.done ?_
      refine QW.round2 (i + 1) (v27) ⟨rfl, rfl, trivial⟩ ⟨rfl, rfl, rfl, trivial⟩ ⟨⟨by omega, by rw [take_more _ i _ (pa_at (by omega))]; exact hown29⟩, (Ex.tr hB0 hxwl1)⟩ (by omega)
    · refine CW.exit ?_
      refine QW.thenExit ?_
      refine QW.thenExit ?_
      refine QW.blockHit ?_
      refine QW.then_ ?_
      refine CW.seq ?_
      refine CW.region ?_
      refine RG.vl rfl rfl rfl (Ev.move rfl rfl) ?_
      refine RG.call rfl rfl rfl rfl rfl rfl rfl en_40 (rtrim_ret _ _ _ ((hown.rdl encN_len)) (by omega)) ?_
      have hpre32 := (Ex.tr hB0 hxwl1)
      rintro vrt32 w32 ⟨hrt32, hx32⟩
      replace hxwl1 := Ex.tr hxwl1 hx32
      have hE33 := hx32
      refine RG.vl rfl rfl rfl (Ev.assign rfl rfl) ?_
      refine RG.done ?_
      refine QW.then_ ?_
      refine CW.ret ?_
      refine QW.ret1 rfl rfl ?_
      have hB := (Ex.tr hB0 hxwl1)
      have e : i = max p.length q.length := by omega
      have e2 : (pa p q).take i = pa p q := by rw [List.take_of_length_le (by rw [pa_len]; omega)]
      rw [e2] at hrt32
      exact ⟨hrt32.low (by have := hpre32.size; omega), hB⟩

set_option maxRecDepth 100000 in
set_option maxHeartbeats 1000000 in
theorem rprod_ret (u0 v0 : Value) (p q : List Nat) (w : World) (hl : RdL w 1 encN u0 p) (hm : RdL w 1 encN v0 q) (hlen : p.length ≤ 40000) (hlen2 : q.length ≤ 40000) (hp : El p) (hq : El q) :
    Ret Try.prog 42 [u0, v0] w (fun v w' => Own w' w.heap.size 5 1 encN v (tr (pm p q)) ∧ Ex w w') := by
  have hB0 : Ex w w := Ex.rfl_ _
  refine Ret.of Try.func42 rfl Try.ntmps42 rfl ?_
  refine CW.seq ?_
  refine CW.region ?_
  refine RG.vl rfl rfl rfl (Ev.assign rfl rfl) ?_
  refine RG.done ?_
  refine QW.then_ ?_
  refine CW.seq ?_
  refine CW.region ?_
  refine RG.vl rfl rfl rfl (Ev.assign rfl rfl) ?_
  refine RG.done ?_
  refine QW.then_ ?_
  refine CW.seq ?_
  refine CW.seq ?_
  refine CW.region ?_
  refine RG.vl rfl rfl rfl (Ev.assign rfl rfl) ?_
  refine RG.done ?_
  refine QW.then_ ?_
  refine CW.block ?_
  refine CW.loop2 [(0, _), (1, _), (4, _)] ⟨rfl, rfl, rfl, trivial⟩ (fun (i : Nat) (u : Value) => [(6, .int .i64 i), (5, u)]) (fun i u w' => (i ≤ (dg p + dg q - 1) ∧ Own w' w.heap.size 5 1 encN u (cfL (cf (pm p q)) i)) ∧ Ex w w') (fun i u => (dg p + dg q - 1) - i) (0) (.slice none 0 0) ⟨rfl, rfl, trivial⟩ ⟨⟨Nat.zero_le _, Own.nil_ _ _ _ _ _⟩, hB0⟩ ?_
  rintro i u wl1 ⟨⟨hi, hown⟩, hxwl1⟩
  refine CW.sub (S' := [(6, _), (5, _), (0, _), (1, _), (4, _)]) ⟨rfl, rfl, rfl, rfl, rfl, trivial⟩ ?_
  refine CW.seq ?_
  refine CW.seq ?_
  have hdl := dg_len p
  have hdl2 := dg_len q
  have htl := cfL_len (cf (pm p q)) i
  refine CW.region ?_
  refine RG.vl rfl rfl rfl (Ev.move rfl rfl) ?_
  refine RG.vl rfl rfl rfl (Ev.move rfl rfl) ?_
  refine RG.call rfl rfl rfl rfl rfl rfl rfl en_30 (rdeg_ret _ _ _ ((hl.ext hxwl1)) (by omega)) ?_
  rintro _ w2 ⟨rfl, hx2⟩
  replace hxwl1 := Ex.tr hxwl1 hx2
  have hE3 := hx2
  refine RG.vl rfl rfl rfl (Ev.move rfl rfl) ?_
  refine RG.call rfl rfl rfl rfl rfl rfl rfl en_30 (rdeg_ret _ _ _ ((hm.ext hxwl1)) (by omega)) ?_
  rintro _ w4 ⟨rfl, hx4⟩
  replace hxwl1 := Ex.tr hxwl1 hx4
  replace hE3 := Ex.tr hE3 hx4
  have hE5 := hx4
  refine RG.vl rfl rfl rfl (Ev.addI rfl rfl rfl (by omega)) ?_
  refine RG.vl rfl rfl rfl (Ev.leq rfl rfl rfl) ?_
  refine RG.done ?_
  refine QW.then_ ?_
  refine CW.condP rfl (fun hc6 => ?_) (fun hc6 => ?_)
  · refine CW.skip ?_
    refine QW.then_ ?_
    refine CW.seq ?_
    refine CW.block ?_
    refine CW.seq ?_
    refine CW.region ?_
    refine RG.vl rfl rfl rfl (Ev.assign rfl rfl) ?_
    refine RG.done ?_
    refine QW.then_ ?_
    refine CW.seq ?_
    refine CW.seq ?_
    refine CW.region ?_
    refine RG.vl rfl rfl rfl (Ev.assign rfl rfl) ?_
    refine RG.done ?_
    refine QW.then_ ?_
    refine CW.block ?_
    refine CW.loop1 [(0, _), (1, _), (4, _), (5, _), (6, _)] ⟨rfl, rfl, rfl, rfl, rfl, trivial⟩ (fun (k : Nat) => [(8, .int .i64 k), (7, .int .u8 (cvS p q i k : Int))]) (fun k w' => (k ≤ i + 1 ∧ Own w' w.heap.size 5 1 encN u (cfL (cf (pm p q)) i)) ∧ Ex w w') (fun k => i + 1 - k) (0) ⟨rfl, rfl, trivial⟩ ⟨⟨Nat.zero_le _, (Own.ext hown hE3)⟩, (Ex.tr hB0 hxwl1)⟩ ?_
    rintro k wl7 ⟨⟨hk, hown⟩, hxwl7⟩
    refine CW.sub (S' := [(8, _), (7, _), (0, _), (1, _), (4, _), (5, _), (6, _)]) ⟨rfl, rfl, rfl, rfl, rfl, rfl, rfl, trivial⟩ ?_
    refine CW.seq ?_
    refine CW.seq ?_
    refine CW.region ?_
    refine RG.vl rfl rfl rfl (Ev.move rfl rfl) ?_
    refine RG.vl rfl rfl rfl (Ev.move rfl rfl) ?_
    refine RG.vl rfl rfl rfl (Ev.leq rfl rfl rfl) ?_
    refine RG.done ?_
    refine QW.then_ ?_
    refine CW.condP rfl (fun hc8 => ?_) (fun hc8 => ?_)
    · refine CW.skip ?_
      refine QW.then_ ?_
      refine CW.seq ?_
      refine CW.block ?_
      have h1 := hp.cf k
      have h2 := hq.cf (i - k)
      have h3 := cvS_lt p q i k
      have h4 := gm_lt (cf p k) (cf q (i - k))
      refine CW.region ?_
      refine RG.vl rfl rfl rfl (Ev.move rfl rfl) ?_
      refine RG.vl rfl rfl rfl (Ev.move rfl rfl) ?_
      refine RG.vl rfl rfl rfl (Ev.move rfl rfl) ?_
      refine RG.call rfl rfl rfl rfl rfl rfl rfl en_55 (coef_ret _ _ _ _ ((hl.ext hxwl7))) ?_
      rintro _ w9 ⟨rfl, hx9⟩
      replace hxwl7 := Ex.tr hxwl7 hx9
      have hE10 := hx9
      refine RG.vl rfl rfl rfl (Ev.move rfl rfl) ?_
      refine RG.vl rfl rfl rfl (Ev.move rfl rfl) ?_
      refine RG.vl rfl rfl rfl (Ev.move rfl rfl) ?_
      refine RG.vl rfl rfl rfl ((Ev.subI rfl rfl rfl (by omega)).conv (congrArg (Value.int .i64) (show (i : Int) - (k : Int) = ((i - k : Nat) : Int) by omega))) ?_
      refine RG.call rfl rfl rfl rfl rfl rfl rfl en_55 (coef_ret _ _ _ _ ((hm.ext hxwl7))) ?_
      rintro _ w11 ⟨rfl, hx11⟩
      replace hxwl7 := Ex.tr hxwl7 hx11
      replace hE10 := Ex.tr hE10 hx11
      have hE12 := hx11
      refine RG.call rfl rfl rfl rfl rfl rfl rfl en_18 (rmul_ret _ _ _ (by exact h1) (by exact h2)) ?_
      rintro _ w13 ⟨rfl, hx13⟩
      replace hxwl7 := Ex.tr hxwl7 hx13
      replace hE10 := Ex.tr hE10 hx13
      replace hE12 := Ex.tr hE12 hx13
      have hE14 := hx13
      refine RG.vl rfl rfl rfl (Ev.xor8 rfl rfl rfl (by omega) (by omega)) ?_
      refine RG.vl rfl rfl rfl (Ev.assign rfl rfl) ?_
      refine RG.done ?_
      refine QW.sub (S' := [(0, _), (1, _), (4, _), (5, _), (6, _), (7, _), (8, _)]) ⟨rfl, rfl, rfl, rfl, rfl, rfl, rfl, trivial⟩ ?_
      refine QW.blockN ?_
      refine QW.then_ ?_
      refine CW.region ?_
      refine RG.vl rfl rfl rfl (Ev.move rfl rfl) ?_
      refine RG.vl rfl rfl rfl (Ev.addI rfl rfl rfl (by omega)) ?_
      refine RG.vl rfl rfl rfl (Ev.assign rfl rfl) ?_
      refine RG.done ?_
      refine QW.round1 (k + 1) ⟨rfl, rfl, trivial⟩ ⟨rfl, rfl, rfl, rfl, rfl, trivial⟩ ⟨⟨by omega, (Own.ext hown hE10)⟩, (Ex.tr hB0 hxwl7)⟩ (by omega)
    · refine CW.exit ?_
      refine QW.thenExit ?_
      refine QW.thenExit ?_
      refine QW.blockHit ?_
      refine QW.then_ ?_
      have hcv : cvS p q i k = cf (pm p q) i := by obtain rfl : k = i + 1 := (by omega); exact cvS_pm p q i
      refine CW.region ?_
      refine RG.vl rfl rfl rfl (Ev.move rfl rfl) ?_
      refine RG.vl rfl rfl rfl ((Ev.move rfl rfl).conv (congrArg (fun n : Nat => Value.int .u8 (n : Int)) hcv)) ?_
      refine RG.litO (os := [.tmp 35]) (enc := encN) ([cf (pm p q) i]) rfl rfl rfl rfl rfl rfl rfl Try.underlying39 inf_5 rfl rfl rfl rfl rfl encN_len rfl rfl (fun v15 wk16 hxwk16 hown17 hnew18 => ?_)
      replace hxwl7 := Ex.tr hxwl7 hxwk16
      have hE19 := hxwk16
      refine RG.appO rfl rfl rfl rfl rfl rfl rfl Try.underlying39 inf_5 rfl rfl encN_len (fun _ => rfl) (Own.ext hown hE19) ((hown17.rdl encN_len)) (by show _ + 1 ≤ maxLen; simp only [maxLen]; omega) (by show (_ + 1) * _ ≤ _; omega) (hxwl7.size) (fun v20 wa21 hown22 hgr23 hat24 => ?_)
      replace hxwl7 := own_block (Own.ext hown hE19) hxwl7 hgr23 (Nat.le_refl _) hxwl7.size
      refine RG.vl rfl rfl rfl (Ev.assign rfl rfl) ?_
      refine RG.done ?_
      refine QW.blockN ?_
      refine QW.then_ ?_
      refine CW.region ?_
      refine RG.vl rfl rfl rfl (Ev.move rfl rfl) ?_
      refine RG.vl rfl rfl rfl (Ev.addI rfl rfl rfl (by omega)) ?_
      refine RG.vl rfl rfl rfl (Ev.assign rfl rfl) ?_
      refine RG.done ?_
      refine QW.round2 (i + 1) (v20) ⟨rfl, rfl, trivial⟩ ⟨rfl, rfl, rfl, trivial⟩ ⟨⟨by omega, by rw [cfL_more]; exact hown22⟩, (Ex.tr hB0 hxwl7)⟩ (by omega)
  · refine CW.exit ?_
    refine QW.thenExit ?_
    refine QW.thenExit ?_
    refine QW.blockHit ?_
    refine QW.then_ ?_
    refine CW.seq ?_
    refine CW.region ?_
    refine RG.vl rfl rfl rfl (Ev.move rfl rfl) ?_
    refine RG.call rfl rfl rfl rfl rfl rfl rfl en_40 (rtrim_ret _ _ _ (((Own.ext hown hE3).rdl encN_len)) (by omega)) ?_
    have hpre25 := (Ex.tr hB0 hxwl1)
    rintro vrt25 w25 ⟨hrt25, hx25⟩
    replace hxwl1 := Ex.tr hxwl1 hx25
    replace hE3 := Ex.tr hE3 hx25
    replace hE5 := Ex.tr hE5 hx25
    have hE26 := hx25
    refine RG.vl rfl rfl rfl (Ev.assign rfl rfl) ?_
    refine RG.done ?_
    refine QW.then_ ?_
    refine CW.ret ?_
    refine QW.ret1 rfl rfl ?_
    have hB := (Ex.tr hB0 hxwl1)
    have e : i = (dg p + dg q - 1) := by omega
    rw [e, rprod_end] at hrt25
    exact ⟨hrt25.low (by have := hpre25.size; omega), hB⟩

set_option maxRecDepth 100000 in
set_option maxHeartbeats 1000000 in
theorem rshift_ret (u0 : Value) (p : List Nat) (c n : Nat) (w : World) (hl : RdL w 1 encN u0 p) (hlen : p.length ≤ 100000) (hn : n ≤ 100000) (hp : El p) (hc : c < 64) :
    Ret Try.prog 53 [u0, .int .u8 (c : Int), .int .i64 (n : Int)] w (fun v w' => Own w' w.heap.size 5 1 encN v (shl p c n) ∧ Ex w w') := by
  have hB0 : Ex w w := Ex.rfl_ _
  refine Ret.of Try.func53 rfl Try.ntmps53 rfl ?_
  refine CW.seq ?_
  refine CW.region ?_
  refine RG.vl rfl rfl rfl (Ev.assign rfl rfl) ?_
  refine RG.done ?_
  refine QW.then_ ?_
  refine CW.seq ?_
  refine CW.region ?_
  refine RG.vl rfl rfl rfl (Ev.move rfl rfl) ?_
  refine RG.makeO (m := n) (enc := encN) 0 rfl rfl rfl rfl rfl rfl (rfl) Try.underlying39 inf_5 encN_len rfl rfl (by omega) (by simp only [maxLen]; omega) (fun vz wk1 hxwk1 hown2 hnew3 => ?_)
  have hE4 := hxwk1
  refine RG.vl rfl rfl rfl (Ev.assign rfl rfl) ?_
  refine RG.done ?_
  refine QW.then_ ?_
  refine CW.seq ?_
  refine CW.seq ?_
  refine CW.region ?_
  refine RG.vl rfl rfl rfl (Ev.assign rfl rfl) ?_
  refine RG.done ?_
  refine QW.then_ ?_
  refine CW.block ?_
  refine CW.loop2 [(0, _), (1, _), (6, _)] ⟨rfl, rfl, rfl, trivial⟩ (fun (i : Nat) (u : Value) => [(8, .int .i64 i), (7, u)]) (fun i u w' => (i ≤ p.length ∧ Own w' w.heap.size 5 1 encN u (shl (p.take i) c n)) ∧ Ex w w') (fun i u => p.length - i) (0) (vz) ⟨rfl, rfl, trivial⟩ ⟨⟨Nat.zero_le _, by rw [List.take_zero, show shl [] c n = List.replicate n 0 from by unfold shl; simp]; exact hown2⟩, (Ex.tr hB0 hE4)⟩ ?_
  rintro i u wl5 ⟨⟨hi, hown⟩, hxwl5⟩
  refine CW.sub (S' := [(8, _), (7, _), (0, _), (1, _), (6, _)]) ⟨rfl, rfl, rfl, rfl, rfl, trivial⟩ ?_
  refine CW.seq ?_
  refine CW.seq ?_
  have htl := shl_len (p.take i) c n
  rw [List.length_take] at htl
  refine CW.region ?_
  refine RG.vl rfl rfl rfl (Ev.move rfl rfl) ?_
  refine RG.vl rfl rfl rfl (Ev.move rfl rfl) ?_
  refine RG.vl rfl rfl rfl (Ev.lenL rfl rfl rfl Try.underlying39 ((hl.ext hxwl5))) ?_
  refine RG.vl rfl rfl rfl (Ev.lss rfl rfl rfl) ?_
  refine RG.done ?_
  refine QW.then_ ?_
  refine CW.condP rfl (fun hc6 => ?_) (fun hc6 => ?_)
  · refine CW.skip ?_
    refine QW.then_ ?_
    refine CW.seq ?_
    refine CW.block ?_
    obtain ⟨a, ha⟩ : ∃ c, p[i]? = some c := ⟨_, List.getElem?_eq_getElem (by omega)⟩
    have ha64 := hp.get ha
    refine CW.region ?_
    refine RG.vl rfl rfl rfl (Ev.move rfl rfl) ?_
    refine RG.vl rfl rfl rfl (Ev.move rfl rfl) ?_
    refine RG.vl rfl rfl rfl (Ev.move rfl rfl) ?_
    refine RG.idxL rfl rfl rfl rfl rfl rfl Try.underlying39 sz_5 ((hl.ext hxwl5)) (ha) (fun p7 hp7b hp7 => ?_)
    refine RG.vl rfl rfl rfl (Ev.ld0 rfl rfl Try.underlying5 rfl (hp7) (rfl)) ?_
    refine RG.vl rfl rfl rfl (Ev.move rfl rfl) ?_
    refine RG.call rfl rfl rfl rfl rfl rfl rfl en_18 (rmul_ret _ _ _ (by exact ha64) (by exact hc)) ?_
    rintro _ w8 ⟨rfl, hx8⟩
    replace hxwl5 := Ex.tr hxwl5 hx8
    have hE9 := hx8
    refine RG.litO (os := [.tmp 23]) (enc := encN) ([gm a c]) rfl rfl rfl rfl rfl rfl rfl Try.underlying39 inf_5 rfl rfl rfl rfl rfl encN_len rfl rfl (fun v10 wk11 hxwk11 hown12 hnew13 => ?_)
    have hsep14 : Sep v10 _ := Sep.of_new (Own.ext hown hE9) hnew13
    replace hxwl5 := Ex.tr hxwl5 hxwk11
    replace hE9 := Ex.tr hE9 hxwk11
    have hE15 := hxwk11
    refine RG.appO rfl rfl rfl rfl rfl rfl rfl Try.underlying39 inf_5 rfl rfl encN_len (fun _ => rfl) (Own.ext hown hE9) ((hown12.rdl encN_len)) (by show _ + 1 ≤ maxLen; simp only [maxLen]; omega) (by show (_ + 1) * _ ≤ _; omega) (hxwl5.size) (fun v16 wa17 hown18 hgr19 hat20 => ?_)
    have hsep22 := Sep.app (Sep.symm hsep14) hown12 hat20
    have hown21 := Own.grown hown12 hgr19 (fun k a b => (Sep.symm hsep14) k b a)
    replace hxwl5 := own_block (Own.ext hown hE9) hxwl5 hgr19 (Nat.le_refl _) hxwl5.size
    refine RG.vl rfl rfl rfl (Ev.assign rfl rfl) ?_
    refine RG.done ?_
    refine QW.sub (S' := [(0, _), (1, _), (6, _), (7, _), (8, _)]) ⟨rfl, rfl, rfl, rfl, rfl, trivial⟩ ?_
    refine QW.blockN ?_
    refine QW.then_ ?_
    refine CW.region ?_
    refine RG.vl rfl rfl rfl (Ev.move rfl rfl) ?_
    refine RG.vl rfl rfl rfl (Ev.addI rfl rfl rfl (by omega)) ?_
    refine RG.vl rfl rfl rfl (Ev.assign rfl rfl) ?_
    refine RG.done ?_
    refine QW.round2 (i + 1) (v16) ⟨rfl, rfl, trivial⟩ ⟨rfl, rfl, rfl, trivial⟩ ⟨⟨by omega, by rw [shl_more ha]; exact hown18⟩, (Ex.tr hB0 hxwl5)⟩ (by omega)
  · refine CW.exit ?_
    refine QW.thenExit ?_
    refine QW.thenExit ?_
    refine QW.blockHit ?_
    refine QW.then_ ?_
    refine CW.seq ?_
    refine CW.region ?_
    refine RG.vl rfl rfl rfl (Ev.move rfl rfl) ?_
    refine RG.vl rfl rfl rfl (Ev.assign rfl rfl) ?_
    refine RG.done ?_
    refine QW.then_ ?_
    refine CW.ret ?_
    refine QW.ret1 rfl rfl ?_
    have hB := (Ex.tr hB0 hxwl5)
    have e : i = p.length := by omega
    rw [e, List.take_length] at hown
    exact ⟨hown.low (by have := hB0.size; omega), hB⟩

set_option maxRecDepth 100000 in
set_option maxHeartbeats 1000000 in
theorem reval_ret (u0 : Value) (p : List Nat) (x : Nat) (w : World) (hl : RdL w 1 encN u0 p) (hlen : p.length ≤ 100000) (hp : El p) (hx : x < 64) :
    Ret Try.prog 29 [u0, .int .u8 (x : Int)] w (fun v w' => v = .int .u8 (evl p x : Int) ∧ Ex w w') := by
  have hB0 : Ex w w := Ex.rfl_ _
  refine Ret.of Try.func29 rfl Try.ntmps29 rfl ?_
  refine CW.seq ?_
  refine CW.region ?_
  refine RG.vl rfl rfl rfl (Ev.assign rfl rfl) ?_
  refine RG.done ?_
  refine QW.then_ ?_
  refine CW.seq ?_
  refine CW.region ?_
  refine RG.vl rfl rfl rfl (Ev.assign rfl rfl) ?_
  refine RG.vl rfl rfl rfl (Ev.assign rfl rfl) ?_
  refine RG.done ?_
  refine QW.then_ ?_
  refine CW.seq ?_
  refine CW.seq ?_
  refine CW.region ?_
  refine RG.vl rfl rfl rfl (Ev.assign rfl rfl) ?_
  refine RG.done ?_
  refine QW.then_ ?_
  refine CW.block ?_
  refine CW.loop1 [(0, _), (1, _), (4, _)] ⟨rfl, rfl, rfl, trivial⟩ (fun (i : Nat) => [(7, .int .i64 i), (5, .int .u8 (evs_ p x i : Int)), (6, .int .u8 (gp x i : Int))]) (fun i w' => (i ≤ p.length) ∧ Ex w w') (fun i => p.length - i) (0) ⟨rfl, rfl, rfl, trivial⟩ ⟨Nat.zero_le _, hB0⟩ ?_
  rintro i wl1 ⟨hi, hxwl1⟩
  refine CW.sub (S' := [(7, _), (5, _), (6, _), (0, _), (1, _), (4, _)]) ⟨rfl, rfl, rfl, rfl, rfl, rfl, trivial⟩ ?_
  have hev : ∀ n, evs_ p x n < 64 := fun n => by
    induction n with
    | zero => show 0 < 64; omega
    | succ n ih => exact xor_lt64 _ _ ih (gm_lt _ _)
  refine CW.seq ?_
  refine CW.seq ?_
  refine CW.region ?_
  refine RG.vl rfl rfl rfl (Ev.move rfl rfl) ?_
  refine RG.vl rfl rfl rfl (Ev.move rfl rfl) ?_
  refine RG.vl rfl rfl rfl (Ev.lenL rfl rfl rfl Try.underlying39 ((hl.ext hxwl1))) ?_
  refine RG.vl rfl rfl rfl (Ev.lss rfl rfl rfl) ?_
  refine RG.done ?_
  refine QW.then_ ?_
  refine CW.condP rfl (fun hc2 => ?_) (fun hc2 => ?_)
  · refine CW.skip ?_
    refine QW.then_ ?_
    refine CW.seq ?_
    refine CW.block ?_
    refine CW.seq ?_
    have hk : p[i]? = some (cf p i) := getElem?_cf (by omega)
    have h1 := hp.cf i
    have h2 := gp_lt x i
    have h3 := hev i
    have h4 := gm_lt (cf p i) (gp x i)
    refine CW.region ?_
    refine RG.vl rfl rfl rfl (Ev.move rfl rfl) ?_
    refine RG.vl rfl rfl rfl (Ev.move rfl rfl) ?_
    refine RG.vl rfl rfl rfl (Ev.move rfl rfl) ?_
    refine RG.idxL rfl rfl rfl rfl rfl rfl Try.underlying39 sz_5 ((hl.ext hxwl1)) (hk) (fun p3 hp3b hp3 => ?_)
    refine RG.vl rfl rfl rfl (Ev.ld0 rfl rfl Try.underlying5 rfl (hp3) (rfl)) ?_
    refine RG.vl rfl rfl rfl (Ev.move rfl rfl) ?_
    refine RG.call rfl rfl rfl rfl rfl rfl rfl en_18 (rmul_ret _ _ _ (by exact h1) (by exact h2)) ?_
    rintro _ w4 ⟨rfl, hx4⟩
    replace hxwl1 := Ex.tr hxwl1 hx4
    have hE5 := hx4
    refine RG.vl rfl rfl rfl (Ev.xor8 rfl rfl rfl (by omega) (by omega)) ?_
    refine RG.vl rfl rfl rfl (Ev.assign rfl rfl) ?_
    refine RG.done ?_
    refine QW.then_ ?_
    refine CW.region ?_
    refine RG.vl rfl rfl rfl (Ev.move rfl rfl) ?_
    refine RG.vl rfl rfl rfl (Ev.move rfl rfl) ?_
    refine RG.call rfl rfl rfl rfl rfl rfl rfl en_18 (rmul_ret _ _ _ (by exact gp_lt x i) (by exact hx)) ?_
    rintro _ w6 ⟨rfl, hx6⟩
    replace hxwl1 := Ex.tr hxwl1 hx6
    replace hE5 := Ex.tr hE5 hx6
    have hE7 := hx6
    refine RG.vl rfl rfl rfl (Ev.assign rfl rfl) ?_
    refine RG.done ?_
    refine QW.sub (S' := [(0, _), (1, _), (4, _), (5, _), (6, _), (7, _)]) ⟨rfl, rfl, rfl, rfl, rfl, rfl, trivial⟩ ?_
    refine QW.blockN ?_
    refine QW.then_ ?_
    refine CW.region ?_
    refine RG.vl rfl rfl rfl (Ev.move rfl rfl) ?_
    refine RG.vl rfl rfl rfl (Ev.addI rfl rfl rfl (by omega)) ?_
    refine RG.vl rfl rfl rfl (Ev.assign rfl rfl) ?_
    refine RG.done ?_
    refine QW.round1 (i + 1) ⟨rfl, rfl, rfl, trivial⟩ ⟨rfl, rfl, rfl, trivial⟩ ⟨by omega, (Ex.tr hB0 hxwl1)⟩ (by omega)
  · refine CW.exit ?_
    refine QW.thenExit ?_
    refine QW.thenExit ?_
    refine QW.blockHit ?_
    refine QW.then_ ?_
    refine CW.seq ?_
    refine CW.region ?_
    refine RG.vl rfl rfl rfl (Ev.move rfl rfl) ?_
    refine RG.vl rfl rfl rfl (Ev.assign rfl rfl) ?_
    refine RG.done ?_
    refine QW.then_ ?_
    refine CW.ret ?_
    refine QW.ret1 rfl rfl ?_
    have hB := (Ex.tr hB0 hxwl1)
    obtain rfl : i = p.length := by omega
    rw [evs_evl x hx p hp]
    exact ⟨rfl, hB⟩

set_option maxRecDepth 100000 in
set_option maxHeartbeats 1000000 in
theorem rroots_ret (u0 : Value) (p : List Nat) (w : World) (hl : RdL w 1 encN u0 p) (hlen : p.length ≤ 100000) (hp : El p) :
    Ret Try.prog 32 [u0] w (fun v w' => Own w' w.heap.size 5 1 encN v (rootsOf p) ∧ Ex w w') := by
  have hB0 : Ex w w := Ex.rfl_ _
  refine Ret.of Try.func32 rfl Try.ntmps32 rfl ?_
  refine CW.seq ?_
  refine CW.region ?_
  refine RG.vl rfl rfl rfl (Ev.assign rfl rfl) ?_
  refine RG.done ?_
  refine QW.then_ ?_
  refine CW.seq ?_
  refine CW.region ?_
  refine RG.vl rfl rfl rfl (Ev.assign rfl rfl) ?_
  refine RG.done ?_
  refine QW.then_ ?_
  refine CW.seq ?_
  refine CW.seq ?_
  refine CW.region ?_
  refine RG.vl rfl rfl rfl (Ev.assign rfl rfl) ?_
  refine RG.done ?_
  refine QW.then_ ?_
  refine CW.block ?_
  refine CW.loop2 [(0, _), (2, _)] ⟨rfl, rfl, trivial⟩ (fun (k : Nat) (u : Value) => [(4, .int .u8 (k : Int)), (3, u)]) (fun k u w' => (k ≤ 64 ∧ Own w' w.heap.size 5 1 encN u (rootsTo p k)) ∧ Ex w w') (fun k u => 64 - k) (0) (.slice none 0 0) ⟨rfl, rfl, trivial⟩ ⟨⟨by omega, Own.nil_ _ _ _ _ _⟩, hB0⟩ ?_
  rintro k u wl1 ⟨⟨hk, hown⟩, hxwl1⟩
  refine CW.sub (S' := [(4, _), (3, _), (0, _), (2, _)]) ⟨rfl, rfl, rfl, rfl, trivial⟩ ?_
  refine CW.seq ?_
  refine CW.seq ?_
  refine CW.region ?_
  refine RG.vl rfl rfl rfl (Ev.move rfl rfl) ?_
  refine RG.vl rfl rfl rfl (Ev.lss rfl rfl rfl) ?_
  refine RG.done ?_
  refine QW.then_ ?_
  refine CW.condP rfl (fun hc2 => ?_) (fun hc2 => ?_)
  · refine CW.skip ?_
    refine QW.then_ ?_
    refine CW.seq ?_
    refine CW.block ?_
    refine CW.seq ?_
    have hk64 : k < 64 := by omega
    refine CW.region ?_
    refine RG.vl rfl rfl rfl (Ev.move rfl rfl) ?_
    refine RG.vl rfl rfl rfl (Ev.move rfl rfl) ?_
    refine RG.call rfl rfl rfl rfl rfl rfl rfl en_29 (reval_ret _ _ _ _ ((hl.ext hxwl1)) (by omega) (by exact hp) (by exact hk64)) ?_
    rintro _ w3 ⟨rfl, hx3⟩
    replace hxwl1 := Ex.tr hxwl1 hx3
    have hE4 := hx3
    refine RG.vl rfl rfl rfl (Ev.eqI rfl rfl rfl) ?_
    refine RG.done ?_
    refine QW.then_ ?_
    refine CW.condP rfl (fun hc5 => ?_) (fun hc5 => ?_)
    · have hrl := rootsTo_len p k
      refine CW.region ?_
      refine RG.vl rfl rfl rfl (Ev.move rfl rfl) ?_
      refine RG.vl rfl rfl rfl (Ev.move rfl rfl) ?_
      refine RG.litO (os := [.tmp 14]) (enc := encN) ([k]) rfl rfl rfl rfl rfl rfl rfl Try.underlying39 inf_5 rfl rfl rfl rfl rfl encN_len rfl rfl (fun v6 wk7 hxwk7 hown8 hnew9 => ?_)
      have hsep10 : Sep v6 _ := Sep.of_new (Own.ext hown hE4) hnew9
      replace hxwl1 := Ex.tr hxwl1 hxwk7
      replace hE4 := Ex.tr hE4 hxwk7
      have hE11 := hxwk7
      refine RG.appO rfl rfl rfl rfl rfl rfl rfl Try.underlying39 inf_5 rfl rfl encN_len (fun _ => rfl) (Own.ext hown hE4) ((hown8.rdl encN_len)) (by show _ + 1 ≤ maxLen; simp only [maxLen]; omega) (by show (_ + 1) * _ ≤ _; omega) (hxwl1.size) (fun v12 wa13 hown14 hgr15 hat16 => ?_)
      have hsep18 := Sep.app (Sep.symm hsep10) hown8 hat16
      have hown17 := Own.grown hown8 hgr15 (fun k a b => (Sep.symm hsep10) k b a)
      replace hxwl1 := own_block (Own.ext hown hE4) hxwl1 hgr15 (Nat.le_refl _) hxwl1.size
      refine RG.vl rfl rfl rfl (Ev.assign rfl rfl) ?_
      refine RG.done ?_
      refine QW.blockN ?_
      refine QW.then_ ?_
      refine CW.region ?_
      refine RG.vl rfl rfl rfl (Ev.move rfl rfl) ?_
      refine RG.vl rfl rfl rfl (Ev.add8 rfl rfl rfl (by omega)) ?_
      refine RG.vl rfl rfl rfl (Ev.assign rfl rfl) ?_
      refine RG.done ?_
      refine QW.sub (S' := [(0, _), (2, _), (3, _), (4, _)]) ⟨rfl, rfl, rfl, rfl, trivial⟩ ?_
      refine QW.round2 (k + 1) (v12) ⟨rfl, rfl, trivial⟩ ⟨rfl, rfl, trivial⟩ ⟨⟨by omega, by rw [rootsTo_hit (by omega)]; exact hown14⟩, (Ex.tr hB0 hxwl1)⟩ (by omega)
    · refine CW.skip ?_
      refine QW.blockN ?_
      refine QW.then_ ?_
      refine CW.region ?_
      refine RG.vl rfl rfl rfl (Ev.move rfl rfl) ?_
      refine RG.vl rfl rfl rfl (Ev.add8 rfl rfl rfl (by omega)) ?_
      refine RG.vl rfl rfl rfl (Ev.assign rfl rfl) ?_
      refine RG.done ?_
      refine QW.round2 (k + 1) (u) ⟨rfl, rfl, trivial⟩ ⟨rfl, rfl, trivial⟩ ⟨⟨by omega, by rw [rootsTo_miss (by omega)]; exact (Own.ext hown hE4)⟩, (Ex.tr hB0 hxwl1)⟩ (by omega)
  · refine CW.exit ?_
    refine QW.thenExit ?_
    refine QW.thenExit ?_
    refine QW.blockHit ?_
    refine QW.then_ ?_
    refine CW.seq ?_
    refine CW.region ?_
    refine RG.vl rfl rfl rfl (Ev.move rfl rfl) ?_
    refine RG.vl rfl rfl rfl (Ev.assign rfl rfl) ?_
    refine RG.done ?_
    refine QW.then_ ?_
    refine CW.ret ?_
    refine QW.ret1 rfl rfl ?_
    have hB := (Ex.tr hB0 hxwl1)
    obtain rfl : k = 64 := by omega
    exact ⟨hown.low (by have := hB0.size; omega), hB⟩

end Go.Proofs.Ytjaledljhiihmaa
