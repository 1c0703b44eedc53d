/- Walks (RH). Written by program. -/
import Derived.Test.YtjhgihgggofocaaT
import Derived.Test.YtjhgihgggofocaaRG
namespace Go.Proofs.Ytjhgihgggofocaa
open Go.RowKit
set_option maxRecDepth 100000 in
set_option maxHeartbeats 1000000 in
theorem rtrim_ret (u0 : Value) (p : List Nat) (w : World) (hl : RdL w 1 encN u0 p) (hlen : p.length ≤ 100000) :
    Ret Try.prog 67 [u0] w (fun v w' => Own w' w.heap.size 5 1 encN v (tr p) ∧ Ex w w') := by
  have hB0 : Ex w w := Ex.rfl_ _
  refine Ret.of Try.func67 rfl Try.ntmps67 rfl ?_
  refine CW.seq ?_
  refine CW.region ?_
  refine RG.vl rfl rfl rfl (Ev.assign rfl rfl) ?_
  refine RG.done ?_
  refine QW.then_ ?_
  refine CW.seq ?_
  refine CW.region ?_
  refine RG.vl rfl rfl rfl (Ev.assign rfl rfl) ?_
  refine RG.done ?_
  refine QW.then_ ?_
  refine CW.seq ?_
  refine CW.seq ?_
  refine CW.region ?_
  refine RG.vl rfl rfl rfl (Ev.assign rfl rfl) ?_
  refine RG.done ?_
  refine QW.then_ ?_
  refine CW.block ?_
  refine CW.loop2 [(0, _), (2, _)] ⟨rfl, rfl, trivial⟩ (fun (i : Nat) (u : Value) => [(4, .int .i64 i), (3, u)]) (fun i u w' => (i ≤ dg p ∧ Own w' w.heap.size 5 1 encN u (p.take i)) ∧ Ex w w') (fun i u => dg p - i) (0) (.slice none 0 0) ⟨rfl, rfl, trivial⟩ ⟨⟨Nat.zero_le _, Own.nil_ _ _ _ _ _⟩, hB0⟩ ?_
  rintro i u wl1 ⟨⟨hi, hown⟩, hxwl1⟩
  refine CW.sub (S' := [(4, _), (3, _), (0, _), (2, _)]) ⟨rfl, rfl, rfl, rfl, trivial⟩ ?_
  refine CW.seq ?_
  refine CW.seq ?_
  have hdl := dg_len p
  have htl : (p.take i).length = i := by rw [List.length_take]; omega
  refine CW.region ?_
  refine RG.vl rfl rfl rfl (Ev.move rfl rfl) ?_
  refine RG.vl rfl rfl rfl (Ev.move rfl rfl) ?_
  refine RG.call rfl rfl rfl rfl rfl rfl rfl en_65 (rdeg_ret _ _ _ ((hl.ext hxwl1)) (by omega)) ?_
  rintro _ w2 ⟨rfl, hx2⟩
  replace hxwl1 := Ex.tr hxwl1 hx2
  have hE3 := hx2
  refine RG.vl rfl rfl rfl (Ev.leq rfl rfl rfl) ?_
  refine RG.done ?_
  refine QW.then_ ?_
  refine CW.condP rfl (fun hc4 => ?_) (fun hc4 => ?_)
  · refine CW.skip ?_
    refine QW.then_ ?_
    refine CW.seq ?_
    refine CW.block ?_
    obtain ⟨c, hc⟩ : ∃ c, p[i]? = some c := ⟨_, List.getElem?_eq_getElem (by omega)⟩
    refine CW.region ?_
    refine RG.vl rfl rfl rfl (Ev.move rfl rfl) ?_
    refine RG.vl rfl rfl rfl (Ev.move rfl rfl) ?_
    refine RG.vl rfl rfl rfl (Ev.move rfl rfl) ?_
    refine RG.idxL rfl rfl rfl rfl rfl rfl Try.underlying22 sz_5 ((hl.ext hxwl1)) (hc) (fun p5 hp5b hp5 => ?_)
    refine RG.vl rfl rfl rfl (Ev.ld0 rfl rfl Try.underlying5 rfl (hp5) (rfl)) ?_
    refine RG.litO (os := [.tmp 15]) (enc := encN) ([c]) rfl rfl rfl rfl rfl rfl rfl Try.underlying22 inf_5 rfl rfl rfl rfl rfl encN_len rfl rfl (fun v6 wk7 hxwk7 hown8 hnew9 => ?_)
    have hsep10 : Sep v6 _ := Sep.of_new (Own.ext hown hE3) hnew9
    replace hxwl1 := Ex.tr hxwl1 hxwk7
    replace hE3 := Ex.tr hE3 hxwk7
    have hE11 := hxwk7
    refine RG.appO rfl rfl rfl rfl rfl rfl rfl Try.underlying22 inf_5 rfl rfl encN_len (fun _ => rfl) (Own.ext hown hE3) ((hown8.rdl encN_len)) (by show _ + 1 ≤ maxLen; simp only [maxLen]; omega) (by show (_ + 1) * _ ≤ _; omega) (hxwl1.size) (fun v12 wa13 hown14 hgr15 hat16 => ?_)
    have hsep18 := Sep.app (Sep.symm hsep10) hown8 hat16
    have hown17 := Own.grown hown8 hgr15 (fun k a b => (Sep.symm hsep10) k b a)
    replace hxwl1 := own_block (Own.ext hown hE3) hxwl1 hgr15 (Nat.le_refl _) hxwl1.size
    refine RG.vl rfl rfl rfl (Ev.assign rfl rfl) ?_
    refine RG.done ?_
    refine QW.blockN ?_
    refine QW.then_ ?_
    refine CW.region ?_
    refine RG.vl rfl rfl rfl (Ev.move rfl rfl) ?_
    refine RG.vl rfl rfl rfl (Ev.addI rfl rfl rfl (by omega)) ?_
    refine RG.vl rfl rfl rfl (Ev.assign rfl rfl) ?_
    refine RG.done ?_
    refine QW.sub (S' := [(0, _), (2, _), (3, _), (4, _)]) ⟨rfl, rfl, rfl, rfl, trivial⟩ ?_
    refine QW.round2 (i + 1) (v12) ⟨rfl, rfl, trivial⟩ ⟨rfl, rfl, trivial⟩ ⟨⟨by omega, by rw [take_more p i c hc]; exact hown14⟩, (Ex.tr hB0 hxwl1)⟩ (by omega)
  · refine CW.exit ?_
    refine QW.thenExit ?_
    refine QW.thenExit ?_
    refine QW.blockHit ?_
    refine QW.then_ ?_
    refine CW.seq ?_
    refine CW.region ?_
    refine RG.vl rfl rfl rfl (Ev.move rfl rfl) ?_
    refine RG.vl rfl rfl rfl (Ev.assign rfl rfl) ?_
    refine RG.done ?_
    refine QW.then_ ?_
    refine CW.ret ?_
    refine QW.ret1 rfl rfl ?_
    have hB := (Ex.tr hB0 hxwl1)
    have e : i = dg p := by omega
    rw [e] at hown
    exact ⟨(Own.ext hown hE3).low (by have := hB0.size; omega), hB⟩

set_option maxRecDepth 100000 in
set_option maxHeartbeats 1000000 in
theorem rsum_ret (u0 v0 : Value) (p q : List Nat) (w : World) (hl : RdL w 1 encN u0 p) (hm : RdL w 1 encN v0 q) (hlen : p.length ≤ 100000) (hlen2 : q.length ≤ 100000) (hp : El p) (hq : El q) :
    Ret Try.prog 68 [u0, v0] w (fun v w' => Own w' w.heap.size 5 1 encN v (tr (pa p q)) ∧ Ex w w') := by
  have hB0 : Ex w w := Ex.rfl_ _
  refine Ret.of Try.func68 rfl Try.ntmps68 rfl ?_
  refine CW.seq ?_
  refine CW.region ?_
  refine RG.vl rfl rfl rfl (Ev.assign rfl rfl) ?_
  refine RG.done ?_
  refine QW.then_ ?_
  refine CW.seq ?_
  refine CW.region ?_
  refine RG.vl rfl rfl rfl (Ev.assign rfl rfl) ?_
  refine RG.done ?_
  refine QW.then_ ?_
  refine CW.seq ?_
  refine CW.seq ?_
  refine CW.region ?_
  refine RG.vl rfl rfl rfl (Ev.assign rfl rfl) ?_
  refine RG.done ?_
  refine QW.then_ ?_
  refine CW.block ?_
  refine CW.loop2 [(0, _), (1, _), (4, _)] ⟨rfl, rfl, rfl, trivial⟩ (fun (i : Nat) (u : Value) => [(6, .int .i64 i), (5, u)]) (fun i u w' => (i ≤ max p.length q.length ∧ Own w' w.heap.size 5 1 encN u ((pa p q).take i)) ∧ Ex w w') (fun i u => max p.length q.length - i) (0) (.slice none 0 0) ⟨rfl, rfl, trivial⟩ ⟨⟨Nat.zero_le _, Own.nil_ _ _ _ _ _⟩, hB0⟩ ?_
  rintro i u wl1 ⟨⟨hi, hown⟩, hxwl1⟩
  refine CW.sub (S' := [(6, _), (5, _), (0, _), (1, _), (4, _)]) ⟨rfl, rfl, rfl, rfl, rfl, trivial⟩ ?_
  refine CW.seq ?_
  refine CW.seq ?_
  have hpal := pa_len p q
  have htl : ((pa p q).take i).length = i := by rw [List.length_take]; omega
  refine CW.region ?_
  refine RG.vl rfl rfl rfl (Ev.move rfl rfl) ?_
  refine RG.vl rfl rfl rfl (Ev.move rfl rfl) ?_
  refine RG.vl rfl rfl rfl (Ev.lenL rfl rfl rfl Try.underlying22 ((hl.ext hxwl1))) ?_
  refine RG.vl rfl rfl rfl (Ev.lss rfl rfl rfl) ?_
  refine RG.vl rfl rfl rfl (Ev.move rfl rfl) ?_
  refine RG.split (d := 11) rfl (fun hg2 => ?_) (fun hg2 => ?_)
  · refine RG.pass rfl rfl rfl ?_
    refine RG.pass rfl rfl rfl ?_
    refine RG.pass rfl rfl rfl ?_
    refine RG.pass rfl rfl rfl ?_
    refine RG.vl rfl rfl rfl (Ev.pickT rfl rfl rfl) ?_
    refine RG.done ?_
    refine QW.then_ ?_
    refine CW.condT rfl ?_
    refine CW.skip ?_
    refine QW.then_ ?_
    refine CW.seq ?_
    refine CW.block ?_
    have h1 := hp.cf i
    have h2 := hq.cf i
    refine CW.region ?_
    refine RG.vl rfl rfl rfl (Ev.move rfl rfl) ?_
    refine RG.vl rfl rfl rfl (Ev.move rfl rfl) ?_
    refine RG.vl rfl rfl rfl (Ev.move rfl rfl) ?_
    refine RG.call rfl rfl rfl rfl rfl rfl rfl en_66 (coef_ret _ _ _ _ ((hl.ext hxwl1))) ?_
    rintro _ w3 ⟨rfl, hx3⟩
    replace hxwl1 := Ex.tr hxwl1 hx3
    have hE4 := hx3
    refine RG.vl rfl rfl rfl (Ev.move rfl rfl) ?_
    refine RG.vl rfl rfl rfl (Ev.move rfl rfl) ?_
    refine RG.call rfl rfl rfl rfl rfl rfl rfl en_66 (coef_ret _ _ _ _ ((hm.ext hxwl1))) ?_
    rintro _ w5 ⟨rfl, hx5⟩
    replace hxwl1 := Ex.tr hxwl1 hx5
    replace hE4 := Ex.tr hE4 hx5
    have hE6 := hx5
    refine RG.vl rfl rfl rfl (Ev.xor8 rfl rfl rfl (by omega) (by omega)) ?_
    refine RG.litO (os := [.tmp 26]) (enc := encN) ([cf p i ^^^ cf q i]) rfl rfl rfl rfl rfl rfl rfl Try.underlying22 inf_5 rfl rfl rfl rfl rfl encN_len rfl rfl (fun v7 wk8 hxwk8 hown9 hnew10 => ?_)
    replace hxwl1 := Ex.tr hxwl1 hxwk8
    replace hE4 := Ex.tr hE4 hxwk8
    replace hE6 := Ex.tr hE6 hxwk8
    have hE11 := hxwk8
    refine RG.appO rfl rfl rfl rfl rfl rfl rfl Try.underlying22 inf_5 rfl rfl encN_len (fun _ => rfl) (Own.ext hown hE4) ((hown9.rdl encN_len)) (by show _ + 1 ≤ maxLen; simp only [maxLen]; omega) (by show (_ + 1) * _ ≤ _; omega) (hxwl1.size) (fun v12 wa13 hown14 hgr15 hat16 => ?_)
    replace hxwl1 := own_block (Own.ext hown hE4) hxwl1 hgr15 (Nat.le_refl _) hxwl1.size
    refine RG.vl rfl rfl rfl (Ev.assign rfl rfl) ?_
    refine RG.done ?_
    refine QW.sub (S' := [(0, _), (1, _), (4, _), (5, _), (6, _)]) ⟨rfl, rfl, rfl, rfl, rfl, trivial⟩ ?_
    refine QW.blockN ?_
    refine QW.then_ ?_
    refine CW.region ?_
    refine RG.vl rfl rfl rfl (Ev.move rfl rfl) ?_
    refine RG.vl rfl rfl rfl (Ev.addI rfl rfl rfl (by omega)) ?_
    refine RG.vl rfl rfl rfl (Ev.assign rfl rfl) ?_
    refine RG.done ?_
    refine QW.round2 (i + 1) (v12) ⟨rfl, rfl, trivial⟩ ⟨rfl, rfl, rfl, trivial⟩ ⟨⟨by omega, by rw [take_more _ i _ (pa_at (by omega))]; exact hown14⟩, (Ex.tr hB0 hxwl1)⟩ (by omega)
  · refine RG.vl rfl rfl rfl (Ev.move rfl rfl) ?_
    refine RG.vl rfl rfl rfl (Ev.move rfl rfl) ?_
    refine RG.vl rfl rfl rfl (Ev.lenL rfl rfl rfl Try.underlying22 ((hm.ext hxwl1))) ?_
    refine RG.vl rfl rfl rfl (Ev.lss rfl rfl rfl) ?_
    refine RG.vl rfl rfl rfl (Ev.pickF rfl rfl rfl) ?_
    refine RG.done ?_
    refine QW.then_ ?_
    refine CW.condP rfl (fun hc17 => ?_) (fun hc17 => ?_)
    · refine CW.skip ?_
      refine QW.then_ ?_
      refine CW.seq ?_
      refine CW.block ?_
      have h1 := hp.cf i
      have h2 := hq.cf i
      refine CW.region ?_
      refine RG.vl rfl rfl rfl (Ev.move rfl rfl) ?_
      refine RG.vl rfl rfl rfl (Ev.move rfl rfl) ?_
      refine RG.vl rfl rfl rfl (Ev.move rfl rfl) ?_
      refine RG.call rfl rfl rfl rfl rfl rfl rfl en_66 (coef_ret _ _ _ _ ((hl.ext hxwl1))) ?_
      rintro _ w18 ⟨rfl, hx18⟩
      replace hxwl1 := Ex.tr hxwl1 hx18
      have hE19 := hx18
      refine RG.vl rfl rfl rfl (Ev.move rfl rfl) ?_
      refine RG.vl rfl rfl rfl (Ev.move rfl rfl) ?_
      refine RG.call rfl rfl rfl rfl rfl rfl rfl en_66 (coef_ret _ _ _ _ ((hm.ext hxwl1))) ?_
      rintro _ w20 ⟨rfl, hx20⟩
      replace hxwl1 := Ex.tr hxwl1 hx20
      replace hE19 := Ex.tr hE19 hx20
      have hE21 := hx20
      refine RG.vl rfl rfl rfl (Ev.xor8 rfl rfl rfl (by omega) (by omega)) ?_
      refine RG.litO (os := [.tmp 26]) (enc := encN) ([cf p i ^^^ cf q i]) rfl rfl rfl rfl rfl rfl rfl Try.underlying22 inf_5 rfl rfl rfl rfl rfl encN_len rfl rfl (fun v22 wk23 hxwk23 hown24 hnew25 => ?_)
      replace hxwl1 := Ex.tr hxwl1 hxwk23
      replace hE19 := Ex.tr hE19 hxwk23
      replace hE21 := Ex.tr hE21 hxwk23
      have hE26 := hxwk23
      refine RG.appO rfl rfl rfl rfl rfl rfl rfl Try.underlying22 inf_5 rfl rfl encN_len (fun _ => rfl) (Own.ext hown hE19) ((hown24.rdl encN_len)) (by show _ + 1 ≤ maxLen; simp only [maxLen]; omega) (by show (_ + 1) * _ ≤ _; omega) (hxwl1.size) (fun v27 wa28 hown29 hgr30 hat31 => ?_)
      replace hxwl1 := own_block (Own.ext hown hE19) hxwl1 hgr30 (Nat.le_refl _) hxwl1.size
      refine RG.vl rfl rfl rfl (Ev.assign rfl rfl) ?_
      refine RG.done ?_
      refine QW.sub (S' := [(0, _), (1, _), (4, _), (5, _), (6, _)]) ⟨rfl, rfl, rfl, rfl, rfl, trivial⟩ ?_
      refine QW.blockN ?_
      refine QW.then_ ?_
      refine CW.region ?_
      refine RG.vl rfl rfl rfl (Ev.move rfl rfl) ?_
      refine RG.vl rfl rfl rfl (Ev.addI rfl rfl rfl (by omega)) ?_
      refine RG.vl rfl rfl rfl (Ev.assign rfl rfl) ?_
      refine RG.done ?_
      refine QW.round2 (i + 1) (v27) ⟨rfl, rfl, trivial⟩ ⟨rfl, rfl, rfl, trivial⟩ ⟨⟨by omega, by rw [take_more _ i _ (pa_at (by omega))]; exact hown29⟩, (Ex.tr hB0 hxwl1)⟩ (by omega)
    · refine CW.exit ?_
      refine QW.thenExit ?_
      refine QW.thenExit ?_
      refine QW.blockHit ?_
      refine QW.then_ ?_
      refine CW.seq ?_
      refine CW.region ?_
      refine RG.vl rfl rfl rfl (Ev.move rfl rfl) ?_
      refine RG.call rfl rfl rfl rfl rfl rfl rfl en_67 (rtrim_ret _ _ _ ((hown.rdl encN_len)) (by omega)) ?_
      have hpre32 := (Ex.tr hB0 hxwl1)
      rintro vrt32 w32 ⟨hrt32, hx32⟩
      replace hxwl1 := Ex.tr hxwl1 hx32
      have hE33 := hx32
      refine RG.vl rfl rfl rfl (Ev.assign rfl rfl) ?_
      refine RG.done ?_
      refine QW.then_ ?_
      refine CW.ret ?_
      refine QW.ret1 rfl rfl ?_
      have hB := (Ex.tr hB0 hxwl1)
      have e : i = max p.length q.length := by omega
      have e2 : (pa p q).take i = pa p q := by rw [List.take_of_length_le (by rw [pa_len]; omega)]
      rw [e2] at hrt32
      exact ⟨hrt32.low (by have := hpre32.size; omega), hB⟩

set_option maxRecDepth 100000 in
set_option maxHeartbeats 1000000 in
theorem rprod_ret (u0 v0 : Value) (p q : List Nat) (w : World) (hl : RdL w 1 encN u0 p) (hm : RdL w 1 encN v0 q) (hlen : p.length ≤ 40000) (hlen2 : q.length ≤ 40000) (hp : El p) (hq : El q) :
    Ret Try.prog 47 [u0, v0] w (fun v w' => Own w' w.heap.size 5 1 encN v (tr (pm p q)) ∧ Ex w w') := by
  have hB0 : Ex w w := Ex.rfl_ _
  refine Ret.of Try.func47 rfl Try.ntmps47 rfl ?_
  refine CW.seq ?_
  refine CW.region ?_
  refine RG.vl rfl rfl rfl (Ev.assign rfl rfl) ?_
  refine RG.done ?_
  refine QW.then_ ?_
  refine CW.seq ?_
  refine CW.region ?_
  refine RG.vl rfl rfl rfl (Ev.assign rfl rfl) ?_
  refine RG.done ?_
  refine QW.then_ ?_
  refine CW.seq ?_
  refine CW.seq ?_
  refine CW.region ?_
  refine RG.vl rfl rfl rfl (Ev.assign rfl rfl) ?_
  refine RG.done ?_
  refine QW.then_ ?_
  refine CW.block ?_
  refine CW.loop2 [(0, _), (1, _), (4, _)] ⟨rfl, rfl, rfl, trivial⟩ (fun (i : Nat) (u : Value) => [(6, .int .i64 i), (5, u)]) (fun i u w' => (i ≤ (dg p + dg q - 1) ∧ Own w' w.heap.size 5 1 encN u (cfL (cf (pm p q)) i)) ∧ Ex w w') (fun i u => (dg p + dg q - 1) - i) (0) (.slice none 0 0) ⟨rfl, rfl, trivial⟩ ⟨⟨Nat.zero_le _, Own.nil_ _ _ _ _ _⟩, hB0⟩ ?_
  rintro i u wl1 ⟨⟨hi, hown⟩, hxwl1⟩
  refine CW.sub (S' := [(6, _), (5, _), (0, _), (1, _), (4, _)]) ⟨rfl, rfl, rfl, rfl, rfl, trivial⟩ ?_
  refine CW.seq ?_
  refine CW.seq ?_
  have hdl := dg_len p
  have hdl2 := dg_len q
  have htl := cfL_len (cf (pm p q)) i
  refine CW.region ?_
  refine RG.vl rfl rfl rfl (Ev.move rfl rfl) ?_
  refine RG.vl rfl rfl rfl (Ev.move rfl rfl) ?_
  refine RG.call rfl rfl rfl rfl rfl rfl rfl en_65 (rdeg_ret _ _ _ ((hl.ext hxwl1)) (by omega)) ?_
  rintro _ w2 ⟨rfl, hx2⟩
  replace hxwl1 := Ex.tr hxwl1 hx2
  have hE3 := hx2
  refine RG.vl rfl rfl rfl (Ev.move rfl rfl) ?_
  refine RG.call rfl rfl rfl rfl rfl rfl rfl en_65 (rdeg_ret _ _ _ ((hm.ext hxwl1)) (by omega)) ?_
  rintro _ w4 ⟨rfl, hx4⟩
  replace hxwl1 := Ex.tr hxwl1 hx4
  replace hE3 := Ex.tr hE3 hx4
  have hE5 := hx4
  refine RG.vl rfl rfl rfl (Ev.addI rfl rfl rfl (by omega)) ?_
  refine RG.vl rfl rfl rfl (Ev.leq rfl rfl rfl) ?_
  refine RG.done ?_
  refine QW.then_ ?_
  refine CW.condP rfl (fun hc6 => ?_) (fun hc6 => ?_)
  · refine CW.skip ?_
    refine QW.then_ ?_
    refine CW.seq ?_
    refine CW.block ?_
    refine CW.seq ?_
    refine CW.region ?_
    refine RG.vl rfl rfl rfl (Ev.assign rfl rfl) ?_
    refine RG.done ?_
    refine QW.then_ ?_
    refine CW.seq ?_
    refine CW.seq ?_
    refine CW.region ?_
    refine RG.vl rfl rfl rfl (Ev.assign rfl rfl) ?_
    refine RG.done ?_
    refine QW.then_ ?_
    refine CW.block ?_
    refine CW.loop1 [(0, _), (1, _), (4, _), (5, _), (6, _)] ⟨rfl, rfl, rfl, rfl, rfl, trivial⟩ (fun (k : Nat) => [(8, .int .i64 k), (7, .int .u8 (cvS p q i k : Int))]) (fun k w' => (k ≤ i + 1 ∧ Own w' w.heap.size 5 1 encN u (cfL (cf (pm p q)) i)) ∧ Ex w w') (fun k => i + 1 - k) (0) ⟨rfl, rfl, trivial⟩ ⟨⟨Nat.zero_le _, (Own.ext hown hE3)⟩, (Ex.tr hB0 hxwl1)⟩ ?_
    rintro k wl7 ⟨⟨hk, hown⟩, hxwl7⟩
    refine CW.sub (S' := [(8, _), (7, _), (0, _), (1, _), (4, _), (5, _), (6, _)]) ⟨rfl, rfl, rfl, rfl, rfl, rfl, rfl, trivial⟩ ?_
    refine CW.seq ?_
    refine CW.seq ?_
    refine CW.region ?_
    refine RG.vl rfl rfl rfl (Ev.move rfl rfl) ?_
    refine RG.vl rfl rfl rfl (Ev.move rfl rfl) ?_
    refine RG.vl rfl rfl rfl (Ev.leq rfl rfl rfl) ?_
    refine RG.done ?_
    refine QW.then_ ?_
    refine CW.condP rfl (fun hc8 => ?_) (fun hc8 => ?_)
    · refine CW.skip ?_
      refine QW.then_ ?_
      refine CW.seq ?_
      refine CW.block ?_
      have h1 := hp.cf k
      have h2 := hq.cf (i - k)
      have h3 := cvS_lt p q i k
      have h4 := gm_lt (cf p k) (cf q (i - k))
      refine CW.region ?_
      refine RG.vl rfl rfl rfl (Ev.move rfl rfl) ?_
      refine RG.vl rfl rfl rfl (Ev.move rfl rfl) ?_
      refine RG.vl rfl rfl rfl (Ev.move rfl rfl) ?_
      refine RG.call rfl rfl rfl rfl rfl rfl rfl en_66 (coef_ret _ _ _ _ ((hl.ext hxwl7))) ?_
      rintro _ w9 ⟨rfl, hx9⟩
      replace hxwl7 := Ex.tr hxwl7 hx9
      have hE10 := hx9
      refine RG.vl rfl rfl rfl (Ev.move rfl rfl) ?_
      refine RG.vl rfl rfl rfl (Ev.move rfl rfl) ?_
      refine RG.vl rfl rfl rfl (Ev.move rfl rfl) ?_
      refine RG.vl rfl rfl rfl ((Ev.subI rfl rfl rfl (by omega)).conv (congrArg (Value.int .i64) (show (i : Int) - (k : Int) = ((i - k : Nat) : Int) by omega))) ?_
      refine RG.call rfl rfl rfl rfl rfl rfl rfl en_66 (coef_ret _ _ _ _ ((hm.ext hxwl7))) ?_
      rintro _ w11 ⟨rfl, hx11⟩
      replace hxwl7 := Ex.tr hxwl7 hx11
      replace hE10 := Ex.tr hE10 hx11
      have hE12 := hx11
      refine RG.call rfl rfl rfl rfl rfl rfl rfl en_46 (rmul_ret _ _ _ (by exact h1) (by exact h2)) ?_
      rintro _ w13 ⟨rfl, hx13⟩
      replace hxwl7 := Ex.tr hxwl7 hx13
      replace hE10 := Ex.tr hE10 hx13
      replace hE12 := Ex.tr hE12 hx13
      have hE14 := hx13
      refine RG.vl rfl rfl rfl (Ev.xor8 rfl rfl rfl (by omega) (by omega)) ?_
      refine RG.vl rfl rfl rfl (Ev.assign rfl rfl) ?_
      refine RG.done ?_
      refine QW.sub (S' := [(0, _), (1, _), (4, _), (5, _), (6, _), (7, _), (8, _)]) ⟨rfl, rfl, rfl, rfl, rfl, rfl, rfl, trivial⟩ ?_
      refine QW.blockN ?_
      refine QW.then_ ?_
      refine CW.region ?_
      refine RG.vl rfl rfl rfl (Ev.move rfl rfl) ?_
      refine RG.vl rfl rfl rfl (Ev.addI rfl rfl rfl (by omega)) ?_
      refine RG.vl rfl rfl rfl (Ev.assign rfl rfl) ?_
      refine RG.done ?_
      refine QW.round1 (k + 1) ⟨rfl, rfl, trivial⟩ ⟨rfl, rfl, rfl, rfl, rfl, trivial⟩ ⟨⟨by omega, (Own.ext hown hE10)⟩, (Ex.tr hB0 hxwl7)⟩ (by omega)
    · refine CW.exit ?_
      refine QW.thenExit ?_
      refine QW.thenExit ?_
      refine QW.blockHit ?_
      refine QW.then_ ?_
      have hcv : cvS p q i k = cf (pm p q) i := by obtain rfl : k = i + 1 := (by omega); exact cvS_pm p q i
      refine CW.region ?_
      refine RG.vl rfl rfl rfl (Ev.move rfl rfl) ?_
      refine RG.vl rfl rfl rfl ((Ev.move rfl rfl).conv (congrArg (fun n : Nat => Value.int .u8 (n : Int)) hcv)) ?_
      refine RG.litO (os := [.tmp 35]) (enc := encN) ([cf (pm p q) i]) rfl rfl rfl rfl rfl rfl rfl Try.underlying22 inf_5 rfl rfl rfl rfl rfl encN_len rfl rfl (fun v15 wk16 hxwk16 hown17 hnew18 => ?_)
      replace hxwl7 := Ex.tr hxwl7 hxwk16
      have hE19 := hxwk16
      refine RG.appO rfl rfl rfl rfl rfl rfl rfl Try.underlying22 inf_5 rfl rfl encN_len (fun _ => rfl) (Own.ext hown hE19) ((hown17.rdl encN_len)) (by show _ + 1 ≤ maxLen; simp only [maxLen]; omega) (by show (_ + 1) * _ ≤ _; omega) (hxwl7.size) (fun v20 wa21 hown22 hgr23 hat24 => ?_)
      replace hxwl7 := own_block (Own.ext hown hE19) hxwl7 hgr23 (Nat.le_refl _) hxwl7.size
      refine RG.vl rfl rfl rfl (Ev.assign rfl rfl) ?_
      refine RG.done ?_
      refine QW.blockN ?_
      refine QW.then_ ?_
      refine CW.region ?_
      refine RG.vl rfl rfl rfl (Ev.move rfl rfl) ?_
      refine RG.vl rfl rfl rfl (Ev.addI rfl rfl rfl (by omega)) ?_
      refine RG.vl rfl rfl rfl (Ev.assign rfl rfl) ?_
      refine RG.done ?_
      refine QW.round2 (i + 1) (v20) ⟨rfl, rfl, trivial⟩ ⟨rfl, rfl, rfl, trivial⟩ ⟨⟨by omega, by rw [cfL_more]; exact hown22⟩, (Ex.tr hB0 hxwl7)⟩ (by omega)
  · refine CW.exit ?_
    refine QW.thenExit ?_
    refine QW.thenExit ?_
    refine QW.blockHit ?_
    refine QW.then_ ?_
    refine CW.seq ?_
    refine CW.region ?_
    refine RG.vl rfl rfl rfl (Ev.move rfl rfl) ?_
    refine RG.call rfl rfl rfl rfl rfl rfl rfl en_67 (rtrim_ret _ _ _ (((Own.ext hown hE3).rdl encN_len)) (by omega)) ?_
    have hpre25 := (Ex.tr hB0 hxwl1)
    rintro vrt25 w25 ⟨hrt25, hx25⟩
    replace hxwl1 := Ex.tr hxwl1 hx25
    replace hE3 := Ex.tr hE3 hx25
    replace hE5 := Ex.tr hE5 hx25
    have hE26 := hx25
    refine RG.vl rfl rfl rfl (Ev.assign rfl rfl) ?_
    refine RG.done ?_
    refine QW.then_ ?_
    refine CW.ret ?_
    refine QW.ret1 rfl rfl ?_
    have hB := (Ex.tr hB0 hxwl1)
    have e : i = (dg p + dg q - 1) := by omega
    rw [e, rprod_end] at hrt25
    exact ⟨hrt25.low (by have := hpre25.size; omega), hB⟩

set_option maxRecDepth 100000 in
set_option maxHeartbeats 1000000 in
theorem rshift_ret (u0 : Value) (p : List Nat) (c n : Nat) (w : World) (hl : RdL w 1 encN u0 p) (hlen : p.length ≤ 100000) (hn : n ≤ 100000) (hp : El p) (hc : c < 64) :
    Ret Try.prog 69 [u0, .int .u8 (c : Int), .int .i64 (n : Int)] w (fun v w' => Own w' w.heap.size 5 1 encN v (shl p c n) ∧ Ex w w') := by
  have hB0 : Ex w w := Ex.rfl_ _
  refine Ret.of Try.func69 rfl Try.ntmps69 rfl ?_
  refine CW.seq ?_
  refine CW.region ?_
  refine RG.vl rfl rfl rfl (Ev.assign rfl rfl) ?_
  refine RG.done ?_
  refine QW.then_ ?_
  refine CW.seq ?_
  refine CW.region ?_
  refine RG.vl rfl rfl rfl (Ev.move rfl rfl) ?_
  refine RG.makeO (m := n) (enc := encN) 0 rfl rfl rfl rfl rfl rfl (rfl) Try.underlying22 inf_5 encN_len rfl rfl (by omega) (by simp only [maxLen]; omega) (fun vz wk1 hxwk1 hown2 hnew3 => ?_)
  have hE4 := hxwk1
  refine RG.vl rfl rfl rfl (Ev.assign rfl rfl) ?_
  refine RG.done ?_
  refine QW.then_ ?_
  refine CW.seq ?_
  refine CW.seq ?_
  refine CW.region ?_
  refine RG.vl rfl rfl rfl (Ev.assign rfl rfl) ?_
  refine RG.done ?_
  refine QW.then_ ?_
  refine CW.block ?_
  refine CW.loop2 [(0, _), (1, _), (6, _)] ⟨rfl, rfl, rfl, trivial⟩ (fun (i : Nat) (u : Value) => [(8, .int .i64 i), (7, u)]) (fun i u w' => (i ≤ p.length ∧ Own w' w.heap.size 5 1 encN u (shl (p.take i) c n)) ∧ Ex w w') (fun i u => p.length - i) (0) (vz) ⟨rfl, rfl, trivial⟩ ⟨⟨Nat.zero_le _, by rw [List.take_zero, show shl [] c n = List.replicate n 0 from by unfold shl; simp]; exact hown2⟩, (Ex.tr hB0 hE4)⟩ ?_
  rintro i u wl5 ⟨⟨hi, hown⟩, hxwl5⟩
  refine CW.sub (S' := [(8, _), (7, _), (0, _), (1, _), (6, _)]) ⟨rfl, rfl, rfl, rfl, rfl, trivial⟩ ?_
  refine CW.seq ?_
  refine CW.seq ?_
  have htl := shl_len (p.take i) c n
  rw [List.length_take] at htl
  refine CW.region ?_
  refine RG.vl rfl rfl rfl (Ev.move rfl rfl) ?_
  refine RG.vl rfl rfl rfl (Ev.move rfl rfl) ?_
  refine RG.vl rfl rfl rfl (Ev.lenL rfl rfl rfl Try.underlying22 ((hl.ext hxwl5))) ?_
  refine RG.vl rfl rfl rfl (Ev.lss rfl rfl rfl) ?_
  refine RG.done ?_
  refine QW.then_ ?_
  refine CW.condP rfl (fun hc6 => ?_) (fun hc6 => ?_)
  · refine CW.skip ?_
    refine QW.then_ ?_
    refine CW.seq ?_
    refine CW.block ?_
    obtain ⟨a, ha⟩ : ∃ c, p[i]? = some c := ⟨_, List.getElem?_eq_getElem (by omega)⟩
    have ha64 := hp.get ha
    refine CW.region ?_
    refine RG.vl rfl rfl rfl (Ev.move rfl rfl) ?_
    refine RG.vl rfl rfl rfl (Ev.move rfl rfl) ?_
    refine RG.vl rfl rfl rfl (Ev.move rfl rfl) ?_
    refine RG.idxL rfl rfl rfl rfl rfl rfl Try.underlying22 sz_5 ((hl.ext hxwl5)) (ha) (fun p7 hp7b hp7 => ?_)
    refine RG.vl rfl rfl rfl (Ev.ld0 rfl rfl Try.underlying5 rfl (hp7) (rfl)) ?_
    refine RG.vl rfl rfl rfl (Ev.move rfl rfl) ?_
    refine RG.call rfl rfl rfl rfl rfl rfl rfl en_46 (rmul_ret _ _ _ (by exact ha64) (by exact hc)) ?_
    rintro _ w8 ⟨rfl, hx8⟩
    replace hxwl5 := Ex.tr hxwl5 hx8
    have hE9 := hx8
    refine RG.litO (os := [.tmp 23]) (enc := encN) ([gm a c]) rfl rfl rfl rfl rfl rfl rfl Try.underlying22 inf_5 rfl rfl rfl rfl rfl encN_len rfl rfl (fun v10 wk11 hxwk11 hown12 hnew13 => ?_)
    have hsep14 : Sep v10 _ := Sep.of_new (Own.ext hown hE9) hnew13
    replace hxwl5 := Ex.tr hxwl5 hxwk11
    replace hE9 := Ex.tr hE9 hxwk11
    have hE15 := hxwk11
    refine RG.appO rfl rfl rfl rfl rfl rfl rfl Try.underlying22 inf_5 rfl rfl encN_len (fun _ => rfl) (Own.ext hown hE9) ((hown12.rdl encN_len)) (by show _ + 1 ≤ maxLen; simp only [maxLen]; omega) (by show (_ + 1) * _ ≤ _; omega) (hxwl5.size) (fun v16 wa17 hown18 hgr19 hat20 => ?_)
    have hsep22 := Sep.app (Sep.symm hsep14) hown12 hat20
    have hown21 := Own.grown hown12 hgr19 (fun k a b => (Sep.symm hsep14) k b a)
    replace hxwl5 := own_block (Own.ext hown hE9) hxwl5 hgr19 (Nat.le_refl _) hxwl5.size
    refine RG.vl rfl rfl rfl (Ev.assign rfl rfl) ?_
    refine RG.done ?_
    refine QW.sub (S' := [(0, _), (1, _), (6, _), (7, _), (8, _)]) ⟨rfl, rfl, rfl, rfl, rfl, trivial⟩ ?_
    refine QW.blockN ?_
    refine QW.then_ ?_
    refine CW.region ?_
    refine RG.vl rfl rfl rfl (Ev.move rfl rfl) ?_
    refine RG.vl rfl rfl rfl (Ev.addI rfl rfl rfl (by omega)) ?_
    refine RG.vl rfl rfl rfl (Ev.assign rfl rfl) ?_
    refine RG.done ?_
    refine QW.round2 (i + 1) (v16) ⟨rfl, rfl, trivial⟩ ⟨rfl, rfl, rfl, trivial⟩ ⟨⟨by omega, by rw [shl_more ha]; exact hown18⟩, (Ex.tr hB0 hxwl5)⟩ (by omega)
  · refine CW.exit ?_
    refine QW.thenExit ?_
    refine QW.thenExit ?_
    refine QW.blockHit ?_
    refine QW.then_ ?_
    refine CW.seq ?_
    refine CW.region ?_
    refine RG.vl rfl rfl rfl (Ev.move rfl rfl) ?_
    refine RG.vl rfl rfl rfl (Ev.assign rfl rfl) ?_
    refine RG.done ?_
    refine QW.then_ ?_
    refine CW.ret ?_
    refine QW.ret1 rfl rfl ?_
    have hB := (Ex.tr hB0 hxwl5)
    have e : i = p.length := by omega
    rw [e, List.take_length] at hown
    exact ⟨hown.low (by have := hB0.size; omega), hB⟩

set_option maxRecDepth 100000 in
set_option maxHeartbeats 2000000 in
theorem rdiv_ret (u0 v0 : Value) (p q : List Nat) (w : World) (hl : RdL w 1 encN u0 p) (hm : RdL w 1 encN v0 q) (hlen : p.length ≤ 40000) (hlen2 : q.length ≤ 40000) (hp : El p) (hq : El q) (hq0 : 0 < dg q) :
    Ret Try.prog 48 [u0, v0] w (fun v w' => ∃ r1 r2 d r, v = .tuple #[r1, r2] ∧ RdL w' 1 encN r1 d ∧ RdL w' 1 encN r2 r ∧ IsDiv p q d r ∧ tr d = d ∧ tr r = r ∧ El d ∧ El r ∧ Ex w w') := by
  have hB0 : Ex w w := Ex.rfl_ _
  refine Ret.of Try.func48 rfl Try.ntmps48 rfl ?_
  refine CW.seq ?_
  refine CW.region ?_
  refine RG.vl rfl rfl rfl (Ev.assign rfl rfl) ?_
  refine RG.vl rfl rfl rfl (Ev.assign rfl rfl) ?_
  refine RG.done ?_
  refine QW.then_ ?_
  refine CW.seq ?_
  refine CW.region ?_
  refine RG.vl rfl rfl rfl (Ev.assign rfl rfl) ?_
  refine RG.done ?_
  refine QW.then_ ?_
  refine CW.seq ?_
  refine CW.region ?_
  refine RG.vl rfl rfl rfl (Ev.move rfl rfl) ?_
  refine RG.call rfl rfl rfl rfl rfl rfl rfl en_67 (rtrim_ret _ _ _ (hl) (by omega)) ?_
  have hpre1 := hB0
  rintro vrt1 w1 ⟨hrt1, hx1⟩
  have hE2 := hx1
  refine RG.vl rfl rfl rfl (Ev.assign rfl rfl) ?_
  refine RG.done ?_
  refine QW.then_ ?_
  refine CW.seq ?_
  refine CW.block ?_
  replace hl := (hl.ext hE2)
  replace hm := (hm.ext hE2)
  have hR3 := (Ex.tr hB0 hE2)
  refine CW.loop4 [(1, _), (4, _), (5, _)] ⟨rfl, rfl, rfl, trivial⟩ (fun (ud : Value) (D : List Nat) (ur : Value) (R : List Nat) => [(6, ud), (7, ur)]) (fun ud D ur R w' => (Rdv p q D R ∧ RdL w' 1 encN ud D ∧ RdL w' 1 encN ur R) ∧ Ex w1 w') (fun ud D ur R => dg R) (.slice none 0 0) ([]) (_) (tr p) ⟨rfl, rfl, trivial⟩ ⟨⟨rdv_start hp, RdL.nil_ _, hrt1.rdl encN_len⟩, (Ex.rfl_ _)⟩ ?_
  rintro ud D ur R wl4 ⟨⟨hdv, hD, hR⟩, hxwl4⟩
  refine CW.sub (S' := [(6, _), (7, _), (1, _), (4, _), (5, _)]) ⟨rfl, rfl, rfl, rfl, rfl, trivial⟩ ?_
  have hdp := dg_len p
  have hdq := dg_len q
  have hD1 := dg_of_tr hdv.dt
  have hR1 := dg_of_tr hdv.rt
  have hDd := hdv.dd
  have hRd := hdv.rd
  refine CW.seq ?_
  refine CW.seq ?_
  refine CW.region ?_
  refine RG.vl rfl rfl rfl (Ev.move rfl rfl) ?_
  refine RG.call rfl rfl rfl rfl rfl rfl rfl en_65 (rdeg_ret _ _ _ (hR) (by omega)) ?_
  rintro _ w5 ⟨rfl, hx5⟩
  replace hxwl4 := Ex.tr hxwl4 hx5
  have hE6 := hx5
  refine RG.vl rfl rfl rfl (Ev.move rfl rfl) ?_
  refine RG.call rfl rfl rfl rfl rfl rfl rfl en_65 (rdeg_ret _ _ _ ((hm.ext hxwl4)) (by omega)) ?_
  rintro _ w7 ⟨rfl, hx7⟩
  replace hxwl4 := Ex.tr hxwl4 hx7
  replace hE6 := Ex.tr hE6 hx7
  have hE8 := hx7
  refine RG.vl rfl rfl rfl (Ev.geq rfl rfl rfl) ?_
  refine RG.done ?_
  refine QW.then_ ?_
  refine CW.condP rfl (fun hc9 => ?_) (fun hc9 => ?_)
  · refine CW.skip ?_
    refine QW.then_ ?_
    refine CW.block ?_
    refine CW.seq ?_
    have hge : dg q ≤ dg R := by omega
    have hRt : R[dg R - 1]? = some (cf R (dg R - 1)) := getElem?_cf (by omega)
    have hqt : q[dg q - 1]? = some (cf q (dg q - 1)) := getElem?_cf (by omega)
    have hR64 := hdv.re.cf (dg R - 1)
    have hq64 := hq.cf (dg q - 1)
    have hgi := (gi_lt (cf q (dg q - 1))).2
    have hq00 := cf_top q hq0
    have hC64 : (gm (cf R (dg R - 1)) (gi (cf q (dg q - 1)))) < 64 := gm_lt _ _
    obtain ⟨hst, hstl⟩ := rdv_step hq hq0 hdv hge
    have h1e : El [1] := el1 (by omega)
    have hDe := hdv.de
    have hRe := hdv.re
    have h1l : [1].length = 1 := rfl
    have hs1 := shl_len [1] (gm (cf R (dg R - 1)) (gi (cf q (dg q - 1)))) (dg R - dg q)
    have hs2 := shl_len q (gm (cf R (dg R - 1)) (gi (cf q (dg q - 1)))) (dg R - dg q)
    refine CW.region ?_
    refine RG.vl rfl rfl rfl (Ev.move rfl rfl) ?_
    refine RG.call rfl rfl rfl rfl rfl rfl rfl en_65 (rdeg_ret _ _ _ ((hR.ext hE6)) (by omega)) ?_
    rintro _ w10 ⟨rfl, hx10⟩
    replace hxwl4 := Ex.tr hxwl4 hx10
    replace hE6 := Ex.tr hE6 hx10
    replace hE8 := Ex.tr hE8 hx10
    have hE11 := hx10
    refine RG.vl rfl rfl rfl (Ev.move rfl rfl) ?_
    refine RG.call rfl rfl rfl rfl rfl rfl rfl en_65 (rdeg_ret _ _ _ ((hm.ext hxwl4)) (by omega)) ?_
    rintro _ w12 ⟨rfl, hx12⟩
    replace hxwl4 := Ex.tr hxwl4 hx12
    replace hE6 := Ex.tr hE6 hx12
    replace hE8 := Ex.tr hE8 hx12
    replace hE11 := Ex.tr hE11 hx12
    have hE13 := hx12
    refine RG.vl rfl rfl rfl ((Ev.subI rfl rfl rfl (by omega)).conv (congrArg (Value.int .i64) (show (dg R : Int) - 1 - ((dg q : Int) - 1) = ((dg R - dg q : Nat) : Int) by omega))) ?_
    refine RG.vl rfl rfl rfl (Ev.assign rfl rfl) ?_
    refine RG.done ?_
    refine QW.then_ ?_
    refine CW.seq ?_
    refine CW.draw [] (.ex) 13 rfl mixed (fun wd14 hxwd14 => ?_)
    replace hxwl4 := Ex.tr hxwl4 hxwd14
    replace hE6 := Ex.tr hE6 hxwd14
    replace hE8 := Ex.tr hE8 hxwd14
    replace hE11 := Ex.tr hE11 hxwd14
    replace hE13 := Ex.tr hE13 hxwd14
    refine AG.takeW 0 rfl (by kernel_rfl) (by kernel_rfl) rfl rfl rfl (fun _ => Ev.move rfl rfl) ?_
    refine AG.takeW 1 rfl (by kernel_rfl) (by kernel_rfl) rfl rfl rfl (fun _ => Ev.move rfl rfl) ?_
    refine AG.takeW 5 rfl (by kernel_rfl) (by kernel_rfl) rfl rfl rfl (fun _ => Ev.move rfl rfl) ?_
    refine AG.takeW 6 rfl (by kernel_rfl) (by kernel_rfl) rfl rfl rfl (fun _ => Ev.move rfl rfl) ?_
    refine AG.only 2 rfl (by kernel_rfl) ?_
    refine RG.call rfl rfl rfl rfl rfl rfl rfl en_65 (rdegN _ R _ ((hR.ext hE6)) (by omega) (by omega)) ?_
    rintro _ w16 ⟨rfl, hx16⟩
    replace hxwl4 := Ex.tr hxwl4 hx16
    replace hE6 := Ex.tr hE6 hx16
    replace hE8 := Ex.tr hE8 hx16
    replace hE11 := Ex.tr hE11 hx16
    replace hE13 := Ex.tr hE13 hx16
    have hE17 := hx16
    refine RG.done ?_
    refine QW.an (fun _ => hE17) ?_
    refine AG.idxL _ 3 rfl (by kernel_rfl) (by kernel_rfl) rfl rfl rfl rfl rfl rfl Try.underlying22 sz_5 ((hR.ext hE6)) (hRt) (fun p18 hp18b hp18 => ?_)
    refine AG.take 4 rfl (by kernel_rfl) (by kernel_rfl) rfl rfl rfl (fun wq hq => Ev.ld0 rfl rfl Try.underlying5 rfl (hp18.ext hq hp18b) (rfl)) ?_
    refine AG.only 7 rfl (by kernel_rfl) ?_
    refine RG.call rfl rfl rfl rfl rfl rfl rfl en_65 (rdegN _ q _ ((hm.ext hxwl4)) (by omega) (by omega)) ?_
    rintro _ w20 ⟨rfl, hx20⟩
    replace hxwl4 := Ex.tr hxwl4 hx20
    replace hE6 := Ex.tr hE6 hx20
    replace hE8 := Ex.tr hE8 hx20
    replace hE11 := Ex.tr hE11 hx20
    replace hE13 := Ex.tr hE13 hx20
    replace hE17 := Ex.tr hE17 hx20
    have hE21 := hx20
    refine RG.done ?_
    refine QW.an (fun _ => hE21) ?_
    refine AG.idxL _ 8 rfl (by kernel_rfl) (by kernel_rfl) rfl rfl rfl rfl rfl rfl Try.underlying22 sz_5 ((hm.ext hxwl4)) (hqt) (fun p22 hp22b hp22 => ?_)
    refine AG.take 9 rfl (by kernel_rfl) (by kernel_rfl) rfl rfl rfl (fun wq hq => Ev.ld0 rfl rfl Try.underlying5 rfl (hp22.ext hq hp22b) (rfl)) ?_
    refine AG.only 10 rfl (by kernel_rfl) ?_
    refine RG.call rfl rfl rfl rfl rfl rfl rfl en_58 (rinvN (cf q (dg q - 1)) _ hq64 hq00) ?_
    rintro _ w24 ⟨rfl, hx24⟩
    replace hxwl4 := Ex.tr hxwl4 hx24
    replace hE6 := Ex.tr hE6 hx24
    replace hE8 := Ex.tr hE8 hx24
    replace hE11 := Ex.tr hE11 hx24
    replace hE13 := Ex.tr hE13 hx24
    replace hE17 := Ex.tr hE17 hx24
    replace hE21 := Ex.tr hE21 hx24
    have hE25 := hx24
    refine RG.done ?_
    refine QW.an (fun _ => hE25) ?_
    refine AG.only 11 rfl (by kernel_rfl) ?_
    refine RG.call rfl rfl rfl rfl rfl rfl rfl en_46 (rmul_ret _ _ _ (by exact hR64) (by exact hgi)) ?_
    rintro _ w27 ⟨rfl, hx27⟩
    replace hxwl4 := Ex.tr hxwl4 hx27
    replace hE6 := Ex.tr hE6 hx27
    replace hE8 := Ex.tr hE8 hx27
    replace hE11 := Ex.tr hE11 hx27
    replace hE13 := Ex.tr hE13 hx27
    replace hE17 := Ex.tr hE17 hx27
    replace hE21 := Ex.tr hE21 hx27
    replace hE25 := Ex.tr hE25 hx27
    have hE28 := hx27
    refine RG.done ?_
    refine QW.an (fun _ => hE28) ?_
    refine AG.takeW 12 rfl (by kernel_rfl) (by kernel_rfl) rfl rfl rfl (fun _ => Ev.assign rfl rfl) ?_
    refine AG.done (by kernel_rfl) ?_
    refine QW.sub (S' := [(1, _), (4, _), (5, _), (6, _), (7, _), (8, _), (9, _)]) ⟨rfl, rfl, rfl, rfl, rfl, rfl, rfl, trivial⟩ ?_
    refine QW.then_ ?_
    refine CW.seq ?_
    refine CW.region ?_
    refine RG.vl rfl rfl rfl (Ev.move rfl rfl) ?_
    refine RG.litO (os := [_]) (enc := encN) ([1]) rfl rfl rfl rfl rfl rfl rfl Try.underlying22 inf_5 rfl rfl rfl rfl rfl encN_len rfl rfl (fun v29 wk30 hxwk30 hown31 hnew32 => ?_)
    replace hxwl4 := Ex.tr hxwl4 hxwk30
    replace hE6 := Ex.tr hE6 hxwk30
    replace hE8 := Ex.tr hE8 hxwk30
    replace hE11 := Ex.tr hE11 hxwk30
    replace hE13 := Ex.tr hE13 hxwk30
    replace hE17 := Ex.tr hE17 hxwk30
    replace hE21 := Ex.tr hE21 hxwk30
    replace hE25 := Ex.tr hE25 hxwk30
    replace hE28 := Ex.tr hE28 hxwk30
    have hE33 := hxwk30
    refine RG.vl rfl rfl rfl (Ev.move rfl rfl) ?_
    refine RG.vl rfl rfl rfl (Ev.move rfl rfl) ?_
    refine RG.call rfl rfl rfl rfl rfl rfl rfl en_69 (rshift_ret _ _ _ _ _ ((hown31.rdl encN_len)) (by omega) (by omega) (by exact h1e) (by exact hC64)) ?_
    have hpre34 := (Ex.tr hR3 hxwl4)
    rintro vrh34 w34 ⟨hrh34, hx34⟩
    replace hxwl4 := Ex.tr hxwl4 hx34
    replace hE6 := Ex.tr hE6 hx34
    replace hE8 := Ex.tr hE8 hx34
    replace hE11 := Ex.tr hE11 hx34
    replace hE13 := Ex.tr hE13 hx34
    replace hE17 := Ex.tr hE17 hx34
    replace hE21 := Ex.tr hE21 hx34
    replace hE25 := Ex.tr hE25 hx34
    replace hE28 := Ex.tr hE28 hx34
    replace hE33 := Ex.tr hE33 hx34
    have hE35 := hx34
    refine RG.call rfl rfl rfl rfl rfl rfl rfl en_68 (rsum_ret _ _ _ _ _ ((hD.ext hE6)) ((hrh34.rdl encN_len)) (by omega) (by omega) (by exact hDe) (by exact el_shl _ _ _)) ?_
    have hpre36 := (Ex.tr hR3 hxwl4)
    rintro vrs36 w36 ⟨hrs36, hx36⟩
    replace hxwl4 := Ex.tr hxwl4 hx36
    replace hE6 := Ex.tr hE6 hx36
    replace hE8 := Ex.tr hE8 hx36
    replace hE11 := Ex.tr hE11 hx36
    replace hE13 := Ex.tr hE13 hx36
    replace hE17 := Ex.tr hE17 hx36
    replace hE21 := Ex.tr hE21 hx36
    replace hE25 := Ex.tr hE25 hx36
    replace hE28 := Ex.tr hE28 hx36
    replace hE33 := Ex.tr hE33 hx36
    replace hE35 := Ex.tr hE35 hx36
    have hE37 := hx36
    refine RG.vl rfl rfl rfl (Ev.assign rfl rfl) ?_
    refine RG.done ?_
    refine QW.then_ ?_
    refine CW.region ?_
    refine RG.vl rfl rfl rfl (Ev.move rfl rfl) ?_
    refine RG.vl rfl rfl rfl (Ev.move rfl rfl) ?_
    refine RG.vl rfl rfl rfl (Ev.move rfl rfl) ?_
    refine RG.vl rfl rfl rfl (Ev.move rfl rfl) ?_
    refine RG.call rfl rfl rfl rfl rfl rfl rfl en_69 (rshift_ret _ _ _ _ _ ((hm.ext hxwl4)) (by omega) (by omega) (by exact hq) (by exact hC64)) ?_
    have hpre38 := (Ex.tr hR3 hxwl4)
    rintro vrh38 w38 ⟨hrh38, hx38⟩
    replace hxwl4 := Ex.tr hxwl4 hx38
    replace hE6 := Ex.tr hE6 hx38
    replace hE8 := Ex.tr hE8 hx38
    replace hE11 := Ex.tr hE11 hx38
    replace hE13 := Ex.tr hE13 hx38
    replace hE17 := Ex.tr hE17 hx38
    replace hE21 := Ex.tr hE21 hx38
    replace hE25 := Ex.tr hE25 hx38
    replace hE28 := Ex.tr hE28 hx38
    replace hE33 := Ex.tr hE33 hx38
    replace hE35 := Ex.tr hE35 hx38
    replace hE37 := Ex.tr hE37 hx38
    have hE39 := hx38
    refine RG.call rfl rfl rfl rfl rfl rfl rfl en_68 (rsum_ret _ _ _ _ _ ((hR.ext hE6)) ((hrh38.rdl encN_len)) (by omega) (by omega) (by exact hRe) (by exact el_shl _ _ _)) ?_
    have hpre40 := (Ex.tr hR3 hxwl4)
    rintro vrs40 w40 ⟨hrs40, hx40⟩
    replace hxwl4 := Ex.tr hxwl4 hx40
    replace hE6 := Ex.tr hE6 hx40
    replace hE8 := Ex.tr hE8 hx40
    replace hE11 := Ex.tr hE11 hx40
    replace hE13 := Ex.tr hE13 hx40
    replace hE17 := Ex.tr hE17 hx40
    replace hE21 := Ex.tr hE21 hx40
    replace hE25 := Ex.tr hE25 hx40
    replace hE28 := Ex.tr hE28 hx40
    replace hE33 := Ex.tr hE33 hx40
    replace hE35 := Ex.tr hE35 hx40
    replace hE37 := Ex.tr hE37 hx40
    replace hE39 := Ex.tr hE39 hx40
    have hE41 := hx40
    refine RG.vl rfl rfl rfl (Ev.assign rfl rfl) ?_
    refine RG.done ?_
    refine QW.sub (S' := [(1, _), (4, _), (5, _), (6, _), (7, _)]) ⟨rfl, rfl, rfl, rfl, rfl, trivial⟩ ?_
    refine QW.blockN ?_
    refine QW.round4 (_) (_) (_) (_) ⟨rfl, rfl, trivial⟩ ⟨rfl, rfl, rfl, trivial⟩ ⟨⟨hst, (Own.ext hrs36 hE39).rdl encN_len, hrs40.rdl encN_len⟩, hxwl4⟩ (hstl)
  · refine CW.exit ?_
    refine QW.thenExit ?_
    refine QW.thenExit ?_
    refine QW.blockHit ?_
    refine QW.then_ ?_
    refine CW.seq ?_
    refine CW.region ?_
    refine RG.vl rfl rfl rfl (Ev.move rfl rfl) ?_
    refine RG.vl rfl rfl rfl (Ev.move rfl rfl) ?_
    refine RG.vl rfl rfl rfl (Ev.assign rfl rfl) ?_
    refine RG.vl rfl rfl rfl (Ev.assign rfl rfl) ?_
    refine RG.done ?_
    refine QW.then_ ?_
    refine CW.ret ?_
    refine QW.ret2 rfl rfl rfl ?_
    have hB := (Ex.tr hR3 hxwl4)
    exact ⟨_, _, D, R, rfl, (hD.ext hE6), (hR.ext hE6), rdv_end hdv (by omega), hdv.dt, hdv.rt, hdv.de, hdv.re, hB⟩

set_option maxRecDepth 100000 in
set_option maxHeartbeats 1000000 in
theorem rword_ret (u : Value) (l : List Nat) (w : World) (hl : RdL w 1 encN u l) (hlen : l.length ≤ 100000) :
    Ret Try.prog 26 [u] w (fun v w' => v = .bool (isW l) ∧ Ex w w') := by
  have hB0 : Ex w w := Ex.rfl_ _
  refine Ret.of Try.func26 rfl Try.ntmps26 rfl ?_
  refine CW.seq ?_
  refine CW.region ?_
  refine RG.vl rfl rfl rfl (Ev.assign rfl rfl) ?_
  refine RG.done ?_
  refine QW.then_ ?_
  refine CW.seq ?_
  refine CW.seq ?_
  refine CW.region ?_
  refine RG.vl rfl rfl rfl (Ev.move rfl rfl) ?_
  refine RG.vl rfl rfl rfl (Ev.lenL rfl rfl rfl Try.underlying22 (hl)) ?_
  refine RG.vl rfl rfl rfl (Ev.lss rfl rfl rfl) ?_
  refine RG.vl rfl rfl rfl (Ev.move rfl rfl) ?_
  refine RG.split (d := 7) rfl (fun hg1 => ?_) (fun hg1 => ?_)
  · refine RG.pass rfl rfl rfl ?_
    refine RG.pass rfl rfl rfl ?_
    refine RG.pass rfl rfl rfl ?_
    refine RG.vl rfl rfl rfl (Ev.pickT rfl rfl rfl) ?_
    refine RG.done ?_
    refine QW.then_ ?_
    refine CW.condT rfl ?_
    refine CW.seq ?_
    refine CW.region ?_
    refine RG.vl rfl rfl rfl (Ev.assign rfl rfl) ?_
    refine RG.done ?_
    refine QW.then_ ?_
    refine CW.ret ?_
    refine QW.thenRet ?_
    refine QW.ret1 rfl rfl ?_
    have hB := hB0
    refine ⟨congrArg Value.bool ?_, hB⟩
    rw [eq_comm, Bool.eq_false_iff]
    intro h
    obtain ⟨h1, h2, h3⟩ := isW_iff.1 h
    omega
  · refine RG.vl rfl rfl rfl (Ev.move rfl rfl) ?_
    refine RG.vl rfl rfl rfl (Ev.lenL rfl rfl rfl Try.underlying22 (hl)) ?_
    refine RG.vl rfl rfl rfl (Ev.gtr rfl rfl rfl) ?_
    refine RG.vl rfl rfl rfl (Ev.pickF rfl rfl rfl) ?_
    refine RG.done ?_
    refine QW.then_ ?_
    refine CW.condP rfl (fun hc2 => ?_) (fun hc2 => ?_)
    · refine CW.seq ?_
      refine CW.region ?_
      refine RG.vl rfl rfl rfl (Ev.assign rfl rfl) ?_
      refine RG.done ?_
      refine QW.then_ ?_
      refine CW.ret ?_
      refine QW.thenRet ?_
      refine QW.ret1 rfl rfl ?_
      have hB := hB0
      refine ⟨congrArg Value.bool ?_, hB⟩
      rw [eq_comm, Bool.eq_false_iff]
      intro h
      obtain ⟨h1, h2, h3⟩ := isW_iff.1 h
      omega
    · refine CW.skip ?_
      refine QW.then_ ?_
      refine CW.seq ?_
      refine CW.seq ?_
      refine CW.region ?_
      refine RG.vl rfl rfl rfl (Ev.assign rfl rfl) ?_
      refine RG.done ?_
      refine QW.then_ ?_
      refine CW.block ?_
      refine CW.loop1 [(0, _)] ⟨rfl, trivial⟩ (fun (i : Nat) => [(3, .int .i64 i)]) (fun i w' => (i ≤ l.length ∧ ∀ j a, j < i → l[j]? = some a → a < 64) ∧ Ex w w') (fun i => l.length - i) (0) ⟨rfl, trivial⟩ ⟨⟨Nat.zero_le _, fun j a h => absurd h (by omega)⟩, hB0⟩ ?_
      rintro i wl3 ⟨⟨hi, hall⟩, hxwl3⟩
      refine CW.sub (S' := [(3, _), (0, _)]) ⟨rfl, rfl, trivial⟩ ?_
      refine CW.seq ?_
      refine CW.seq ?_
      refine CW.region ?_
      refine RG.vl rfl rfl rfl (Ev.move rfl rfl) ?_
      refine RG.vl rfl rfl rfl (Ev.move rfl rfl) ?_
      refine RG.vl rfl rfl rfl (Ev.lenL rfl rfl rfl Try.underlying22 ((hl.ext hxwl3))) ?_
      refine RG.vl rfl rfl rfl (Ev.lss rfl rfl rfl) ?_
      refine RG.done ?_
      refine QW.then_ ?_
      refine CW.condP rfl (fun hc4 => ?_) (fun hc4 => ?_)
      · refine CW.skip ?_
        refine QW.then_ ?_
        refine CW.seq ?_
        refine CW.block ?_
        refine CW.seq ?_
        obtain ⟨c, hc⟩ : ∃ c, l[i]? = some c := ⟨_, List.getElem?_eq_getElem (by omega)⟩
        refine CW.region ?_
        refine RG.vl rfl rfl rfl (Ev.move rfl rfl) ?_
        refine RG.vl rfl rfl rfl (Ev.move rfl rfl) ?_
        refine RG.idxL rfl rfl rfl rfl rfl rfl Try.underlying22 sz_5 ((hl.ext hxwl3)) (hc) (fun p5 hp5b hp5 => ?_)
        refine RG.vl rfl rfl rfl (Ev.ld0 rfl rfl Try.underlying5 rfl (hp5) (rfl)) ?_
        refine RG.vl rfl rfl rfl (Ev.gtr rfl rfl rfl) ?_
        refine RG.done ?_
        refine QW.then_ ?_
        refine CW.condP rfl (fun hc6 => ?_) (fun hc6 => ?_)
        · refine CW.seq ?_
          refine CW.region ?_
          refine RG.vl rfl rfl rfl (Ev.assign rfl rfl) ?_
          refine RG.done ?_
          refine QW.then_ ?_
          refine CW.ret ?_
          refine QW.blockR ?_
          refine QW.thenRet ?_
          refine QW.thenRet ?_
          refine QW.blockR ?_
          refine QW.thenRet ?_
          refine QW.ret1 rfl rfl ?_
          have hB := (Ex.tr hB0 hxwl3)
          refine ⟨congrArg Value.bool ?_, hB⟩
          rw [eq_comm, Bool.eq_false_iff]
          intro h
          obtain ⟨h1, h2, h3⟩ := isW_iff.1 h
          have := h3 c (List.mem_of_getElem? hc)
          omega
        · refine CW.skip ?_
          refine QW.blockN ?_
          refine QW.then_ ?_
          refine CW.region ?_
          refine RG.vl rfl rfl rfl (Ev.move rfl rfl) ?_
          refine RG.vl rfl rfl rfl (Ev.addI rfl rfl rfl (by omega)) ?_
          refine RG.vl rfl rfl rfl (Ev.assign rfl rfl) ?_
          refine RG.done ?_
          refine QW.round1 (i + 1) ⟨rfl, trivial⟩ ⟨rfl, trivial⟩ ⟨⟨by omega, el_step hc (by omega) hall⟩, (Ex.tr hB0 hxwl3)⟩ (by omega)
      · refine CW.exit ?_
        refine QW.thenExit ?_
        refine QW.thenExit ?_
        refine QW.blockHit ?_
        refine QW.then_ ?_
        refine CW.seq ?_
        refine CW.region ?_
        refine RG.vl rfl rfl rfl (Ev.assign rfl rfl) ?_
        refine RG.done ?_
        refine QW.then_ ?_
        refine CW.ret ?_
        refine QW.ret1 rfl rfl ?_
        have hB := (Ex.tr hB0 hxwl3)
        refine ⟨congrArg Value.bool ?_, hB⟩
        rw [eq_comm, isW_iff]
        exact ⟨by omega, by omega, el_of (by omega) hall⟩

set_option maxRecDepth 100000 in
set_option maxHeartbeats 2000000 in
theorem rsynd_ret (u : Value) (l : List Nat) (w : World) (hl : RdL w 1 encN u l) (hlen : l.length ≤ 100000) (hel : El l) :
    Ret Try.prog 27 [u] w (fun v w' => Own w' w.heap.size 5 1 encN v (syL l) ∧ Ex w w') := by
  have hB0 : Ex w w := Ex.rfl_ _
  refine Ret.of Try.func27 rfl Try.ntmps27 rfl ?_
  refine CW.seq ?_
  refine CW.region ?_
  refine RG.vl rfl rfl rfl (Ev.assign rfl rfl) ?_
  refine RG.done ?_
  refine QW.then_ ?_
  refine CW.seq ?_
  refine CW.region ?_
  refine RG.vl rfl rfl rfl (Ev.assign rfl rfl) ?_
  refine RG.done ?_
  refine QW.then_ ?_
  refine CW.seq ?_
  refine CW.seq ?_
  refine CW.region ?_
  refine RG.vl rfl rfl rfl (Ev.assign rfl rfl) ?_
  refine RG.done ?_
  refine QW.then_ ?_
  refine CW.block ?_
  refine CW.loop2 [(0, _), (2, _)] ⟨rfl, rfl, trivial⟩ (fun (j : Nat) (u3 : Value) => [(4, .int .i64 ((j : Int) + 1)), (3, u3)]) (fun j u3 w' => (j ≤ 4 ∧ Own w' w.heap.size 5 1 encN u3 ((syL l).take j)) ∧ Ex w w') (fun j u3 => 4 - j) (0) (.slice none 0 0) ⟨rfl, rfl, trivial⟩ ⟨⟨Nat.zero_le _, Own.nil_ _ _ _ _ _⟩, hB0⟩ ?_
  rintro j u3 wl1 ⟨⟨hj, hou⟩, hxwl1⟩
  refine CW.sub (S' := [(4, _), (3, _), (0, _), (2, _)]) ⟨rfl, rfl, rfl, rfl, trivial⟩ ?_
  have hll : ((syL l).take j).length ≤ 4 := by rw [List.length_take]; show min j 4 ≤ 4; omega
  refine CW.seq ?_
  refine CW.seq ?_
  refine CW.region ?_
  refine RG.vl rfl rfl rfl (Ev.move rfl rfl) ?_
  refine RG.vl rfl rfl rfl (Ev.leq rfl rfl rfl) ?_
  refine RG.done ?_
  refine QW.then_ ?_
  refine CW.condP rfl (fun hc2 => ?_) (fun hc2 => ?_)
  · refine CW.skip ?_
    refine QW.then_ ?_
    refine CW.seq ?_
    refine CW.block ?_
    refine CW.seq ?_
    have hpl := pw_lt (j + 1) (by omega)
    refine CW.region ?_
    refine RG.vl rfl rfl rfl (Ev.move rfl rfl) ?_
    refine RG.call rfl rfl rfl rfl rfl rfl rfl en_45 ((by have k := rpow_ret 2 (j + 1) wl1 (by omega) (by omega); rw [gp_two _ (by omega)] at k; exact k)) ?_
    rintro _ w3 ⟨rfl, hx3⟩
    replace hxwl1 := Ex.tr hxwl1 hx3
    have hE4 := hx3
    refine RG.vl rfl rfl rfl (Ev.assign rfl rfl) ?_
    refine RG.vl rfl rfl rfl (Ev.assign rfl rfl) ?_
    refine RG.done ?_
    refine QW.then_ ?_
    refine CW.seq ?_
    refine CW.seq ?_
    refine CW.region ?_
    refine RG.vl rfl rfl rfl (Ev.assign rfl rfl) ?_
    refine RG.done ?_
    refine QW.then_ ?_
    refine CW.block ?_
    refine CW.loop1 [(0, _), (2, _), (3, _), (4, _), (6, _)] ⟨rfl, rfl, rfl, rfl, rfl, trivial⟩ (fun (i : Nat) => [(7, .int .i64 i), (5, .int .u8 (evl (l.take i).reverse (pw (j + 1)) : Nat))]) (fun i w' => (i ≤ l.length ∧ Own w' w.heap.size 5 1 encN u3 ((syL l).take j)) ∧ Ex w w') (fun i => l.length - i) (0) ⟨rfl, rfl, trivial⟩ ⟨⟨Nat.zero_le _, (Own.ext hou hE4)⟩, (Ex.tr hB0 hxwl1)⟩ ?_
    rintro i wl5 ⟨⟨hi, hou⟩, hxwl5⟩
    refine CW.sub (S' := [(7, _), (5, _), (0, _), (2, _), (3, _), (4, _), (6, _)]) ⟨rfl, rfl, rfl, rfl, rfl, rfl, rfl, trivial⟩ ?_
    refine CW.seq ?_
    refine CW.seq ?_
    refine CW.region ?_
    refine RG.vl rfl rfl rfl (Ev.move rfl rfl) ?_
    refine RG.vl rfl rfl rfl (Ev.move rfl rfl) ?_
    refine RG.vl rfl rfl rfl (Ev.lenL rfl rfl rfl Try.underlying22 ((hl.ext hxwl5))) ?_
    refine RG.vl rfl rfl rfl (Ev.lss rfl rfl rfl) ?_
    refine RG.done ?_
    refine QW.then_ ?_
    refine CW.condP rfl (fun hc6 => ?_) (fun hc6 => ?_)
    · refine CW.skip ?_
      refine QW.then_ ?_
      refine CW.seq ?_
      refine CW.block ?_
      have hc : l[i]? = some (cf l i) := getElem?_cf (by omega)
      have hc64 := hel.cf i
      have hv64 : evl (l.take i).reverse (pw (j + 1)) < 64 := evl_lt _ _ ((hel.take i).rev)
      have hg64 := gm_lt (evl (l.take i).reverse (pw (j + 1))) (pw (j + 1))
      have hst := syn_step (l := l) (i := i) (x := pw (j + 1)) (by omega)
      refine CW.draw [] (.ex) 9 rfl mixed (fun wd7 hxwd7 => ?_)
      replace hxwl5 := Ex.tr hxwl5 hxwd7
      have hE8 := hxwd7
      refine AG.takeW 0 rfl (by kernel_rfl) (by kernel_rfl) rfl rfl rfl (fun _ => Ev.move rfl rfl) ?_
      refine AG.takeW 1 rfl (by kernel_rfl) (by kernel_rfl) rfl rfl rfl (fun _ => Ev.move rfl rfl) ?_
      refine AG.takeW 3 rfl (by kernel_rfl) (by kernel_rfl) rfl rfl rfl (fun _ => Ev.move rfl rfl) ?_
      refine AG.takeW 4 rfl (by kernel_rfl) (by kernel_rfl) rfl rfl rfl (fun _ => Ev.move rfl rfl) ?_
      refine AG.idxL _ 5 rfl (by kernel_rfl) (by kernel_rfl) rfl rfl rfl rfl rfl rfl Try.underlying22 sz_5 ((hl.ext hxwl5)) (hc) (fun p9 hp9b hp9 => ?_)
      refine AG.take 6 rfl (by kernel_rfl) (by kernel_rfl) rfl rfl rfl (fun wq hq => Ev.ld0 rfl rfl Try.underlying5 rfl (hp9.ext hq hp9b) (rfl)) ?_
      refine AG.only 2 rfl (by kernel_rfl) ?_
      refine RG.call rfl rfl rfl rfl rfl rfl rfl en_46 (rmul_ret _ _ _ (by exact hv64) (by exact hpl.2)) ?_
      rintro _ w11 ⟨rfl, hx11⟩
      replace hxwl5 := Ex.tr hxwl5 hx11
      replace hE8 := Ex.tr hE8 hx11
      have hE12 := hx11
      refine RG.done ?_
      refine QW.an (fun _ => hE12) ?_
      refine AG.takeW 7 rfl (by kernel_rfl) (by kernel_rfl) rfl rfl rfl (fun _ => (Ev.xor8 rfl rfl rfl (by omega) (by omega)).conv (congrArg (fun n : Nat => Value.int .u8 (n : Int)) hst.symm)) ?_
      refine AG.takeW 8 rfl (by kernel_rfl) (by kernel_rfl) rfl rfl rfl (fun _ => Ev.assign rfl rfl) ?_
      refine AG.done (by kernel_rfl) ?_
      refine QW.blockN ?_
      refine QW.then_ ?_
      refine CW.region ?_
      refine RG.vl rfl rfl rfl (Ev.move rfl rfl) ?_
      refine RG.vl rfl rfl rfl (Ev.addI rfl rfl rfl (by omega)) ?_
      refine RG.vl rfl rfl rfl (Ev.assign rfl rfl) ?_
      refine RG.done ?_
      refine QW.sub (S' := [(0, _), (2, _), (3, _), (4, _), (5, _), (6, _), (7, _)]) ⟨rfl, rfl, rfl, rfl, rfl, rfl, rfl, trivial⟩ ?_
      refine QW.round1 (i + 1) ⟨rfl, rfl, trivial⟩ ⟨rfl, rfl, rfl, rfl, rfl, trivial⟩ ⟨⟨by omega, (Own.ext hou hE8)⟩, (Ex.tr hB0 hxwl5)⟩ (by omega)
    · refine CW.exit ?_
      refine QW.thenExit ?_
      refine QW.thenExit ?_
      refine QW.blockHit ?_
      refine QW.then_ ?_
      obtain rfl : i = l.length := by omega
      have hsy : evl (l.take l.length).reverse (pw (j + 1)) = sy l j := by rw [List.take_length]; rfl
      refine CW.region ?_
      refine RG.vl rfl rfl rfl (Ev.move rfl rfl) ?_
      refine RG.vl rfl rfl rfl ((Ev.move rfl rfl).conv (congrArg (fun n : Nat => Value.int .u8 (n : Int)) hsy)) ?_
      refine RG.litO (os := [.tmp 29]) (enc := encN) ([sy l j]) rfl rfl rfl rfl rfl rfl rfl Try.underlying22 inf_5 rfl rfl rfl rfl rfl encN_len rfl rfl (fun v13 wk14 hxwk14 hown15 hnew16 => ?_)
      have hsep17 : Sep v13 _ := Sep.of_new hou hnew16
      replace hxwl5 := Ex.tr hxwl5 hxwk14
      have hE18 := hxwk14
      refine RG.appO rfl rfl rfl rfl rfl rfl rfl Try.underlying22 inf_5 rfl rfl encN_len (fun _ => rfl) (Own.ext hou hE18) ((hown15.rdl encN_len)) (by show _ + 1 ≤ maxLen; simp only [maxLen]; omega) (by show (_ + 1) * _ ≤ _; omega) (hxwl5.size) (fun v19 wa20 hown21 hgr22 hat23 => ?_)
      have hsep25 := Sep.app (Sep.symm hsep17) hown15 hat23
      have hown24 := Own.grown hown15 hgr22 (fun k a b => (Sep.symm hsep17) k b a)
      replace hxwl5 := own_block (Own.ext hou hE18) hxwl5 hgr22 (Nat.le_refl _) hxwl5.size
      refine RG.vl rfl rfl rfl (Ev.assign rfl rfl) ?_
      refine RG.done ?_
      refine QW.blockN ?_
      refine QW.then_ ?_
      refine CW.region ?_
      refine RG.vl rfl rfl rfl (Ev.move rfl rfl) ?_
      refine RG.vl rfl rfl rfl (Ev.addI rfl rfl rfl (by omega)) ?_
      refine RG.vl rfl rfl rfl (Ev.assign rfl rfl) ?_
      refine RG.done ?_
      refine QW.round2 (j + 1) (v19) ⟨rfl, rfl, trivial⟩ ⟨rfl, rfl, trivial⟩ ⟨⟨by omega, by rw [syL_more l (by omega)]; exact hown21⟩, (Ex.tr hB0 hxwl5)⟩ (by omega)
  · refine CW.exit ?_
    refine QW.thenExit ?_
    refine QW.thenExit ?_
    refine QW.blockHit ?_
    refine QW.then_ ?_
    refine CW.seq ?_
    refine CW.region ?_
    refine RG.vl rfl rfl rfl (Ev.move rfl rfl) ?_
    refine RG.vl rfl rfl rfl (Ev.assign rfl rfl) ?_
    refine RG.done ?_
    refine QW.then_ ?_
    refine CW.ret ?_
    refine QW.ret1 rfl rfl ?_
    have hB := (Ex.tr hB0 hxwl1)
    obtain rfl : j = 4 := by omega
    exact ⟨hou, hB⟩

set_option maxRecDepth 100000 in
set_option maxHeartbeats 1000000 in
theorem rvalid_ret (u : Value) (l : List Nat) (w : World) (hl : RdL w 1 encN u l) (hlen : l.length ≤ 100000) :
    Ret Try.prog 28 [u] w (fun v w' => v = .bool (vldB l) ∧ Ex w w') := by
  have hB0 : Ex w w := Ex.rfl_ _
  refine Ret.of Try.func28 rfl Try.ntmps28 rfl ?_
  refine CW.seq ?_
  refine CW.region ?_
  refine RG.vl rfl rfl rfl (Ev.assign rfl rfl) ?_
  refine RG.done ?_
  refine QW.then_ ?_
  refine CW.seq ?_
  refine CW.seq ?_
  refine CW.region ?_
  refine RG.vl rfl rfl rfl (Ev.move rfl rfl) ?_
  refine RG.call rfl rfl rfl rfl rfl rfl rfl en_26 (rword_ret _ _ _ (hl) (by omega)) ?_
  rintro _ w1 ⟨rfl, hx1⟩
  have hE2 := hx1
  refine RG.vl rfl rfl rfl (Ev.not rfl rfl) ?_
  refine RG.done ?_
  refine QW.then_ ?_
  refine CW.cond rfl (fun hc3 => ?_) (fun hc3 => ?_)
  · refine CW.seq ?_
    refine CW.region ?_
    refine RG.vl rfl rfl rfl (Ev.assign rfl rfl) ?_
    refine RG.done ?_
    refine QW.then_ ?_
    refine CW.ret ?_
    refine QW.thenRet ?_
    refine QW.ret1 rfl rfl ?_
    have hB := (Ex.tr hB0 hE2)
    rw [isW_no (by simpa using (by assumption : (!isW l) = true))]
    exact ⟨rfl, hB⟩
  · refine CW.skip ?_
    refine QW.then_ ?_
    refine CW.seq ?_
    have hyes : isW l = true := by simpa using (by assumption : (!isW l) = false)
    obtain ⟨hw1, hw2, hel⟩ := isW_iff.1 hyes
    have hs4 : (syL l).length = 4 := rfl
    refine CW.region ?_
    refine RG.vl rfl rfl rfl (Ev.move rfl rfl) ?_
    refine RG.call rfl rfl rfl rfl rfl rfl rfl en_27 (rsynd_ret _ _ _ ((hl.ext hE2)) (by omega) (by exact hel)) ?_
    have hpre4 := (Ex.tr hB0 hE2)
    rintro rs4 w4 ⟨hrs4, hx4⟩
    replace hE2 := Ex.tr hE2 hx4
    have hE5 := hx4
    refine RG.vl rfl rfl rfl (Ev.assign rfl rfl) ?_
    refine RG.done ?_
    refine QW.then_ ?_
    refine CW.seq ?_
    refine CW.region ?_
    refine RG.vl rfl rfl rfl (Ev.move rfl rfl) ?_
    refine RG.idxO (i := 0) rfl rfl rfl rfl rfl rfl Try.underlying22 sz_5 encN_len (hrs4) (syL_at l (k := 0) (by decide)) (fun g7 hg7 hBg7 hp6b hp6 => ?_)
    refine RG.vl rfl rfl rfl (Ev.ld0 rfl rfl Try.underlying5 rfl (hp6) (rfl)) ?_
    refine RG.vl rfl rfl rfl (Ev.eqI rfl rfl rfl) ?_
    refine RG.vl rfl rfl rfl (Ev.move rfl rfl) ?_
    refine RG.split (d := 13) rfl (fun hg8 => ?_) (fun hg8 => ?_)
    · refine RG.vl rfl rfl rfl (Ev.move rfl rfl) ?_
      refine RG.idxO (i := 1) rfl rfl rfl rfl rfl rfl Try.underlying22 sz_5 encN_len (hrs4) (syL_at l (k := 1) (by decide)) (fun g10 hg10 hBg10 hp9b hp9 => ?_)
      refine RG.vl rfl rfl rfl (Ev.ld0 rfl rfl Try.underlying5 rfl (hp9) (rfl)) ?_
      refine RG.vl rfl rfl rfl (Ev.eqI rfl rfl rfl) ?_
      refine RG.vl rfl rfl rfl (Ev.pickT rfl rfl rfl) ?_
      refine RG.vl rfl rfl rfl (Ev.move rfl rfl) ?_
      refine RG.split (d := 19) rfl (fun hg11 => ?_) (fun hg11 => ?_)
      · refine RG.vl rfl rfl rfl (Ev.move rfl rfl) ?_
        refine RG.idxO (i := 2) rfl rfl rfl rfl rfl rfl Try.underlying22 sz_5 encN_len (hrs4) (syL_at l (k := 2) (by decide)) (fun g13 hg13 hBg13 hp12b hp12 => ?_)
        refine RG.vl rfl rfl rfl (Ev.ld0 rfl rfl Try.underlying5 rfl (hp12) (rfl)) ?_
        refine RG.vl rfl rfl rfl (Ev.eqI rfl rfl rfl) ?_
        refine RG.vl rfl rfl rfl (Ev.pickT rfl rfl rfl) ?_
        refine RG.vl rfl rfl rfl (Ev.move rfl rfl) ?_
        refine RG.split (d := 25) rfl (fun hg14 => ?_) (fun hg14 => ?_)
        · refine RG.vl rfl rfl rfl (Ev.move rfl rfl) ?_
          refine RG.idxO (i := 3) rfl rfl rfl rfl rfl rfl Try.underlying22 sz_5 encN_len (hrs4) (syL_at l (k := 3) (by decide)) (fun g16 hg16 hBg16 hp15b hp15 => ?_)
          refine RG.vl rfl rfl rfl (Ev.ld0 rfl rfl Try.underlying5 rfl (hp15) (rfl)) ?_
          refine RG.vl rfl rfl rfl (Ev.eqI rfl rfl rfl) ?_
          refine RG.vl rfl rfl rfl (Ev.pickT rfl rfl rfl) ?_
          refine RG.vl rfl rfl rfl (Ev.assign rfl rfl) ?_
          refine RG.done ?_
          refine QW.sub (S' := [(2, _)]) ⟨rfl, trivial⟩ ?_
          refine QW.then_ ?_
          refine CW.ret ?_
          refine QW.ret1 rfl rfl ?_
          have hB := (Ex.tr hB0 hE2)
          first | exact ⟨congrArg Value.bool (vldD hyes (by omega) (by omega) (by omega)), hB⟩ | exact ⟨congrArg Value.bool (vldF fun _ => by omega), hB⟩
        · refine RG.pass rfl rfl rfl ?_
          refine RG.pass rfl rfl rfl ?_
          refine RG.pass rfl rfl rfl ?_
          refine RG.pass rfl rfl rfl ?_
          refine RG.vl rfl rfl rfl (Ev.pickF rfl rfl rfl) ?_
          refine RG.vl rfl rfl rfl (Ev.assign rfl rfl) ?_
          refine RG.done ?_
          refine QW.sub (S' := [(2, _)]) ⟨rfl, trivial⟩ ?_
          refine QW.then_ ?_
          refine CW.ret ?_
          refine QW.ret1 rfl rfl ?_
          have hB := (Ex.tr hB0 hE2)
          first | exact ⟨congrArg Value.bool (vldD hyes (by omega) (by omega) (by omega)), hB⟩ | exact ⟨congrArg Value.bool (vldF fun _ => by omega), hB⟩
      · refine RG.pass rfl rfl rfl ?_
        refine RG.pass rfl rfl rfl ?_
        refine RG.pass rfl rfl rfl ?_
        refine RG.pass rfl rfl rfl ?_
        refine RG.vl rfl rfl rfl (Ev.pickF rfl rfl rfl) ?_
        refine RG.vl rfl rfl rfl (Ev.move rfl rfl) ?_
        refine RG.pass rfl rfl rfl ?_
        refine RG.pass rfl rfl rfl ?_
        refine RG.pass rfl rfl rfl ?_
        refine RG.pass rfl rfl rfl ?_
        refine RG.vl rfl rfl rfl (Ev.pickF rfl rfl rfl) ?_
        refine RG.vl rfl rfl rfl (Ev.assign rfl rfl) ?_
        refine RG.done ?_
        refine QW.sub (S' := [(2, _)]) ⟨rfl, trivial⟩ ?_
        refine QW.then_ ?_
        refine CW.ret ?_
        refine QW.ret1 rfl rfl ?_
        have hB := (Ex.tr hB0 hE2)
        first | exact ⟨congrArg Value.bool (vldD hyes (by omega) (by omega) (by omega)), hB⟩ | exact ⟨congrArg Value.bool (vldF fun _ => by omega), hB⟩
    · refine RG.pass rfl rfl rfl ?_
      refine RG.pass rfl rfl rfl ?_
      refine RG.pass rfl rfl rfl ?_
      refine RG.pass rfl rfl rfl ?_
      refine RG.vl rfl rfl rfl (Ev.pickF rfl rfl rfl) ?_
      refine RG.vl rfl rfl rfl (Ev.move rfl rfl) ?_
      refine RG.pass rfl rfl rfl ?_
      refine RG.pass rfl rfl rfl ?_
      refine RG.pass rfl rfl rfl ?_
      refine RG.pass rfl rfl rfl ?_
      refine RG.vl rfl rfl rfl (Ev.pickF rfl rfl rfl) ?_
      refine RG.vl rfl rfl rfl (Ev.move rfl rfl) ?_
      refine RG.pass rfl rfl rfl ?_
      refine RG.pass rfl rfl rfl ?_
      refine RG.pass rfl rfl rfl ?_
      refine RG.pass rfl rfl rfl ?_
      refine RG.vl rfl rfl rfl (Ev.pickF rfl rfl rfl) ?_
      refine RG.vl rfl rfl rfl (Ev.assign rfl rfl) ?_
      refine RG.done ?_
      refine QW.sub (S' := [(2, _)]) ⟨rfl, trivial⟩ ?_
      refine QW.then_ ?_
      refine CW.ret ?_
      refine QW.ret1 rfl rfl ?_
      have hB := (Ex.tr hB0 hE2)
      first | exact ⟨congrArg Value.bool (vldD hyes (by omega) (by omega) (by omega)), hB⟩ | exact ⟨congrArg Value.bool (vldF fun _ => by omega), hB⟩

set_option maxRecDepth 100000 in
set_option maxHeartbeats 4000000 in
theorem rencode_ret (u : Value) (l : List Nat) (w : World) (hl : RdL w 1 encN u l) (hlen : l.length ≤ 59) (hel : El l) :
    Ret Try.prog 29 [u] w (fun v w' => ∃ c, Own w' w.heap.size 5 1 encN v c ∧ IsEnc l c ∧ Ex w w') := by
  have hB0 : Ex w w := Ex.rfl_ _
  refine Ret.of Try.func29 rfl Try.ntmps29 rfl ?_
  refine CW.seq ?_
  refine CW.region ?_
  refine RG.vl rfl rfl rfl (Ev.assign rfl rfl) ?_
  refine RG.done ?_
  refine QW.then_ ?_
  refine CW.seq ?_
  refine CW.region ?_
  refine RG.litO (os := [_]) (enc := encN) ([1]) rfl rfl rfl rfl rfl rfl rfl Try.underlying22 inf_5 rfl rfl rfl rfl rfl encN_len rfl rfl (fun v1 wk2 hxwk2 hown3 hnew4 => ?_)
  have hE5 := hxwk2
  refine RG.vl rfl rfl rfl (Ev.assign rfl rfl) ?_
  refine RG.done ?_
  refine QW.then_ ?_
  refine CW.seq ?_
  refine CW.seq ?_
  refine CW.region ?_
  refine RG.vl rfl rfl rfl (Ev.assign rfl rfl) ?_
  refine RG.done ?_
  refine QW.then_ ?_
  refine CW.block ?_
  refine CW.loop2 [(0, _), (2, _)] ⟨rfl, rfl, trivial⟩ (fun (j : Nat) (ug : Value) => [(4, .int .i64 ((j : Int) + 1)), (3, ug)]) (fun j ug w' => (j ≤ 4 ∧ RdL w' 1 encN ug (genL j)) ∧ Ex w w') (fun j ug => 4 - j) (0) (v1) ⟨rfl, rfl, trivial⟩ ⟨⟨Nat.zero_le _, hown3.rdl encN_len⟩, (Ex.tr hB0 hE5)⟩ ?_
  rintro j ug wl6 ⟨⟨hj, hG⟩, hxwl6⟩
  refine CW.sub (S' := [(4, _), (3, _), (0, _), (2, _)]) ⟨rfl, rfl, rfl, rfl, trivial⟩ ?_
  obtain ⟨hGe, hGl⟩ := genL_ok hj
  refine CW.seq ?_
  refine CW.seq ?_
  refine CW.region ?_
  refine RG.vl rfl rfl rfl (Ev.move rfl rfl) ?_
  refine RG.vl rfl rfl rfl (Ev.leq rfl rfl rfl) ?_
  refine RG.done ?_
  refine QW.then_ ?_
  refine CW.condP rfl (fun hc7 => ?_) (fun hc7 => ?_)
  · refine CW.skip ?_
    refine QW.then_ ?_
    refine CW.seq ?_
    refine CW.block ?_
    have hpl := pw_lt (j + 1) (by omega)
    have h2l : [pw (j + 1), 1].length = 2 := rfl
    have hP2 : El [pw (j + 1), 1] := el2 hpl.2 (by omega)
    refine CW.region ?_
    refine RG.vl rfl rfl rfl (Ev.move rfl rfl) ?_
    refine RG.vl rfl rfl rfl (Ev.move rfl rfl) ?_
    refine RG.call rfl rfl rfl rfl rfl rfl rfl en_45 ((by have k := rpow_ret 2 (j + 1) wl6 (by omega) (by omega); rw [gp_two _ (by omega)] at k; exact k)) ?_
    rintro _ w8 ⟨rfl, hx8⟩
    replace hxwl6 := Ex.tr hxwl6 hx8
    have hE9 := hx8
    refine RG.litO (os := [.tmp 19, _]) (enc := encN) ([pw (j + 1), 1]) rfl rfl rfl rfl rfl rfl rfl Try.underlying22 inf_5 rfl rfl rfl rfl rfl encN_len rfl rfl (fun v10 wk11 hxwk11 hown12 hnew13 => ?_)
    replace hxwl6 := Ex.tr hxwl6 hxwk11
    replace hE9 := Ex.tr hE9 hxwk11
    have hE14 := hxwk11
    refine RG.call rfl rfl rfl rfl rfl rfl rfl en_47 (rprod_ret _ _ _ _ _ ((hG.ext hE9)) ((hown12.rdl encN_len)) (by omega) (by omega) (by exact hGe) (by exact hP2)) ?_
    have hpre15 := (Ex.tr hB0 hxwl6)
    rintro vrp15 w15 ⟨hrp15, hx15⟩
    replace hxwl6 := Ex.tr hxwl6 hx15
    replace hE9 := Ex.tr hE9 hx15
    replace hE14 := Ex.tr hE14 hx15
    have hE16 := hx15
    refine RG.vl rfl rfl rfl (Ev.assign rfl rfl) ?_
    refine RG.done ?_
    refine QW.blockN ?_
    refine QW.then_ ?_
    refine CW.region ?_
    refine RG.vl rfl rfl rfl (Ev.move rfl rfl) ?_
    refine RG.vl rfl rfl rfl (Ev.addI rfl rfl rfl (by omega)) ?_
    refine RG.vl rfl rfl rfl (Ev.assign rfl rfl) ?_
    refine RG.done ?_
    refine QW.round2 (j + 1) (vrp15) ⟨rfl, rfl, trivial⟩ ⟨rfl, rfl, trivial⟩ ⟨⟨by omega, hrp15.rdl encN_len⟩, (Ex.tr hB0 hxwl6)⟩ (by omega)
  · refine CW.exit ?_
    refine QW.thenExit ?_
    refine QW.thenExit ?_
    refine QW.blockHit ?_
    refine QW.then_ ?_
    refine CW.seq ?_
    refine CW.region ?_
    replace hl := (hl.ext hxwl6)
    have hR21 := (Ex.tr hB0 hxwl6)
    refine RG.makeO (m := 4) (enc := encN) 0 rfl rfl rfl rfl rfl rfl (rfl) Try.underlying22 inf_5 encN_len rfl rfl (by omega) (by simp only [maxLen]; omega) (fun v17 wk18 hxwk18 hown19 hnew20 => ?_)
    have hE22 := hxwk18
    refine RG.vl rfl rfl rfl (Ev.assign rfl rfl) ?_
    refine RG.done ?_
    refine QW.then_ ?_
    refine CW.seq ?_
    refine CW.seq ?_
    refine CW.region ?_
    refine RG.vl rfl rfl rfl (Ev.move rfl rfl) ?_
    refine RG.vl rfl rfl rfl (Ev.lenL rfl rfl rfl Try.underlying22 ((hl.ext hE22))) ?_
    refine RG.vl rfl rfl rfl (Ev.subI rfl rfl rfl (by omega)) ?_
    refine RG.vl rfl rfl rfl (Ev.assign rfl rfl) ?_
    refine RG.done ?_
    refine QW.then_ ?_
    refine CW.block ?_
    obtain rfl : j = 4 := by omega
    refine CW.loop2 [(0, _), (2, _), (3, _)] ⟨rfl, rfl, rfl, trivial⟩ (fun (k1 : Nat) (up : Value) => [(6, .int .i64 ((k1 : Int) - 1)), (5, up)]) (fun k1 up w' => (k1 ≤ l.length ∧ Own w' wl6.heap.size 5 1 encN up (rvD l k1)) ∧ Ex wl6 w') (fun k1 up => k1) (l.length) (v17) ⟨rfl, rfl, trivial⟩ ⟨⟨Nat.le_refl _, by rw [← rvD_start]; exact hown19⟩, hE22⟩ ?_
    rintro k1 up wl23 ⟨⟨hk1, hop⟩, hxwl23⟩
    refine CW.sub (S' := [(6, _), (5, _), (0, _), (2, _), (3, _)]) ⟨rfl, rfl, rfl, rfl, rfl, trivial⟩ ?_
    refine CW.seq ?_
    refine CW.seq ?_
    refine CW.region ?_
    refine RG.vl rfl rfl rfl (Ev.move rfl rfl) ?_
    refine RG.vl rfl rfl rfl (Ev.geq rfl rfl rfl) ?_
    refine RG.done ?_
    refine QW.then_ ?_
    refine CW.condP rfl (fun hc24 => ?_) (fun hc24 => ?_)
    · refine CW.skip ?_
      refine QW.then_ ?_
      refine CW.seq ?_
      refine CW.block ?_
      obtain ⟨k, rfl⟩ : ∃ k, k1 = k + 1 := ⟨k1 - 1, by omega⟩
      have hc : l[k]? = some (cf l k) := getElem?_cf (by omega)
      have hrl := rvD_len l (k + 1)
      refine CW.region ?_
      refine RG.vl rfl rfl rfl (Ev.move rfl rfl) ?_
      refine RG.vl rfl rfl rfl (Ev.move rfl rfl) ?_
      refine RG.vl rfl rfl rfl ((Ev.move rfl rfl).conv (congrArg (Value.int .i64) (show ((k + 1 : Nat) : Int) - 1 = (k : Int) by omega))) ?_
      refine RG.idxL rfl rfl rfl rfl rfl rfl Try.underlying22 sz_5 ((hl.ext hxwl23)) (hc) (fun p25 hp25b hp25 => ?_)
      refine RG.vl rfl rfl rfl (Ev.ld0 rfl rfl Try.underlying5 rfl (hp25) (rfl)) ?_
      refine RG.litO (os := [.tmp 34]) (enc := encN) ([cf l k]) rfl rfl rfl rfl rfl rfl rfl Try.underlying22 inf_5 rfl rfl rfl rfl rfl encN_len rfl rfl (fun v26 wk27 hxwk27 hown28 hnew29 => ?_)
      replace hxwl23 := Ex.tr hxwl23 hxwk27
      have hE30 := hxwk27
      refine RG.appO rfl rfl rfl rfl rfl rfl rfl Try.underlying22 inf_5 rfl rfl encN_len (fun _ => rfl) (Own.ext hop hE30) ((hown28.rdl encN_len)) (by show _ + 1 ≤ maxLen; simp only [maxLen]; omega) (by show (_ + 1) * _ ≤ _; omega) (hxwl23.size) (fun v31 wa32 hown33 hgr34 hat35 => ?_)
      replace hxwl23 := own_block (Own.ext hop hE30) hxwl23 hgr34 (Nat.le_refl _) hxwl23.size
      refine RG.vl rfl rfl rfl (Ev.assign rfl rfl) ?_
      refine RG.done ?_
      refine QW.blockN ?_
      refine QW.then_ ?_
      refine CW.region ?_
      refine RG.vl rfl rfl rfl (Ev.move rfl rfl) ?_
      refine RG.vl rfl rfl rfl (Ev.subI rfl rfl rfl (by omega)) ?_
      refine RG.vl rfl rfl rfl (Ev.assign rfl rfl) ?_
      refine RG.done ?_
      refine QW.round2 (k) (v31) ⟨congrArg (fun x => some (Value.int .i64 x)) (show ((k + 1 : Nat) : Int) - 1 - 1 = (k : Int) - 1 by omega), rfl, trivial⟩ ⟨rfl, rfl, rfl, trivial⟩ ⟨⟨by omega, by rw [← rvD_more (by omega)]; exact hown33⟩, hxwl23⟩ (by omega)
    · refine CW.exit ?_
      refine QW.thenExit ?_
      refine QW.thenExit ?_
      refine QW.blockHit ?_
      refine QW.then_ ?_
      refine CW.seq ?_
      rw [genL_four] at hG
      have hg5 : gen5.length = 5 := rfl
      obtain rfl : k1 = 0 := by omega
      have hrl := rvD_len l 0
      have hrE := rvD_el hel 0
      refine CW.region ?_
      refine RG.vl rfl rfl rfl (Ev.move rfl rfl) ?_
      refine RG.vl rfl rfl rfl (Ev.move rfl rfl) ?_
      refine RG.call rfl rfl rfl rfl rfl rfl rfl en_48 (rdiv_ret _ _ _ _ _ ((hop.rdl encN_len)) ((hG.ext hxwl23)) (by omega) (by omega) (by exact hrE) (by exact gen5_el) (by rw [gen5_dg]; omega)) ?_
      rintro _ w36 ⟨r136, r236, d36, e36, rfl, hod36, hoe36, hdv36, hdt36, het36, hde36, hee36, hx36⟩
      replace hxwl23 := Ex.tr hxwl23 hx36
      have hE37 := hx36
      refine RG.vl rfl rfl rfl (Ev.move rfl rfl) ?_
      refine RG.vl rfl rfl rfl (Ev.extract rfl rfl rfl) ?_
      refine RG.vl rfl rfl rfl (Ev.extract rfl rfl rfl) ?_
      refine RG.vl rfl rfl rfl (Ev.assign rfl rfl) ?_
      refine RG.vl rfl rfl rfl (Ev.assign rfl rfl) ?_
      refine RG.done ?_
      refine QW.then_ ?_
      refine CW.seq ?_
      rw [rvD_end] at hdv36
      obtain ⟨hr4, henc⟩ := enc_end hel hde36 hee36 hdv36 het36
      have hin : Ex w w36 := (Ex.tr hR21 hxwl23)
      refine CW.region ?_
      replace hl := (hl.ext hxwl23)
      replace hG := (hG.ext hxwl23)
      replace hop := (Own.ext hop hE37)
      have hR42 := (Ex.tr hR21 hxwl23)
      have hR43 := hxwl23
      have hR44 := hE37
      refine RG.build0O (enc := encN) rfl rfl rfl rfl rfl Try.underlying22 sz_5 (fun v38 wk39 hxwk39 hown40 hnew41 => ?_)
      have hE45 := hxwk39
      refine RG.vl rfl rfl rfl (Ev.move rfl rfl) ?_
      refine RG.appO rfl rfl rfl rfl rfl rfl rfl Try.underlying22 inf_5 rfl rfl encN_len (fun _ => rfl) hown40 ((hl.ext hE45)) (by show 0 + _ ≤ maxLen; simp only [maxLen]; omega) (by show (0 + _) * _ ≤ _; omega) (hE45.size) (fun v46 wa47 hown48 hgr49 hat50 => ?_)
      replace hE45 := own_block hown40 hE45 hgr49 (Nat.le_refl _) hE45.size
      refine RG.vl rfl rfl rfl (Ev.assign rfl rfl) ?_
      refine RG.done ?_
      refine QW.sub (S' := [(2, _), (8, _), (9, _)]) ⟨rfl, rfl, rfl, trivial⟩ ?_
      refine QW.then_ ?_
      refine CW.seq ?_
      refine CW.seq ?_
      refine CW.region ?_
      refine RG.vl rfl rfl rfl (Ev.assign rfl rfl) ?_
      refine RG.done ?_
      refine QW.then_ ?_
      refine CW.block ?_
      refine CW.loop2 [(2, _), (8, _)] ⟨rfl, rfl, trivial⟩ (fun (k2 : Nat) (u9 : Value) => [(10, .int .i64 ((k2 : Int) - 1)), (9, u9)]) (fun k2 u9 w' => (k2 ≤ 4 ∧ Own w' w36.heap.size 5 1 encN u9 (ckD l e36 k2)) ∧ Ex w36 w') (fun k2 u9 => k2) (4) (v46) ⟨rfl, rfl, trivial⟩ ⟨⟨Nat.le_refl _, by rw [ckD_start]; exact hown48⟩, hE45⟩ ?_
      rintro k2 u9 wl51 ⟨⟨hk2, ho9⟩, hxwl51⟩
      refine CW.sub (S' := [(10, _), (9, _), (2, _), (8, _)]) ⟨rfl, rfl, rfl, rfl, trivial⟩ ?_
      refine CW.seq ?_
      refine CW.seq ?_
      refine CW.region ?_
      refine RG.vl rfl rfl rfl (Ev.move rfl rfl) ?_
      refine RG.vl rfl rfl rfl (Ev.geq rfl rfl rfl) ?_
      refine RG.done ?_
      refine QW.then_ ?_
      refine CW.condP rfl (fun hc52 => ?_) (fun hc52 => ?_)
      · refine CW.skip ?_
        refine QW.then_ ?_
        refine CW.seq ?_
        refine CW.block ?_
        refine CW.seq ?_
        obtain ⟨k, rfl⟩ : ∃ k, k2 = k + 1 := ⟨k2 - 1, by omega⟩
        have hck := ckD_len l e36 (k + 1)
        refine CW.region ?_
        refine RG.vl rfl rfl rfl (Ev.assign rfl rfl) ?_
        refine RG.done ?_
        refine QW.then_ ?_
        refine CW.seq ?_
        refine CW.seq ?_
        refine CW.region ?_
        refine RG.vl rfl rfl rfl (Ev.move rfl rfl) ?_
        refine RG.vl rfl rfl rfl (Ev.move rfl rfl) ?_
        refine RG.vl rfl rfl rfl (Ev.lenL rfl rfl rfl Try.underlying22 ((hoe36.ext hxwl51))) ?_
        refine RG.vl rfl rfl rfl (Ev.lss rfl rfl rfl) ?_
        refine RG.done ?_
        refine QW.then_ ?_
        refine CW.condP rfl (fun hc53 => ?_) (fun hc53 => ?_)
        · refine CW.region ?_
          refine RG.vl rfl rfl rfl (Ev.move rfl rfl) ?_
          refine RG.vl rfl rfl rfl ((Ev.move rfl rfl).conv (congrArg (Value.int .i64) (show ((k + 1 : Nat) : Int) - 1 = (k : Int) by omega))) ?_
          refine RG.idxL rfl rfl rfl rfl rfl rfl Try.underlying22 sz_5 ((hoe36.ext hxwl51)) (getElem?_cf (show k < _ by omega)) (fun p54 hp54b hp54 => ?_)
          refine RG.vl rfl rfl rfl (Ev.ld0 rfl rfl Try.underlying5 rfl (hp54) (rfl)) ?_
          refine RG.vl rfl rfl rfl (Ev.assign rfl rfl) ?_
          refine RG.done ?_
          refine QW.then_ ?_
          refine CW.region ?_
          refine RG.vl rfl rfl rfl (Ev.move rfl rfl) ?_
          refine RG.vl rfl rfl rfl (Ev.move rfl rfl) ?_
          refine RG.litO (os := [.tmp 59]) (enc := encN) ([cf e36 k]) rfl rfl rfl rfl rfl rfl rfl Try.underlying22 inf_5 rfl rfl rfl rfl rfl encN_len rfl rfl (fun v55 wk56 hxwk56 hown57 hnew58 => ?_)
          replace hxwl51 := Ex.tr hxwl51 hxwk56
          have hE59 := hxwk56
          refine RG.appO rfl rfl rfl rfl rfl rfl rfl Try.underlying22 inf_5 rfl rfl encN_len (fun _ => rfl) (Own.ext ho9 hE59) ((hown57.rdl encN_len)) (by show _ + 1 ≤ maxLen; simp only [maxLen]; omega) (by show (_ + 1) * _ ≤ _; omega) (hxwl51.size) (fun v60 wa61 hown62 hgr63 hat64 => ?_)
          replace hxwl51 := own_block (Own.ext ho9 hE59) hxwl51 hgr63 (Nat.le_refl _) hxwl51.size
          refine RG.vl rfl rfl rfl (Ev.assign rfl rfl) ?_
          refine RG.done ?_
          refine QW.sub (S' := [(2, _), (8, _), (9, _), (10, _)]) ⟨rfl, rfl, rfl, rfl, trivial⟩ ?_
          refine QW.blockN ?_
          refine QW.then_ ?_
          refine CW.region ?_
          refine RG.vl rfl rfl rfl (Ev.move rfl rfl) ?_
          refine RG.vl rfl rfl rfl (Ev.subI rfl rfl rfl (by omega)) ?_
          refine RG.vl rfl rfl rfl (Ev.assign rfl rfl) ?_
          refine RG.done ?_
          refine QW.round2 (k) (v60) ⟨congrArg (fun x => some (Value.int .i64 x)) (show ((k + 1 : Nat) : Int) - 1 - 1 = (k : Int) - 1 by omega), rfl, trivial⟩ ⟨rfl, rfl, trivial⟩ ⟨⟨by omega, by rw [← ckD_more (by omega)]; exact hown62⟩, hxwl51⟩ (by omega)
        · refine CW.skip ?_
          refine QW.then_ ?_
          have hz : cf e36 k = 0 := cf_none (by omega)
          refine CW.region ?_
          refine RG.vl rfl rfl rfl (Ev.move rfl rfl) ?_
          refine RG.vl rfl rfl rfl (Ev.move rfl rfl) ?_
          refine RG.litO (os := [.tmp 59]) (enc := encN) ([0]) rfl rfl rfl rfl rfl rfl rfl Try.underlying22 inf_5 rfl rfl rfl rfl rfl encN_len rfl rfl (fun v65 wk66 hxwk66 hown67 hnew68 => ?_)
          replace hxwl51 := Ex.tr hxwl51 hxwk66
          have hE69 := hxwk66
          refine RG.appO rfl rfl rfl rfl rfl rfl rfl Try.underlying22 inf_5 rfl rfl encN_len (fun _ => rfl) (Own.ext ho9 hE69) ((hown67.rdl encN_len)) (by show _ + 1 ≤ maxLen; simp only [maxLen]; omega) (by show (_ + 1) * _ ≤ _; omega) (hxwl51.size) (fun v70 wa71 hown72 hgr73 hat74 => ?_)
          replace hxwl51 := own_block (Own.ext ho9 hE69) hxwl51 hgr73 (Nat.le_refl _) hxwl51.size
          refine RG.vl rfl rfl rfl (Ev.assign rfl rfl) ?_
          refine RG.done ?_
          refine QW.blockN ?_
          refine QW.then_ ?_
          refine CW.region ?_
          refine RG.vl rfl rfl rfl (Ev.move rfl rfl) ?_
          refine RG.vl rfl rfl rfl (Ev.subI rfl rfl rfl (by omega)) ?_
          refine RG.vl rfl rfl rfl (Ev.assign rfl rfl) ?_
          refine RG.done ?_
          refine QW.sub (S' := [(2, _), (8, _), (9, _), (10, _)]) ⟨rfl, rfl, rfl, rfl, trivial⟩ ?_
          refine QW.round2 (k) (v70) ⟨congrArg (fun x => some (Value.int .i64 x)) (show ((k + 1 : Nat) : Int) - 1 - 1 = (k : Int) - 1 by omega), rfl, trivial⟩ ⟨rfl, rfl, trivial⟩ ⟨⟨by omega, by rw [← ckD_more (by omega), hz]; exact hown72⟩, hxwl51⟩ (by omega)
      · refine CW.exit ?_
        refine QW.thenExit ?_
        refine QW.thenExit ?_
        refine QW.blockHit ?_
        refine QW.then_ ?_
        refine CW.seq ?_
        refine CW.region ?_
        refine RG.vl rfl rfl rfl (Ev.move rfl rfl) ?_
        refine RG.vl rfl rfl rfl (Ev.assign rfl rfl) ?_
        refine RG.done ?_
        refine QW.then_ ?_
        refine CW.ret ?_
        refine QW.ret1 rfl rfl ?_
        have hB := (Ex.tr hR42 hxwl51)
        obtain rfl : k2 = 0 := by omega
        exact ⟨_, ho9.low (by have := hin.size; omega), by rw [ckD_end]; exact henc, hB⟩

end Go.Proofs.Ytjhgihgggofocaa
