/- Texts put together by program: SR, LJ, LQ, RK, RG, SW0, RM, RH. -/
import Derived.Test.YtjhgihgggofocaaMSolomonDecodes3
/- Walks (SR). Written by program. -/
namespace Go.Proofs.Ytjhgihgggofocaa
open Go.RowKit
set_option maxRecDepth 100000 in
set_option maxHeartbeats 1000000 in
theorem sameB_ret (u v : Value) (l m : List Nat) (w : World) (hl : RdL w 1 encN u l) (hm : RdL w 1 encN v m) (hlen : l.length ≤ 100000) :
    Ret Try.prog 19 [u, v] w (fun v w' => v = .bool (decide (l = m)) ∧ Ex w w') := by
  have hB0 : Ex w w := Ex.rfl_ _
  refine Ret.of Try.func19 rfl Try.ntmps19 rfl ?_
  refine CW.seq ?_
  refine CW.region ?_
  refine RG.vl rfl rfl rfl (Ev.assign rfl rfl) ?_
  refine RG.done ?_
  refine QW.then_ ?_
  refine CW.seq ?_
  refine CW.seq ?_
  refine CW.region ?_
  refine RG.vl rfl rfl rfl (Ev.move rfl rfl) ?_
  refine RG.vl rfl rfl rfl (Ev.lenL rfl rfl rfl Try.underlying22 (hl)) ?_
  refine RG.vl rfl rfl rfl (Ev.move rfl rfl) ?_
  refine RG.vl rfl rfl rfl (Ev.lenL rfl rfl rfl Try.underlying22 (hm)) ?_
  refine RG.vl rfl rfl rfl (Ev.neI rfl rfl rfl) ?_
  refine RG.done ?_
  refine QW.then_ ?_
  refine CW.condP rfl (fun hc1 => ?_) (fun hc1 => ?_)
  · refine CW.seq ?_
    refine CW.region ?_
    refine RG.vl rfl rfl rfl (Ev.assign rfl rfl) ?_
    refine RG.done ?_
    refine QW.then_ ?_
    refine CW.ret ?_
    refine QW.thenRet ?_
    refine QW.ret1 rfl rfl ?_
    have hB := hB0
    refine ⟨congrArg Value.bool ?_, hB⟩; rw [eq_comm, decide_eq_false_iff_not]; rintro rfl; omega
  · refine CW.skip ?_
    refine QW.then_ ?_
    refine CW.seq ?_
    refine CW.seq ?_
    refine CW.region ?_
    refine RG.vl rfl rfl rfl (Ev.assign rfl rfl) ?_
    refine RG.done ?_
    refine QW.then_ ?_
    refine CW.block ?_
    refine CW.loop1 [(0, _), (1, _)] ⟨rfl, rfl, trivial⟩ (fun (k : Nat) => [(5, .int .i64 k)]) (fun k w' => (k ≤ l.length ∧ ∀ j, j < k → l[j]? = m[j]?) ∧ Ex w w') (fun k => l.length - k) (0) ⟨rfl, trivial⟩ ⟨⟨Nat.zero_le _, fun j h => absurd h (by omega)⟩, hB0⟩ ?_
    rintro k wl2 ⟨⟨hkl, heq⟩, hxwl2⟩
    refine CW.sub (S' := [(5, _), (0, _), (1, _)]) ⟨rfl, rfl, rfl, trivial⟩ ?_
    refine CW.seq ?_
    refine CW.seq ?_
    refine CW.region ?_
    refine RG.vl rfl rfl rfl (Ev.move rfl rfl) ?_
    refine RG.vl rfl rfl rfl (Ev.move rfl rfl) ?_
    refine RG.vl rfl rfl rfl (Ev.lenL rfl rfl rfl Try.underlying22 ((hl.ext hxwl2))) ?_
    refine RG.vl rfl rfl rfl (Ev.lss rfl rfl rfl) ?_
    refine RG.done ?_
    refine QW.then_ ?_
    refine CW.condP rfl (fun hc3 => ?_) (fun hc3 => ?_)
    · refine CW.skip ?_
      refine QW.then_ ?_
      refine CW.seq ?_
      refine CW.block ?_
      refine CW.seq ?_
      obtain ⟨b, hk⟩ : ∃ b, l[k]? = some b := ⟨_, List.getElem?_eq_getElem (by omega)⟩
      obtain ⟨c, hk2⟩ : ∃ c, m[k]? = some c := ⟨_, List.getElem?_eq_getElem (by omega)⟩
      refine CW.draw [] (.ex) 9 rfl mixed (fun wd4 hxwd4 => ?_)
      replace hxwl2 := Ex.tr hxwl2 hxwd4
      have hE5 := hxwd4
      refine AG.takeW 0 rfl (by kernel_rfl) (by kernel_rfl) rfl rfl rfl (fun _ => Ev.move rfl rfl) ?_
      refine AG.takeW 1 rfl (by kernel_rfl) (by kernel_rfl) rfl rfl rfl (fun _ => Ev.move rfl rfl) ?_
      refine AG.idxL _ 2 rfl (by kernel_rfl) (by kernel_rfl) rfl rfl rfl rfl rfl rfl Try.underlying22 sz_5 ((hl.ext hxwl2)) (hk) (fun p6 hp6b hp6 => ?_)
      refine AG.take 3 rfl (by kernel_rfl) (by kernel_rfl) rfl rfl rfl (fun wq hq => Ev.ld0 rfl rfl Try.underlying5 rfl (hp6.ext hq hp6b) (rfl)) ?_
      refine AG.takeW 4 rfl (by kernel_rfl) (by kernel_rfl) rfl rfl rfl (fun _ => Ev.move rfl rfl) ?_
      refine AG.takeW 5 rfl (by kernel_rfl) (by kernel_rfl) rfl rfl rfl (fun _ => Ev.move rfl rfl) ?_
      refine AG.idxL _ 6 rfl (by kernel_rfl) (by kernel_rfl) rfl rfl rfl rfl rfl rfl Try.underlying22 sz_5 ((hm.ext hxwl2)) (hk2) (fun p7 hp7b hp7 => ?_)
      refine AG.take 7 rfl (by kernel_rfl) (by kernel_rfl) rfl rfl rfl (fun wq hq => Ev.ld0 rfl rfl Try.underlying5 rfl (hp7.ext hq hp7b) (rfl)) ?_
      refine AG.takeW 8 rfl (by kernel_rfl) (by kernel_rfl) rfl rfl rfl (fun _ => Ev.neI rfl rfl rfl) ?_
      refine AG.done (by kernel_rfl) ?_
      refine QW.then_ ?_
      refine CW.condP rfl (fun hc8 => ?_) (fun hc8 => ?_)
      · refine CW.seq ?_
        refine CW.region ?_
        refine RG.vl rfl rfl rfl (Ev.assign rfl rfl) ?_
        refine RG.done ?_
        refine QW.sub (S' := [(0, _), (1, _), (4, _), (5, _)]) ⟨rfl, rfl, rfl, rfl, trivial⟩ ?_
        refine QW.then_ ?_
        refine CW.ret ?_
        refine QW.blockR ?_
        refine QW.thenRet ?_
        refine QW.thenRet ?_
        refine QW.blockR ?_
        refine QW.thenRet ?_
        refine QW.ret1 rfl rfl ?_
        have hB := (Ex.tr hB0 hxwl2)
        refine ⟨congrArg Value.bool ?_, hB⟩; rw [eq_comm, decide_eq_false_iff_not]; rintro rfl; rw [hk] at hk2; injection hk2 with hk2; subst hk2; omega
      · refine CW.skip ?_
        refine QW.blockN ?_
        refine QW.then_ ?_
        refine CW.region ?_
        refine RG.vl rfl rfl rfl (Ev.move rfl rfl) ?_
        refine RG.vl rfl rfl rfl (Ev.addI rfl rfl rfl (by omega)) ?_
        refine RG.vl rfl rfl rfl (Ev.assign rfl rfl) ?_
        refine RG.done ?_
        refine QW.sub (S' := [(0, _), (1, _), (5, _)]) ⟨rfl, rfl, rfl, trivial⟩ ?_
        refine QW.round1 (k + 1) ⟨rfl, trivial⟩ ⟨rfl, rfl, trivial⟩ ⟨⟨by omega, fun j hj => by rcases Nat.lt_or_ge j k with h | h; exact heq j h; obtain rfl : j = k := (by omega); rw [hk, hk2]; congr 1; omega⟩, (Ex.tr hB0 hxwl2)⟩ (by omega)
    · refine CW.exit ?_
      refine QW.thenExit ?_
      refine QW.thenExit ?_
      refine QW.blockHit ?_
      refine QW.then_ ?_
      refine CW.seq ?_
      refine CW.region ?_
      refine RG.vl rfl rfl rfl (Ev.assign rfl rfl) ?_
      refine RG.done ?_
      refine QW.then_ ?_
      refine CW.ret ?_
      refine QW.ret1 rfl rfl ?_
      have hB := (Ex.tr hB0 hxwl2)
      refine ⟨congrArg Value.bool ?_, hB⟩; rw [eq_comm, decide_eq_true_iff]; refine List.ext_getElem? fun j => ?_; rcases Nat.lt_or_ge j l.length with h | h; exact heq j (by omega); rw [List.getElem?_eq_none h, List.getElem?_eq_none (by omega)]

set_option maxRecDepth 100000 in
set_option maxHeartbeats 1000000 in
theorem sameI_ret (u v : Value) (l m : List Nat) (w : World) (hl : RdL w 1 encZ u l) (hm : RdL w 1 encZ v m) (hlen : l.length ≤ 100000) :
    Ret Try.prog 20 [u, v] w (fun v w' => v = .bool (decide (l = m)) ∧ Ex w w') := by
  have hB0 : Ex w w := Ex.rfl_ _
  refine Ret.of Try.func20 rfl Try.ntmps20 rfl ?_
  refine CW.seq ?_
  refine CW.region ?_
  refine RG.vl rfl rfl rfl (Ev.assign rfl rfl) ?_
  refine RG.done ?_
  refine QW.then_ ?_
  refine CW.seq ?_
  refine CW.seq ?_
  refine CW.region ?_
  refine RG.vl rfl rfl rfl (Ev.move rfl rfl) ?_
  refine RG.vl rfl rfl rfl (Ev.lenL rfl rfl rfl Try.underlying23 (hl)) ?_
  refine RG.vl rfl rfl rfl (Ev.move rfl rfl) ?_
  refine RG.vl rfl rfl rfl (Ev.lenL rfl rfl rfl Try.underlying23 (hm)) ?_
  refine RG.vl rfl rfl rfl (Ev.neI rfl rfl rfl) ?_
  refine RG.done ?_
  refine QW.then_ ?_
  refine CW.condP rfl (fun hc1 => ?_) (fun hc1 => ?_)
  · refine CW.seq ?_
    refine CW.region ?_
    refine RG.vl rfl rfl rfl (Ev.assign rfl rfl) ?_
    refine RG.done ?_
    refine QW.then_ ?_
    refine CW.ret ?_
    refine QW.thenRet ?_
    refine QW.ret1 rfl rfl ?_
    have hB := hB0
    refine ⟨congrArg Value.bool ?_, hB⟩; rw [eq_comm, decide_eq_false_iff_not]; rintro rfl; omega
  · refine CW.skip ?_
    refine QW.then_ ?_
    refine CW.seq ?_
    refine CW.seq ?_
    refine CW.region ?_
    refine RG.vl rfl rfl rfl (Ev.assign rfl rfl) ?_
    refine RG.done ?_
    refine QW.then_ ?_
    refine CW.block ?_
    refine CW.loop1 [(0, _), (1, _)] ⟨rfl, rfl, trivial⟩ (fun (k : Nat) => [(5, .int .i64 k)]) (fun k w' => (k ≤ l.length ∧ ∀ j, j < k → l[j]? = m[j]?) ∧ Ex w w') (fun k => l.length - k) (0) ⟨rfl, trivial⟩ ⟨⟨Nat.zero_le _, fun j h => absurd h (by omega)⟩, hB0⟩ ?_
    rintro k wl2 ⟨⟨hkl, heq⟩, hxwl2⟩
    refine CW.sub (S' := [(5, _), (0, _), (1, _)]) ⟨rfl, rfl, rfl, trivial⟩ ?_
    refine CW.seq ?_
    refine CW.seq ?_
    refine CW.region ?_
    refine RG.vl rfl rfl rfl (Ev.move rfl rfl) ?_
    refine RG.vl rfl rfl rfl (Ev.move rfl rfl) ?_
    refine RG.vl rfl rfl rfl (Ev.lenL rfl rfl rfl Try.underlying23 ((hl.ext hxwl2))) ?_
    refine RG.vl rfl rfl rfl (Ev.lss rfl rfl rfl) ?_
    refine RG.done ?_
    refine QW.then_ ?_
    refine CW.condP rfl (fun hc3 => ?_) (fun hc3 => ?_)
    · refine CW.skip ?_
      refine QW.then_ ?_
      refine CW.seq ?_
      refine CW.block ?_
      refine CW.seq ?_
      obtain ⟨b, hk⟩ : ∃ b, l[k]? = some b := ⟨_, List.getElem?_eq_getElem (by omega)⟩
      obtain ⟨c, hk2⟩ : ∃ c, m[k]? = some c := ⟨_, List.getElem?_eq_getElem (by omega)⟩
      refine CW.draw [] (.ex) 9 rfl mixed (fun wd4 hxwd4 => ?_)
      replace hxwl2 := Ex.tr hxwl2 hxwd4
      have hE5 := hxwd4
      refine AG.takeW 0 rfl (by kernel_rfl) (by kernel_rfl) rfl rfl rfl (fun _ => Ev.move rfl rfl) ?_
      refine AG.takeW 1 rfl (by kernel_rfl) (by kernel_rfl) rfl rfl rfl (fun _ => Ev.move rfl rfl) ?_
      refine AG.idxL _ 2 rfl (by kernel_rfl) (by kernel_rfl) rfl rfl rfl rfl rfl rfl Try.underlying23 sz_3 ((hl.ext hxwl2)) (hk) (fun p6 hp6b hp6 => ?_)
      refine AG.take 3 rfl (by kernel_rfl) (by kernel_rfl) rfl rfl rfl (fun wq hq => Ev.ld0 rfl rfl Try.underlying3 rfl (hp6.ext hq hp6b) (rfl)) ?_
      refine AG.takeW 4 rfl (by kernel_rfl) (by kernel_rfl) rfl rfl rfl (fun _ => Ev.move rfl rfl) ?_
      refine AG.takeW 5 rfl (by kernel_rfl) (by kernel_rfl) rfl rfl rfl (fun _ => Ev.move rfl rfl) ?_
      refine AG.idxL _ 6 rfl (by kernel_rfl) (by kernel_rfl) rfl rfl rfl rfl rfl rfl Try.underlying23 sz_3 ((hm.ext hxwl2)) (hk2) (fun p7 hp7b hp7 => ?_)
      refine AG.take 7 rfl (by kernel_rfl) (by kernel_rfl) rfl rfl rfl (fun wq hq => Ev.ld0 rfl rfl Try.underlying3 rfl (hp7.ext hq hp7b) (rfl)) ?_
      refine AG.takeW 8 rfl (by kernel_rfl) (by kernel_rfl) rfl rfl rfl (fun _ => Ev.neI rfl rfl rfl) ?_
      refine AG.done (by kernel_rfl) ?_
      refine QW.then_ ?_
      refine CW.condP rfl (fun hc8 => ?_) (fun hc8 => ?_)
      · refine CW.seq ?_
        refine CW.region ?_
        refine RG.vl rfl rfl rfl (Ev.assign rfl rfl) ?_
        refine RG.done ?_
        refine QW.sub (S' := [(0, _), (1, _), (4, _), (5, _)]) ⟨rfl, rfl, rfl, rfl, trivial⟩ ?_
        refine QW.then_ ?_
        refine CW.ret ?_
        refine QW.blockR ?_
        refine QW.thenRet ?_
        refine QW.thenRet ?_
        refine QW.blockR ?_
        refine QW.thenRet ?_
        refine QW.ret1 rfl rfl ?_
        have hB := (Ex.tr hB0 hxwl2)
        refine ⟨congrArg Value.bool ?_, hB⟩; rw [eq_comm, decide_eq_false_iff_not]; rintro rfl; rw [hk] at hk2; injection hk2 with hk2; subst hk2; omega
      · refine CW.skip ?_
        refine QW.blockN ?_
        refine QW.then_ ?_
        refine CW.region ?_
        refine RG.vl rfl rfl rfl (Ev.move rfl rfl) ?_
        refine RG.vl rfl rfl rfl (Ev.addI rfl rfl rfl (by omega)) ?_
        refine RG.vl rfl rfl rfl (Ev.assign rfl rfl) ?_
        refine RG.done ?_
        refine QW.sub (S' := [(0, _), (1, _), (5, _)]) ⟨rfl, rfl, rfl, trivial⟩ ?_
        refine QW.round1 (k + 1) ⟨rfl, trivial⟩ ⟨rfl, rfl, trivial⟩ ⟨⟨by omega, fun j hj => by rcases Nat.lt_or_ge j k with h | h; exact heq j h; obtain rfl : j = k := (by omega); rw [hk, hk2]; congr 1; omega⟩, (Ex.tr hB0 hxwl2)⟩ (by omega)
    · refine CW.exit ?_
      refine QW.thenExit ?_
      refine QW.thenExit ?_
      refine QW.blockHit ?_
      refine QW.then_ ?_
      refine CW.seq ?_
      refine CW.region ?_
      refine RG.vl rfl rfl rfl (Ev.assign rfl rfl) ?_
      refine RG.done ?_
      refine QW.then_ ?_
      refine CW.ret ?_
      refine QW.ret1 rfl rfl ?_
      have hB := (Ex.tr hB0 hxwl2)
      refine ⟨congrArg Value.bool ?_, hB⟩; rw [eq_comm, decide_eq_true_iff]; refine List.ext_getElem? fun j => ?_; rcases Nat.lt_or_ge j l.length with h | h; exact heq j (by omega); rw [List.getElem?_eq_none h, List.getElem?_eq_none (by omega)]

theorem sameBt_ret (u v : Value) (l : List Nat) (w : World) (hl : RdL w 1 encN u l) (hm : RdL w 1 encN v l) (hlen : l.length ≤ 100000) : Ret Try.prog 19 [u, v] w (fun v w' => v = .bool true ∧ Ex w w') := by
  have k := sameB_ret u v l l w hl hm hlen; rw [decide_eq_true (rfl : l = l)] at k; exact k
theorem sameIt_ret (u v : Value) (l : List Nat) (w : World) (hl : RdL w 1 encZ u l) (hm : RdL w 1 encZ v l) (hlen : l.length ≤ 100000) : Ret Try.prog 20 [u, v] w (fun v w' => v = .bool true ∧ Ex w w') := by
  have k := sameI_ret u v l l w hl hm hlen; rw [decide_eq_true (rfl : l = l)] at k; exact k

set_option maxRecDepth 100000 in
set_option maxHeartbeats 8000000 in
theorem awake_ret  (w : World)  :
    Ret Try.prog 10 [] w (fun v w' => v = .bool true ∧ Ex w w') := by
  have hB0 : Ex w w := Ex.rfl_ _
  refine Ret.of Try.func10 rfl Try.ntmps10 rfl ?_
  refine CW.seq ?_
  refine CW.region ?_
  refine RG.vl rfl rfl rfl (Ev.assign rfl rfl) ?_
  refine RG.done ?_
  refine QW.then_ ?_
  refine CW.seq ?_
  refine CW.region ?_
  refine RG.litO (os := [_]) (enc := encN) ([1]) rfl rfl rfl rfl rfl rfl rfl Try.underlying22 inf_5 rfl rfl rfl rfl rfl encN_len rfl rfl (fun v1 wk2 hxwk2 hown3 hnew4 => ?_)
  have hE5 := hxwk2
  refine RG.call rfl rfl rfl rfl rfl rfl rfl en_23 (enc_is _ _ [1] [1, 30, 29, 17, 48] ((hown3.rdl encN_len)) (by decide +kernel) good_code rfl) ?_
  have hpre6 := (Ex.tr hB0 hE5)
  rintro _ w6 ⟨re, rfl, hoen, hx6⟩
  replace hE5 := Ex.tr hE5 hx6
  have hE7 := hx6
  refine RG.vl rfl rfl rfl (Ev.move rfl rfl) ?_
  refine RG.vl rfl rfl rfl (Ev.extract rfl rfl rfl) ?_
  refine RG.vl rfl rfl rfl (Ev.extract rfl rfl rfl) ?_
  refine RG.vl rfl rfl rfl (Ev.assign rfl rfl) ?_
  refine RG.vl rfl rfl rfl (Ev.assign rfl rfl) ?_
  refine RG.done ?_
  refine QW.then_ ?_
  refine CW.seq ?_
  refine CW.region ?_
  refine RG.litO (os := [_, _, _, _, _]) (enc := encN) ([0, 0, 29, 17, 48]) rfl rfl rfl rfl rfl rfl rfl Try.underlying22 inf_5 rfl rfl rfl rfl rfl encN_len rfl rfl (fun v8 wk9 hxwk9 hown10 hnew11 => ?_)
  replace hE5 := Ex.tr hE5 hxwk9
  replace hE7 := Ex.tr hE7 hxwk9
  have hE12 := hxwk9
  refine RG.call rfl rfl rfl rfl rfl rfl rfl en_13 (dec_is _ _ _ [0, 0, 29, 17, 48] [] [1, 30, 29, 17, 48] [0, 1] (hown10.rdl encN_len) (RdL.nil_ _) (by decide +kernel) (by unfold okE; decide +kernel) (by decide) good_code (by decide +kernel) (by decide)) ?_
  have hpre13 := (Ex.tr hB0 hE5)
  rintro _ w13 ⟨A13, B13, C13, D13, rfl, hor13, hoe13, hx13⟩
  replace hE5 := Ex.tr hE5 hx13
  replace hE7 := Ex.tr hE7 hx13
  replace hE12 := Ex.tr hE12 hx13
  have hE14 := hx13
  refine RG.vl rfl rfl rfl (Ev.move rfl rfl) ?_
  refine RG.vl rfl rfl rfl (Ev.extract rfl rfl rfl) ?_
  refine RG.vl rfl rfl rfl (Ev.extract rfl rfl rfl) ?_
  refine RG.local_ rfl rfl rfl rfl (fun _ => rfl) rfl rfl (fun _ => rfl) inf_28 rfl rfl rfl (fun g15 w15 eg15 hx15 hb15 => ?_)
  have hsb16 := fun e => sep_new (g := g15) (Own.ext hown3 hE7) eg15 e
  have hsb17 := fun e => sep_new (g := g15) (Own.ext hoen hE12) eg15 e
  have hsb18 := fun e => sep_new (g := g15) (Own.ext hown10 hE14) eg15 e
  have hsb19 := fun e => sep_new (g := g15) hor13 eg15 e
  have hsb20 := fun e => sep_new (g := g15) hoe13 eg15 e
  have hle21 : w.heap.size ≤ g15 := by have := hE5.size; omega
  have hle22 : wk2.heap.size ≤ g15 := by have := hE7.size; omega
  have hle23 : w6.heap.size ≤ g15 := by have := hE12.size; omega
  have hle24 : wk9.heap.size ≤ g15 := by have := hE14.size; omega
  have hle25 : w13.heap.size ≤ g15 := by have := (Ex.rfl_ w13).size; omega
  replace hE5 := Ex.tr hE5 hx15
  replace hE7 := Ex.tr hE7 hx15
  replace hE12 := Ex.tr hE12 hx15
  replace hE14 := Ex.tr hE14 hx15
  have hE26 := hx15
  refine RG.vl rfl rfl rfl (Ev.assign rfl rfl) ?_
  refine RG.done ?_
  refine QW.sub (S' := [(0, _), (1, _), (2, _), (3, _), (4, _)]) ⟨rfl, rfl, rfl, rfl, rfl, trivial⟩ ?_
  refine QW.then_ ?_
  refine CW.seq ?_
  refine CW.region ?_
  refine RG.litO (os := [_, _, _, _, _]) (enc := encN) ([9, 9, 9, 9, 48]) rfl rfl rfl rfl rfl rfl rfl Try.underlying22 inf_5 rfl rfl rfl rfl rfl encN_len rfl rfl (fun v27 wk28 hxwk28 hown29 hnew30 => ?_)
  replace hE5 := Ex.tr hE5 hxwk28
  replace hE7 := Ex.tr hE7 hxwk28
  replace hE12 := Ex.tr hE12 hxwk28
  replace hE14 := Ex.tr hE14 hxwk28
  replace hE26 := Ex.tr hE26 hxwk28
  have hE31 := hxwk28
  refine RG.litO (os := [_, _, _, _]) (enc := encZ) ([0, 1, 2, 3]) rfl rfl rfl rfl rfl rfl rfl Try.underlying23 inf_3 rfl rfl rfl rfl rfl encZ_len rfl rfl (fun v32 wk33 hxwk33 hown34 hnew35 => ?_)
  replace hE5 := Ex.tr hE5 hxwk33
  replace hE7 := Ex.tr hE7 hxwk33
  replace hE12 := Ex.tr hE12 hxwk33
  replace hE14 := Ex.tr hE14 hxwk33
  replace hE26 := Ex.tr hE26 hxwk33
  replace hE31 := Ex.tr hE31 hxwk33
  have hE36 := hxwk33
  refine RG.call rfl rfl rfl rfl rfl rfl rfl en_13 (dec_is _ _ _ [9, 9, 9, 9, 48] (([0, 1, 2, 3] : List Nat).map (fun n : Nat => (n : Int))) [1, 30, 29, 17, 48] [] ((Own.ext hown29 hE36).rdl encN_len) ((rdl_i (hown34.rdl encZ_len))) (by decide +kernel) (by unfold okE; decide +kernel) (by decide) good_code (by decide +kernel) (by decide)) ?_
  have hpre37 := (Ex.tr hB0 hE5)
  rintro _ w37 ⟨A37, B37, C37, D37, rfl, hor37, hoe37, hx37⟩
  replace hE5 := Ex.tr hE5 hx37
  replace hE7 := Ex.tr hE7 hx37
  replace hE12 := Ex.tr hE12 hx37
  replace hE14 := Ex.tr hE14 hx37
  replace hE26 := Ex.tr hE26 hx37
  replace hE31 := Ex.tr hE31 hx37
  replace hE36 := Ex.tr hE36 hx37
  have hE38 := hx37
  refine RG.vl rfl rfl rfl (Ev.move rfl rfl) ?_
  refine RG.vl rfl rfl rfl (Ev.extract rfl rfl rfl) ?_
  refine RG.vl rfl rfl rfl (Ev.extract rfl rfl rfl) ?_
  refine RG.local_ rfl rfl rfl rfl (fun _ => rfl) rfl rfl (fun _ => rfl) inf_28 rfl rfl rfl (fun g39 w39 eg39 hx39 hb39 => ?_)
  have hsb40 := fun e => sep_new (g := g39) (Own.ext hown3 hE7) eg39 e
  have hsb41 := fun e => sep_new (g := g39) (Own.ext hoen hE12) eg39 e
  have hsb42 := fun e => sep_new (g := g39) (Own.ext hown10 hE14) eg39 e
  have hsb43 := fun e => sep_new (g := g39) (Own.ext hor13 hE26) eg39 e
  have hsb44 := fun e => sep_new (g := g39) (Own.ext hoe13 hE26) eg39 e
  have hsb45 := fun e => sep_new (g := g39) (Own.ext hown29 hE36) eg39 e
  have hsb46 := fun e => sep_new (g := g39) (Own.ext hown34 hE38) eg39 e
  have hsb47 := fun e => sep_new (g := g39) hor37 eg39 e
  have hsb48 := fun e => sep_new (g := g39) hoe37 eg39 e
  have hle49 : w.heap.size ≤ g39 := by have := hE5.size; omega
  have hle50 : wk2.heap.size ≤ g39 := by have := hE7.size; omega
  have hle51 : w6.heap.size ≤ g39 := by have := hE12.size; omega
  have hle52 : wk9.heap.size ≤ g39 := by have := hE14.size; omega
  have hle53 : w13.heap.size ≤ g39 := by have := hE26.size; omega
  have hle54 : w15.heap.size ≤ g39 := by have := hE31.size; omega
  have hle55 : wk28.heap.size ≤ g39 := by have := hE36.size; omega
  have hle56 : wk33.heap.size ≤ g39 := by have := hE38.size; omega
  have hle57 : w37.heap.size ≤ g39 := by have := (Ex.rfl_ w37).size; omega
  have hlt58 : g15 < g39 := by have := Blk.lt (hb15.ext hE31); omega
  replace hE5 := Ex.tr hE5 hx39
  replace hE7 := Ex.tr hE7 hx39
  replace hE12 := Ex.tr hE12 hx39
  replace hE14 := Ex.tr hE14 hx39
  replace hE26 := Ex.tr hE26 hx39
  replace hE31 := Ex.tr hE31 hx39
  replace hE36 := Ex.tr hE36 hx39
  replace hE38 := Ex.tr hE38 hx39
  have hE59 := hx39
  refine RG.vl rfl rfl rfl (Ev.assign rfl rfl) ?_
  refine RG.done ?_
  refine QW.then_ ?_
  refine CW.seq ?_
  refine CW.region ?_
  refine RG.litO (os := [_, _, _, _, _]) (enc := encN) ([1, 0, 0, 0, 0]) rfl rfl rfl rfl rfl rfl rfl Try.underlying22 inf_5 rfl rfl rfl rfl rfl encN_len rfl rfl (fun v60 wk61 hxwk61 hown62 hnew63 => ?_)
  replace hE5 := Ex.tr hE5 hxwk61
  replace hE7 := Ex.tr hE7 hxwk61
  replace hE12 := Ex.tr hE12 hxwk61
  replace hE14 := Ex.tr hE14 hxwk61
  replace hE26 := Ex.tr hE26 hxwk61
  replace hE31 := Ex.tr hE31 hxwk61
  replace hE36 := Ex.tr hE36 hxwk61
  replace hE38 := Ex.tr hE38 hxwk61
  replace hE59 := Ex.tr hE59 hxwk61
  have hE64 := hxwk61
  refine RG.call rfl rfl rfl rfl rfl rfl rfl en_24 (synd_is _ _ [1, 0, 0, 0, 0] ((hown62.rdl encN_len)) (by decide +kernel)) ?_
  rintro _ w65 ⟨rs, rfl, hrs, hx65⟩
  replace hE5 := Ex.tr hE5 hx65
  replace hE7 := Ex.tr hE7 hx65
  replace hE12 := Ex.tr hE12 hx65
  replace hE14 := Ex.tr hE14 hx65
  replace hE26 := Ex.tr hE26 hx65
  replace hE31 := Ex.tr hE31 hx65
  replace hE36 := Ex.tr hE36 hx65
  replace hE38 := Ex.tr hE38 hx65
  replace hE59 := Ex.tr hE59 hx65
  replace hE64 := Ex.tr hE64 hx65
  have hE66 := hx65
  rw [show syL [1, 0, 0, 0, 0] = [16, 12, 5, 19] by decide +kernel] at hrs
  refine RG.vl rfl rfl rfl (Ev.move rfl rfl) ?_
  refine RG.vl rfl rfl rfl (Ev.extract rfl rfl rfl) ?_
  refine RG.vl rfl rfl rfl (Ev.extract rfl rfl rfl) ?_
  refine RG.vl rfl rfl rfl (Ev.assign rfl rfl) ?_
  refine RG.vl rfl rfl rfl (Ev.assign rfl rfl) ?_
  refine RG.done ?_
  refine QW.sub (S' := [(0, _), (1, _), (2, _), (3, _), (4, _), (5, _), (6, _), (7, _), (8, _)]) ⟨rfl, rfl, rfl, rfl, rfl, rfl, rfl, rfl, rfl, trivial⟩ ?_
  refine QW.then_ ?_
  refine CW.seq ?_
  refine CW.region ?_
  refine RG.litO (os := [_, _, _, _, _]) (enc := encN) ([1, 0, 0, 0, 0]) rfl rfl rfl rfl rfl rfl rfl Try.underlying22 inf_5 rfl rfl rfl rfl rfl encN_len rfl rfl (fun v67 wk68 hxwk68 hown69 hnew70 => ?_)
  replace hE5 := Ex.tr hE5 hxwk68
  replace hE7 := Ex.tr hE7 hxwk68
  replace hE12 := Ex.tr hE12 hxwk68
  replace hE14 := Ex.tr hE14 hxwk68
  replace hE26 := Ex.tr hE26 hxwk68
  replace hE31 := Ex.tr hE31 hxwk68
  replace hE36 := Ex.tr hE36 hxwk68
  replace hE38 := Ex.tr hE38 hxwk68
  replace hE59 := Ex.tr hE59 hxwk68
  replace hE64 := Ex.tr hE64 hxwk68
  replace hE66 := Ex.tr hE66 hxwk68
  have hE71 := hxwk68
  refine RG.call rfl rfl rfl rfl rfl rfl rfl en_13 (dec_is _ _ _ [1, 0, 0, 0, 0] [] [0, 0, 0, 0, 0] [0] (hown69.rdl encN_len) (RdL.nil_ _) (by decide +kernel) (by unfold okE; decide +kernel) (by decide) zero_code (by decide +kernel) (by decide)) ?_
  have hpre72 := (Ex.tr hB0 hE5)
  rintro _ w72 ⟨A72, B72, C72, D72, rfl, hor72, hoe72, hx72⟩
  replace hE5 := Ex.tr hE5 hx72
  replace hE7 := Ex.tr hE7 hx72
  replace hE12 := Ex.tr hE12 hx72
  replace hE14 := Ex.tr hE14 hx72
  replace hE26 := Ex.tr hE26 hx72
  replace hE31 := Ex.tr hE31 hx72
  replace hE36 := Ex.tr hE36 hx72
  replace hE38 := Ex.tr hE38 hx72
  replace hE59 := Ex.tr hE59 hx72
  replace hE64 := Ex.tr hE64 hx72
  replace hE66 := Ex.tr hE66 hx72
  replace hE71 := Ex.tr hE71 hx72
  have hE73 := hx72
  refine RG.vl rfl rfl rfl (Ev.move rfl rfl) ?_
  refine RG.vl rfl rfl rfl (Ev.extract rfl rfl rfl) ?_
  refine RG.vl rfl rfl rfl (Ev.extract rfl rfl rfl) ?_
  refine RG.local_ rfl rfl rfl rfl (fun _ => rfl) rfl rfl (fun _ => rfl) inf_28 rfl rfl rfl (fun g74 w74 eg74 hx74 hb74 => ?_)
  have hsb75 := fun e => sep_new (g := g74) (Own.ext hown3 hE7) eg74 e
  have hsb76 := fun e => sep_new (g := g74) (Own.ext hoen hE12) eg74 e
  have hsb77 := fun e => sep_new (g := g74) (Own.ext hown10 hE14) eg74 e
  have hsb78 := fun e => sep_new (g := g74) (Own.ext hor13 hE26) eg74 e
  have hsb79 := fun e => sep_new (g := g74) (Own.ext hoe13 hE26) eg74 e
  have hsb80 := fun e => sep_new (g := g74) (Own.ext hown29 hE36) eg74 e
  have hsb81 := fun e => sep_new (g := g74) (Own.ext hown34 hE38) eg74 e
  have hsb82 := fun e => sep_new (g := g74) (Own.ext hor37 hE59) eg74 e
  have hsb83 := fun e => sep_new (g := g74) (Own.ext hoe37 hE59) eg74 e
  have hsb84 := fun e => sep_new (g := g74) (Own.ext hown62 hE66) eg74 e
  have hsb85 := fun e => sep_new (g := g74) (Own.ext hown69 hE73) eg74 e
  have hsb86 := fun e => sep_new (g := g74) hor72 eg74 e
  have hsb87 := fun e => sep_new (g := g74) hoe72 eg74 e
  have hle88 : w.heap.size ≤ g74 := by have := hE5.size; omega
  have hle89 : wk2.heap.size ≤ g74 := by have := hE7.size; omega
  have hle90 : w6.heap.size ≤ g74 := by have := hE12.size; omega
  have hle91 : wk9.heap.size ≤ g74 := by have := hE14.size; omega
  have hle92 : w13.heap.size ≤ g74 := by have := hE26.size; omega
  have hle93 : w15.heap.size ≤ g74 := by have := hE31.size; omega
  have hle94 : wk28.heap.size ≤ g74 := by have := hE36.size; omega
  have hle95 : wk33.heap.size ≤ g74 := by have := hE38.size; omega
  have hle96 : w37.heap.size ≤ g74 := by have := hE59.size; omega
  have hle97 : w39.heap.size ≤ g74 := by have := hE64.size; omega
  have hle98 : wk61.heap.size ≤ g74 := by have := hE66.size; omega
  have hle99 : w65.heap.size ≤ g74 := by have := hE71.size; omega
  have hle100 : wk68.heap.size ≤ g74 := by have := hE73.size; omega
  have hle101 : w72.heap.size ≤ g74 := by have := (Ex.rfl_ w72).size; omega
  have hlt102 : g15 < g74 := by have := Blk.lt (hb15.ext hE31); omega
  have hlt103 : g39 < g74 := by have := Blk.lt (hb39.ext hE64); omega
  replace hE5 := Ex.tr hE5 hx74
  replace hE7 := Ex.tr hE7 hx74
  replace hE12 := Ex.tr hE12 hx74
  replace hE14 := Ex.tr hE14 hx74
  replace hE26 := Ex.tr hE26 hx74
  replace hE31 := Ex.tr hE31 hx74
  replace hE36 := Ex.tr hE36 hx74
  replace hE38 := Ex.tr hE38 hx74
  replace hE59 := Ex.tr hE59 hx74
  replace hE64 := Ex.tr hE64 hx74
  replace hE66 := Ex.tr hE66 hx74
  replace hE71 := Ex.tr hE71 hx74
  replace hE73 := Ex.tr hE73 hx74
  have hE104 := hx74
  refine RG.vl rfl rfl rfl (Ev.assign rfl rfl) ?_
  refine RG.done ?_
  refine QW.then_ ?_
  refine CW.seq ?_
  refine CW.region ?_
  refine RG.litO (os := [_, _, _, _, _]) (enc := encN) ([1, 30, 29, 17, 48]) rfl rfl rfl rfl rfl rfl rfl Try.underlying22 inf_5 rfl rfl rfl rfl rfl encN_len rfl rfl (fun v105 wk106 hxwk106 hown107 hnew108 => ?_)
  replace hE5 := Ex.tr hE5 hxwk106
  replace hE7 := Ex.tr hE7 hxwk106
  replace hE12 := Ex.tr hE12 hxwk106
  replace hE14 := Ex.tr hE14 hxwk106
  replace hE26 := Ex.tr hE26 hxwk106
  replace hE31 := Ex.tr hE31 hxwk106
  replace hE36 := Ex.tr hE36 hxwk106
  replace hE38 := Ex.tr hE38 hxwk106
  replace hE59 := Ex.tr hE59 hxwk106
  replace hE64 := Ex.tr hE64 hxwk106
  replace hE66 := Ex.tr hE66 hxwk106
  replace hE71 := Ex.tr hE71 hxwk106
  replace hE73 := Ex.tr hE73 hxwk106
  replace hE104 := Ex.tr hE104 hxwk106
  have hE109 := hxwk106
  refine RG.vl rfl rfl rfl (Ev.assign rfl rfl) ?_
  refine RG.done ?_
  refine QW.then_ ?_
  refine CW.seq ?_
  refine CW.draw [] (.ex) 57 rfl mixed (fun wd110 hxwd110 => ?_)
  replace hE5 := Ex.tr hE5 hxwd110
  replace hE7 := Ex.tr hE7 hxwd110
  replace hE12 := Ex.tr hE12 hxwd110
  replace hE14 := Ex.tr hE14 hxwd110
  replace hE26 := Ex.tr hE26 hxwd110
  replace hE31 := Ex.tr hE31 hxwd110
  replace hE36 := Ex.tr hE36 hxwd110
  replace hE38 := Ex.tr hE38 hxwd110
  replace hE59 := Ex.tr hE59 hxwd110
  replace hE64 := Ex.tr hE64 hxwd110
  replace hE66 := Ex.tr hE66 hxwd110
  replace hE71 := Ex.tr hE71 hxwd110
  replace hE73 := Ex.tr hE73 hxwd110
  replace hE104 := Ex.tr hE104 hxwd110
  replace hE109 := Ex.tr hE109 hxwd110
  have hE111 := hxwd110
  refine AG.takeW 0 rfl (by kernel_rfl) (by kernel_rfl) rfl rfl rfl (fun _ => Ev.move rfl rfl) ?_
  refine AG.takeW 1 rfl (by kernel_rfl) (by kernel_rfl) rfl rfl rfl (fun _ => Ev.move rfl rfl) ?_
  refine AG.takeW 2 rfl (by kernel_rfl) (by kernel_rfl) rfl rfl rfl (fun _ => Ev.addI rfl rfl rfl (by omega)) ?_
  refine AG.takeW 3 rfl (by kernel_rfl) (by kernel_rfl) rfl rfl rfl (fun _ => Ev.move rfl rfl) ?_
  refine AG.takeW 4 rfl (by kernel_rfl) (by kernel_rfl) rfl rfl rfl (fun _ => Ev.addI rfl rfl rfl (by omega)) ?_
  refine AG.takeW 5 rfl (by kernel_rfl) (by kernel_rfl) rfl rfl rfl (fun _ => Ev.move rfl rfl) ?_
  refine AG.takeW 6 rfl (by kernel_rfl) (by kernel_rfl) rfl rfl rfl (fun _ => Ev.addI rfl rfl rfl (by omega)) ?_
  refine AG.takeW 7 rfl (by kernel_rfl) (by kernel_rfl) rfl rfl rfl (fun _ => Ev.move rfl rfl) ?_
  refine AG.takeW 8 rfl (by kernel_rfl) (by kernel_rfl) rfl rfl rfl (fun _ => Ev.addI rfl rfl rfl (by omega)) ?_
  refine AG.takeW 9 rfl (by kernel_rfl) (by kernel_rfl) rfl rfl rfl (fun _ => Ev.isT (Ev.eqI rfl rfl rfl) (rfl)) ?_
  refine AG.takeW 10 rfl (by kernel_rfl) (by kernel_rfl) rfl rfl rfl (fun _ => Ev.move rfl rfl) ?_
  refine AG.takeW 11 rfl (by kernel_rfl) (by kernel_rfl) rfl rfl rfl (fun _ => Ev.move rfl rfl) ?_
  refine AG.takeW 12 rfl (by kernel_rfl) (by kernel_rfl) rfl rfl rfl (fun _ => Ev.move rfl rfl) ?_
  refine AG.only 13 rfl (by kernel_rfl) ?_
  refine RG.call rfl rfl rfl rfl rfl rfl rfl en_19 (sameBt_ret _ _ [1, 30, 29, 17, 48] _ (((Own.ext hoen hE12).rdl encN_len)) (((Own.ext hown107 hE111).rdl encN_len)) (by decide)) ?_
  rintro _ w113 ⟨rfl, hx113⟩
  replace hE5 := Ex.tr hE5 hx113
  replace hE7 := Ex.tr hE7 hx113
  replace hE12 := Ex.tr hE12 hx113
  replace hE14 := Ex.tr hE14 hx113
  replace hE26 := Ex.tr hE26 hx113
  replace hE31 := Ex.tr hE31 hx113
  replace hE36 := Ex.tr hE36 hx113
  replace hE38 := Ex.tr hE38 hx113
  replace hE59 := Ex.tr hE59 hx113
  replace hE64 := Ex.tr hE64 hx113
  replace hE66 := Ex.tr hE66 hx113
  replace hE71 := Ex.tr hE71 hx113
  replace hE73 := Ex.tr hE73 hx113
  replace hE104 := Ex.tr hE104 hx113
  replace hE109 := Ex.tr hE109 hx113
  replace hE111 := Ex.tr hE111 hx113
  have hE114 := hx113
  refine RG.done ?_
  refine QW.an (fun _ => hE114) ?_
  refine AG.takeW 14 rfl (by kernel_rfl) (by kernel_rfl) rfl rfl rfl (fun _ => Ev.pickT rfl rfl rfl) ?_
  refine AG.takeW 15 rfl (by kernel_rfl) (by kernel_rfl) rfl rfl rfl (fun _ => Ev.move rfl rfl) ?_
  refine AG.takeW 16 rfl (by kernel_rfl) (by kernel_rfl) rfl rfl rfl (fun _ => Ev.fld rfl rfl fld_28_0) ?_
  refine AG.take 17 rfl (by kernel_rfl) (by kernel_rfl) rfl rfl rfl (fun wq hq => Ev.ldAt rfl rfl Try.underlying22 rfl (((hb15.ext hE31).ext hq).cells) (rfl)) ?_
  refine AG.takeW 18 rfl (by kernel_rfl) (by kernel_rfl) rfl rfl rfl (fun _ => Ev.move rfl rfl) ?_
  refine AG.only 19 rfl (by kernel_rfl) ?_
  refine RG.call rfl rfl rfl rfl rfl rfl rfl en_19 (sameBt_ret _ _ [1, 30, 29, 17, 48] _ (((Own.ext hor13 hE26).rdl encN_len)) (((Own.ext hown107 hE111).rdl encN_len)) (by decide)) ?_
  rintro _ w116 ⟨rfl, hx116⟩
  replace hE5 := Ex.tr hE5 hx116
  replace hE7 := Ex.tr hE7 hx116
  replace hE12 := Ex.tr hE12 hx116
  replace hE14 := Ex.tr hE14 hx116
  replace hE26 := Ex.tr hE26 hx116
  replace hE31 := Ex.tr hE31 hx116
  replace hE36 := Ex.tr hE36 hx116
  replace hE38 := Ex.tr hE38 hx116
  replace hE59 := Ex.tr hE59 hx116
  replace hE64 := Ex.tr hE64 hx116
  replace hE66 := Ex.tr hE66 hx116
  replace hE71 := Ex.tr hE71 hx116
  replace hE73 := Ex.tr hE73 hx116
  replace hE104 := Ex.tr hE104 hx116
  replace hE109 := Ex.tr hE109 hx116
  replace hE111 := Ex.tr hE111 hx116
  replace hE114 := Ex.tr hE114 hx116
  have hE117 := hx116
  refine RG.done ?_
  refine QW.an (fun _ => hE117) ?_
  refine AG.takeW 20 rfl (by kernel_rfl) (by kernel_rfl) rfl rfl rfl (fun _ => Ev.pickT rfl rfl rfl) ?_
  refine AG.takeW 21 rfl (by kernel_rfl) (by kernel_rfl) rfl rfl rfl (fun _ => Ev.move rfl rfl) ?_
  refine AG.takeW 22 rfl (by kernel_rfl) (by kernel_rfl) rfl rfl rfl (fun _ => Ev.fld rfl rfl fld_28_1) ?_
  refine AG.take 23 rfl (by kernel_rfl) (by kernel_rfl) rfl rfl rfl (fun wq hq => Ev.ldAt rfl rfl Try.underlying23 rfl (((hb15.ext hE31).ext hq).cells) (rfl)) ?_
  refine AG.only 24 rfl (by kernel_rfl) ?_
  refine RG.litO (os := [_, _]) (enc := encZ) ([0, 1]) rfl rfl rfl rfl rfl rfl rfl Try.underlying23 inf_3 rfl rfl rfl rfl rfl encZ_len rfl rfl (fun v119 wk120 hxwk120 hown121 hnew122 => ?_)
  replace hE5 := Ex.tr hE5 hxwk120
  replace hE7 := Ex.tr hE7 hxwk120
  replace hE12 := Ex.tr hE12 hxwk120
  replace hE14 := Ex.tr hE14 hxwk120
  replace hE26 := Ex.tr hE26 hxwk120
  replace hE31 := Ex.tr hE31 hxwk120
  replace hE36 := Ex.tr hE36 hxwk120
  replace hE38 := Ex.tr hE38 hxwk120
  replace hE59 := Ex.tr hE59 hxwk120
  replace hE64 := Ex.tr hE64 hxwk120
  replace hE66 := Ex.tr hE66 hxwk120
  replace hE71 := Ex.tr hE71 hxwk120
  replace hE73 := Ex.tr hE73 hxwk120
  replace hE104 := Ex.tr hE104 hxwk120
  replace hE109 := Ex.tr hE109 hxwk120
  replace hE111 := Ex.tr hE111 hxwk120
  replace hE114 := Ex.tr hE114 hxwk120
  replace hE117 := Ex.tr hE117 hxwk120
  have hE123 := hxwk120
  refine RG.done ?_
  refine QW.an (fun _ => hE123) ?_
  refine AG.only 25 rfl (by kernel_rfl) ?_
  refine RG.call rfl rfl rfl rfl rfl rfl rfl en_20 (sameIt_ret _ _ [0, 1] _ (((Own.ext hoe13 hE26).rdl encZ_len)) ((hown121.rdl encZ_len)) (by decide)) ?_
  rintro _ w125 ⟨rfl, hx125⟩
  replace hE5 := Ex.tr hE5 hx125
  replace hE7 := Ex.tr hE7 hx125
  replace hE12 := Ex.tr hE12 hx125
  replace hE14 := Ex.tr hE14 hx125
  replace hE26 := Ex.tr hE26 hx125
  replace hE31 := Ex.tr hE31 hx125
  replace hE36 := Ex.tr hE36 hx125
  replace hE38 := Ex.tr hE38 hx125
  replace hE59 := Ex.tr hE59 hx125
  replace hE64 := Ex.tr hE64 hx125
  replace hE66 := Ex.tr hE66 hx125
  replace hE71 := Ex.tr hE71 hx125
  replace hE73 := Ex.tr hE73 hx125
  replace hE104 := Ex.tr hE104 hx125
  replace hE109 := Ex.tr hE109 hx125
  replace hE111 := Ex.tr hE111 hx125
  replace hE114 := Ex.tr hE114 hx125
  replace hE117 := Ex.tr hE117 hx125
  replace hE123 := Ex.tr hE123 hx125
  have hE126 := hx125
  refine RG.done ?_
  refine QW.an (fun _ => hE126) ?_
  refine AG.takeW 26 rfl (by kernel_rfl) (by kernel_rfl) rfl rfl rfl (fun _ => Ev.pickT rfl rfl rfl) ?_
  refine AG.takeW 27 rfl (by kernel_rfl) (by kernel_rfl) rfl rfl rfl (fun _ => Ev.move rfl rfl) ?_
  refine AG.takeW 28 rfl (by kernel_rfl) (by kernel_rfl) rfl rfl rfl (fun _ => Ev.fld rfl rfl fld_28_0) ?_
  refine AG.take 29 rfl (by kernel_rfl) (by kernel_rfl) rfl rfl rfl (fun wq hq => Ev.ldAt rfl rfl Try.underlying22 rfl (((hb39.ext hE64).ext hq).cells) (rfl)) ?_
  refine AG.takeW 30 rfl (by kernel_rfl) (by kernel_rfl) rfl rfl rfl (fun _ => Ev.move rfl rfl) ?_
  refine AG.only 31 rfl (by kernel_rfl) ?_
  refine RG.call rfl rfl rfl rfl rfl rfl rfl en_19 (sameBt_ret _ _ [1, 30, 29, 17, 48] _ (((Own.ext hor37 hE59).rdl encN_len)) (((Own.ext hown107 hE111).rdl encN_len)) (by decide)) ?_
  rintro _ w128 ⟨rfl, hx128⟩
  replace hE5 := Ex.tr hE5 hx128
  replace hE7 := Ex.tr hE7 hx128
  replace hE12 := Ex.tr hE12 hx128
  replace hE14 := Ex.tr hE14 hx128
  replace hE26 := Ex.tr hE26 hx128
  replace hE31 := Ex.tr hE31 hx128
  replace hE36 := Ex.tr hE36 hx128
  replace hE38 := Ex.tr hE38 hx128
  replace hE59 := Ex.tr hE59 hx128
  replace hE64 := Ex.tr hE64 hx128
  replace hE66 := Ex.tr hE66 hx128
  replace hE71 := Ex.tr hE71 hx128
  replace hE73 := Ex.tr hE73 hx128
  replace hE104 := Ex.tr hE104 hx128
  replace hE109 := Ex.tr hE109 hx128
  replace hE111 := Ex.tr hE111 hx128
  replace hE114 := Ex.tr hE114 hx128
  replace hE117 := Ex.tr hE117 hx128
  replace hE123 := Ex.tr hE123 hx128
  replace hE126 := Ex.tr hE126 hx128
  have hE129 := hx128
  refine RG.done ?_
  refine QW.an (fun _ => hE129) ?_
  refine AG.takeW 32 rfl (by kernel_rfl) (by kernel_rfl) rfl rfl rfl (fun _ => Ev.pickT rfl rfl rfl) ?_
  refine AG.takeW 33 rfl (by kernel_rfl) (by kernel_rfl) rfl rfl rfl (fun _ => Ev.move rfl rfl) ?_
  refine AG.takeW 34 rfl (by kernel_rfl) (by kernel_rfl) rfl rfl rfl (fun _ => Ev.fld rfl rfl fld_28_1) ?_
  refine AG.take 35 rfl (by kernel_rfl) (by kernel_rfl) rfl rfl rfl (fun wq hq => Ev.ldAt rfl rfl Try.underlying23 rfl (((hb39.ext hE64).ext hq).cells) (rfl)) ?_
  refine AG.takeW 36 rfl (by kernel_rfl) (by kernel_rfl) rfl rfl rfl (fun _ => Ev.lenL rfl rfl rfl Try.underlying23 (((Own.ext hoe37 hE59).rdl encZ_len))) ?_
  refine AG.takeW 37 rfl (by kernel_rfl) (by kernel_rfl) rfl rfl rfl (fun _ => Ev.isT (Ev.eqI rfl rfl rfl) (rfl)) ?_
  refine AG.takeW 38 rfl (by kernel_rfl) (by kernel_rfl) rfl rfl rfl (fun _ => Ev.pickT rfl rfl rfl) ?_
  refine AG.takeW 39 rfl (by kernel_rfl) (by kernel_rfl) rfl rfl rfl (fun _ => Ev.move rfl rfl) ?_
  refine AG.takeW 40 rfl (by kernel_rfl) (by kernel_rfl) rfl rfl rfl (fun _ => Ev.move rfl rfl) ?_
  refine AG.only 41 rfl (by kernel_rfl) ?_
  refine RG.litO (os := [_, _, _, _]) (enc := encN) ([16, 12, 5, 19]) rfl rfl rfl rfl rfl rfl rfl Try.underlying22 inf_5 rfl rfl rfl rfl rfl encN_len rfl rfl (fun v131 wk132 hxwk132 hown133 hnew134 => ?_)
  replace hE5 := Ex.tr hE5 hxwk132
  replace hE7 := Ex.tr hE7 hxwk132
  replace hE12 := Ex.tr hE12 hxwk132
  replace hE14 := Ex.tr hE14 hxwk132
  replace hE26 := Ex.tr hE26 hxwk132
  replace hE31 := Ex.tr hE31 hxwk132
  replace hE36 := Ex.tr hE36 hxwk132
  replace hE38 := Ex.tr hE38 hxwk132
  replace hE59 := Ex.tr hE59 hxwk132
  replace hE64 := Ex.tr hE64 hxwk132
  replace hE66 := Ex.tr hE66 hxwk132
  replace hE71 := Ex.tr hE71 hxwk132
  replace hE73 := Ex.tr hE73 hxwk132
  replace hE104 := Ex.tr hE104 hxwk132
  replace hE109 := Ex.tr hE109 hxwk132
  replace hE111 := Ex.tr hE111 hxwk132
  replace hE114 := Ex.tr hE114 hxwk132
  replace hE117 := Ex.tr hE117 hxwk132
  replace hE123 := Ex.tr hE123 hxwk132
  replace hE126 := Ex.tr hE126 hxwk132
  replace hE129 := Ex.tr hE129 hxwk132
  have hE135 := hxwk132
  refine RG.done ?_
  refine QW.an (fun _ => hE135) ?_
  refine AG.only 42 rfl (by kernel_rfl) ?_
  refine RG.call rfl rfl rfl rfl rfl rfl rfl en_19 (sameBt_ret _ _ [16, 12, 5, 19] _ ((hrs.ext hE71)) ((hown133.rdl encN_len)) (by decide)) ?_
  rintro _ w137 ⟨rfl, hx137⟩
  replace hE5 := Ex.tr hE5 hx137
  replace hE7 := Ex.tr hE7 hx137
  replace hE12 := Ex.tr hE12 hx137
  replace hE14 := Ex.tr hE14 hx137
  replace hE26 := Ex.tr hE26 hx137
  replace hE31 := Ex.tr hE31 hx137
  replace hE36 := Ex.tr hE36 hx137
  replace hE38 := Ex.tr hE38 hx137
  replace hE59 := Ex.tr hE59 hx137
  replace hE64 := Ex.tr hE64 hx137
  replace hE66 := Ex.tr hE66 hx137
  replace hE71 := Ex.tr hE71 hx137
  replace hE73 := Ex.tr hE73 hx137
  replace hE104 := Ex.tr hE104 hx137
  replace hE109 := Ex.tr hE109 hx137
  replace hE111 := Ex.tr hE111 hx137
  replace hE114 := Ex.tr hE114 hx137
  replace hE117 := Ex.tr hE117 hx137
  replace hE123 := Ex.tr hE123 hx137
  replace hE126 := Ex.tr hE126 hx137
  replace hE129 := Ex.tr hE129 hx137
  replace hE135 := Ex.tr hE135 hx137
  have hE138 := hx137
  refine RG.done ?_
  refine QW.an (fun _ => hE138) ?_
  refine AG.takeW 43 rfl (by kernel_rfl) (by kernel_rfl) rfl rfl rfl (fun _ => Ev.pickT rfl rfl rfl) ?_
  refine AG.takeW 44 rfl (by kernel_rfl) (by kernel_rfl) rfl rfl rfl (fun _ => Ev.move rfl rfl) ?_
  refine AG.takeW 45 rfl (by kernel_rfl) (by kernel_rfl) rfl rfl rfl (fun _ => Ev.fld rfl rfl fld_28_0) ?_
  refine AG.take 46 rfl (by kernel_rfl) (by kernel_rfl) rfl rfl rfl (fun wq hq => Ev.ldAt rfl rfl Try.underlying22 rfl (((hb74.ext hE109).ext hq).cells) (rfl)) ?_
  refine AG.only 47 rfl (by kernel_rfl) ?_
  refine RG.makeO (m := 5) (enc := encN) 0 rfl rfl rfl rfl rfl rfl (rfl) Try.underlying22 inf_5 encN_len rfl rfl (by omega) (by simp only [maxLen]; omega) (fun v140 wk141 hxwk141 hown142 hnew143 => ?_)
  replace hE5 := Ex.tr hE5 hxwk141
  replace hE7 := Ex.tr hE7 hxwk141
  replace hE12 := Ex.tr hE12 hxwk141
  replace hE14 := Ex.tr hE14 hxwk141
  replace hE26 := Ex.tr hE26 hxwk141
  replace hE31 := Ex.tr hE31 hxwk141
  replace hE36 := Ex.tr hE36 hxwk141
  replace hE38 := Ex.tr hE38 hxwk141
  replace hE59 := Ex.tr hE59 hxwk141
  replace hE64 := Ex.tr hE64 hxwk141
  replace hE66 := Ex.tr hE66 hxwk141
  replace hE71 := Ex.tr hE71 hxwk141
  replace hE73 := Ex.tr hE73 hxwk141
  replace hE104 := Ex.tr hE104 hxwk141
  replace hE109 := Ex.tr hE109 hxwk141
  replace hE111 := Ex.tr hE111 hxwk141
  replace hE114 := Ex.tr hE114 hxwk141
  replace hE117 := Ex.tr hE117 hxwk141
  replace hE123 := Ex.tr hE123 hxwk141
  replace hE126 := Ex.tr hE126 hxwk141
  replace hE129 := Ex.tr hE129 hxwk141
  replace hE135 := Ex.tr hE135 hxwk141
  replace hE138 := Ex.tr hE138 hxwk141
  have hE144 := hxwk141
  refine RG.done ?_
  refine QW.an (fun _ => hE144) ?_
  refine AG.only 48 rfl (by kernel_rfl) ?_
  refine RG.call rfl rfl rfl rfl rfl rfl rfl en_19 (sameBt_ret _ _ [0, 0, 0, 0, 0] _ (((Own.ext hor72 hE104).rdl encN_len)) ((hown142.rdl encN_len)) (by decide)) ?_
  rintro _ w146 ⟨rfl, hx146⟩
  replace hE5 := Ex.tr hE5 hx146
  replace hE7 := Ex.tr hE7 hx146
  replace hE12 := Ex.tr hE12 hx146
  replace hE14 := Ex.tr hE14 hx146
  replace hE26 := Ex.tr hE26 hx146
  replace hE31 := Ex.tr hE31 hx146
  replace hE36 := Ex.tr hE36 hx146
  replace hE38 := Ex.tr hE38 hx146
  replace hE59 := Ex.tr hE59 hx146
  replace hE64 := Ex.tr hE64 hx146
  replace hE66 := Ex.tr hE66 hx146
  replace hE71 := Ex.tr hE71 hx146
  replace hE73 := Ex.tr hE73 hx146
  replace hE104 := Ex.tr hE104 hx146
  replace hE109 := Ex.tr hE109 hx146
  replace hE111 := Ex.tr hE111 hx146
  replace hE114 := Ex.tr hE114 hx146
  replace hE117 := Ex.tr hE117 hx146
  replace hE123 := Ex.tr hE123 hx146
  replace hE126 := Ex.tr hE126 hx146
  replace hE129 := Ex.tr hE129 hx146
  replace hE135 := Ex.tr hE135 hx146
  replace hE138 := Ex.tr hE138 hx146
  replace hE144 := Ex.tr hE144 hx146
  have hE147 := hx146
  refine RG.done ?_
  refine QW.an (fun _ => hE147) ?_
  refine AG.takeW 49 rfl (by kernel_rfl) (by kernel_rfl) rfl rfl rfl (fun _ => Ev.pickT rfl rfl rfl) ?_
  refine AG.takeW 50 rfl (by kernel_rfl) (by kernel_rfl) rfl rfl rfl (fun _ => Ev.move rfl rfl) ?_
  refine AG.takeW 51 rfl (by kernel_rfl) (by kernel_rfl) rfl rfl rfl (fun _ => Ev.fld rfl rfl fld_28_1) ?_
  refine AG.take 52 rfl (by kernel_rfl) (by kernel_rfl) rfl rfl rfl (fun wq hq => Ev.ldAt rfl rfl Try.underlying23 rfl (((hb74.ext hE109).ext hq).cells) (rfl)) ?_
  refine AG.only 53 rfl (by kernel_rfl) ?_
  refine RG.litO (os := [_]) (enc := encZ) ([0]) rfl rfl rfl rfl rfl rfl rfl Try.underlying23 inf_3 rfl rfl rfl rfl rfl encZ_len rfl rfl (fun v149 wk150 hxwk150 hown151 hnew152 => ?_)
  replace hE5 := Ex.tr hE5 hxwk150
  replace hE7 := Ex.tr hE7 hxwk150
  replace hE12 := Ex.tr hE12 hxwk150
  replace hE14 := Ex.tr hE14 hxwk150
  replace hE26 := Ex.tr hE26 hxwk150
  replace hE31 := Ex.tr hE31 hxwk150
  replace hE36 := Ex.tr hE36 hxwk150
  replace hE38 := Ex.tr hE38 hxwk150
  replace hE59 := Ex.tr hE59 hxwk150
  replace hE64 := Ex.tr hE64 hxwk150
  replace hE66 := Ex.tr hE66 hxwk150
  replace hE71 := Ex.tr hE71 hxwk150
  replace hE73 := Ex.tr hE73 hxwk150
  replace hE104 := Ex.tr hE104 hxwk150
  replace hE109 := Ex.tr hE109 hxwk150
  replace hE111 := Ex.tr hE111 hxwk150
  replace hE114 := Ex.tr hE114 hxwk150
  replace hE117 := Ex.tr hE117 hxwk150
  replace hE123 := Ex.tr hE123 hxwk150
  replace hE126 := Ex.tr hE126 hxwk150
  replace hE129 := Ex.tr hE129 hxwk150
  replace hE135 := Ex.tr hE135 hxwk150
  replace hE138 := Ex.tr hE138 hxwk150
  replace hE144 := Ex.tr hE144 hxwk150
  replace hE147 := Ex.tr hE147 hxwk150
  have hE153 := hxwk150
  refine RG.done ?_
  refine QW.an (fun _ => hE153) ?_
  refine AG.only 54 rfl (by kernel_rfl) ?_
  refine RG.call rfl rfl rfl rfl rfl rfl rfl en_20 (sameIt_ret _ _ [0] _ (((Own.ext hoe72 hE104).rdl encZ_len)) ((hown151.rdl encZ_len)) (by decide)) ?_
  rintro _ w155 ⟨rfl, hx155⟩
  replace hE5 := Ex.tr hE5 hx155
  replace hE7 := Ex.tr hE7 hx155
  replace hE12 := Ex.tr hE12 hx155
  replace hE14 := Ex.tr hE14 hx155
  replace hE26 := Ex.tr hE26 hx155
  replace hE31 := Ex.tr hE31 hx155
  replace hE36 := Ex.tr hE36 hx155
  replace hE38 := Ex.tr hE38 hx155
  replace hE59 := Ex.tr hE59 hx155
  replace hE64 := Ex.tr hE64 hx155
  replace hE66 := Ex.tr hE66 hx155
  replace hE71 := Ex.tr hE71 hx155
  replace hE73 := Ex.tr hE73 hx155
  replace hE104 := Ex.tr hE104 hx155
  replace hE109 := Ex.tr hE109 hx155
  replace hE111 := Ex.tr hE111 hx155
  replace hE114 := Ex.tr hE114 hx155
  replace hE117 := Ex.tr hE117 hx155
  replace hE123 := Ex.tr hE123 hx155
  replace hE126 := Ex.tr hE126 hx155
  replace hE129 := Ex.tr hE129 hx155
  replace hE135 := Ex.tr hE135 hx155
  replace hE138 := Ex.tr hE138 hx155
  replace hE144 := Ex.tr hE144 hx155
  replace hE147 := Ex.tr hE147 hx155
  replace hE153 := Ex.tr hE153 hx155
  have hE156 := hx155
  refine RG.done ?_
  refine QW.an (fun _ => hE156) ?_
  refine AG.takeW 55 rfl (by kernel_rfl) (by kernel_rfl) rfl rfl rfl (fun _ => Ev.pickT rfl rfl rfl) ?_
  refine AG.takeW 56 rfl (by kernel_rfl) (by kernel_rfl) rfl rfl rfl (fun _ => Ev.assign rfl rfl) ?_
  refine AG.done (by kernel_rfl) ?_
  refine QW.sub (S' := [(0, _)]) ⟨rfl, trivial⟩ ?_
  refine QW.then_ ?_
  refine CW.ret ?_
  refine QW.ret1 rfl rfl ?_
  have hB := (Ex.tr hB0 hE5)
  exact ⟨rfl, hB⟩

end Go.Proofs.Ytjhgihgggofocaa

/- Lent slices: a copy with marks behind it. -/
namespace Go.Proofs.Ytjhgihgggofocaa
open Go.RowKit
def mkI (k i : Int) : Int := IntKind.u8.wrap (IntKind.u64.wrap (IntKind.u64.wrap (1000003 * (k + 7) + i) * 11400714819323198485) / 2 ^ min (56 : Int).toNat IntKind.u64.bits)
def mkB (k i : Nat) : Nat := (mkI k i).toNat
theorem wrap8 (n : Int) : 0 ≤ IntKind.u8.wrap n ∧ IntKind.u8.wrap n ≤ 255 := by
  have h : IntKind.u8.wrap n = n % 256 := rfl
  rw [h]; omega
theorem mkB_cast (k i : Nat) : (mkB k i : Int) = mkI k i := Int.toNat_of_nonneg (wrap8 _).1
theorem mkB_lt (k i : Nat) : mkB k i < 256 := by have := mkB_cast k i; have := (wrap8 (IntKind.u64.wrap (IntKind.u64.wrap (1000003 * ((k : Int) + 7) + i) * 11400714819323198485) / 2 ^ min (56 : Int).toNat IntKind.u64.bits)).2; unfold mkI at *; omega
def mks (k n : Nat) : List Nat := (List.range n).map (mkB k)
theorem mks_len (k n : Nat) : (mks k n).length = n := by simp [mks]
theorem mks_more (k n : Nat) : mks k (n + 1) = mks k n ++ [mkB k n] := by unfold mks; rw [List.range_succ, List.map_append]; rfl
theorem mks_at (k n i : Nat) (h : i < n) : (mks k n)[i]? = some (mkB k i) := by unfold mks; rw [List.getElem?_map, List.getElem?_range h]; rfl
theorem kept_l {l m : List Nat} {i : Nat} (h : i < l.length) : (l ++ m)[i]? = some l[i] := by
  rw [List.getElem?_append_left h]; exact List.getElem?_eq_getElem h
theorem kept_m {l : List Nat} {i : Nat} (h1 : l.length ≤ i) (h2 : i < l.length + 12) : (l ++ mks 1 12)[i]? = some (mkB 1 (i - l.length)) := by
  rw [List.getElem?_append_right h1]; exact mks_at 1 12 _ (by omega)
section
variable {w w' : World} {B : Nat} {e : TypeId}
theorem lent_rdl {g cap n : Nat} {l m : List Nat} (hn : (l ++ m).length = n) (h : Own w B e 1 encN (.slice (some ⟨g, 0, none⟩) n cap) (l ++ m)) : RdL w 1 encN (.slice (some ⟨g, 0, none⟩) l.length cap) l := by
  subst hn
  obtain ⟨A, c, hv, h1, h2, h3⟩ := h.rdl encN_len
  injection hv with hv1 hv2 hv3
  subst hv1 hv3
  rw [List.length_append] at h1 h3
  refine ⟨_, cap, rfl, by omega, h2, fun hl => ?_⟩
  obtain ⟨ad, hA, hb, hc⟩ := h3 (by omega)
  exact ⟨ad, hA, hb, fun i a hi => hc i a (by rw [List.getElem?_append_left (List.getElem?_eq_some_iff.1 hi).1]; exact hi)⟩
theorem getElem?_one {l : List Nat} {i : Nat} (h : i < l.length) : l[i]? = some l[i] := List.getElem?_eq_getElem h
theorem lent_big {g cap : Nat} {l : List Nat} (h : Own w B e 1 encN (.slice (some ⟨g, 0, none⟩) (l.length + 12) cap) (l ++ mks 1 12)) : RdL w 1 encN (.slice (some ⟨g, 0, none⟩) (l.length + 12) cap) (l ++ mks 1 12) := h.rdl encN_len
theorem grown_tr {a b c : World} {r : Option Nat} (h : a.grownBy b r) (k : b.grownBy c r) : a.grownBy c r :=
  ⟨k.os.trans h.os, k.tape.trans h.tape, k.output.trans h.output, Nat.le_trans h.size k.size, fun i hi hne => (k.block i (Nat.lt_of_lt_of_le hi h.size) hne).trans (h.block i hi hne)⟩
theorem lent_norm {g cap : Nat} {l : List Nat} (h : Own w B e 1 encN (.slice (some ⟨g, 0, none⟩) (l.length + 12) cap) (l ++ mks 1 12)) : Own w B e 1 encN (.slice (some ⟨g, 0, none⟩) (l ++ mks 1 12).length cap) (l ++ mks 1 12) := by
  rw [show (l ++ mks 1 12).length = l.length + 12 from by rw [List.length_append, mks_len]]; exact h
theorem lent_len (l : List Nat) : (l ++ mks 1 12).length = l.length + 12 := by rw [List.length_append, mks_len]
theorem Own.cap {g n c : Nat} {l : List Nat} (h : Own w B e 1 encN (.slice (some ⟨g, 0, none⟩) n c) l) : l.length ≤ c := by
  rcases h.2 with ⟨hv, _⟩ | ⟨g', cap, cur, hv, _, _, h1, _⟩
  · injection hv with hv; cases hv
  · injection hv with _ _ hv; omega
theorem lent_cap {g cap : Nat} {l : List Nat} (h : Own w B e 1 encN (.slice (some ⟨g, 0, none⟩) (l.length + 12) cap) (l ++ mks 1 12)) : l.length + 12 ≤ cap := by have := Own.cap h; rwa [lent_len] at this
theorem lent_cap2 {g cap : Nat} {l : List Nat} (h : Own w B e 1 encN (.slice (some ⟨g, 0, none⟩) (l.length + 12) cap) (l ++ mks 1 12)) : (l ++ mks 1 12).length ≤ cap := Own.cap h
end
section
variable {α : Type} {P : Program} {ops : Array Oper} {Q : Exit → Act → World → Prop} {n : Nat} {l : List Oper} {S : Slots} {w w' : World} {o : Oper} {d : Nat}
/-- make([]T, 0, m) -/
theorem RG.make0O {T e sz by_ m : Nat} {c : Int} {z : Value} {enc : α → List Value} {x y : Operand} {kx ky : IntKind} (hw : wantS ops S o = some true) (hd : o.dst = some d) (hdn : Nat.blt d n = true) (ho : o.op = .makeSlice T x y) (hx : ev S x = some (.int kx 0)) (hy : ev S y = some (.int ky c)) (hc : c = (m : Int))
    (ht : P.underlying T = some (.slice e)) (hi : (P.info? e).map (fun i => (i.zero, i.size, i.bytes)) = some (some z, sz, by_)) (hm : m * by_ ≤ 281474976710656) (hm2 : m ≤ maxLen)
    (kk : ∀ v w', Ex w w' → Own w' w.heap.size e sz enc v ([] : List α) → (∀ k, v.ownBlock = some k → w.heap.size ≤ k) → RG P ops Q n l ((d, v) :: S) w') : RG P ops Q n (o :: l) S w := by
  subst hc
  obtain ⟨i, hii, hz0, hz1, hz2⟩ := info_parts hi
  have hb : (i.bytes : Int) * (m : Int) ≤ 281474976710656 := by
    rw [hz2, ← Int.natCast_mul, Nat.mul_comm]; omega
  have h63 : (m : Int) ≤ 9223372036854775807 := by simp [maxLen] at hm2; omega
  have hr := run_make (P := P) w T e i z ht hii hz0 kx ky 0 m (by omega) (by omega) hb h63
  simp only [Int.toNat_natCast, hz1] at hr
  refine RG.run (w' := w.alloc (.cells (madeCells z.cells (m * sz)) e)) hw hd hdn (fun a ha => ?_) (kk _ _ (Ex.of_alloc w _) (World.ownsRow_made (e := e) w (madeCells z.cells (m * sz)) m (Nat.le_refl _) hm2 (by simp [madeCells])) (fun k hk => by injection hk with hk; simp at hk; omega))
  simp only [execOp, ho]; rw [ha.eval hx, ha.eval hy]
  simp [hr]
end
end Go.Proofs.Ytjhgihgggofocaa

/- Lent slices of integers: a copy with marks behind it. -/
namespace Go.Proofs.Ytjhgihgggofocaa
open Go.RowKit
def mkZ (k i : Nat) : Int := 1000003 * ((k : Int) + 7) + (i : Int)
def mzs (k n : Nat) : List Int := (List.range n).map (mkZ k)
theorem mzs_len (k n : Nat) : (mzs k n).length = n := by simp [mzs]
theorem mzs_more (k n : Nat) : mzs k (n + 1) = mzs k n ++ [mkZ k n] := by unfold mzs; rw [List.range_succ, List.map_append]; rfl
theorem mzs_at (k n i : Nat) (h : i < n) : (mzs k n)[i]? = some (mkZ k i) := by unfold mzs; rw [List.getElem?_map, List.getElem?_range h]; rfl
theorem keptz_l {l m : List Int} {i : Nat} (h : i < l.length) : (l ++ m)[i]? = some l[i] := by
  rw [List.getElem?_append_left h]; exact List.getElem?_eq_getElem h
theorem keptz_m {l : List Int} {i : Nat} (h1 : l.length ≤ i) (h2 : i < l.length + 12) : (l ++ mzs 1 12)[i]? = some (mkZ 1 (i - l.length)) := by
  rw [List.getElem?_append_right h1]; exact mzs_at 1 12 _ (by omega)
section
variable {w w' : World} {B : Nat} {e : TypeId}
theorem lentz_rdl {g cap n : Nat} {l m : List Int} (hn : (l ++ m).length = n) (h : Own w B e 1 encI (.slice (some ⟨g, 0, none⟩) n cap) (l ++ m)) : RdL w 1 encI (.slice (some ⟨g, 0, none⟩) l.length cap) l := by
  subst hn
  obtain ⟨A, c, hv, h1, h2, h3⟩ := h.rdl encI_len
  injection hv with hv1 hv2 hv3
  subst hv1 hv3
  rw [List.length_append] at h1 h3
  refine ⟨_, cap, rfl, by omega, h2, fun hl => ?_⟩
  obtain ⟨ad, hA, hb, hc⟩ := h3 (by omega)
  exact ⟨ad, hA, hb, fun i a hi => hc i a (by rw [List.getElem?_append_left (List.getElem?_eq_some_iff.1 hi).1]; exact hi)⟩
theorem getz_one {l : List Int} {i : Nat} (h : i < l.length) : l[i]? = some l[i] := List.getElem?_eq_getElem h
theorem lentz_big {g cap : Nat} {l : List Int} (h : Own w B e 1 encI (.slice (some ⟨g, 0, none⟩) (l.length + 12) cap) (l ++ mzs 1 12)) : RdL w 1 encI (.slice (some ⟨g, 0, none⟩) (l.length + 12) cap) (l ++ mzs 1 12) := h.rdl encI_len
theorem lentz_norm {g cap : Nat} {l : List Int} (h : Own w B e 1 encI (.slice (some ⟨g, 0, none⟩) (l.length + 12) cap) (l ++ mzs 1 12)) : Own w B e 1 encI (.slice (some ⟨g, 0, none⟩) (l ++ mzs 1 12).length cap) (l ++ mzs 1 12) := by
  rw [show (l ++ mzs 1 12).length = l.length + 12 from by rw [List.length_append, mzs_len]]; exact h
theorem lentz_len (l : List Int) : (l ++ mzs 1 12).length = l.length + 12 := by rw [List.length_append, mzs_len]
theorem Own.capz {g n c : Nat} {l : List Int} (h : Own w B e 1 encI (.slice (some ⟨g, 0, none⟩) n c) l) : l.length ≤ c := by
  rcases h.2 with ⟨hv, _⟩ | ⟨g', cap, cur, hv, _, _, h1, _⟩
  · injection hv with hv; cases hv
  · injection hv with _ _ hv; omega
theorem lentz_cap {g cap : Nat} {l : List Int} (h : Own w B e 1 encI (.slice (some ⟨g, 0, none⟩) (l.length + 12) cap) (l ++ mzs 1 12)) : l.length + 12 ≤ cap := by have := Own.capz h; rwa [lentz_len] at this
theorem lentz_cap2 {g cap : Nat} {l : List Int} (h : Own w B e 1 encI (.slice (some ⟨g, 0, none⟩) (l.length + 12) cap) (l ++ mzs 1 12)) : (l ++ mzs 1 12).length ≤ cap := Own.capz h
end
end Go.Proofs.Ytjhgihgggofocaa

/- Walks (RK). Written by program. -/
namespace Go.Proofs.Ytjhgihgggofocaa
open Go.RowKit
set_option maxRecDepth 100000 in
set_option maxHeartbeats 1000000 in
theorem mark_ret (k i : Nat) (w : World) (hk : k ≤ 1000) (hi : i ≤ 1000000) :
    Ret Try.prog 33 [.int .i64 (k : Int), .int .i64 (i : Int)] w (fun v w' => v = .int .i64 (1000003 * ((k : Int) + 7) + (i : Int)) ∧ Ex w w') := by
  have hB0 : Ex w w := Ex.rfl_ _
  refine Ret.of Try.func33 rfl Try.ntmps33 rfl ?_
  refine CW.seq ?_
  refine CW.region ?_
  refine RG.vl rfl rfl rfl (Ev.assign rfl rfl) ?_
  refine RG.done ?_
  refine QW.then_ ?_
  refine CW.seq ?_
  refine CW.region ?_
  refine RG.vl rfl rfl rfl (Ev.move rfl rfl) ?_
  refine RG.vl rfl rfl rfl (Ev.addI rfl rfl rfl (by omega)) ?_
  refine RG.vl rfl rfl rfl (Ev.mulI rfl rfl rfl (by omega)) ?_
  refine RG.vl rfl rfl rfl (Ev.move rfl rfl) ?_
  refine RG.vl rfl rfl rfl (Ev.addI rfl rfl rfl (by omega)) ?_
  refine RG.vl rfl rfl rfl (Ev.assign rfl rfl) ?_
  refine RG.done ?_
  refine QW.then_ ?_
  refine CW.ret ?_
  refine QW.ret1 rfl rfl ?_
  have hB := hB0
  exact ⟨rfl, hB⟩

set_option maxRecDepth 100000 in
set_option maxHeartbeats 1000000 in
theorem markB_ret (k i : Nat) (w : World) (hk : k ≤ 1000) (hi : i ≤ 1000000) :
    Ret Try.prog 32 [.int .i64 (k : Int), .int .i64 (i : Int)] w (fun v w' => v = .int .u8 (mkB k i : Int) ∧ Ex w w') := by
  have hB0 : Ex w w := Ex.rfl_ _
  refine Ret.of Try.func32 rfl Try.ntmps32 rfl ?_
  refine CW.seq ?_
  refine CW.region ?_
  refine RG.vl rfl rfl rfl (Ev.assign rfl rfl) ?_
  refine RG.done ?_
  refine QW.then_ ?_
  refine CW.seq ?_
  refine CW.region ?_
  refine RG.vl rfl rfl rfl (Ev.move rfl rfl) ?_
  refine RG.vl rfl rfl rfl (Ev.move rfl rfl) ?_
  refine RG.call rfl rfl rfl rfl rfl rfl rfl en_33 (mark_ret _ _ _ hk hi) ?_
  rintro _ w1 ⟨rfl, hx1⟩
  have hE2 := hx1
  refine RG.vl rfl rfl rfl (Ev.toInt rfl rfl Try.underlying3 Try.underlying81) ?_
  refine RG.vl rfl rfl rfl (Ev.arith rfl rfl rfl (.inr (.inr ⟨rfl, rfl⟩))) ?_
  refine RG.vl rfl rfl rfl (Ev.shrI rfl rfl rfl (by omega)) ?_
  refine RG.vl rfl rfl rfl (Ev.toInt rfl rfl Try.underlying81 Try.underlying5) ?_
  refine RG.vl rfl rfl rfl (Ev.assign rfl rfl) ?_
  refine RG.done ?_
  refine QW.then_ ?_
  refine CW.ret ?_
  refine QW.ret1 rfl rfl ?_
  have hB := (Ex.tr hB0 hE2)
  exact ⟨by rw [mkB_cast]; rfl, hB⟩

set_option maxRecDepth 100000 in
set_option maxHeartbeats 1000000 in
theorem lent_ret (u0 : Value) (l : List Nat) (w : World) (hl : RdL w 1 encN u0 l) (hlen : l.length ≤ 100000) :
    Ret Try.prog 11 [u0] w (fun v w' => ∃ g cap, v = .slice (some ⟨g, 0, none⟩) l.length cap ∧ Own w' w.heap.size 5 1 encN (.slice (some ⟨g, 0, none⟩) (l.length + 12) cap) (l ++ mks 1 12) ∧ Ex w w') := by
  have hB0 : Ex w w := Ex.rfl_ _
  refine Ret.of Try.func11 rfl Try.ntmps11 rfl ?_
  refine CW.seq ?_
  refine CW.region ?_
  refine RG.vl rfl rfl rfl (Ev.assign rfl rfl) ?_
  refine RG.done ?_
  refine QW.then_ ?_
  refine CW.seq ?_
  refine CW.region ?_
  refine RG.vl rfl rfl rfl (Ev.move rfl rfl) ?_
  refine RG.vl rfl rfl rfl (Ev.lenL rfl rfl rfl Try.underlying22 (hl)) ?_
  refine RG.vl rfl rfl rfl (Ev.addI rfl rfl rfl (by omega)) ?_
  refine RG.make0O (m := l.length + 12) (enc := encN) rfl rfl rfl rfl rfl rfl (by omega) Try.underlying22 inf_5 (by omega) (by simp only [maxLen]; omega) (fun vz wk1 hxwk1 hown2 hnew3 => ?_)
  have hE4 := hxwk1
  refine RG.vl rfl rfl rfl (Ev.assign rfl rfl) ?_
  refine RG.done ?_
  refine QW.then_ ?_
  refine CW.seq ?_
  have hn0 : ([] : List Nat).length = 0 := rfl
  refine CW.region ?_
  refine RG.vl rfl rfl rfl (Ev.move rfl rfl) ?_
  refine RG.vl rfl rfl rfl (Ev.move rfl rfl) ?_
  refine RG.appO rfl rfl rfl rfl rfl rfl rfl Try.underlying22 inf_5 rfl rfl encN_len (fun _ => rfl) hown2 ((hl.ext hE4)) (by simp only [maxLen]; omega) (by omega) (hE4.size) (fun v5 wa6 hown7 hgr8 hat9 => ?_)
  replace hE4 := own_block hown2 hE4 hgr8 (Nat.le_refl _) hE4.size
  refine RG.vl rfl rfl rfl (Ev.assign rfl rfl) ?_
  refine RG.done ?_
  refine QW.then_ ?_
  refine CW.seq ?_
  refine CW.seq ?_
  refine CW.region ?_
  refine RG.vl rfl rfl rfl (Ev.assign rfl rfl) ?_
  refine RG.done ?_
  refine QW.then_ ?_
  refine CW.block ?_
  refine CW.loop2 [(0, _), (2, _)] ⟨rfl, rfl, trivial⟩ (fun (i : Nat) (u : Value) => [(4, .int .i64 i), (3, u)]) (fun i u w' => (i ≤ 12 ∧ Own w' w.heap.size 5 1 encN u (l ++ mks 1 i)) ∧ Ex w w') (fun i u => 12 - i) (0) (_) ⟨rfl, rfl, trivial⟩ ⟨⟨by omega, by rw [show mks 1 0 = [] from rfl, List.append_nil]; exact hown7⟩, (Ex.tr hB0 hE4)⟩ ?_
  rintro i u wl10 ⟨⟨hi, hown⟩, hxwl10⟩
  refine CW.sub (S' := [(4, _), (3, _), (0, _), (2, _)]) ⟨rfl, rfl, rfl, rfl, trivial⟩ ?_
  refine CW.seq ?_
  refine CW.seq ?_
  refine CW.region ?_
  refine RG.vl rfl rfl rfl (Ev.move rfl rfl) ?_
  refine RG.vl rfl rfl rfl (Ev.lss rfl rfl rfl) ?_
  refine RG.done ?_
  refine QW.then_ ?_
  refine CW.condP rfl (fun hc11 => ?_) (fun hc11 => ?_)
  · refine CW.skip ?_
    refine QW.then_ ?_
    refine CW.seq ?_
    refine CW.block ?_
    have hml := mks_len 1 i
    have hlm : (l ++ mks 1 i).length = l.length + i := by rw [List.length_append, hml]
    refine CW.region ?_
    refine RG.vl rfl rfl rfl (Ev.move rfl rfl) ?_
    refine RG.vl rfl rfl rfl (Ev.move rfl rfl) ?_
    refine RG.call rfl rfl rfl rfl rfl rfl rfl en_32 (markB_ret 1 _ _ (by omega) (by omega)) ?_
    rintro _ w12 ⟨rfl, hx12⟩
    replace hxwl10 := Ex.tr hxwl10 hx12
    have hE13 := hx12
    refine RG.litO (os := [.tmp 18]) (enc := encN) ([mkB 1 i]) rfl rfl rfl rfl rfl rfl rfl Try.underlying22 inf_5 rfl rfl rfl rfl rfl encN_len rfl rfl (fun v14 wk15 hxwk15 hown16 hnew17 => ?_)
    have hsep18 : Sep v14 _ := Sep.of_new (Own.ext hown hE13) hnew17
    replace hxwl10 := Ex.tr hxwl10 hxwk15
    replace hE13 := Ex.tr hE13 hxwk15
    have hE19 := hxwk15
    refine RG.appO rfl rfl rfl rfl rfl rfl rfl Try.underlying22 inf_5 rfl rfl encN_len (fun _ => rfl) (Own.ext hown hE13) ((hown16.rdl encN_len)) (by show _ + 1 ≤ maxLen; simp only [maxLen]; omega) (by show (_ + 1) * _ ≤ _; omega) (hxwl10.size) (fun v20 wa21 hown22 hgr23 hat24 => ?_)
    have hsep26 := Sep.app (Sep.symm hsep18) hown16 hat24
    have hown25 := Own.grown hown16 hgr23 (fun k a b => (Sep.symm hsep18) k b a)
    replace hxwl10 := own_block (Own.ext hown hE13) hxwl10 hgr23 (Nat.le_refl _) hxwl10.size
    refine RG.vl rfl rfl rfl (Ev.assign rfl rfl) ?_
    refine RG.done ?_
    refine QW.blockN ?_
    refine QW.then_ ?_
    refine CW.region ?_
    refine RG.vl rfl rfl rfl (Ev.move rfl rfl) ?_
    refine RG.vl rfl rfl rfl (Ev.addI rfl rfl rfl (by omega)) ?_
    refine RG.vl rfl rfl rfl (Ev.assign rfl rfl) ?_
    refine RG.done ?_
    refine QW.round2 (i + 1) (v20) ⟨rfl, rfl, trivial⟩ ⟨rfl, rfl, trivial⟩ ⟨⟨by omega, by rw [mks_more, ← List.append_assoc]; exact hown22⟩, (Ex.tr hB0 hxwl10)⟩ (by omega)
  · refine CW.exit ?_
    refine QW.thenExit ?_
    refine QW.thenExit ?_
    refine QW.blockHit ?_
    refine QW.then_ ?_
    refine CW.seq ?_
    obtain rfl : i = 12 := by omega
    refine CW.region ?_
    refine RG.vl rfl rfl rfl (Ev.move rfl rfl) ?_
    refine RG.vl rfl rfl rfl (Ev.move rfl rfl) ?_
    refine RG.vl rfl rfl rfl (Ev.lenL rfl rfl rfl Try.underlying22 ((hl.ext hxwl10))) ?_
    obtain ⟨g, cap, rfl, hgB, hgl⟩ := own_at hown (by rw [List.length_append, mks_len]; omega)
    have hcap := Own.cap hown
    refine RG.vl rfl rfl rfl (Ev.upTo rfl rfl rfl Try.underlying22 sz_5 (by rw [List.length_append] at hcap; omega)) ?_
    refine RG.vl rfl rfl rfl (Ev.assign rfl rfl) ?_
    refine RG.done ?_
    refine QW.then_ ?_
    refine CW.ret ?_
    refine QW.ret1 rfl rfl ?_
    have hB := (Ex.tr hB0 hxwl10)
    rw [show (l ++ mks 1 12).length = l.length + 12 from by rw [List.length_append, mks_len]] at hown
    exact ⟨g, cap, rfl, hown.low (by have := hB0.size; omega), hB⟩

set_option maxRecDepth 100000 in
set_option maxHeartbeats 4000000 in
theorem kept_ret (g cap : Nat) (u0 : Value) (l : List Nat) (w : World) (hbig : RdL w 1 encN (.slice (some ⟨g, 0, none⟩) (l.length + 12) cap) (l ++ mks 1 12)) (hl : RdL w 1 encN u0 l) (hcap : l.length + 12 ≤ cap) (hlen : l.length ≤ 100000) :
    Ret Try.prog 14 [.slice (some ⟨g, 0, none⟩) l.length cap, u0] w (fun v w' => v = .bool true ∧ Ex w w') := by
  have hB0 : Ex w w := Ex.rfl_ _
  refine Ret.of Try.func14 rfl Try.ntmps14 rfl ?_
  refine CW.seq ?_
  refine CW.region ?_
  refine RG.vl rfl rfl rfl (Ev.assign rfl rfl) ?_
  refine RG.done ?_
  refine QW.then_ ?_
  refine CW.seq ?_
  refine CW.seq ?_
  refine CW.region ?_
  refine RG.vl rfl rfl rfl (Ev.move rfl rfl) ?_
  refine RG.vl rfl rfl rfl (Ev.lenSlice rfl rfl rfl Try.underlying22) ?_
  refine RG.vl rfl rfl rfl (Ev.move rfl rfl) ?_
  refine RG.vl rfl rfl rfl (Ev.lenL rfl rfl rfl Try.underlying22 (hl)) ?_
  refine RG.vl rfl rfl rfl (Ev.isF (Ev.neI rfl rfl rfl) (fun h => h rfl)) ?_
  refine RG.done ?_
  refine QW.then_ ?_
  refine CW.condF rfl ?_
  refine CW.skip ?_
  refine QW.then_ ?_
  refine CW.seq ?_
  refine CW.region ?_
  refine RG.vl rfl rfl rfl (Ev.move rfl rfl) ?_
  refine RG.vl rfl rfl rfl (Ev.move rfl rfl) ?_
  refine RG.vl rfl rfl rfl (Ev.lenL rfl rfl rfl Try.underlying22 (hl)) ?_
  refine RG.vl rfl rfl rfl ((Ev.addI rfl rfl rfl (by omega)).conv (congrArg (Value.int .i64) (show (l.length : Int) + 12 = ((l.length + 12 : Nat) : Int) by omega))) ?_
  refine RG.vl rfl rfl rfl (Ev.upTo (H := l.length + 12) rfl rfl rfl Try.underlying22 sz_5 hcap) ?_
  refine RG.vl rfl rfl rfl (Ev.assign rfl rfl) ?_
  refine RG.done ?_
  refine QW.then_ ?_
  refine CW.seq ?_
  refine CW.seq ?_
  have hbl : (l ++ mks 1 12).length = l.length + 12 := by rw [List.length_append, mks_len]
  refine CW.region ?_
  refine RG.vl rfl rfl rfl (Ev.assign rfl rfl) ?_
  refine RG.done ?_
  refine QW.then_ ?_
  refine CW.block ?_
  refine CW.loop1 [(1, _), (5, _)] ⟨rfl, rfl, trivial⟩ (fun (i : Nat) => [(6, .int .i64 i)]) (fun i w' => (i ≤ l.length + 12) ∧ Ex w w') (fun i => l.length + 12 - i) (0) ⟨rfl, trivial⟩ ⟨Nat.zero_le _, hB0⟩ ?_
  rintro i wl1 ⟨hi, hxwl1⟩
  refine CW.sub (S' := [(6, _), (1, _), (5, _)]) ⟨rfl, rfl, rfl, trivial⟩ ?_
  refine CW.seq ?_
  refine CW.seq ?_
  refine CW.region ?_
  refine RG.vl rfl rfl rfl (Ev.move rfl rfl) ?_
  refine RG.vl rfl rfl rfl (Ev.move rfl rfl) ?_
  refine RG.vl rfl rfl rfl (Ev.lenL rfl rfl rfl Try.underlying22 ((hbig.ext hxwl1))) ?_
  refine RG.vl rfl rfl rfl (Ev.lss rfl rfl rfl) ?_
  refine RG.done ?_
  refine QW.then_ ?_
  refine CW.condP rfl (fun hc2 => ?_) (fun hc2 => ?_)
  · refine CW.skip ?_
    refine QW.then_ ?_
    refine CW.seq ?_
    refine CW.block ?_
    refine CW.seq ?_
    refine CW.draw [] (.ex) 35 rfl mixed (fun wd3 hxwd3 => ?_)
    replace hxwl1 := Ex.tr hxwl1 hxwd3
    have hE4 := hxwd3
    refine AG.takeW 0 rfl (by kernel_rfl) (by kernel_rfl) rfl rfl rfl (fun _ => Ev.move rfl rfl) ?_
    refine AG.takeW 1 rfl (by kernel_rfl) (by kernel_rfl) rfl rfl rfl (fun _ => Ev.move rfl rfl) ?_
    refine AG.takeW 2 rfl (by kernel_rfl) (by kernel_rfl) rfl rfl rfl (fun _ => Ev.lenL rfl rfl rfl Try.underlying22 ((hl.ext hxwl1))) ?_
    refine AG.takeW 3 rfl (by kernel_rfl) (by kernel_rfl) rfl rfl rfl (fun _ => Ev.lss rfl rfl rfl) ?_
    refine AG.takeW 4 rfl (by kernel_rfl) (by kernel_rfl) rfl rfl rfl (fun _ => Ev.move rfl rfl) ?_
    refine AG.split (d := 27) rfl (fun hg5 => ?_) (fun hg5 => ?_)
    · refine AG.takeW 5 rfl (by kernel_rfl) (by kernel_rfl) rfl rfl rfl (fun _ => Ev.move rfl rfl) ?_
      refine AG.takeW 6 rfl (by kernel_rfl) (by kernel_rfl) rfl rfl rfl (fun _ => Ev.move rfl rfl) ?_
      refine AG.idxL _ 7 rfl (by kernel_rfl) (by kernel_rfl) rfl rfl rfl rfl rfl rfl Try.underlying22 sz_5 ((hbig.ext hxwl1)) (kept_l (by omega)) (fun p6 hp6b hp6 => ?_)
      refine AG.take 8 rfl (by kernel_rfl) (by kernel_rfl) rfl rfl rfl (fun wq hq => Ev.ld0 rfl rfl Try.underlying5 rfl (hp6.ext hq hp6b) (rfl)) ?_
      refine AG.takeW 9 rfl (by kernel_rfl) (by kernel_rfl) rfl rfl rfl (fun _ => Ev.move rfl rfl) ?_
      refine AG.takeW 10 rfl (by kernel_rfl) (by kernel_rfl) rfl rfl rfl (fun _ => Ev.move rfl rfl) ?_
      refine AG.idxL _ 11 rfl (by kernel_rfl) (by kernel_rfl) rfl rfl rfl rfl rfl rfl Try.underlying22 sz_5 ((hl.ext hxwl1)) (List.getElem?_eq_getElem (by omega)) (fun p7 hp7b hp7 => ?_)
      refine AG.take 12 rfl (by kernel_rfl) (by kernel_rfl) rfl rfl rfl (fun wq hq => Ev.ld0 rfl rfl Try.underlying5 rfl (hp7.ext hq hp7b) (rfl)) ?_
      refine AG.takeW 13 rfl (by kernel_rfl) (by kernel_rfl) rfl rfl rfl (fun _ => Ev.isT (Ev.eqI rfl rfl rfl) (rfl)) ?_
      refine AG.takeW 14 rfl (by kernel_rfl) (by kernel_rfl) rfl rfl rfl (fun _ => Ev.notF rfl rfl) ?_
      refine AG.takeW 15 rfl (by kernel_rfl) (by kernel_rfl) rfl rfl rfl (fun _ => Ev.pickT rfl rfl rfl) ?_
      refine AG.takeW 16 rfl (by kernel_rfl) (by kernel_rfl) rfl rfl rfl (fun _ => Ev.move rfl rfl) ?_
      refine AG.takeW 17 rfl (by kernel_rfl) (by kernel_rfl) rfl rfl rfl (fun _ => Ev.move rfl rfl) ?_
      refine AG.takeW 18 rfl (by kernel_rfl) (by kernel_rfl) rfl rfl rfl (fun _ => Ev.move rfl rfl) ?_
      refine AG.takeW 19 rfl (by kernel_rfl) (by kernel_rfl) rfl rfl rfl (fun _ => Ev.lenL rfl rfl rfl Try.underlying22 ((hl.ext hxwl1))) ?_
      refine AG.takeW 20 rfl (by kernel_rfl) (by kernel_rfl) rfl rfl rfl (fun _ => Ev.isF (Ev.geq rfl rfl rfl) (by omega)) ?_
      refine AG.takeW 21 rfl (by kernel_rfl) (by kernel_rfl) rfl rfl rfl (fun _ => Ev.move rfl rfl) ?_
      refine AG.pass 22 rfl (by kernel_rfl) (by kernel_rfl) rfl rfl rfl ?_
      refine AG.pass 23 rfl (by kernel_rfl) (by kernel_rfl) rfl rfl rfl ?_
      refine AG.pass 24 rfl (by kernel_rfl) (by kernel_rfl) rfl rfl rfl ?_
      refine AG.pass 25 rfl (by kernel_rfl) (by kernel_rfl) rfl rfl rfl ?_
      refine AG.pass 26 rfl (by kernel_rfl) (by kernel_rfl) rfl rfl rfl ?_
      refine AG.pass 27 rfl (by kernel_rfl) (by kernel_rfl) rfl rfl rfl ?_
      refine AG.pass 28 rfl (by kernel_rfl) (by kernel_rfl) rfl rfl rfl ?_
      refine AG.pass 29 rfl (by kernel_rfl) (by kernel_rfl) rfl rfl rfl ?_
      refine AG.pass 30 rfl (by kernel_rfl) (by kernel_rfl) rfl rfl rfl ?_
      refine AG.pass 31 rfl (by kernel_rfl) (by kernel_rfl) rfl rfl rfl ?_
      refine AG.pass 32 rfl (by kernel_rfl) (by kernel_rfl) rfl rfl rfl ?_
      refine AG.takeW 33 rfl (by kernel_rfl) (by kernel_rfl) rfl rfl rfl (fun _ => Ev.pickF rfl rfl rfl) ?_
      refine AG.takeW 34 rfl (by kernel_rfl) (by kernel_rfl) rfl rfl rfl (fun _ => Ev.pickF rfl rfl rfl) ?_
      refine AG.done (by kernel_rfl) ?_
      refine QW.sub (S' := [(1, _), (5, _), (6, _), (57, _)]) ⟨rfl, rfl, rfl, rfl, trivial⟩ ?_
      refine QW.then_ ?_
      refine CW.condF rfl ?_
      refine CW.skip ?_
      refine QW.blockN ?_
      refine QW.then_ ?_
      refine CW.region ?_
      refine RG.vl rfl rfl rfl (Ev.move rfl rfl) ?_
      refine RG.vl rfl rfl rfl (Ev.addI rfl rfl rfl (by omega)) ?_
      refine RG.vl rfl rfl rfl (Ev.assign rfl rfl) ?_
      refine RG.done ?_
      refine QW.round1 (i + 1) ⟨rfl, trivial⟩ ⟨rfl, rfl, trivial⟩ ⟨by omega, (Ex.tr hB0 hxwl1)⟩ (by omega)
    · refine AG.pass 5 rfl (by kernel_rfl) (by kernel_rfl) rfl rfl rfl ?_
      refine AG.pass 6 rfl (by kernel_rfl) (by kernel_rfl) rfl rfl rfl ?_
      refine AG.pass 7 rfl (by kernel_rfl) (by kernel_rfl) rfl rfl rfl ?_
      refine AG.pass 8 rfl (by kernel_rfl) (by kernel_rfl) rfl rfl rfl ?_
      refine AG.pass 9 rfl (by kernel_rfl) (by kernel_rfl) rfl rfl rfl ?_
      refine AG.pass 10 rfl (by kernel_rfl) (by kernel_rfl) rfl rfl rfl ?_
      refine AG.pass 11 rfl (by kernel_rfl) (by kernel_rfl) rfl rfl rfl ?_
      refine AG.pass 12 rfl (by kernel_rfl) (by kernel_rfl) rfl rfl rfl ?_
      refine AG.pass 13 rfl (by kernel_rfl) (by kernel_rfl) rfl rfl rfl ?_
      refine AG.pass 14 rfl (by kernel_rfl) (by kernel_rfl) rfl rfl rfl ?_
      refine AG.takeW 15 rfl (by kernel_rfl) (by kernel_rfl) rfl rfl rfl (fun _ => Ev.pickF rfl rfl rfl) ?_
      refine AG.takeW 16 rfl (by kernel_rfl) (by kernel_rfl) rfl rfl rfl (fun _ => Ev.move rfl rfl) ?_
      refine AG.takeW 17 rfl (by kernel_rfl) (by kernel_rfl) rfl rfl rfl (fun _ => Ev.move rfl rfl) ?_
      refine AG.takeW 18 rfl (by kernel_rfl) (by kernel_rfl) rfl rfl rfl (fun _ => Ev.move rfl rfl) ?_
      refine AG.takeW 19 rfl (by kernel_rfl) (by kernel_rfl) rfl rfl rfl (fun _ => Ev.lenL rfl rfl rfl Try.underlying22 ((hl.ext hxwl1))) ?_
      refine AG.takeW 20 rfl (by kernel_rfl) (by kernel_rfl) rfl rfl rfl (fun _ => Ev.isT (Ev.geq rfl rfl rfl) (by omega)) ?_
      refine AG.takeW 21 rfl (by kernel_rfl) (by kernel_rfl) rfl rfl rfl (fun _ => Ev.move rfl rfl) ?_
      refine AG.takeW 22 rfl (by kernel_rfl) (by kernel_rfl) rfl rfl rfl (fun _ => Ev.move rfl rfl) ?_
      refine AG.takeW 23 rfl (by kernel_rfl) (by kernel_rfl) rfl rfl rfl (fun _ => Ev.move rfl rfl) ?_
      refine AG.idxL _ 24 rfl (by kernel_rfl) (by kernel_rfl) rfl rfl rfl rfl rfl rfl Try.underlying22 sz_5 ((hbig.ext hxwl1)) (kept_m (by omega) (by omega)) (fun p8 hp8b hp8 => ?_)
      refine AG.take 25 rfl (by kernel_rfl) (by kernel_rfl) rfl rfl rfl (fun wq hq => Ev.ld0 rfl rfl Try.underlying5 rfl (hp8.ext hq hp8b) (rfl)) ?_
      refine AG.takeW 26 rfl (by kernel_rfl) (by kernel_rfl) rfl rfl rfl (fun _ => Ev.move rfl rfl) ?_
      refine AG.takeW 27 rfl (by kernel_rfl) (by kernel_rfl) rfl rfl rfl (fun _ => Ev.move rfl rfl) ?_
      refine AG.takeW 28 rfl (by kernel_rfl) (by kernel_rfl) rfl rfl rfl (fun _ => Ev.lenL rfl rfl rfl Try.underlying22 ((hl.ext hxwl1))) ?_
      refine AG.takeW 29 rfl (by kernel_rfl) (by kernel_rfl) rfl rfl rfl (fun _ => (Ev.subI rfl rfl rfl (by omega)).conv (congrArg (Value.int .i64) (show (i : Int) - (l.length : Int) = ((i - l.length : Nat) : Int) by omega))) ?_
      refine AG.only 30 rfl (by kernel_rfl) ?_
      refine RG.call rfl rfl rfl rfl rfl rfl rfl en_32 (markB_ret 1 _ _ (by omega) (by omega)) ?_
      rintro _ w10 ⟨rfl, hx10⟩
      replace hxwl1 := Ex.tr hxwl1 hx10
      replace hE4 := Ex.tr hE4 hx10
      have hE11 := hx10
      refine RG.done ?_
      refine QW.an (fun _ => hE11) ?_
      refine AG.takeW 31 rfl (by kernel_rfl) (by kernel_rfl) rfl rfl rfl (fun _ => Ev.isT (Ev.eqI rfl rfl rfl) (rfl)) ?_
      refine AG.takeW 32 rfl (by kernel_rfl) (by kernel_rfl) rfl rfl rfl (fun _ => Ev.notF rfl rfl) ?_
      refine AG.takeW 33 rfl (by kernel_rfl) (by kernel_rfl) rfl rfl rfl (fun _ => Ev.pickT rfl rfl rfl) ?_
      refine AG.takeW 34 rfl (by kernel_rfl) (by kernel_rfl) rfl rfl rfl (fun _ => Ev.pickF rfl rfl rfl) ?_
      refine AG.done (by kernel_rfl) ?_
      refine QW.sub (S' := [(1, _), (5, _), (6, _), (57, _)]) ⟨rfl, rfl, rfl, rfl, trivial⟩ ?_
      refine QW.then_ ?_
      refine CW.condF rfl ?_
      refine CW.skip ?_
      refine QW.blockN ?_
      refine QW.then_ ?_
      refine CW.region ?_
      refine RG.vl rfl rfl rfl (Ev.move rfl rfl) ?_
      refine RG.vl rfl rfl rfl (Ev.addI rfl rfl rfl (by omega)) ?_
      refine RG.vl rfl rfl rfl (Ev.assign rfl rfl) ?_
      refine RG.done ?_
      refine QW.round1 (i + 1) ⟨rfl, trivial⟩ ⟨rfl, rfl, trivial⟩ ⟨by omega, (Ex.tr hB0 hxwl1)⟩ (by omega)
  · refine CW.exit ?_
    refine QW.thenExit ?_
    refine QW.thenExit ?_
    refine QW.blockHit ?_
    refine QW.then_ ?_
    refine CW.seq ?_
    refine CW.region ?_
    refine RG.vl rfl rfl rfl (Ev.assign rfl rfl) ?_
    refine RG.done ?_
    refine QW.then_ ?_
    refine CW.ret ?_
    refine QW.ret1 rfl rfl ?_
    have hB := (Ex.tr hB0 hxwl1)
    exact ⟨rfl, hB⟩

set_option maxRecDepth 100000 in
set_option maxHeartbeats 1000000 in
theorem over_ret (w0 : World) (g cap n : Nat) (L0 : List Nat) (w : World) (hx0 : Ex w0 w) (hown : Own w w0.heap.size 5 1 encN (.slice (some ⟨g, 0, none⟩) L0.length cap) L0) (hcap : L0.length ≤ cap) (hn : L0.length = n + 12) (hlen : n ≤ 100000) :
    Ret Try.prog 16 [.slice (some ⟨g, 0, none⟩) n cap] w (fun _ w' => ∃ L, Own w' w0.heap.size 5 1 encN (.slice (some ⟨g, 0, none⟩) L0.length cap) L ∧ w.grownBy w' (some g)) := by
  have hB0 : Ex w w := Ex.rfl_ _
  refine Ret.of Try.func16 rfl Try.ntmps16 rfl ?_
  refine CW.seq ?_
  refine CW.region ?_
  refine RG.vl rfl rfl rfl (Ev.move rfl rfl) ?_
  refine RG.vl rfl rfl rfl (Ev.move rfl rfl) ?_
  refine RG.vl rfl rfl rfl (Ev.capSlice rfl rfl rfl Try.underlying22) ?_
  refine RG.vl rfl rfl rfl (Ev.move rfl rfl) ?_
  refine RG.vl rfl rfl rfl (Ev.lenSlice rfl rfl rfl Try.underlying22) ?_
  refine RG.vl rfl rfl rfl (Ev.addI rfl rfl rfl (by omega)) ?_
  refine RG.vl rfl rfl rfl ((Ev.min2 rfl rfl rfl rfl).conv (congrArg (Value.int .i64) (show min (cap : Int) ((n : Int) + 12) = (L0.length : Int) by omega))) ?_
  refine RG.vl rfl rfl rfl (Ev.upTo (H := L0.length) rfl rfl rfl Try.underlying22 sz_5 hcap) ?_
  refine RG.vl rfl rfl rfl (Ev.assign rfl rfl) ?_
  refine RG.done ?_
  refine QW.then_ ?_
  refine CW.seq ?_
  refine CW.region ?_
  refine RG.vl rfl rfl rfl (Ev.assign rfl rfl) ?_
  refine RG.done ?_
  refine QW.then_ ?_
  refine CW.block ?_
  refine CW.loop2 [(2, _)] ⟨rfl, trivial⟩ (fun (i : Nat) (L : List Nat) => [(3, .int .i64 i)]) (fun i L w' => (i ≤ L0.length ∧ L.length = L0.length ∧ Own w' w0.heap.size 5 1 encN (.slice (some ⟨g, 0, none⟩) L0.length cap) L ∧ w.grownBy w' (some g)) ∧ Ex w0 w') (fun i L => L0.length - i) (0) (L0) ⟨rfl, trivial⟩ ⟨⟨Nat.zero_le _, rfl, hown, World.grownBy.refl _ _⟩, hx0⟩ ?_
  rintro i L wl1 ⟨⟨hi, hLl, hown, hgr⟩, hxwl1⟩
  refine CW.sub (S' := [(3, _), (2, _)]) ⟨rfl, rfl, trivial⟩ ?_
  refine CW.seq ?_
  refine CW.seq ?_
  refine CW.region ?_
  refine RG.vl rfl rfl rfl (Ev.move rfl rfl) ?_
  refine RG.vl rfl rfl rfl (Ev.move rfl rfl) ?_
  refine RG.vl rfl rfl rfl (Ev.lenL rfl rfl rfl Try.underlying22 ((hown.rdl encN_len))) ?_
  refine RG.vl rfl rfl rfl (Ev.lss rfl rfl rfl) ?_
  refine RG.done ?_
  refine QW.then_ ?_
  refine CW.condP rfl (fun hc2 => ?_) (fun hc2 => ?_)
  · refine CW.skip ?_
    refine QW.then_ ?_
    refine CW.seq ?_
    refine CW.block ?_
    refine CW.region ?_
    refine RG.vl rfl rfl rfl (Ev.move rfl rfl) ?_
    refine RG.vl rfl rfl rfl (Ev.move rfl rfl) ?_
    refine RG.vl rfl rfl rfl (Ev.move rfl rfl) ?_
    refine RG.call rfl rfl rfl rfl rfl rfl rfl en_32 (markB_ret 2 _ _ (by omega) (by omega)) ?_
    rintro _ w3 ⟨rfl, hx3⟩
    replace hxwl1 := Ex.tr hxwl1 hx3
    have hE4 := hx3
    refine RG.idxO rfl rfl rfl rfl rfl rfl Try.underlying22 sz_5 encN_len ((Own.ext hown hE4)) (getElem?_one (show i < L.length by omega)) (fun g6 hg6 hBg6 hp5b hp5 => ?_)
    refine RG.stOw0 (g := g6) (_) rfl rfl rfl rfl rfl sz_5 rfl (fun _ => rfl) (Own.ext hown hE4) hg6 (getElem?_one (show i < L.length by omega)) rfl (rfl) (fun ws7 hwws7 hown8 => ?_)
    have hpreL := hE4
    replace hxwl1 := Wr.below hxwl1 hwws7 hBg6
    refine RG.done ?_
    refine QW.blockN ?_
    refine QW.then_ ?_
    refine CW.region ?_
    refine RG.vl rfl rfl rfl (Ev.move rfl rfl) ?_
    refine RG.vl rfl rfl rfl (Ev.addI rfl rfl rfl (by omega)) ?_
    refine RG.vl rfl rfl rfl (Ev.assign rfl rfl) ?_
    refine RG.done ?_
    refine QW.round2 (i + 1) (_) ⟨rfl, trivial⟩ ⟨rfl, trivial⟩ ⟨⟨by omega, by rw [List.length_set]; exact hLl, hown8, grown_tr hgr (grown_of hpreL hwws7 hg6)⟩, hxwl1⟩ (by omega)
  · refine CW.exit ?_
    refine QW.thenExit ?_
    refine QW.thenExit ?_
    refine QW.blockHit ?_
    refine QW.end0 rfl ?_
    exact ⟨L, hown, hgr⟩

set_option maxRecDepth 100000 in
set_option maxHeartbeats 1000000 in
theorem lentz_ret (u0 : Value) (l : List Int) (w : World) (hl : RdL w 1 encI u0 l) (hlen : l.length ≤ 100000) :
    Ret Try.prog 12 [u0] w (fun v w' => ∃ g cap, v = .slice (some ⟨g, 0, none⟩) l.length cap ∧ Own w' w.heap.size 3 1 encI (.slice (some ⟨g, 0, none⟩) (l.length + 12) cap) (l ++ mzs 1 12) ∧ Ex w w') := by
  have hB0 : Ex w w := Ex.rfl_ _
  refine Ret.of Try.func12 rfl Try.ntmps12 rfl ?_
  refine CW.seq ?_
  refine CW.region ?_
  refine RG.vl rfl rfl rfl (Ev.assign rfl rfl) ?_
  refine RG.done ?_
  refine QW.then_ ?_
  refine CW.seq ?_
  refine CW.region ?_
  refine RG.vl rfl rfl rfl (Ev.move rfl rfl) ?_
  refine RG.vl rfl rfl rfl (Ev.lenL rfl rfl rfl Try.underlying23 (hl)) ?_
  refine RG.vl rfl rfl rfl (Ev.addI rfl rfl rfl (by omega)) ?_
  refine RG.make0O (m := l.length + 12) (enc := encI) rfl rfl rfl rfl rfl rfl (by omega) Try.underlying23 inf_3 (by omega) (by simp only [maxLen]; omega) (fun vz wk1 hxwk1 hown2 hnew3 => ?_)
  have hE4 := hxwk1
  refine RG.vl rfl rfl rfl (Ev.assign rfl rfl) ?_
  refine RG.done ?_
  refine QW.then_ ?_
  refine CW.seq ?_
  have hn0 : ([] : List Int).length = 0 := rfl
  refine CW.region ?_
  refine RG.vl rfl rfl rfl (Ev.move rfl rfl) ?_
  refine RG.vl rfl rfl rfl (Ev.move rfl rfl) ?_
  refine RG.appO rfl rfl rfl rfl rfl rfl rfl Try.underlying23 inf_3 rfl rfl encI_len (fun _ => rfl) hown2 ((hl.ext hE4)) (by simp only [maxLen]; omega) (by omega) (hE4.size) (fun v5 wa6 hown7 hgr8 hat9 => ?_)
  replace hE4 := own_block hown2 hE4 hgr8 (Nat.le_refl _) hE4.size
  refine RG.vl rfl rfl rfl (Ev.assign rfl rfl) ?_
  refine RG.done ?_
  refine QW.then_ ?_
  refine CW.seq ?_
  refine CW.seq ?_
  refine CW.region ?_
  refine RG.vl rfl rfl rfl (Ev.assign rfl rfl) ?_
  refine RG.done ?_
  refine QW.then_ ?_
  refine CW.block ?_
  refine CW.loop2 [(0, _), (2, _)] ⟨rfl, rfl, trivial⟩ (fun (i : Nat) (u : Value) => [(4, .int .i64 i), (3, u)]) (fun i u w' => (i ≤ 12 ∧ Own w' w.heap.size 3 1 encI u (l ++ mzs 1 i)) ∧ Ex w w') (fun i u => 12 - i) (0) (_) ⟨rfl, rfl, trivial⟩ ⟨⟨by omega, by rw [show mzs 1 0 = [] from rfl, List.append_nil]; exact hown7⟩, (Ex.tr hB0 hE4)⟩ ?_
  rintro i u wl10 ⟨⟨hi, hown⟩, hxwl10⟩
  refine CW.sub (S' := [(4, _), (3, _), (0, _), (2, _)]) ⟨rfl, rfl, rfl, rfl, trivial⟩ ?_
  refine CW.seq ?_
  refine CW.seq ?_
  refine CW.region ?_
  refine RG.vl rfl rfl rfl (Ev.move rfl rfl) ?_
  refine RG.vl rfl rfl rfl (Ev.lss rfl rfl rfl) ?_
  refine RG.done ?_
  refine QW.then_ ?_
  refine CW.condP rfl (fun hc11 => ?_) (fun hc11 => ?_)
  · refine CW.skip ?_
    refine QW.then_ ?_
    refine CW.seq ?_
    refine CW.block ?_
    have hml := mzs_len 1 i
    have hlm : (l ++ mzs 1 i).length = l.length + i := by rw [List.length_append, hml]
    refine CW.region ?_
    refine RG.vl rfl rfl rfl (Ev.move rfl rfl) ?_
    refine RG.vl rfl rfl rfl (Ev.move rfl rfl) ?_
    refine RG.call rfl rfl rfl rfl rfl rfl rfl en_33 (mark_ret 1 _ _ (by omega) (by omega)) ?_
    rintro _ w12 ⟨rfl, hx12⟩
    replace hxwl10 := Ex.tr hxwl10 hx12
    have hE13 := hx12
    refine RG.litO (os := [.tmp 18]) (enc := encI) ([mkZ 1 i]) rfl rfl rfl rfl rfl rfl rfl Try.underlying23 inf_3 rfl rfl rfl rfl rfl encI_len rfl rfl (fun v14 wk15 hxwk15 hown16 hnew17 => ?_)
    have hsep18 : Sep v14 _ := Sep.of_new (Own.ext hown hE13) hnew17
    replace hxwl10 := Ex.tr hxwl10 hxwk15
    replace hE13 := Ex.tr hE13 hxwk15
    have hE19 := hxwk15
    refine RG.appO rfl rfl rfl rfl rfl rfl rfl Try.underlying23 inf_3 rfl rfl encI_len (fun _ => rfl) (Own.ext hown hE13) ((hown16.rdl encI_len)) (by show _ + 1 ≤ maxLen; simp only [maxLen]; omega) (by show (_ + 1) * _ ≤ _; omega) (hxwl10.size) (fun v20 wa21 hown22 hgr23 hat24 => ?_)
    have hsep26 := Sep.app (Sep.symm hsep18) hown16 hat24
    have hown25 := Own.grown hown16 hgr23 (fun k a b => (Sep.symm hsep18) k b a)
    replace hxwl10 := own_block (Own.ext hown hE13) hxwl10 hgr23 (Nat.le_refl _) hxwl10.size
    refine RG.vl rfl rfl rfl (Ev.assign rfl rfl) ?_
    refine RG.done ?_
    refine QW.blockN ?_
    refine QW.then_ ?_
    refine CW.region ?_
    refine RG.vl rfl rfl rfl (Ev.move rfl rfl) ?_
    refine RG.vl rfl rfl rfl (Ev.addI rfl rfl rfl (by omega)) ?_
    refine RG.vl rfl rfl rfl (Ev.assign rfl rfl) ?_
    refine RG.done ?_
    refine QW.round2 (i + 1) (v20) ⟨rfl, rfl, trivial⟩ ⟨rfl, rfl, trivial⟩ ⟨⟨by omega, by rw [mzs_more, ← List.append_assoc]; exact hown22⟩, (Ex.tr hB0 hxwl10)⟩ (by omega)
  · refine CW.exit ?_
    refine QW.thenExit ?_
    refine QW.thenExit ?_
    refine QW.blockHit ?_
    refine QW.then_ ?_
    refine CW.seq ?_
    obtain rfl : i = 12 := by omega
    refine CW.region ?_
    refine RG.vl rfl rfl rfl (Ev.move rfl rfl) ?_
    refine RG.vl rfl rfl rfl (Ev.move rfl rfl) ?_
    refine RG.vl rfl rfl rfl (Ev.lenL rfl rfl rfl Try.underlying23 ((hl.ext hxwl10))) ?_
    obtain ⟨g, cap, rfl, hgB, hgl⟩ := own_at hown (by rw [List.length_append, mzs_len]; omega)
    have hcap := Own.capz hown
    refine RG.vl rfl rfl rfl (Ev.upTo rfl rfl rfl Try.underlying23 sz_3 (by rw [List.length_append] at hcap; omega)) ?_
    refine RG.vl rfl rfl rfl (Ev.assign rfl rfl) ?_
    refine RG.done ?_
    refine QW.then_ ?_
    refine CW.ret ?_
    refine QW.ret1 rfl rfl ?_
    have hB := (Ex.tr hB0 hxwl10)
    rw [show (l ++ mzs 1 12).length = l.length + 12 from by rw [List.length_append, mzs_len]] at hown
    exact ⟨g, cap, rfl, hown.low (by have := hB0.size; omega), hB⟩

set_option maxRecDepth 100000 in
set_option maxHeartbeats 4000000 in
theorem keptz_ret (g cap : Nat) (u0 : Value) (l : List Int) (w : World) (hbig : RdL w 1 encI (.slice (some ⟨g, 0, none⟩) (l.length + 12) cap) (l ++ mzs 1 12)) (hl : RdL w 1 encI u0 l) (hcap : l.length + 12 ≤ cap) (hlen : l.length ≤ 100000) :
    Ret Try.prog 15 [.slice (some ⟨g, 0, none⟩) l.length cap, u0] w (fun v w' => v = .bool true ∧ Ex w w') := by
  have hB0 : Ex w w := Ex.rfl_ _
  refine Ret.of Try.func15 rfl Try.ntmps15 rfl ?_
  refine CW.seq ?_
  refine CW.region ?_
  refine RG.vl rfl rfl rfl (Ev.assign rfl rfl) ?_
  refine RG.done ?_
  refine QW.then_ ?_
  refine CW.seq ?_
  refine CW.seq ?_
  refine CW.region ?_
  refine RG.vl rfl rfl rfl (Ev.move rfl rfl) ?_
  refine RG.vl rfl rfl rfl (Ev.lenSlice rfl rfl rfl Try.underlying23) ?_
  refine RG.vl rfl rfl rfl (Ev.move rfl rfl) ?_
  refine RG.vl rfl rfl rfl (Ev.lenL rfl rfl rfl Try.underlying23 (hl)) ?_
  refine RG.vl rfl rfl rfl (Ev.isF (Ev.neI rfl rfl rfl) (fun h => h rfl)) ?_
  refine RG.done ?_
  refine QW.then_ ?_
  refine CW.condF rfl ?_
  refine CW.skip ?_
  refine QW.then_ ?_
  refine CW.seq ?_
  refine CW.region ?_
  refine RG.vl rfl rfl rfl (Ev.move rfl rfl) ?_
  refine RG.vl rfl rfl rfl (Ev.move rfl rfl) ?_
  refine RG.vl rfl rfl rfl (Ev.lenL rfl rfl rfl Try.underlying23 (hl)) ?_
  refine RG.vl rfl rfl rfl ((Ev.addI rfl rfl rfl (by omega)).conv (congrArg (Value.int .i64) (show (l.length : Int) + 12 = ((l.length + 12 : Nat) : Int) by omega))) ?_
  refine RG.vl rfl rfl rfl (Ev.upTo (H := l.length + 12) rfl rfl rfl Try.underlying23 sz_3 hcap) ?_
  refine RG.vl rfl rfl rfl (Ev.assign rfl rfl) ?_
  refine RG.done ?_
  refine QW.then_ ?_
  refine CW.seq ?_
  refine CW.seq ?_
  have hbl : (l ++ mzs 1 12).length = l.length + 12 := by rw [List.length_append, mzs_len]
  refine CW.region ?_
  refine RG.vl rfl rfl rfl (Ev.assign rfl rfl) ?_
  refine RG.done ?_
  refine QW.then_ ?_
  refine CW.block ?_
  refine CW.loop1 [(1, _), (5, _)] ⟨rfl, rfl, trivial⟩ (fun (i : Nat) => [(6, .int .i64 i)]) (fun i w' => (i ≤ l.length + 12) ∧ Ex w w') (fun i => l.length + 12 - i) (0) ⟨rfl, trivial⟩ ⟨Nat.zero_le _, hB0⟩ ?_
  rintro i wl1 ⟨hi, hxwl1⟩
  refine CW.sub (S' := [(6, _), (1, _), (5, _)]) ⟨rfl, rfl, rfl, trivial⟩ ?_
  refine CW.seq ?_
  refine CW.seq ?_
  refine CW.region ?_
  refine RG.vl rfl rfl rfl (Ev.move rfl rfl) ?_
  refine RG.vl rfl rfl rfl (Ev.move rfl rfl) ?_
  refine RG.vl rfl rfl rfl (Ev.lenL rfl rfl rfl Try.underlying23 ((hbig.ext hxwl1))) ?_
  refine RG.vl rfl rfl rfl (Ev.lss rfl rfl rfl) ?_
  refine RG.done ?_
  refine QW.then_ ?_
  refine CW.condP rfl (fun hc2 => ?_) (fun hc2 => ?_)
  · refine CW.skip ?_
    refine QW.then_ ?_
    refine CW.seq ?_
    refine CW.block ?_
    refine CW.seq ?_
    refine CW.draw [] (.ex) 35 rfl mixed (fun wd3 hxwd3 => ?_)
    replace hxwl1 := Ex.tr hxwl1 hxwd3
    have hE4 := hxwd3
    refine AG.takeW 0 rfl (by kernel_rfl) (by kernel_rfl) rfl rfl rfl (fun _ => Ev.move rfl rfl) ?_
    refine AG.takeW 1 rfl (by kernel_rfl) (by kernel_rfl) rfl rfl rfl (fun _ => Ev.move rfl rfl) ?_
    refine AG.takeW 2 rfl (by kernel_rfl) (by kernel_rfl) rfl rfl rfl (fun _ => Ev.lenL rfl rfl rfl Try.underlying23 ((hl.ext hxwl1))) ?_
    refine AG.takeW 3 rfl (by kernel_rfl) (by kernel_rfl) rfl rfl rfl (fun _ => Ev.lss rfl rfl rfl) ?_
    refine AG.takeW 4 rfl (by kernel_rfl) (by kernel_rfl) rfl rfl rfl (fun _ => Ev.move rfl rfl) ?_
    refine AG.split (d := 27) rfl (fun hg5 => ?_) (fun hg5 => ?_)
    · refine AG.takeW 5 rfl (by kernel_rfl) (by kernel_rfl) rfl rfl rfl (fun _ => Ev.move rfl rfl) ?_
      refine AG.takeW 6 rfl (by kernel_rfl) (by kernel_rfl) rfl rfl rfl (fun _ => Ev.move rfl rfl) ?_
      refine AG.idxL _ 7 rfl (by kernel_rfl) (by kernel_rfl) rfl rfl rfl rfl rfl rfl Try.underlying23 sz_3 ((hbig.ext hxwl1)) (keptz_l (by omega)) (fun p6 hp6b hp6 => ?_)
      refine AG.take 8 rfl (by kernel_rfl) (by kernel_rfl) rfl rfl rfl (fun wq hq => Ev.ld0 rfl rfl Try.underlying3 rfl (hp6.ext hq hp6b) (rfl)) ?_
      refine AG.takeW 9 rfl (by kernel_rfl) (by kernel_rfl) rfl rfl rfl (fun _ => Ev.move rfl rfl) ?_
      refine AG.takeW 10 rfl (by kernel_rfl) (by kernel_rfl) rfl rfl rfl (fun _ => Ev.move rfl rfl) ?_
      refine AG.idxL _ 11 rfl (by kernel_rfl) (by kernel_rfl) rfl rfl rfl rfl rfl rfl Try.underlying23 sz_3 ((hl.ext hxwl1)) (List.getElem?_eq_getElem (by omega)) (fun p7 hp7b hp7 => ?_)
      refine AG.take 12 rfl (by kernel_rfl) (by kernel_rfl) rfl rfl rfl (fun wq hq => Ev.ld0 rfl rfl Try.underlying3 rfl (hp7.ext hq hp7b) (rfl)) ?_
      refine AG.takeW 13 rfl (by kernel_rfl) (by kernel_rfl) rfl rfl rfl (fun _ => Ev.isT (Ev.eqI rfl rfl rfl) (rfl)) ?_
      refine AG.takeW 14 rfl (by kernel_rfl) (by kernel_rfl) rfl rfl rfl (fun _ => Ev.notF rfl rfl) ?_
      refine AG.takeW 15 rfl (by kernel_rfl) (by kernel_rfl) rfl rfl rfl (fun _ => Ev.pickT rfl rfl rfl) ?_
      refine AG.takeW 16 rfl (by kernel_rfl) (by kernel_rfl) rfl rfl rfl (fun _ => Ev.move rfl rfl) ?_
      refine AG.takeW 17 rfl (by kernel_rfl) (by kernel_rfl) rfl rfl rfl (fun _ => Ev.move rfl rfl) ?_
      refine AG.takeW 18 rfl (by kernel_rfl) (by kernel_rfl) rfl rfl rfl (fun _ => Ev.move rfl rfl) ?_
      refine AG.takeW 19 rfl (by kernel_rfl) (by kernel_rfl) rfl rfl rfl (fun _ => Ev.lenL rfl rfl rfl Try.underlying23 ((hl.ext hxwl1))) ?_
      refine AG.takeW 20 rfl (by kernel_rfl) (by kernel_rfl) rfl rfl rfl (fun _ => Ev.isF (Ev.geq rfl rfl rfl) (by omega)) ?_
      refine AG.takeW 21 rfl (by kernel_rfl) (by kernel_rfl) rfl rfl rfl (fun _ => Ev.move rfl rfl) ?_
      refine AG.pass 22 rfl (by kernel_rfl) (by kernel_rfl) rfl rfl rfl ?_
      refine AG.pass 23 rfl (by kernel_rfl) (by kernel_rfl) rfl rfl rfl ?_
      refine AG.pass 24 rfl (by kernel_rfl) (by kernel_rfl) rfl rfl rfl ?_
      refine AG.pass 25 rfl (by kernel_rfl) (by kernel_rfl) rfl rfl rfl ?_
      refine AG.pass 26 rfl (by kernel_rfl) (by kernel_rfl) rfl rfl rfl ?_
      refine AG.pass 27 rfl (by kernel_rfl) (by kernel_rfl) rfl rfl rfl ?_
      refine AG.pass 28 rfl (by kernel_rfl) (by kernel_rfl) rfl rfl rfl ?_
      refine AG.pass 29 rfl (by kernel_rfl) (by kernel_rfl) rfl rfl rfl ?_
      refine AG.pass 30 rfl (by kernel_rfl) (by kernel_rfl) rfl rfl rfl ?_
      refine AG.pass 31 rfl (by kernel_rfl) (by kernel_rfl) rfl rfl rfl ?_
      refine AG.pass 32 rfl (by kernel_rfl) (by kernel_rfl) rfl rfl rfl ?_
      refine AG.takeW 33 rfl (by kernel_rfl) (by kernel_rfl) rfl rfl rfl (fun _ => Ev.pickF rfl rfl rfl) ?_
      refine AG.takeW 34 rfl (by kernel_rfl) (by kernel_rfl) rfl rfl rfl (fun _ => Ev.pickF rfl rfl rfl) ?_
      refine AG.done (by kernel_rfl) ?_
      refine QW.sub (S' := [(1, _), (5, _), (6, _), (57, _)]) ⟨rfl, rfl, rfl, rfl, trivial⟩ ?_
      refine QW.then_ ?_
      refine CW.condF rfl ?_
      refine CW.skip ?_
      refine QW.blockN ?_
      refine QW.then_ ?_
      refine CW.region ?_
      refine RG.vl rfl rfl rfl (Ev.move rfl rfl) ?_
      refine RG.vl rfl rfl rfl (Ev.addI rfl rfl rfl (by omega)) ?_
      refine RG.vl rfl rfl rfl (Ev.assign rfl rfl) ?_
      refine RG.done ?_
      refine QW.round1 (i + 1) ⟨rfl, trivial⟩ ⟨rfl, rfl, trivial⟩ ⟨by omega, (Ex.tr hB0 hxwl1)⟩ (by omega)
    · refine AG.pass 5 rfl (by kernel_rfl) (by kernel_rfl) rfl rfl rfl ?_
      refine AG.pass 6 rfl (by kernel_rfl) (by kernel_rfl) rfl rfl rfl ?_
      refine AG.pass 7 rfl (by kernel_rfl) (by kernel_rfl) rfl rfl rfl ?_
      refine AG.pass 8 rfl (by kernel_rfl) (by kernel_rfl) rfl rfl rfl ?_
      refine AG.pass 9 rfl (by kernel_rfl) (by kernel_rfl) rfl rfl rfl ?_
      refine AG.pass 10 rfl (by kernel_rfl) (by kernel_rfl) rfl rfl rfl ?_
      refine AG.pass 11 rfl (by kernel_rfl) (by kernel_rfl) rfl rfl rfl ?_
      refine AG.pass 12 rfl (by kernel_rfl) (by kernel_rfl) rfl rfl rfl ?_
      refine AG.pass 13 rfl (by kernel_rfl) (by kernel_rfl) rfl rfl rfl ?_
      refine AG.pass 14 rfl (by kernel_rfl) (by kernel_rfl) rfl rfl rfl ?_
      refine AG.takeW 15 rfl (by kernel_rfl) (by kernel_rfl) rfl rfl rfl (fun _ => Ev.pickF rfl rfl rfl) ?_
      refine AG.takeW 16 rfl (by kernel_rfl) (by kernel_rfl) rfl rfl rfl (fun _ => Ev.move rfl rfl) ?_
      refine AG.takeW 17 rfl (by kernel_rfl) (by kernel_rfl) rfl rfl rfl (fun _ => Ev.move rfl rfl) ?_
      refine AG.takeW 18 rfl (by kernel_rfl) (by kernel_rfl) rfl rfl rfl (fun _ => Ev.move rfl rfl) ?_
      refine AG.takeW 19 rfl (by kernel_rfl) (by kernel_rfl) rfl rfl rfl (fun _ => Ev.lenL rfl rfl rfl Try.underlying23 ((hl.ext hxwl1))) ?_
      refine AG.takeW 20 rfl (by kernel_rfl) (by kernel_rfl) rfl rfl rfl (fun _ => Ev.isT (Ev.geq rfl rfl rfl) (by omega)) ?_
      refine AG.takeW 21 rfl (by kernel_rfl) (by kernel_rfl) rfl rfl rfl (fun _ => Ev.move rfl rfl) ?_
      refine AG.takeW 22 rfl (by kernel_rfl) (by kernel_rfl) rfl rfl rfl (fun _ => Ev.move rfl rfl) ?_
      refine AG.takeW 23 rfl (by kernel_rfl) (by kernel_rfl) rfl rfl rfl (fun _ => Ev.move rfl rfl) ?_
      refine AG.idxL _ 24 rfl (by kernel_rfl) (by kernel_rfl) rfl rfl rfl rfl rfl rfl Try.underlying23 sz_3 ((hbig.ext hxwl1)) (keptz_m (by omega) (by omega)) (fun p8 hp8b hp8 => ?_)
      refine AG.take 25 rfl (by kernel_rfl) (by kernel_rfl) rfl rfl rfl (fun wq hq => Ev.ld0 rfl rfl Try.underlying3 rfl (hp8.ext hq hp8b) (rfl)) ?_
      refine AG.takeW 26 rfl (by kernel_rfl) (by kernel_rfl) rfl rfl rfl (fun _ => Ev.move rfl rfl) ?_
      refine AG.takeW 27 rfl (by kernel_rfl) (by kernel_rfl) rfl rfl rfl (fun _ => Ev.move rfl rfl) ?_
      refine AG.takeW 28 rfl (by kernel_rfl) (by kernel_rfl) rfl rfl rfl (fun _ => Ev.lenL rfl rfl rfl Try.underlying23 ((hl.ext hxwl1))) ?_
      refine AG.takeW 29 rfl (by kernel_rfl) (by kernel_rfl) rfl rfl rfl (fun _ => (Ev.subI rfl rfl rfl (by omega)).conv (congrArg (Value.int .i64) (show (i : Int) - (l.length : Int) = ((i - l.length : Nat) : Int) by omega))) ?_
      refine AG.only 30 rfl (by kernel_rfl) ?_
      refine RG.call rfl rfl rfl rfl rfl rfl rfl en_33 (mark_ret 1 _ _ (by omega) (by omega)) ?_
      rintro _ w10 ⟨rfl, hx10⟩
      replace hxwl1 := Ex.tr hxwl1 hx10
      replace hE4 := Ex.tr hE4 hx10
      have hE11 := hx10
      refine RG.done ?_
      refine QW.an (fun _ => hE11) ?_
      refine AG.takeW 31 rfl (by kernel_rfl) (by kernel_rfl) rfl rfl rfl (fun _ => Ev.isT (Ev.eqI rfl rfl rfl) (rfl)) ?_
      refine AG.takeW 32 rfl (by kernel_rfl) (by kernel_rfl) rfl rfl rfl (fun _ => Ev.notF rfl rfl) ?_
      refine AG.takeW 33 rfl (by kernel_rfl) (by kernel_rfl) rfl rfl rfl (fun _ => Ev.pickT rfl rfl rfl) ?_
      refine AG.takeW 34 rfl (by kernel_rfl) (by kernel_rfl) rfl rfl rfl (fun _ => Ev.pickF rfl rfl rfl) ?_
      refine AG.done (by kernel_rfl) ?_
      refine QW.sub (S' := [(1, _), (5, _), (6, _), (57, _)]) ⟨rfl, rfl, rfl, rfl, trivial⟩ ?_
      refine QW.then_ ?_
      refine CW.condF rfl ?_
      refine CW.skip ?_
      refine QW.blockN ?_
      refine QW.then_ ?_
      refine CW.region ?_
      refine RG.vl rfl rfl rfl (Ev.move rfl rfl) ?_
      refine RG.vl rfl rfl rfl (Ev.addI rfl rfl rfl (by omega)) ?_
      refine RG.vl rfl rfl rfl (Ev.assign rfl rfl) ?_
      refine RG.done ?_
      refine QW.round1 (i + 1) ⟨rfl, trivial⟩ ⟨rfl, rfl, trivial⟩ ⟨by omega, (Ex.tr hB0 hxwl1)⟩ (by omega)
  · refine CW.exit ?_
    refine QW.thenExit ?_
    refine QW.thenExit ?_
    refine QW.blockHit ?_
    refine QW.then_ ?_
    refine CW.seq ?_
    refine CW.region ?_
    refine RG.vl rfl rfl rfl (Ev.assign rfl rfl) ?_
    refine RG.done ?_
    refine QW.then_ ?_
    refine CW.ret ?_
    refine QW.ret1 rfl rfl ?_
    have hB := (Ex.tr hB0 hxwl1)
    exact ⟨rfl, hB⟩

set_option maxRecDepth 100000 in
set_option maxHeartbeats 1000000 in
theorem overz_ret (w0 : World) (g cap n : Nat) (L0 : List Int) (w : World) (hx0 : Ex w0 w) (hown : Own w w0.heap.size 3 1 encI (.slice (some ⟨g, 0, none⟩) L0.length cap) L0) (hcap : L0.length ≤ cap) (hn : L0.length = n + 12) (hlen : n ≤ 100000) :
    Ret Try.prog 17 [.slice (some ⟨g, 0, none⟩) n cap] w (fun _ w' => ∃ L, Own w' w0.heap.size 3 1 encI (.slice (some ⟨g, 0, none⟩) L0.length cap) L ∧ w.grownBy w' (some g)) := by
  have hB0 : Ex w w := Ex.rfl_ _
  refine Ret.of Try.func17 rfl Try.ntmps17 rfl ?_
  refine CW.seq ?_
  refine CW.region ?_
  refine RG.vl rfl rfl rfl (Ev.move rfl rfl) ?_
  refine RG.vl rfl rfl rfl (Ev.move rfl rfl) ?_
  refine RG.vl rfl rfl rfl (Ev.capSlice rfl rfl rfl Try.underlying23) ?_
  refine RG.vl rfl rfl rfl (Ev.move rfl rfl) ?_
  refine RG.vl rfl rfl rfl (Ev.lenSlice rfl rfl rfl Try.underlying23) ?_
  refine RG.vl rfl rfl rfl (Ev.addI rfl rfl rfl (by omega)) ?_
  refine RG.vl rfl rfl rfl ((Ev.min2 rfl rfl rfl rfl).conv (congrArg (Value.int .i64) (show min (cap : Int) ((n : Int) + 12) = (L0.length : Int) by omega))) ?_
  refine RG.vl rfl rfl rfl (Ev.upTo (H := L0.length) rfl rfl rfl Try.underlying23 sz_3 hcap) ?_
  refine RG.vl rfl rfl rfl (Ev.assign rfl rfl) ?_
  refine RG.done ?_
  refine QW.then_ ?_
  refine CW.seq ?_
  refine CW.region ?_
  refine RG.vl rfl rfl rfl (Ev.assign rfl rfl) ?_
  refine RG.done ?_
  refine QW.then_ ?_
  refine CW.block ?_
  refine CW.loop2 [(2, _)] ⟨rfl, trivial⟩ (fun (i : Nat) (L : List Int) => [(3, .int .i64 i)]) (fun i L w' => (i ≤ L0.length ∧ L.length = L0.length ∧ Own w' w0.heap.size 3 1 encI (.slice (some ⟨g, 0, none⟩) L0.length cap) L ∧ w.grownBy w' (some g)) ∧ Ex w0 w') (fun i L => L0.length - i) (0) (L0) ⟨rfl, trivial⟩ ⟨⟨Nat.zero_le _, rfl, hown, World.grownBy.refl _ _⟩, hx0⟩ ?_
  rintro i L wl1 ⟨⟨hi, hLl, hown, hgr⟩, hxwl1⟩
  refine CW.sub (S' := [(3, _), (2, _)]) ⟨rfl, rfl, trivial⟩ ?_
  refine CW.seq ?_
  refine CW.seq ?_
  refine CW.region ?_
  refine RG.vl rfl rfl rfl (Ev.move rfl rfl) ?_
  refine RG.vl rfl rfl rfl (Ev.move rfl rfl) ?_
  refine RG.vl rfl rfl rfl (Ev.lenL rfl rfl rfl Try.underlying23 ((hown.rdl encI_len))) ?_
  refine RG.vl rfl rfl rfl (Ev.lss rfl rfl rfl) ?_
  refine RG.done ?_
  refine QW.then_ ?_
  refine CW.condP rfl (fun hc2 => ?_) (fun hc2 => ?_)
  · refine CW.skip ?_
    refine QW.then_ ?_
    refine CW.seq ?_
    refine CW.block ?_
    refine CW.region ?_
    refine RG.vl rfl rfl rfl (Ev.move rfl rfl) ?_
    refine RG.vl rfl rfl rfl (Ev.move rfl rfl) ?_
    refine RG.vl rfl rfl rfl (Ev.move rfl rfl) ?_
    refine RG.call rfl rfl rfl rfl rfl rfl rfl en_33 (mark_ret 2 _ _ (by omega) (by omega)) ?_
    rintro _ w3 ⟨rfl, hx3⟩
    replace hxwl1 := Ex.tr hxwl1 hx3
    have hE4 := hx3
    refine RG.idxO rfl rfl rfl rfl rfl rfl Try.underlying23 sz_3 encI_len ((Own.ext hown hE4)) (getz_one (show i < L.length by omega)) (fun g6 hg6 hBg6 hp5b hp5 => ?_)
    refine RG.stOw0 (g := g6) (_) rfl rfl rfl rfl rfl sz_3 rfl (fun _ => rfl) (Own.ext hown hE4) hg6 (getz_one (show i < L.length by omega)) rfl (rfl) (fun ws7 hwws7 hown8 => ?_)
    have hpreL := hE4
    replace hxwl1 := Wr.below hxwl1 hwws7 hBg6
    refine RG.done ?_
    refine QW.blockN ?_
    refine QW.then_ ?_
    refine CW.region ?_
    refine RG.vl rfl rfl rfl (Ev.move rfl rfl) ?_
    refine RG.vl rfl rfl rfl (Ev.addI rfl rfl rfl (by omega)) ?_
    refine RG.vl rfl rfl rfl (Ev.assign rfl rfl) ?_
    refine RG.done ?_
    refine QW.round2 (i + 1) (_) ⟨rfl, trivial⟩ ⟨rfl, trivial⟩ ⟨⟨by omega, by rw [List.length_set]; exact hLl, hown8, grown_tr hgr (grown_of hpreL hwws7 hg6)⟩, hxwl1⟩ (by omega)
  · refine CW.exit ?_
    refine QW.thenExit ?_
    refine QW.thenExit ?_
    refine QW.blockHit ?_
    refine QW.end0 rfl ?_
    exact ⟨L, hown, hgr⟩

end Go.Proofs.Ytjhgihgggofocaa

/- Plain: the reference's polynomials (layer 18); its words, syndromes, code words (layer 19). -/
namespace Go.Proofs.Ytjhgihgggofocaa
theorem pa_at {p q : List Nat} {i : Nat} (h : i < max p.length q.length) : (pa p q)[i]? = some (cf p i ^^^ cf q i) := by
  rw [← cf_pa]; exact getElem?_cf (by rw [pa_len]; exact h)
/-- The sum of products that makes a coefficient, as far as k goes. -/
def cvS (p q : List Nat) (i : Nat) : Nat → Nat
  | 0 => 0
  | k + 1 => cvS p q i k ^^^ gm (cf p k) (cf q (i - k))
theorem cvS_lt (p q : List Nat) (i : Nat) : ∀ k, cvS p q i k < 64
  | 0 => by show 0 < 64; omega
  | k + 1 => xor_lt64 _ _ (cvS_lt p q i k) (gm_lt _ _)
theorem cvS_cons (a : Nat) (p q : List Nat) (i : Nat) : ∀ k, cvS (a :: p) q (i + 1) (k + 1) = gm a (cf q (i + 1)) ^^^ cvS p q i k
  | 0 => by rw [cvS, cvS, cvS, cf_z, Nat.sub_zero, Nat.zero_xor, Nat.xor_zero]
  | k + 1 => by rw [cvS, cvS_cons a p q i k, cvS, cf_s, Nat.xor_assoc, show i + 1 - (k + 1) = i - k from by omega]
theorem cvS_nil (q : List Nat) (i : Nat) : ∀ k, cvS [] q i k = 0
  | 0 => rfl
  | k + 1 => by rw [cvS, cvS_nil q i k, cf_nil, gm_zl]; rfl
theorem cvS_pm : ∀ (p q : List Nat) (i : Nat), cvS p q i (i + 1) = cf (pm p q) i
  | [], q, i => by rw [cvS_nil]; exact (cf_nil i).symm
  | a :: p, q, 0 => by rw [cvS, cvS, cf_pm_z, cf_z, Nat.zero_xor]
  | a :: p, q, i + 1 => by rw [cvS_cons, cf_pm_s, cvS_pm p q i]
/-- The first n coefficients of a function. -/
def cfL (F : Nat → Nat) (n : Nat) : List Nat := (List.range n).map F
theorem cfL_more (F : Nat → Nat) (n : Nat) : cfL F (n + 1) = cfL F n ++ [F n] := by unfold cfL; rw [List.range_succ, List.map_append]; rfl
theorem cfL_len (F : Nat → Nat) (n : Nat) : (cfL F n).length = n := by simp [cfL]
theorem cf_cfL (F : Nat → Nat) (n k : Nat) : cf (cfL F n) k = if k < n then F k else 0 := by
  unfold cf cfL
  rw [List.getElem?_map]
  split
  · rw [List.getElem?_range (by assumption)]; rfl
  · rw [List.getElem?_eq_none (by simpa using (by assumption : ¬ k < n))]; rfl
theorem rprod_end (p q : List Nat) : tr (cfL (cf (pm p q)) (dg p + dg q - 1)) = tr (pm p q) := tr_congr fun k => by
  rw [cf_cfL]
  split
  · rfl
  · rw [cf_pm_ge p q k (by omega)]
/-- A polynomial times c z^n. -/
def shl (p : List Nat) (c n : Nat) : List Nat := List.replicate n 0 ++ p.map fun a => gm a c
theorem shl_len (p : List Nat) (c n : Nat) : (shl p c n).length = n + p.length := by simp [shl]
theorem cf_shl (p : List Nat) (c n k : Nat) : cf (shl p c n) k = if k < n then 0 else gm c (cf p (k - n)) := by
  unfold shl
  rw [cf_app, List.length_replicate]
  split
  · exact cf_replicate _ _
  · have : (p.map fun a => gm a c) = sc c p := by unfold sc; exact List.map_congr_left fun a _ => gm_comm a c
    rw [this, cf_sc]
theorem el_shl (p : List Nat) (c n : Nat) : El (shl p c n) := fun a h => by
  unfold shl at h
  rcases List.mem_append.1 h with h | h
  · rw [List.eq_of_mem_replicate h]; omega
  · obtain ⟨b, _, rfl⟩ := List.mem_map.1 h; exact gm_lt _ _
theorem shl_more {p : List Nat} {i a : Nat} (h : p[i]? = some a) (c n : Nat) : shl (p.take (i + 1)) c n = shl (p.take i) c n ++ [gm a c] := by
  unfold shl; rw [take_more p i a h, List.map_append, List.append_assoc]; rfl
theorem dg_shl {p : List Nat} {c n : Nat} (hp : 0 < dg p) (hc : c ≠ 0) : dg (shl p c n) = n + dg p := by
  have := dg_eq (shl p c n) (n + (dg p - 1)) (by
    rw [cf_shl, if_neg (by omega), show n + (dg p - 1) - n = dg p - 1 from by omega]; exact gm_ne _ _ hc (cf_top p hp)) fun k hk => by
      rw [cf_shl]; split
      · rfl
      · rw [cf_ge p _ (by omega), gm_zr]
  omega
theorem pm_mono (q : List Nat) (c n k : Nat) (hc : c < 64) : cf (pm (shl [1] c n) q) k = if k < n then 0 else gm c (cf q (k - n)) := by
  have e : shl [1] c n = List.replicate n 0 ++ [c] := by unfold shl; rw [List.map_cons, one_gm c hc]; rfl
  rw [e, cf_pm_snoc, pm_congr_l (p' := []) (fun i => by rw [cf_replicate, cf_nil]), show pm [] q = [] from rfl, cf_nil, Nat.zero_xor, List.length_replicate]
/-- What has been divided so far. -/
structure Rdv (p q D R : List Nat) : Prop where
  de : El D
  re : El R
  dt : tr D = D
  rt : tr R = R
  eq : ∀ k, cf p k = cf (pm D q) k ^^^ cf R k
  dd : dg D ≤ dg p
  rd : dg R ≤ dg p
theorem rdv_start {p q : List Nat} (hp : El p) : Rdv p q [] (tr p) :=
  ⟨El.nil_, hp.tr, rfl, tr_tr p, fun k => by rw [show pm [] q = [] from rfl, cf_nil, cf_tr, Nat.zero_xor], Nat.zero_le _, by rw [dg_tr]; exact Nat.le_refl _⟩
theorem rdv_step {p q D R : List Nat} (hq : El q) (hq0 : 0 < dg q) (h : Rdv p q D R) (hge : dg q ≤ dg R) :
    Rdv p q (tr (pa D (shl [1] (gm (cf R (dg R - 1)) (gi (cf q (dg q - 1)))) (dg R - dg q)))) (tr (pa R (shl q (gm (cf R (dg R - 1)) (gi (cf q (dg q - 1)))) (dg R - dg q)))) ∧
    dg (tr (pa R (shl q (gm (cf R (dg R - 1)) (gi (cf q (dg q - 1)))) (dg R - dg q)))) < dg R := by
  have hqt := cf_top q hq0
  have hRt := cf_top R (by omega)
  have hq64 := hq.cf (dg q - 1)
  have hR64 := h.re.cf (dg R - 1)
  have hgi := gi_lt (cf q (dg q - 1))
  have hc0 : gm (cf R (dg R - 1)) (gi (cf q (dg q - 1))) ≠ 0 := gm_ne _ _ hRt (by omega)
  have hcq : gm (gm (cf R (dg R - 1)) (gi (cf q (dg q - 1)))) (cf q (dg q - 1)) = cf R (dg R - 1) := by
    rw [gm_assoc, gm_comm (gi _), gm_gi _ hq64 hqt, gm_one _ hR64]
  generalize hc : gm (cf R (dg R - 1)) (gi (cf q (dg q - 1))) = c at *
  have hc64 : c < 64 := by rw [← hc]; exact gm_lt _ _
  have hrd : dg (tr (pa R (shl q c (dg R - dg q)))) < dg R := by
    rw [dg_tr]
    have := dg_le (pa R (shl q c (dg R - dg q))) (dg R - 1) fun k hk => by
      rw [cf_pa, cf_shl, if_neg (by omega)]
      rcases Nat.eq_or_lt_of_le hk with rfl | hlt
      · rw [show dg R - 1 - (dg R - dg q) = dg q - 1 from by omega, hcq, Nat.xor_self]
      · rw [cf_ge R k (by omega), cf_ge q _ (by omega), gm_zr]; rfl
    omega
  refine ⟨⟨(el_pa h.de (el_shl _ _ _)).tr, (el_pa h.re (el_shl _ _ _)).tr, tr_tr _, tr_tr _, fun k => ?_, ?_, by have := h.rd; omega⟩, hrd⟩
  · rw [pm_congr_l (cf_tr _), pm_pa_l D _ q h.de (el_shl _ _ _) hq, pm_mono q c _ k hc64, cf_tr, cf_pa, cf_shl, h.eq k, Nat.xor_assoc]
    congr 1
    generalize (if k < dg R - dg q then 0 else gm c (cf q (k - (dg R - dg q)))) = t
    rw [Nat.xor_comm (cf R k), ← Nat.xor_assoc, Nat.xor_self, Nat.zero_xor]
  · rw [dg_tr]
    refine dg_le _ _ fun k hk => ?_
    have := h.rd
    rw [cf_pa, cf_ge D k (by have := h.dd; omega), cf_shl]
    split
    · rfl
    · rw [cf_none (p := [1]) (by show 1 ≤ _; omega), gm_zr]; rfl
theorem rdv_end {p q D R : List Nat} (h : Rdv p q D R) (hlt : dg R < dg q) : IsDiv p q D R := ⟨h.eq, hlt⟩
theorem rinvN (a : Nat) (w : World) (ha : a < 64) (h0 : a ≠ 0) : Ret Try.prog 58 [.int .u8 (a : Int)] w (fun v w' => v = .int .u8 (gi a : Int) ∧ Ex w w') :=
  (rinv_ret a w ha).mono fun v w' ⟨e, hx⟩ => ⟨by rw [e, if_neg h0], hx⟩
theorem rdegN (u : Value) (p : List Nat) (w : World) (hl : RdL w 1 encN u p) (hlen : p.length ≤ 100000) (h : 0 < dg p) : Ret Try.prog 65 [u] w (fun v w' => v = .int .i64 ((dg p - 1 : Nat) : Int) ∧ Ex w w') :=
  (rdeg_ret u p w hl hlen).mono fun v w' ⟨e, hx⟩ => ⟨by rw [e]; exact congrArg (Value.int .i64) (by omega), hx⟩
/-! layer 19 -/
theorem syn_step {l : List Nat} {i x : Nat} (h : i < l.length) : evl (l.take (i + 1)).reverse x = gm (evl (l.take i).reverse x) x ^^^ cf l i := by
  rw [take_more l i _ (getElem?_cf h), List.reverse_append, List.reverse_singleton, List.singleton_append, evl]
theorem syL_at (l : List Nat) {k : Nat} (h : k < 4) : (syL l)[k]? = some (sy l k) := by
  match k, h with
  | 0, _ => rfl
  | 1, _ => rfl
  | 2, _ => rfl
  | 3, _ => rfl
theorem syL_more (l : List Nat) {k : Nat} (h : k < 4) : (syL l).take (k + 1) = (syL l).take k ++ [sy l k] := take_more _ _ _ (syL_at l h)
theorem vldD {l : List Nat} (hw : isW l = true) (h0 : sy l 0 = 0) (h1 : sy l 1 = 0) (h2 : sy l 2 = 0) : decide (((sy l 3 : Nat) : Int) = 0) = vldB l := by
  unfold vldB
  rw [hw, h0, h1, h2]
  simp
theorem vldF {l : List Nat} (h : isW l = true → ¬ (sy l 0 = 0 ∧ sy l 1 = 0 ∧ sy l 2 = 0)) : false = vldB l := by
  cases hb : vldB l with
  | false => rfl
  | true =>
    obtain ⟨h1, h2⟩ := vldB_iff.1 hb
    exact absurd ⟨h2 0 (by omega), h2 1 (by omega), h2 2 (by omega)⟩ (h h1)
def genL : Nat → List Nat
  | 0 => [1]
  | k + 1 => tr (pm (genL k) [pw (k + 1), 1])
theorem genL_ok {k : Nat} (h : k ≤ 4) : El (genL k) ∧ (genL k).length ≤ 5 := by
  have key : ∀ p : List Nat, (p.all (fun a => Nat.blt a 64) && Nat.ble p.length 5) = true → El p ∧ p.length ≤ 5 := fun p h => by
    rw [Bool.and_eq_true] at h
    exact ⟨fun a ha => by simpa [Nat.blt_eq] using List.all_eq_true.1 h.1 a ha, Nat.le_of_ble_eq_true h.2⟩
  match k, h with
  | 0, _ => exact key _ (by decide +kernel)
  | 1, _ => exact key _ (by decide +kernel)
  | 2, _ => exact key _ (by decide +kernel)
  | 3, _ => exact key _ (by decide +kernel)
  | 4, _ => exact key _ (by decide +kernel)
theorem genL_four : genL 4 = gen5 := by decide +kernel
/-- The data, from its end on, behind four zeros. -/
def rvD (l : List Nat) (k : Nat) : List Nat := List.replicate 4 0 ++ (l.drop k).reverse
theorem rvD_len (l : List Nat) (k : Nat) : (rvD l k).length = 4 + (l.length - k) := by unfold rvD; rw [List.length_append, List.length_replicate, List.length_reverse, List.length_drop]
theorem rvD_start (l : List Nat) : List.replicate 4 0 = rvD l l.length := by simp [rvD]
theorem rvD_more {l : List Nat} {k : Nat} (h : k < l.length) : rvD l (k + 1) ++ [cf l k] = rvD l k := by
  have e : l[k] = cf l k := by have := getElem?_cf h; rw [List.getElem?_eq_getElem h] at this; exact Option.some.inj this
  unfold rvD
  rw [List.drop_eq_getElem_cons h, List.reverse_cons, ← List.append_assoc, e]
theorem rvD_end (l : List Nat) : rvD l 0 = (l ++ List.replicate 4 0).reverse := by unfold rvD; rw [List.drop_zero, List.reverse_append, List.reverse_replicate]
theorem rvD_el {l : List Nat} (h : El l) (k : Nat) : El (rvD l k) := fun a ha => by
  rcases List.mem_append.1 ha with h1 | h1
  · rw [List.eq_of_mem_replicate h1]; decide
  · exact h a (List.mem_of_mem_drop (List.mem_reverse.1 h1))
/-- The check symbols, the last one first. -/
def ckD (l r : List Nat) (k : Nat) : List Nat := l ++ (List.range (4 - k)).map fun j => cf r (3 - j)
theorem ckD_len (l r : List Nat) (k : Nat) : (ckD l r k).length = l.length + (4 - k) := by simp [ckD]
theorem ckD_start (l r : List Nat) : ckD l r 4 = l := by simp [ckD]
theorem ckD_more {l r : List Nat} {k : Nat} (h : k < 4) : ckD l r (k + 1) ++ [cf r k] = ckD l r k := by
  unfold ckD
  rw [List.append_assoc, show 4 - k = (4 - (k + 1)) + 1 by omega, List.range_succ, List.map_append, List.map_singleton, show 3 - (4 - (k + 1)) = k by omega]
theorem ckD_end {l r : List Nat} : ckD l r 0 = stE l r r.length := by
  unfold ckD stE
  congr 1
  refine List.map_congr_left fun j _ => ?_
  split
  · rfl
  · rw [cf_none (by omega)]
theorem isW_no {l : List Nat} (h : isW l = false) : vldB l = false := by unfold vldB; rw [h]; rfl
theorem want_ok (l : List Nat) : isW (l ++ [0, 0, 0, 0]) = true ↔ l.length ≤ 59 ∧ 1 ≤ l.length ∧ El l := by
  rw [isW_iff, List.length_append]
  show 4 < l.length + 4 ∧ l.length + 4 ≤ 63 ∧ _ ↔ _
  constructor
  · rintro ⟨h1, h2, h3⟩; exact ⟨by omega, by omega, fun a ha => h3 a (List.mem_append_left _ ha)⟩
  · rintro ⟨h1, h2, h3⟩; exact ⟨by omega, by omega, h3.app (fun a ha => by simp at ha; omega)⟩
theorem want_no {l : List Nat} (h : encOk l = false) : isW (l ++ [0, 0, 0, 0]) = false := by
  cases hb : isW (l ++ [0, 0, 0, 0]) with
  | false => rfl
  | true =>
    obtain ⟨h1, h2, h3⟩ := (want_ok l).1 hb
    rw [encOk_iff.2 ⟨h2, h1, h3⟩] at h
    cases h
theorem want_yes {l : List Nat} (h : encOk l = true) : isW (l ++ [0, 0, 0, 0]) = true := by
  obtain ⟨h1, h2, h3⟩ := encOk_iff.1 h
  exact (want_ok l).2 ⟨h2, h1, h3⟩
section
variable (u : Value) (w : World) (l : List Nat)
theorem encY (hl : RdL w 1 encN u l) (h1 : l.length ≤ 100000) (h : encOk l = true) : Ret Try.prog 23 [u] w (fun v w' => ∃ r c, v = .tuple #[r, .int .i64 0] ∧ Own w' w.heap.size 5 1 encN r c ∧ IsEnc l c ∧ Ex w w') := by
  refine (encode_ret u l w hl h1).mono ?_
  rintro v w' ⟨r, c, rfl, ho, he, _, hx⟩
  exact ⟨r, c, by rw [h]; rfl, ho, he h, hx⟩
theorem encX (hl : RdL w 1 encN u l) (h1 : l.length ≤ 100000) (h : encOk l = false) : Ret Try.prog 23 [u] w (fun v w' => v = .tuple #[.slice none 0 0, .int .i64 2] ∧ Ex w w') := by
  refine (encode_ret u l w hl h1).mono ?_
  rintro v w' ⟨r, c, rfl, ho, _, he, hx⟩
  obtain ⟨rfl, rfl⟩ := he h
  exact ⟨by rw [h]; rfl, hx⟩
theorem syndX (hl : RdL w 1 encN u l) (h1 : l.length ≤ 100000) (h : isW l = false) : Ret Try.prog 24 [u] w (fun v w' => v = .tuple #[.slice none 0 0, .int .i64 2] ∧ Ex w w') := by
  refine (synd_ret u l w hl h1).mono ?_
  rintro v w' ⟨⟨_, h2⟩ | ⟨h2, _⟩, hx⟩
  · exact ⟨h2, hx⟩
  · rw [h] at h2; cases h2
theorem synd_own (hl : RdL w 1 encN u l) (hW : isW l = true) : Ret Try.prog 24 [u] w (fun v w' => ∃ g, v = .tuple #[.slice (some ⟨g, 0, none⟩) 4 4, .int .i64 0] ∧ Own w' w.heap.size 57 1 encN (.slice (some ⟨g, 0, none⟩) 4 4) (syL l) ∧ Ex w w') := by
  have h63 := (isW_iff.1 hW).2.1
  refine (synd_ret u l w hl (by omega)).mono ?_
  rintro v w' ⟨⟨h, _⟩ | ⟨_, g, hg, rfl, hb⟩, hx⟩
  · rw [hW] at h; cases h
  · refine ⟨g, rfl, ?_, hx⟩
    have := own_blk (m := 4) (sz := 1) hb hg (by decide) rfl
    rw [encs4_flat] at this
    exact this
end
end Go.Proofs.Ytjhgihgggofocaa

/- What Decode returns is within the bound. -/
namespace Go.Proofs.Ytjhgihgggofocaa
open Go.RowKit
/-- What is within the bound of what was read. -/
structure Near (l er c es : List Nat) : Prop where
  code : Code_ l.length c
  told : es = diffs l c er
  bound : 2 * es.length + er.length ≤ 4
theorem sorted_one {D : List Nat} {a : Nat} (hs : D.Pairwise (· < ·)) (h : ∀ i ∈ D, i = a) : D.length ≤ 1 := by
  match D, hs, h with
  | [], _, _ => simp
  | [x], _, _ => simp
  | x :: y :: D, hs, h =>
    have h1 := h x (by simp); have h2 := h y (by simp)
    have := (List.pairwise_cons.1 hs).1 y (by simp)
    omega
theorem sorted_two {D : List Nat} {a b : Nat} (hs : D.Pairwise (· < ·)) (h : ∀ i ∈ D, i = a ∨ i = b) : D.length ≤ 2 := by
  match D, hs, h with
  | [], _, _ => simp
  | [x], _, _ => simp
  | [x, y], _, _ => simp
  | x :: y :: z :: D, hs, h =>
    obtain ⟨p1, p2⟩ := List.pairwise_cons.1 hs
    have := p1 y (by simp); have := (List.pairwise_cons.1 p2).1 z (by simp); have := p1 z (by simp)
    have h1 := h x (by simp); have h3 := h y (by simp); have h5 := h z (by simp)
    omega
theorem found_cases {l er c es : List Nat} {e : Int} (hl : El l) (hn : l.length ≤ 63) (hed : er.Nodup) (her : ∀ a ∈ er, a < l.length) (h4 : er.length ≤ 4) (hf : Found l er e c es) :
    (e = 190 ∧ c = [] ∧ es = [] ∧ ∀ d, Code_ l.length d → ¬ 2 * (diffs l d er).length + er.length ≤ 4) ∨ (e = 0 ∧ Near l er c es) := by
  rcases id hf with ⟨_, he, hc, hes⟩ | ⟨pre, P, rest, hcd, _, hy, he, _⟩
  · refine .inl ⟨he, hc, hes, fun d hd hb => ?_⟩
    have := (found_is hl hn hed her h4 hd hb hf).1
    omega
  · have hPc : P ∈ candL l.length er := by rw [hcd]; simp
    have i1 := cand_nodup hPc hed
    obtain ⟨i2, i3⟩ := cand_in hPc h4 her
    obtain ⟨hcc, hco⟩ := yes_code hl i1 i2 i3 hy
    have hDs := diffs_lt l c er
    have hDP : ∀ i ∈ diffs l c er, i ∈ P ∧ i ∉ er := fun i hi => by
      obtain ⟨_, h2, h3⟩ := mem_diffs.1 hi
      rcases Decidable.em (i ∈ P) with h | h
      · exact ⟨h, h2⟩
      · exact absurd (hco i h) h3
    have hb : 2 * (diffs l c er).length + er.length ≤ 4 := by
      rcases mem_cand hPc with rfl | ⟨h2, a, _, _, rfl⟩ | ⟨rfl, a, b, _, _, rfl⟩
      · have : diffs l c P = [] := List.eq_nil_iff_forall_not_mem.2 fun i hi => (hDP i hi).2 (hDP i hi).1
        rw [this]; simp only [List.length_nil]; omega
      · have := sorted_one hDs (a := a) fun i hi => by
          obtain ⟨h1, h3⟩ := hDP i hi
          rcases List.mem_append.1 h1 with h | h
          · exact absurd h h3
          · exact List.mem_singleton.1 h
        omega
      · have := sorted_two hDs (a := a) (b := b) fun i hi => by simpa using (hDP i hi).1
        simp only [List.length_nil]; omega
    have hfi := found_is hl hn hed her h4 hcc hb hf
    exact .inr ⟨he, hcc, hfi.2.2, by rw [hfi.2.2]; exact hb⟩
theorem erN_cast (er : List Nat) : erN (er.map fun n : Nat => (n : Int)) = er := by
  unfold erN
  rw [List.map_map]
  exact (List.map_congr_left fun a _ => Int.toNat_natCast a).trans (List.map_id _)
theorem okE_cast {n : Nat} {er : List Nat} (hd : er.Nodup) (h : ∀ a ∈ er, a < n) : okE n (er.map fun n : Nat => (n : Int)) := by
  refine ⟨fun a ha => ?_, ?_⟩
  · obtain ⟨x, hx, rfl⟩ := List.mem_map.1 ha
    have := h x hx
    omega
  · rw [List.Nodup, List.pairwise_map]
    exact List.Pairwise.imp (fun h e => h (by omega)) hd
/-- Decode at a word and places that are right. -/
theorem dec_gen (u v0 : Value) (w : World) (l er : List Nat) (hl : RdL w 1 encN u l) (he : RdL w 1 encZ v0 er) (hW : isW l = true) (hed : er.Nodup) (her : ∀ a ∈ er, a < l.length) :
    Ret Try.prog 13 [u, v0] w (fun v w' => ∃ A B C D c es e, v = .tuple #[.agg ([.slice A c.length B, .slice C es.length D] : List Value).toArray, .int .i64 e] ∧ Own w' w.heap.size 5 1 encN (.slice A c.length B) c ∧ Own w' w.heap.size 3 1 encZ (.slice C es.length D) es ∧
      ((e = 190 ∧ c = [] ∧ es = [] ∧ (4 < er.length ∨ ∀ d, Code_ l.length d → ¬ 2 * (diffs l d er).length + er.length ≤ 4)) ∨ (e = 0 ∧ Near l er c es)) ∧ Ex w w') := by
  obtain ⟨h1, h2, h3⟩ := isW_iff.1 hW
  have hlen : (er.map fun n : Nat => (n : Int)).length = er.length := List.length_map ..
  have hel : er.length ≤ 63 := by
    rcases Nat.lt_or_ge 63 er.length with h | h
    · exfalso
      have hnd := hed
      -- more places than the word has
      have : ∀ (n : Nat) (P : List Nat), P.Nodup → (∀ a ∈ P, a < n) → P.length ≤ n := by
        intro n
        induction n with
        | zero => intro P _ hP; cases P with
          | nil => simp
          | cons a P => exact absurd (hP a (by simp)) (by omega)
        | succ n ih =>
          intro P hd hP
          have h5 := ih (P.erase n) (hd.erase n) fun a ha => by
            have h6 := (List.Nodup.mem_erase_iff hd).1 ha
            have := hP a h6.2
            omega
          have := List.length_erase (a := n) (l := P)
          split at this <;> omega
      have := this _ er hnd her
      omega
    · exact h
  refine (decode_ret u v0 l _ w hl (rdl_i he) (by omega) (by omega)).mono ?_
  rintro v w' ⟨r, x, c, es, e, rfl, ho, hx', hdp, hx⟩
  obtain ⟨A, B, rfl⟩ := ho.shape
  obtain ⟨C, D, rfl⟩ := hx'.shape
  refine ⟨A, B, C, D, c, es, e, rfl, ho, hx', ?_, hx⟩
  rcases hdp with ⟨h | h, _⟩ | ⟨_, _, ⟨h, h5, h6, h7⟩ | ⟨h, hf⟩⟩
  · rw [hW] at h; cases h
  · exact absurd (okE_cast hed her) h
  · exact .inl ⟨h5, h6, h7, .inl (by omega)⟩
  · rw [erN_cast] at hf
    rcases found_cases h3 h2 hed her (by omega) hf with ⟨a, b, c, d⟩ | h8
    · exact .inl ⟨a, b, c, .inr d⟩
    · exact .inr h8
end Go.Proofs.Ytjhgihgggofocaa

/- Plain: the reference's search at some places (layer 19): the equations of as many rows as places, in memory of their own. -/
namespace Go.Proofs.Ytjhgihgggofocaa
open Go.RowKit
/-! the equations in memory: four rows of four, and what they add up to -/
def mc4 (M : Mx) : List Value := (List.range 16).map fun k => .int .u8 ((M (k / 4) (k % 4) : Nat) : Int)
def bc4 (M : Mx) : List Value := (List.range 4).map fun r => .int .u8 ((M r 4 : Nat) : Int)
def row4 (f : Nat → Nat) : List Value := (List.range 4).map fun c => .int .u8 ((f c : Nat) : Int)
theorem mc4_len (M : Mx) : (mc4 M).length = 16 := by simp [mc4]
theorem bc4_len (M : Mx) : (bc4 M).length = 4 := by simp [bc4]
theorem row4_len (f : Nat → Nat) : (row4 f).length = 4 := by simp [row4]
theorem row4_one (f : Nat → Nat) : (row4 f).all (·.oneCell') = true := by simp [row4, List.range_succ, Value.oneCell']
theorem mc4_get (M : Mx) {k : Nat} (h : k < 16) : (mc4 M)[k]? = some (.int .u8 ((M (k / 4) (k % 4) : Nat) : Int)) := by unfold mc4; rw [List.getElem?_map, List.getElem?_range h]; rfl
theorem bc4_get (M : Mx) {k : Nat} (h : k < 4) : (bc4 M)[k]? = some (.int .u8 ((M k 4 : Nat) : Int)) := by unfold bc4; rw [List.getElem?_map, List.getElem?_range h]; rfl
theorem mc4_at (M : Mx) {r c : Nat} (hr : r < 4) (hc : c < 4) : (mc4 M)[r * 4 + c * 1]? = some (.int .u8 ((M r c : Nat) : Int)) := by
  rw [mc4_get M (by omega), show (r * 4 + c * 1) / 4 = r by omega, show (r * 4 + c * 1) % 4 = c by omega]
theorem bc4_at (M : Mx) {r : Nat} (hr : r < 4) : (bc4 M)[r * 1]? = some (.int .u8 ((M r 4 : Nat) : Int)) := by rw [Nat.mul_one]; exact bc4_get M hr
theorem mc4_ext {M M' : Mx} (h : ∀ r c, r < 4 → c < 4 → M r c = M' r c) : mc4 M = mc4 M' := by
  unfold mc4
  refine List.map_congr_left fun k hk => ?_
  have := List.mem_range.1 hk
  rw [h _ _ (by omega) (by omega)]
theorem bc4_ext {M M' : Mx} (h : ∀ r, r < 4 → M r 4 = M' r 4) : bc4 M = bc4 M' := by
  unfold bc4
  refine List.map_congr_left fun k hk => ?_
  rw [h _ (List.mem_range.1 hk)]
theorem mc4_set (M : Mx) {r c : Nat} (v : Nat) (hc : c < 4) : (mc4 M).set (r * 4 + c * 1) (.int .u8 (v : Int)) = mc4 (upd M r c v) := by
  apply List.ext_getElem?
  intro k
  rcases Nat.lt_or_ge k 16 with h | h
  · rw [List.getElem?_set, mc4_len, mc4_get _ h, mc4_get _ h]
    unfold upd
    by_cases e : r * 4 + c * 1 = k
    · rw [if_pos e, if_pos (by omega), if_pos ⟨by omega, by omega⟩]
    · rw [if_neg e, if_neg (fun h2 => e (by omega))]
  · rw [List.getElem?_eq_none (by rw [List.length_set, mc4_len]; exact h), List.getElem?_eq_none (by rw [mc4_len]; exact h)]
theorem bc4_set (M : Mx) {r : Nat} (v : Nat) : (bc4 M).set (r * 1) (.int .u8 (v : Int)) = bc4 (upd M r 4 v) := by
  apply List.ext_getElem?
  intro k
  rcases Nat.lt_or_ge k 4 with h | h
  · rw [List.getElem?_set, bc4_len, bc4_get _ h, bc4_get _ h]
    unfold upd
    by_cases e : r * 1 = k
    · rw [if_pos e, if_pos (by omega), if_pos ⟨by omega, rfl⟩]
    · rw [if_neg e, if_neg (fun h2 => e (by omega))]
  · rw [List.getElem?_eq_none (by rw [List.length_set, bc4_len]; exact h), List.getElem?_eq_none (by rw [bc4_len]; exact h)]
theorem mc4_zero : List.replicate 16 (Value.int .u8 0) = mc4 (fun _ _ => 0) := by
  apply List.ext_getElem?
  intro k
  rcases Nat.lt_or_ge k 16 with h | h
  · rw [mc4_get _ h, List.getElem?_replicate_of_lt h]; rfl
  · rw [List.getElem?_eq_none (by simpa using h), List.getElem?_eq_none (by rw [mc4_len]; exact h)]
theorem bc4_zero : List.replicate 4 (Value.int .u8 0) = bc4 (fun _ _ => 0) := by simp [bc4, List.range_succ]
theorem mc4_row (M : Mx) {r : Nat} (hr : r < 4) : ((mc4 M).drop (r * 4)).take 4 = row4 (M r) := by
  apply List.ext_getElem?
  intro k
  rcases Nat.lt_or_ge k 4 with h | h
  · rw [List.getElem?_take_of_lt h, List.getElem?_drop, mc4_get _ (by omega)]
    unfold row4
    rw [List.getElem?_map, List.getElem?_range h, show (r * 4 + k) / 4 = r by omega, show (r * 4 + k) % 4 = k by omega]; rfl
  · rw [List.getElem?_eq_none (by rw [List.length_take]; omega), List.getElem?_eq_none (by rw [row4_len]; exact h)]
theorem mc4_put (M : Mx) {r : Nat} (f : Nat → Nat) (hr : r < 4) : (mc4 M).take (r * 4) ++ row4 f ++ (mc4 M).drop (r * 4 + 4) = mc4 (updR M r f) := by
  apply List.ext_getElem?
  intro k
  have h1 : ((mc4 M).take (r * 4)).length = r * 4 := by rw [List.length_take, mc4_len]; omega
  rcases Nat.lt_or_ge k 16 with h | h
  · rw [mc4_get _ h]
    unfold updR
    by_cases e1 : k < r * 4
    · rw [List.append_assoc, List.getElem?_append_left (by rw [h1]; exact e1), List.getElem?_take_of_lt e1, mc4_get _ h, if_neg (by omega)]
    · by_cases e2 : k < r * 4 + 4
      · rw [List.getElem?_append_left (by rw [List.length_append, h1, row4_len]; exact e2), List.getElem?_append_right (by rw [h1]; omega), h1]
        unfold row4
        rw [List.getElem?_map, List.getElem?_range (by omega), if_pos (by omega), show k % 4 = k - r * 4 by omega]; rfl
      · rw [List.getElem?_append_right (by rw [List.length_append, h1, row4_len]; omega), List.length_append, h1, row4_len, List.getElem?_drop, show r * 4 + 4 + (k - (r * 4 + 4)) = k by omega, mc4_get _ h, if_neg (by omega)]
  · rw [List.getElem?_eq_none (by rw [List.length_append, List.length_append, h1, row4_len, List.length_drop, mc4_len]; omega), List.getElem?_eq_none (by rw [mc4_len]; exact h)]
section
variable {P : Program} {ops : Array Oper} {Q : Exit → Act → World → Prop} {n : Nat} {l : List Oper} {S : Slots} {w w' : World} {o : Oper} {d g : Nat}
/-- A row is loaded. -/
theorem Ev.ldRow4 {T r : Nat} {t : TypeId} {D : TypeDesc} {x : Operand} {M : Mx} (ho : o.op = .load T x) (hx : ev S x = some (.pointer (some ((⟨g, 0, none⟩ : Addr).add (r * 4))))) (ht : P.underlying T = some D) (hD : aggD D = true) (hs : sizeP P T = some 4) (hb : Blk w g t (mc4 M)) (hr : r < 4) : Ev P n o S w (.agg (row4 (M r)).toArray) :=
  Ev.ldAgg ho hx ht hD hs (row4_len _) fun j u hu => by
    rw [add_of_add]
    refine hb.cells _ u ?_
    rw [← mc4_row M hr] at hu
    have hj : j < 4 := by
      have := (List.getElem?_eq_some_iff.1 hu).1
      rw [List.length_take] at this; omega
    rw [List.getElem?_take_of_lt hj, List.getElem?_drop] at hu; exact hu
/-- A row is written. -/
theorem RG.stRow4 {T r : Nat} {t : TypeId} {x y : Operand} {M : Mx} (f : Nat → Nat) (hw : wantS ops S o = some true) (hd : o.dst = none) (ho : o.op = .store T x y) (hx : ev S x = some (.pointer (some ((⟨g, 0, none⟩ : Addr).add (r * 4))))) (hy : ev S y = some (.agg (row4 f).toArray))
    (hs : sizeP P T = some 4) (hb : Blk w g t (mc4 M)) (hr : r < 4)
    (kk : ∀ w', Wr w w' g → Blk w' g t (mc4 (updR M r f)) → RG P ops Q n l S w') : RG P ops Q n (o :: l) S w := by
  have hst := run_storeCells_at P g (r * 4) t (row4 f) 0 (mc4 M).toArray w hb (by rw [row4_len, List.size_toArray, mc4_len]; omega) (fun u hu => List.all_eq_true.1 (row4_one f) u hu)
  simp only [Nat.add_zero, row4_len] at hst
  rw [mc4_put M f hr] at hst
  refine RG.run0 (w' := w.setRow g (mc4 (updR M r f)).toArray) hw hd (fun a ha => ?_) (kk _ (wr_setRow _ _ _) (blk_setRow hb))
  simp only [execOp, ho]; rw [ha.eval hx, ha.eval hy]
  rw [add_at]
  have hc : (Value.agg (row4 f).toArray).cells = (row4 f).toArray := rfl
  simp [Instr.storeAt, Instr.sureAddr, storeVar, run_sizeOf hs, hc, row4_len, hst]
end
/-! the equations as they are set up: j columns, and i rows of the next one -/
def rM (n : Nat) (P sL : List Nat) (j i : Nat) : Mx := fun r c =>
  if c = 4 then (if r < j then cf sL r else 0) else if c < j ∧ r < P.length ∨ c = j ∧ r < i then pw ((r + 1) * (n - 1 - cf P c) % 63) else 0
theorem rM_start (n : Nat) (P sL : List Nat) : (rM n P sL 0 0) = fun _ _ => 0 := by
  funext r c; unfold rM
  split
  · rw [if_neg (by omega)]
  · rw [if_neg (by omega)]
theorem rM_more {n : Nat} {P sL : List Nat} {j i : Nat} : mc4 (upd (rM n P sL j i) i j (pw ((i + 1) * (n - 1 - cf P j) % 63))) = mc4 (rM n P sL j (i + 1)) := mc4_ext fun r c _ hc => by
  unfold upd rM
  rw [if_neg (show ¬ c = 4 by omega), if_neg (show ¬ c = 4 by omega)]
  by_cases e : r = i ∧ c = j
  · rw [if_pos e, if_pos (by omega), e.1, e.2]
  · rw [if_neg e]
    by_cases h : c < j ∧ r < P.length ∨ c = j ∧ r < i
    · rw [if_pos h, if_pos (by omega)]
    · rw [if_neg h, if_neg (by omega)]
theorem rM_b (n : Nat) (P sL : List Nat) (j i i' : Nat) : bc4 (rM n P sL j i) = bc4 (rM n P sL j i') := bc4_ext fun r _ => by unfold rM; rw [if_pos rfl, if_pos rfl]
theorem rM_col {n : Nat} {P sL : List Nat} {j : Nat} : mc4 (rM n P sL j P.length) = mc4 (rM n P sL (j + 1) 0) := mc4_ext fun r c _ hc => by
  unfold rM
  rw [if_neg (show ¬ c = 4 by omega), if_neg (show ¬ c = 4 by omega)]
  by_cases h : c < j + 1 ∧ r < P.length
  · rw [if_pos (by omega), if_pos (by omega)]
  · rw [if_neg (by omega), if_neg (by omega)]
theorem rM_bmore {n : Nat} {P sL : List Nat} {j i : Nat} : bc4 (upd (rM n P sL j i) j 4 (cf sL j)) = bc4 (rM n P sL (j + 1) 0) := bc4_ext fun r _ => by
  unfold upd rM
  rw [if_pos rfl, if_pos rfl]
  by_cases e : r = j
  · rw [if_pos ⟨e, rfl⟩, if_pos (by omega), e]
  · rw [if_neg (fun h => e h.1)]
    by_cases h : r < j
    · rw [if_pos h, if_pos (by omega)]
    · rw [if_neg h, if_neg (by omega)]
/-- What lies outside of as many rows and columns as there are places is 0. -/
def Zr (k : Nat) (M : Mx) : Prop := ∀ r c, r < 4 → (k ≤ r ∨ k ≤ c ∧ c < 4) → M r c = 0
theorem rM_el {n : Nat} {P sL : List Nat} (h : El sL) (j i : Nat) : EM (rM n P sL j i) := fun r c _ _ => by
  unfold rM; split
  · split
    · exact h.cf r
    · decide
  · split
    · exact pw64 _
    · decide
theorem rM_zr {n : Nat} {P sL : List Nat} : Zr P.length (rM n P sL P.length 0) := fun r c hr h => by
  unfold rM
  split
  · rw [if_neg (by omega)]
  · rw [if_neg (by omega)]
theorem zr_piv {M : Mx} {k i row : Nat} (h : Zr k M) (hi : i < k) (hr : row < k) : Zr k (pivM M i row) := fun r c hr4 hc => by
  have hs : swp M i row r c = 0 := by
    rw [swp_at]
    by_cases e1 : r = row
    · rw [if_pos e1]; exact h i c (by omega) (by omega)
    · rw [if_neg e1]
      by_cases e2 : r = i
      · rw [if_pos e2]; exact h row c (by omega) (by omega)
      · rw [if_neg e2]; exact h r c hr4 hc
  unfold pivM scTo
  split
  · rw [hs, gm_zl]
  · exact hs
theorem zr_sub {M : Mx} {k i row t : Nat} (h : Zr k M) (hi : i < k) (hr : row < k) : Zr k (subTo M row i t 5) := fun r c hr4 hc => by
  unfold subTo
  split
  · rename_i e
    rw [h row c (by omega) (by omega), h i c (by omega) (by omega), gm_zr]; rfl
  · exact h r c hr4 hc
/-! the steps, on both lists of cells -/
theorem swp_b (M : Mx) (i row : Nat) : bc4 (upd (upd M i 4 (M row 4)) row 4 (M i 4)) = bc4 (swp M i row) := bc4_ext fun r _ => by
  unfold upd
  rw [swp_at]
  by_cases e : r = row
  · rw [if_pos ⟨e, rfl⟩, if_pos e]
  · rw [if_neg (fun h => e h.1), if_neg e]
    by_cases e2 : r = i
    · rw [if_pos ⟨e2, rfl⟩, if_pos e2]
    · rw [if_neg (fun h => e2 h.1), if_neg e2]
theorem sc_end {M : Mx} {k i row : Nat} (h : Zr k M) (hi : i < k) (hr : row < k) : mc4 (scTo (swp M i row) i (gi (M row i)) k) = mc4 (pivM M i row) := mc4_ext fun r c hr4 hc => by
  have hz := zr_piv h hi hr r c hr4
  unfold pivM scTo at *
  by_cases e : r = i ∧ c < k
  · rw [if_pos e, if_pos ⟨e.1, by omega⟩]
  · rw [if_neg e]
    by_cases e2 : r = i
    · have hk : k ≤ c := by omega
      rw [if_pos ⟨e2, by omega⟩] at hz ⊢
      rw [hz (.inr ⟨hk, hc⟩), swp_at]
      by_cases e3 : r = row
      · rw [if_pos e3]; exact h i c (by omega) (.inr ⟨hk, hc⟩)
      · rw [if_neg e3, if_pos e2]; exact h row c (by omega) (.inr ⟨hk, hc⟩)
    · rw [if_neg (fun h => e2 h.1)]
theorem sub_end {M : Mx} {k i row t : Nat} (h : Zr k M) (hi : i < k) (hk : k ≤ 4) : mc4 (subTo M row i t k) = mc4 (subTo M row i t 5) := mc4_ext fun r c hr4 hc => by
  unfold subTo
  by_cases e : r = row ∧ c < k
  · rw [if_pos e, if_pos ⟨e.1, by omega⟩]
  · rw [if_neg e]
    by_cases e2 : r = row
    · rw [if_pos ⟨e2, by omega⟩, e2, h row c (by omega) (.inr ⟨by omega, hc⟩), h i c (by omega) (.inr ⟨by omega, hc⟩), gm_zr]; rfl
    · rw [if_neg (fun h => e2 h.1)]
theorem sub_b (M : Mx) (row i t k : Nat) : bc4 (upd (subTo M row i t k) row 4 (M row 4 ^^^ gm t (M i 4))) = bc4 (subTo M row i t 5) := bc4_ext fun r _ => by
  unfold upd subTo
  by_cases e : r = row
  · subst e; rw [if_pos ⟨rfl, rfl⟩, if_pos ⟨rfl, by omega⟩]
  · rw [if_neg (fun h => e h.1), if_neg (fun h => e h.1), if_neg (fun h => e h.1)]
theorem piv_b (M : Mx) (i row : Nat) : bc4 (upd (swp M i row) i 4 (gm (swp M i row i 4) (gi (M row i)))) = bc4 (pivM M i row) := bc4_ext fun r _ => by
  unfold upd pivM scTo
  by_cases e : r = i
  · rw [if_pos ⟨e, rfl⟩, if_pos ⟨e, by omega⟩, e]
  · rw [if_neg (fun h => e h.1), if_neg (fun h => e h.1)]
theorem sub_b0 (M : Mx) (row i t : Nat) : bc4 (upd M row 4 (M row 4 ^^^ gm t (M i 4))) = bc4 (subTo M row i t 5) := by
  have := sub_b M row i t 0
  rw [subTo_zero] at this; exact this
theorem pw_step {m : Nat} (i : Nat) (hm : m < 63) : gm (pw ((i + 1) * m % 63)) (pw m) = pw ((i + 1 + 1) * m % 63) := by
  have h1 := pw_lt ((i + 1) * m % 63) (Nat.mod_lt _ (by omega))
  have h2 := pw_lt m hm
  rw [gm_nz _ _ (by omega) (by omega), lg_pw _ (Nat.mod_lt _ (by omega)), lg_pw _ hm, Nat.mod_add_mod, ← Nat.succ_mul]
/-- Rows that are not there change nothing. -/
theorem gr_tail {M0 M : Mx} {k i : Nat} (hz : Zr k M) (hi : i < k) (hk : k ≤ 4) (h : Gr M0 k M i k) : Gs M0 k M (i + 1) := by
  have key : ∀ m, k + m ≤ 4 → Gr M0 k M i (k + m) := fun m => by
    induction m with
    | zero => exact fun _ => h
    | succ m ih => exact fun hm => gr_skip (ih (by omega)) (.inr (hz (k + m) i (by omega) (.inl (by omega))))
  have := key (4 - k) (by omega)
  rw [show k + (4 - k) = 4 by omega] at this
  exact gr_end this (by omega)
/-! the places that are emptied, and filled -/
def zerL (l P : List Nat) : Nat → List Nat
  | 0 => l
  | i + 1 => (zerL l P i).set (cf P i) 0
def putL (l P : List Nat) (M : Mx) : Nat → List Nat
  | 0 => l
  | i + 1 => (putL l P M i).set (cf P i) (M i 4)
theorem zerL_len (l P : List Nat) : ∀ i, (zerL l P i).length = l.length
  | 0 => rfl
  | i + 1 => by rw [zerL, List.length_set, zerL_len l P i]
theorem putL_len (l P : List Nat) (M : Mx) : ∀ i, (putL l P M i).length = l.length
  | 0 => rfl
  | i + 1 => by rw [putL, List.length_set, putL_len l P M i]
theorem set_el {l : List Nat} (h : El l) (i : Nat) {a : Nat} (ha : a < 64) : El (l.set i a) := fun b hb => by
  rcases List.mem_or_eq_of_mem_set hb with h1 | h1
  · exact h b h1
  · rw [h1]; exact ha
theorem zerL_el {l : List Nat} (h : El l) (P : List Nat) : ∀ i, El (zerL l P i)
  | 0 => h
  | i + 1 => set_el (zerL_el h P i) _ (by omega)
theorem putL_el {l : List Nat} (h : El l) (P : List Nat) {M : Mx} (hM : EM M) : ∀ i, i ≤ 4 → El (putL l P M i)
  | 0, _ => h
  | i + 1, hi => set_el (putL_el h P hM i (by omega)) _ (hM i 4 (by omega) (by omega))
theorem zerL_out {l P : List Nat} (hp : ∀ p ∈ P, p < l.length) : ∀ i, i ≤ P.length → ∀ q, q ∉ P → cf (zerL l P i) q = cf l q
  | 0, _, _, _ => rfl
  | i + 1, hi, q, hq => by
    have hm : cf P i ∈ P := List.mem_of_getElem? (getElem?_cf (by omega))
    rw [zerL, cf_set _ _ _ _ (by rw [zerL_len]; exact hp _ hm), if_neg (fun e => hq (by rw [e]; exact hm)), zerL_out hp i (by omega) q hq]
theorem zerL_in {l P : List Nat} (hp : ∀ p ∈ P, p < l.length) : ∀ i, i ≤ P.length → ∀ j, j < i → cf (zerL l P i) (cf P j) = 0
  | 0, _, _, h => absurd h (by omega)
  | i + 1, hi, j, hj => by
    have hm : cf P i ∈ P := List.mem_of_getElem? (getElem?_cf (by omega))
    rw [zerL, cf_set _ _ _ _ (by rw [zerL_len]; exact hp _ hm)]
    split
    · rfl
    · rename_i h
      exact zerL_in hp i (by omega) j (by
        rcases Nat.lt_or_ge j i with h2 | h2
        · exact h2
        · exact absurd (by rw [show j = i by omega]) h)
theorem putL_out {l P : List Nat} {M : Mx} (hp : ∀ p ∈ P, p < l.length) : ∀ i, i ≤ P.length → ∀ q, q ∉ P → cf (putL l P M i) q = cf l q
  | 0, _, _, _ => rfl
  | i + 1, hi, q, hq => by
    have hm : cf P i ∈ P := List.mem_of_getElem? (getElem?_cf (by omega))
    rw [putL, cf_set _ _ _ _ (by rw [putL_len]; exact hp _ hm), if_neg (fun e => hq (by rw [e]; exact hm)), putL_out hp i (by omega) q hq]
theorem putL_in {l P : List Nat} {M : Mx} (hd : P.Nodup) (hp : ∀ p ∈ P, p < l.length) : ∀ i, i ≤ P.length → ∀ j, j < i → cf (putL l P M i) (cf P j) = M j 4
  | 0, _, _, h => absurd h (by omega)
  | i + 1, hi, j, hj => by
    have hm : cf P i ∈ P := List.mem_of_getElem? (getElem?_cf (by omega))
    rw [putL, cf_set _ _ _ _ (by rw [putL_len]; exact hp _ hm)]
    by_cases e : j = i
    · subst e; rw [if_pos rfl]
    · rw [if_neg (fun h => e ((List.getElem?_inj (show j < P.length by omega) hd).1 (by rw [getElem?_cf (by omega), getElem?_cf (by omega), h]))), putL_in hd hp i (by omega) j (by omega)]
/-! what the search says -/
def YesR (l P c : List Nat) : Prop := Code_ l.length c ∧ ∀ i, i ∉ P → cf c i = cf l i
def NoR (l P : List Nat) : Prop := ∀ c, Code_ l.length c → ¬ ∀ i, i ∉ P → cf c i = cf l i
theorem van_k {k : Nat} {a x : Nat → Nat} (hk : k ≤ 4) (ha : ∀ j, j < k → a j < 64 ∧ a j ≠ 0) (hd : ∀ i j, i < k → j < k → a i = a j → i = j) (h : ∀ r, r < k → xs_ k (fun j => gm (gp (a j) (r + 1)) (x j)) = 0) : ∀ i, i < k → x i = 0 := by
  intro i hi
  obtain ⟨o, ho⟩ : ∃ o, o = ((List.range k).erase i).map a := ⟨_, rfl⟩
  have hol : o.length + 1 = k := by
    rw [ho, List.length_map, List.length_erase_of_mem (List.mem_range.2 hi), List.length_range]; omega
  have hoe : El o := fun b hb => by
    rw [ho] at hb
    obtain ⟨j, hj, rfl⟩ := List.mem_map.1 hb
    exact (ha j (List.mem_range.1 (List.mem_of_mem_erase hj))).1
  have hqk : ∀ r, k ≤ r → cf (rp o) r = 0 := fun r hk4 => cf_ge _ _ (by have := rp_dg o; omega)
  have hq : ∀ r, 4 ≤ r → cf (rp o) r = 0 := fun r hr => hqk r (by omega)
  have hqe := rp_el o
  have key : xs_ k (fun j => gm (gm (evl (rp o) (a j)) (a j)) (x j)) = 0 := by
    have e1 : ∀ j, j < k → gm (gm (evl (rp o) (a j)) (a j)) (x j) = xs_ 4 fun r => gm (cf (rp o) r) (gm (gp (a j) (r + 1)) (x j)) := fun j hj => by
      have e2 : ∀ r, r < 4 → gm (cf (rp o) r) (gm (gp (a j) (r + 1)) (x j)) = gm (gm (a j) (x j)) (gm (cf (rp o) r) (gp (a j) r)) := fun r _ => by
        rw [gp_s, gm_assoc (a j), ← gm_assoc, gm_comm (cf (rp o) r) (a j), gm_assoc, gm_comm (gp (a j) r), ← gm_assoc (cf (rp o) r), gm_comm (cf (rp o) r) (x j), gm_assoc, gm_assoc]
      rw [xs_congr e2, xs_gm (gm_lt _ _) (fun r _ => gm_lt _ _), ← evl_sum hqe hq (ha j hj).1, gm_assoc, gm_comm]
    rw [xs_congr e1, xs_swap]
    refine xs_zero fun r hr => ?_
    rw [xs_gm (hqe.cf r) (fun j _ => gm_lt _ _)]
    rcases Nat.lt_or_ge r k with h1 | h1
    · rw [h r h1, gm_zr]
    · rw [hqk r h1, gm_zl]
  rw [xs_one (i := i) (f := fun j => gm (gm (evl (rp o) (a j)) (a j)) (x j)) hi (fun j hj hne => by
    have hm : a j ∈ o := by rw [ho]; exact List.mem_map_of_mem ((List.mem_erase_of_ne hne).2 (List.mem_range.2 hj))
    show gm (gm (evl (rp o) (a j)) (a j)) (x j) = 0
    rw [(rp_z (ha j hj).1 hoe).2 hm, gm_zl, gm_zl])] at key
  have hni : a i ∉ o := fun hm => by
    rw [ho] at hm
    obtain ⟨j, hj, e⟩ := List.mem_map.1 hm
    have hjk := List.mem_range.1 (List.mem_of_mem_erase hj)
    have := hd j i hjk hi e
    subst this
    exact List.nodup_range.not_mem_erase hj
  rcases (gm_zero_iff _ _).1 key with h1 | h1
  · rcases (gm_zero_iff _ _).1 h1 with h2 | h2
    · exact absurd ((rp_z (ha i hi).1 hoe).1 h2) hni
    · exact absurd h2 (ha i hi).2
  · exact h1
theorem hom_zero_k {n : Nat} {P sL : List Nat} (hn : n ≤ 63) (hd : P.Nodup) (h4 : P.length ≤ 4) (hp : ∀ p ∈ P, p < n) {x : Nat → Nat} (h : Hom (rM n P sL P.length 0) P.length x) : ∀ j, j < P.length → x j = 0 := by
  have hm : ∀ j, j < P.length → cf P j < n := fun j hj => hp _ (List.mem_of_getElem? (getElem?_cf hj))
  refine van_k (a := fun j => pw (n - 1 - cf P j)) h4 (fun j hj => ?_) (fun i j hi hj e => ?_) fun r hr => ?_
  · have h1 := hm j hj
    have := pw_lt (n - 1 - cf P j) (by omega)
    exact ⟨this.2, by omega⟩
  · have h1 := hm i hi
    have h2 := hm j hj
    have e2 := congrArg lg e
    rw [lg_pw _ (by omega), lg_pw _ (by omega)] at e2
    refine (List.getElem?_inj hi hd).1 ?_
    rw [getElem?_cf hi, getElem?_cf hj]
    congr 1; omega
  · have := h r (by omega)
    unfold dot at this
    rw [← this]
    refine xs_congr fun j hj => ?_
    have h1 := hm j hj
    congr 1
    rw [gp_pw _ _ (by have := pw_lt (n - 1 - cf P j) (by omega); omega), lg_pw _ (by omega)]
    unfold rM
    rw [if_neg (by omega), if_pos (.inl ⟨hj, hr⟩), Nat.mul_comm]
section
variable {l P : List Nat}
/-- A code word that agrees at the other places solves the equations. -/
theorem code_sol (hl : El l) (hd : P.Nodup) (h4 : P.length ≤ 4) (hp : ∀ p ∈ P, p < l.length) {c : List Nat} (hc : Code_ l.length c) (ho : ∀ i, i ∉ P → cf c i = cf l i) :
    Sol (rM l.length P (syL (zerL l P P.length)) P.length 0) P.length (fun j => cf c (cf P j)) := by
  have hzl := zerL_len l P P.length
  have hD : Diff (zerL l P P.length) P (fun j => cf c (cf P j)) c := ⟨by rw [hzl]; exact hc.len, hc.el, fun i hi => by rw [ho i hi, zerL_out hp _ (Nat.le_refl _) i hi], fun j hj => by
    show cf c (cf P j) = _
    rw [zerL_in hp _ (Nat.le_refl _) j hj, Nat.zero_xor]⟩
  have hs := (diff_sol hD (zerL_el hl P _) hd h4 (by rw [hzl]; exact hp)).2 hc.syn
  rw [hzl] at hs
  intro r hr
  rcases Nat.lt_or_ge r P.length with h | h
  · have := hs r hr
    have e1 : dot (rM l.length P (syL (zerL l P P.length)) P.length 0) P.length r (fun j => cf c (cf P j)) = dot (eqM l.length P (syL (zerL l P P.length))) P.length r (fun j => cf c (cf P j)) := dot_congr fun j hj => by
      unfold rM eqM
      rw [if_neg (by omega), if_pos (.inl ⟨hj, h⟩), if_neg (by omega), if_pos hj]
    rw [e1, this]
    unfold rM eqM
    rw [if_pos rfl, if_pos rfl, if_pos h]
  · have hz : ∀ j, j < P.length → rM l.length P (syL (zerL l P P.length)) P.length 0 r j = 0 := fun j hj => by
      unfold rM; rw [if_neg (by omega), if_neg (by omega)]
    unfold dot
    rw [xs_zero fun j hj => by rw [hz j hj, gm_zl]]
    unfold rM
    rw [if_pos rfl, if_neg (by omega)]
theorem fil_none (hl : El l) (hn : l.length ≤ 63) (hd : P.Nodup) (h4 : P.length ≤ 4) (hp : ∀ p ∈ P, p < l.length) {M : Mx} {i : Nat} (hg : Gs (rM l.length P (syL (zerL l P P.length)) P.length 0) P.length M i) (hz : Zr P.length M) (hi : i < P.length) (h0 : ∀ r, i ≤ r → r < P.length → M r i = 0) : NoR l P := fun c hc ho => by
  have hs := code_sol hl hd h4 hp hc ho
  rcases (gs_none hg h4 hi fun r h1 h2 => by
    rcases Nat.lt_or_ge r P.length with h | h
    · exact h0 r h1 h
    · exact hz r i h2 (.inl h)).2 rfl with h | ⟨x, _, hx, j, hj, hne⟩
  · exact h _ (fun j => hc.el.cf _) hs
  · exact hne (hom_zero_k hn hd h4 hp hx j hj)
theorem fil_end (hl : El l) (h5 : 4 < l.length) (hn : l.length ≤ 63) (hd : P.Nodup) (h4 : P.length ≤ 4) (hp : ∀ p ∈ P, p < l.length) {M : Mx} (hg : Gs (rM l.length P (syL (zerL l P P.length)) P.length 0) P.length M P.length) (hz : Zr P.length M) :
    (vldB (putL (zerL l P P.length) P M P.length) = true → YesR l P (putL (zerL l P P.length) P M P.length)) ∧ (vldB (putL (zerL l P P.length) P M P.length) = false → NoR l P) := by
  have hzl := zerL_len l P P.length
  have hol : (putL (zerL l P P.length) P M P.length).length = l.length := by rw [putL_len, hzl]
  have hoe : El (putL (zerL l P P.length) P M P.length) := putL_el (zerL_el hl P _) P hg.el _ h4
  have hpz : ∀ p ∈ P, p < (zerL l P P.length).length := by rw [hzl]; exact hp
  have hout : ∀ i, i ∉ P → cf (putL (zerL l P P.length) P M P.length) i = cf l i := fun i hi => by rw [putL_out hpz _ (Nat.le_refl _) i hi, zerL_out hp _ (Nat.le_refl _) i hi]
  constructor
  · intro hv
    exact ⟨⟨hol, hoe, (vldB_iff.1 hv).2⟩, hout⟩
  · intro hv c hc ho
    have hs := code_sol hl hd h4 hp hc ho
    have hx := (((gs_yes hg h4 fun r h1 h2 => hz r 4 h2 (.inl h1)).1 rfl).2 (fun j => cf c (cf P j)) (fun j => hc.el.cf _)).1 hs
    have e : c = putL (zerL l P P.length) P M P.length := eq_of_cf (by rw [hc.len, hol]) fun i => by
      by_cases hi : i ∈ P
      · obtain ⟨j, hj⟩ := List.mem_iff_getElem?.1 hi
        have hjl := (List.getElem?_eq_some_iff.1 hj).1
        have := hx j hjl
        rw [← cf_some hj, putL_in hd hpz _ (Nat.le_refl _) j hjl]
        exact this
      · rw [ho i hi, hout i hi]
    rw [← e] at hv
    rw [vldB_iff.2 ⟨isW_iff.2 ⟨by rw [hc.len]; exact h5, by rw [hc.len]; exact hn, hc.el⟩, hc.syn⟩] at hv
    cases hv
end
/-! the code word within the bound -/
theorem fil_or (p q : Nat → Bool) : ∀ L : List Nat, (L.filter fun i => p i || q i).length ≤ (L.filter p).length + (L.filter q).length
  | [] => by simp
  | a :: L => by
    have := fil_or p q L
    rw [List.filter_cons, List.filter_cons, List.filter_cons]
    cases p a <;> cases q a <;> simp <;> omega
theorem fil_mem (n : Nat) : ∀ L : List Nat, ((List.range n).filter fun i => decide (i ∈ L)).length ≤ L.length
  | [] => by simp
  | a :: L => by
    have h1 := fil_or (fun i => decide (i = a)) (fun i => decide (i ∈ L)) (List.range n)
    have h2 := sorted_one (D := (List.range n).filter fun i => decide (i = a)) (a := a) (List.Pairwise.filter _ List.pairwise_lt_range) fun i hi => of_decide_eq_true (List.mem_filter.1 hi).2
    have h3 := fil_mem n L
    have e : ((List.range n).filter fun i => decide (i ∈ a :: L)) = (List.range n).filter fun i => decide (i = a) || decide (i ∈ L) := List.filter_congr fun i _ => by
      rw [← Bool.decide_or, decide_eq_decide]; exact List.mem_cons
    rw [e, List.length_cons]; omega
theorem near_uniq {l er c es d ds : List Nat} (hn : l.length ≤ 63) (h : Near l er c es) (k : Near l er d ds) : c = d ∧ es = ds := by
  have e : c = d := by
    have h1 := fil_mem l.length (er ++ (es ++ ds))
    rw [List.length_append, List.length_append] at h1
    have b1 := h.bound
    have b2 := k.bound
    refine code_uniq hn h.code k.code (P := (List.range l.length).filter fun i => decide (i ∈ er ++ (es ++ ds))) (List.Pairwise.filter _ List.nodup_range) (by omega) (fun p hp => List.mem_range.1 (List.mem_filter.1 hp).1) fun i hi => ?_
    rcases Nat.lt_or_ge i l.length with hl | hl
    · have hni : i ∉ er ++ (es ++ ds) := fun hm => hi (List.mem_filter.2 ⟨List.mem_range.2 hl, decide_eq_true hm⟩)
      have n1 : i ∉ er := fun hm => hni (List.mem_append.2 (.inl hm))
      have n2 : i ∉ es := fun hm => hni (List.mem_append.2 (.inr (List.mem_append.2 (.inl hm))))
      have n3 : i ∉ ds := fun hm => hni (List.mem_append.2 (.inr (List.mem_append.2 (.inr hm))))
      rw [h.told] at n2
      rw [k.told] at n3
      have q1 : cf c i = cf l i := Decidable.not_not.1 fun hne => n2 (mem_diffs.2 ⟨hl, n1, hne⟩)
      have q2 : cf d i = cf l i := Decidable.not_not.1 fun hne => n3 (mem_diffs.2 ⟨hl, n1, hne⟩)
      rw [q1, q2]
    · rw [cf_none (by rw [h.code.len]; exact hl), cf_none (by rw [k.code.len]; exact hl)]
  exact ⟨e, by rw [h.told, k.told, e]⟩
/-- What the reference's Decode has tried, and what it says. -/
def FarR (l er : List Nat) : Prop := ∀ d, Code_ l.length d → ¬ 2 * (diffs l d er).length + er.length ≤ 4
theorem off_diffs {l d er P : List Nat} (hd : Code_ l.length d) (h : ∀ i ∈ diffs l d er, i ∈ P) (her : ∀ a ∈ er, a ∈ P) : ∀ i, i ∉ P → cf d i = cf l i := fun i hi => by
  rcases Nat.lt_or_ge i l.length with hl | hl
  · exact Decidable.not_not.1 fun hne => hi (h i (mem_diffs.2 ⟨hl, fun hm => hi (her i hm), hne⟩))
  · rw [cf_none (by rw [hd.len]; exact hl), cf_none hl]
theorem far_end {l er : List Nat} (h0 : NoR l er) (h1 : er.length ≤ 2 → ∀ a, a < l.length → a ∉ er → NoR l (er ++ [a])) (h2 : er = [] → ∀ a b, a < b → b < l.length → NoR l [a, b]) : FarR l er := fun d hd hb => by
  have hs := diffs_lt l d er
  have hm : ∀ i, i ∈ diffs l d er → i < l.length ∧ i ∉ er ∧ cf d i ≠ cf l i := fun i => mem_diffs.1
  have off : ∀ P : List Nat, (∀ i ∈ diffs l d er, i ∈ P) → (∀ a ∈ er, a ∈ P) → ∀ i, i ∉ P → cf d i = cf l i := fun P => off_diffs hd
  generalize hD : diffs l d er = D at *
  match D, hs, hb with
  | [], _, _ => exact h0 d hd (off er (by simp) (fun a h => h))
  | [a], _, hb =>
    obtain ⟨h3, h4, _⟩ := hm a (by simp)
    exact h1 (by simp only [List.length_singleton] at hb; omega) a h3 h4 d hd (off _ (by simp) (fun x h => by simp [h]))
  | [a, b], hs, hb =>
    have he : er = [] := List.eq_nil_of_length_eq_zero (by simp only [List.length_cons, List.length_nil] at hb; omega)
    exact h2 he a b (by simpa using hs) (hm b (by simp)).1 d hd (off _ (by simp) (by simp [he]))
  | a :: b :: c :: D, _, hb => simp only [List.length_cons] at hb; omega
theorem near_er {l er c : List Nat} (h4 : er.length ≤ 4) (h : YesR l er c) : Near l er c [] := by
  have e : diffs l c er = [] := List.eq_nil_iff_forall_not_mem.2 fun i hi => by
    obtain ⟨_, h2, h3⟩ := mem_diffs.1 hi
    exact h3 (h.2 i h2)
  exact ⟨h.1, e.symm, by simp only [List.length_nil]; omega⟩
theorem near_one {l er c : List Nat} {a : Nat} (h2 : er.length ≤ 2) (ha : a < l.length) (hae : a ∉ er) (h0 : NoR l er) (h : YesR l (er ++ [a]) c) : Near l er c [a] := by
  have hne : cf c a ≠ cf l a := fun e => h0 c h.1 fun i hi => by
    by_cases e2 : i = a
    · rw [e2, e]
    · exact h.2 i fun hm => by
        rcases List.mem_append.1 hm with h3 | h3
        · exact hi h3
        · exact e2 (List.mem_singleton.1 h3)
  have e : diffs l c er = [a] := same_sorted (diffs_lt _ _ _) (by simp) fun i => by
    rw [mem_diffs, List.mem_singleton]
    constructor
    · rintro ⟨_, h5, h6⟩
      refine Decidable.not_not.1 fun e2 => h6 (h.2 i fun hm => ?_)
      rcases List.mem_append.1 hm with h3 | h3
      · exact h5 h3
      · exact e2 (List.mem_singleton.1 h3)
    · rintro rfl; exact ⟨ha, hae, hne⟩
  exact ⟨h.1, e.symm, by simp only [List.length_singleton]; omega⟩
theorem near_two {l c : List Nat} {a b : Nat} (hab : a < b) (hb : b < l.length) (h1 : ∀ q, q < l.length → NoR l ([] ++ [q])) (h : YesR l [a, b] c) : Near l [] c [a, b] := by
  have ne : ∀ x y, (∀ i, i ∉ [a, b] ↔ i ≠ x ∧ i ≠ y) → y < l.length → cf c x ≠ cf l x := fun x y hxy hy e => h1 y hy c h.1 fun i hi => by
    by_cases e2 : i = x
    · rw [e2, e]
    · exact h.2 i ((hxy i).2 ⟨e2, by simpa using hi⟩)
  have e : diffs l c [] = [a, b] := same_sorted (diffs_lt _ _ _) (by simpa using hab) fun i => by
    rw [mem_diffs]
    constructor
    · rintro ⟨_, _, h6⟩; exact Decidable.not_not.1 fun e2 => h6 (h.2 i e2)
    · intro hi
      rcases (show i = a ∨ i = b by simpa using hi) with rfl | rfl
      · exact ⟨by omega, by simp, ne _ b (fun j => by simp) hb⟩
      · exact ⟨hb, by simp, ne _ a (fun j => by simp; exact And.comm) (by omega)⟩
  exact ⟨h.1, e.symm, by simp⟩
/-! the reference's Decode -/
def RDec (l : List Nat) (ei : List Int) (e : Int) (c es : List Nat) : Prop :=
  ((isW l = false ∨ ¬ okE l.length ei) ∧ e = 2 ∧ c = [] ∧ es = []) ∨ (isW l = true ∧ okE l.length ei ∧ ((e = 190 ∧ c = [] ∧ es = [] ∧ (4 < ei.length ∨ FarR l (erN ei))) ∨ (e = 0 ∧ Near l (erN ei) c es)))
theorem okE_nat {n : Nat} {ei : List Int} (h : okE n ei) : ei = (erN ei).map (fun a : Nat => (a : Int)) ∧ (erN ei).Nodup ∧ (∀ a ∈ erN ei, a < n) ∧ (erN ei).length = ei.length := by
  refine ⟨?_, ?_, ?_, List.length_map ..⟩
  · unfold erN
    rw [List.map_map]
    conv => lhs; rw [← List.map_id ei]
    exact List.map_congr_left fun a ha => by have := h.1 a ha; show a = ((a.toNat : Nat) : Int); omega
  · unfold erN
    rw [List.Nodup, List.pairwise_map]
    refine List.Pairwise.imp_of_mem (fun {a b} ha hb hne e => ?_) h.2
    have := h.1 a ha
    have := h.1 b hb
    exact hne (by omega)
  · intro a ha
    obtain ⟨z, hz, rfl⟩ := List.mem_map.1 ha
    have := h.1 z hz
    omega
theorem okE_nil (n : Nat) : okE n [] := ⟨by simp, List.nodup_nil⟩
theorem okE_snoc {n : Nat} {L : List Int} {e : Int} (h : okE n L) (h1 : 0 ≤ e) (h2 : e < n) (h3 : e ∉ L) : okE n (L ++ [e]) := by
  refine ⟨fun a ha => ?_, ?_⟩
  · rcases List.mem_append.1 ha with h4 | h4
    · exact h.1 a h4
    · rw [List.mem_singleton.1 h4]; exact ⟨h1, h2⟩
  · rw [List.nodup_append]
    exact ⟨h.2, by simp, fun x hx y hy e2 => by rw [List.mem_singleton.1 hy] at e2; exact h3 (e2 ▸ hx)⟩
theorem okE_at {n : Nat} {ei : List Int} {i : Nat} {e : Int} (h : okE n ei) (hi : ei[i]? = some e) : 0 ≤ e ∧ e < n ∧ e ∉ ei.take i := by
  obtain ⟨h1, h2⟩ := h.1 e (List.mem_of_getElem? hi)
  refine ⟨h1, h2, fun hm => ?_⟩
  obtain ⟨j, hj⟩ := List.mem_iff_getElem?.1 hm
  rw [List.getElem?_take] at hj
  split at hj
  · rename_i hji
    have hil := (List.getElem?_eq_some_iff.1 hi).1
    have := (List.getElem?_inj (show j < ei.length by omega) h.2).1 (hj.trans hi.symm)
    omega
  · cases hj
theorem mem_nat {er : List Nat} {a : Nat} : ((a : Int) ∈ er.map fun n : Nat => (n : Int)) ↔ a ∈ er := by
  rw [List.mem_map]
  constructor
  · rintro ⟨b, hb, e⟩; rw [show a = b by omega]; exact hb
  · intro h; exact ⟨a, h, rfl⟩
theorem dec_same {l : List Nat} {ei : List Int} {e e' : Int} {c c' es es' : List Nat} (h : DecP l ei e c es) (k : RDec l ei e' c' es') : e' = e ∧ c' = c ∧ es' = es := by
  rcases h with ⟨hb, h1, h2, h3⟩ | ⟨hW, hok, hf⟩
  · rcases k with ⟨_, k1, k2, k3⟩ | ⟨kW, kok, _⟩
    · exact ⟨by rw [h1, k1], by rw [h2, k2], by rw [h3, k3]⟩
    · rcases hb with hb | hb
      · rw [kW] at hb; cases hb
      · exact absurd kok hb
  · rcases k with ⟨hb, _⟩ | ⟨_, _, kf⟩
    · rcases hb with hb | hb
      · rw [hW] at hb; cases hb
      · exact absurd hok hb
    · obtain ⟨hw1, hw2, hle⟩ := isW_iff.1 hW
      obtain ⟨_, n2, n3, n4⟩ := okE_nat hok
      rcases hf with ⟨h4, h1, h2, h3⟩ | ⟨h4, hf⟩
      · rcases kf with ⟨k1, k2, k3, _⟩ | ⟨_, kn⟩
        · exact ⟨by rw [h1, k1], by rw [h2, k2], by rw [h3, k3]⟩
        · have := kn.bound
          omega
      · rcases found_cases hle hw2 n2 n3 (by omega) hf with ⟨h1, h2, h3, hfar⟩ | ⟨h1, hn⟩
        · rcases kf with ⟨k1, k2, k3, _⟩ | ⟨_, kn⟩
          · exact ⟨by rw [h1, k1], by rw [h2, k2], by rw [h3, k3]⟩
          · exact absurd (by have := kn.bound; rw [kn.told] at this; exact this) (hfar _ kn.code)
        · rcases kf with ⟨_, _, _, hb | kfar⟩ | ⟨k1, kn⟩
          · omega
          · exact absurd (by have := hn.bound; rw [hn.told] at this; exact this) (kfar _ hn.code)
          · obtain ⟨e1, e2⟩ := near_uniq hw2 kn hn
            exact ⟨by rw [h1, k1], e1, e2⟩
theorem rdec_len {l : List Nat} {ei : List Int} {e : Int} {c es : List Nat} (k : RDec l ei e c es) : c.length ≤ 63 ∧ es.length ≤ 4 := by
  rcases k with ⟨_, _, rfl, rfl⟩ | ⟨hW, _, ⟨_, rfl, rfl, _⟩ | ⟨_, hn⟩⟩
  · simp
  · simp
  · have h1 := hn.code.len
    have h2 := hn.bound
    have h3 := (isW_iff.1 hW).2.1
    omega
theorem dec_all (u v0 : Value) (l : List Nat) (ei : List Int) (w : World) (hl : RdL w 1 encN u l) (he : RdL w 1 encI v0 ei) (h1 : l.length ≤ 100000) (h2 : ei.length ≤ 100000) :
    Ret Try.prog 13 [u, v0] w (fun v w' => ∃ A B C D c es e, v = .tuple #[.agg ([.slice A c.length B, .slice C es.length D] : List Value).toArray, .int .i64 e] ∧ Own w' w.heap.size 5 1 encN (.slice A c.length B) c ∧ Own w' w.heap.size 3 1 encZ (.slice C es.length D) es ∧ DecP l ei e c es ∧ Ex w w') := by
  refine (decode_ret u v0 l ei w hl he h1 h2).mono ?_
  rintro v w' ⟨r, x, c, es, e, rfl, ho, hx', hdp, hx⟩
  obtain ⟨A, B, rfl⟩ := ho.shape
  obtain ⟨C, D, rfl⟩ := hx'.shape
  exact ⟨A, B, C, D, c, es, e, rfl, ho, hx', hdp, hx⟩
end Go.Proofs.Ytjhgihgggofocaa

/- Walks (RH). Written by program. -/
namespace Go.Proofs.Ytjhgihgggofocaa
open Go.RowKit
set_option maxRecDepth 100000 in
set_option maxHeartbeats 1000000 in
theorem rtrim_ret (u0 : Value) (p : List Nat) (w : World) (hl : RdL w 1 encN u0 p) (hlen : p.length ≤ 100000) :
    Ret Try.prog 67 [u0] w (fun v w' => Own w' w.heap.size 5 1 encN v (tr p) ∧ Ex w w') := by
  have hB0 : Ex w w := Ex.rfl_ _
  refine Ret.of Try.func67 rfl Try.ntmps67 rfl ?_
  refine CW.seq ?_
  refine CW.region ?_
  refine RG.vl rfl rfl rfl (Ev.assign rfl rfl) ?_
  refine RG.done ?_
  refine QW.then_ ?_
  refine CW.seq ?_
  refine CW.region ?_
  refine RG.vl rfl rfl rfl (Ev.assign rfl rfl) ?_
  refine RG.done ?_
  refine QW.then_ ?_
  refine CW.seq ?_
  refine CW.seq ?_
  refine CW.region ?_
  refine RG.vl rfl rfl rfl (Ev.assign rfl rfl) ?_
  refine RG.done ?_
  refine QW.then_ ?_
  refine CW.block ?_
  refine CW.loop2 [(0, _), (2, _)] ⟨rfl, rfl, trivial⟩ (fun (i : Nat) (u : Value) => [(4, .int .i64 i), (3, u)]) (fun i u w' => (i ≤ dg p ∧ Own w' w.heap.size 5 1 encN u (p.take i)) ∧ Ex w w') (fun i u => dg p - i) (0) (.slice none 0 0) ⟨rfl, rfl, trivial⟩ ⟨⟨Nat.zero_le _, Own.nil_ _ _ _ _ _⟩, hB0⟩ ?_
  rintro i u wl1 ⟨⟨hi, hown⟩, hxwl1⟩
  refine CW.sub (S' := [(4, _), (3, _), (0, _), (2, _)]) ⟨rfl, rfl, rfl, rfl, trivial⟩ ?_
  refine CW.seq ?_
  refine CW.seq ?_
  have hdl := dg_len p
  have htl : (p.take i).length = i := by rw [List.length_take]; omega
  refine CW.region ?_
  refine RG.vl rfl rfl rfl (Ev.move rfl rfl) ?_
  refine RG.vl rfl rfl rfl (Ev.move rfl rfl) ?_
  refine RG.call rfl rfl rfl rfl rfl rfl rfl en_65 (rdeg_ret _ _ _ ((hl.ext hxwl1)) (by omega)) ?_
  rintro _ w2 ⟨rfl, hx2⟩
  replace hxwl1 := Ex.tr hxwl1 hx2
  have hE3 := hx2
  refine RG.vl rfl rfl rfl (Ev.leq rfl rfl rfl) ?_
  refine RG.done ?_
  refine QW.then_ ?_
  refine CW.condP rfl (fun hc4 => ?_) (fun hc4 => ?_)
  · refine CW.skip ?_
    refine QW.then_ ?_
    refine CW.seq ?_
    refine CW.block ?_
    obtain ⟨c, hc⟩ : ∃ c, p[i]? = some c := ⟨_, List.getElem?_eq_getElem (by omega)⟩
    refine CW.region ?_
    refine RG.vl rfl rfl rfl (Ev.move rfl rfl) ?_
    refine RG.vl rfl rfl rfl (Ev.move rfl rfl) ?_
    refine RG.vl rfl rfl rfl (Ev.move rfl rfl) ?_
    refine RG.idxL rfl rfl rfl rfl rfl rfl Try.underlying22 sz_5 ((hl.ext hxwl1)) (hc) (fun p5 hp5b hp5 => ?_)
    refine RG.vl rfl rfl rfl (Ev.ld0 rfl rfl Try.underlying5 rfl (hp5) (rfl)) ?_
    refine RG.litO (os := [.tmp 15]) (enc := encN) ([c]) rfl rfl rfl rfl rfl rfl rfl Try.underlying22 inf_5 rfl rfl rfl rfl rfl encN_len rfl rfl (fun v6 wk7 hxwk7 hown8 hnew9 => ?_)
    have hsep10 : Sep v6 _ := Sep.of_new (Own.ext hown hE3) hnew9
    replace hxwl1 := Ex.tr hxwl1 hxwk7
    replace hE3 := Ex.tr hE3 hxwk7
    have hE11 := hxwk7
    refine RG.appO rfl rfl rfl rfl rfl rfl rfl Try.underlying22 inf_5 rfl rfl encN_len (fun _ => rfl) (Own.ext hown hE3) ((hown8.rdl encN_len)) (by show _ + 1 ≤ maxLen; simp only [maxLen]; omega) (by show (_ + 1) * _ ≤ _; omega) (hxwl1.size) (fun v12 wa13 hown14 hgr15 hat16 => ?_)
    have hsep18 := Sep.app (Sep.symm hsep10) hown8 hat16
    have hown17 := Own.grown hown8 hgr15 (fun k a b => (Sep.symm hsep10) k b a)
    replace hxwl1 := own_block (Own.ext hown hE3) hxwl1 hgr15 (Nat.le_refl _) hxwl1.size
    refine RG.vl rfl rfl rfl (Ev.assign rfl rfl) ?_
    refine RG.done ?_
    refine QW.blockN ?_
    refine QW.then_ ?_
    refine CW.region ?_
    refine RG.vl rfl rfl rfl (Ev.move rfl rfl) ?_
    refine RG.vl rfl rfl rfl (Ev.addI rfl rfl rfl (by omega)) ?_
    refine RG.vl rfl rfl rfl (Ev.assign rfl rfl) ?_
    refine RG.done ?_
    refine QW.sub (S' := [(0, _), (2, _), (3, _), (4, _)]) ⟨rfl, rfl, rfl, rfl, trivial⟩ ?_
    refine QW.round2 (i + 1) (v12) ⟨rfl, rfl, trivial⟩ ⟨rfl, rfl, trivial⟩ ⟨⟨by omega, by rw [take_more p i c hc]; exact hown14⟩, (Ex.tr hB0 hxwl1)⟩ (by omega)
  · refine CW.exit ?_
    refine QW.thenExit ?_
    refine QW.thenExit ?_
    refine QW.blockHit ?_
    refine QW.then_ ?_
    refine CW.seq ?_
    refine CW.region ?_
    refine RG.vl rfl rfl rfl (Ev.move rfl rfl) ?_
    refine RG.vl rfl rfl rfl (Ev.assign rfl rfl) ?_
    refine RG.done ?_
    refine QW.then_ ?_
    refine CW.ret ?_
    refine QW.ret1 rfl rfl ?_
    have hB := (Ex.tr hB0 hxwl1)
    have e : i = dg p := by omega
    rw [e] at hown
    exact ⟨(Own.ext hown hE3).low (by have := hB0.size; omega), hB⟩

set_option maxRecDepth 100000 in
set_option maxHeartbeats 1000000 in
theorem rsum_ret (u0 v0 : Value) (p q : List Nat) (w : World) (hl : RdL w 1 encN u0 p) (hm : RdL w 1 encN v0 q) (hlen : p.length ≤ 100000) (hlen2 : q.length ≤ 100000) (hp : El p) (hq : El q) :
    Ret Try.prog 68 [u0, v0] w (fun v w' => Own w' w.heap.size 5 1 encN v (tr (pa p q)) ∧ Ex w w') := by
  have hB0 : Ex w w := Ex.rfl_ _
  refine Ret.of Try.func68 rfl Try.ntmps68 rfl ?_
  refine CW.seq ?_
  refine CW.region ?_
  refine RG.vl rfl rfl rfl (Ev.assign rfl rfl) ?_
  refine RG.done ?_
  refine QW.then_ ?_
  refine CW.seq ?_
  refine CW.region ?_
  refine RG.vl rfl rfl rfl (Ev.assign rfl rfl) ?_
  refine RG.done ?_
  refine QW.then_ ?_
  refine CW.seq ?_
  refine CW.seq ?_
  refine CW.region ?_
  refine RG.vl rfl rfl rfl (Ev.assign rfl rfl) ?_
  refine RG.done ?_
  refine QW.then_ ?_
  refine CW.block ?_
  refine CW.loop2 [(0, _), (1, _), (4, _)] ⟨rfl, rfl, rfl, trivial⟩ (fun (i : Nat) (u : Value) => [(6, .int .i64 i), (5, u)]) (fun i u w' => (i ≤ max p.length q.length ∧ Own w' w.heap.size 5 1 encN u ((pa p q).take i)) ∧ Ex w w') (fun i u => max p.length q.length - i) (0) (.slice none 0 0) ⟨rfl, rfl, trivial⟩ ⟨⟨Nat.zero_le _, Own.nil_ _ _ _ _ _⟩, hB0⟩ ?_
  rintro i u wl1 ⟨⟨hi, hown⟩, hxwl1⟩
  refine CW.sub (S' := [(6, _), (5, _), (0, _), (1, _), (4, _)]) ⟨rfl, rfl, rfl, rfl, rfl, trivial⟩ ?_
  refine CW.seq ?_
  refine CW.seq ?_
  have hpal := pa_len p q
  have htl : ((pa p q).take i).length = i := by rw [List.length_take]; omega
  refine CW.region ?_
  refine RG.vl rfl rfl rfl (Ev.move rfl rfl) ?_
  refine RG.vl rfl rfl rfl (Ev.move rfl rfl) ?_
  refine RG.vl rfl rfl rfl (Ev.lenL rfl rfl rfl Try.underlying22 ((hl.ext hxwl1))) ?_
  refine RG.vl rfl rfl rfl (Ev.lss rfl rfl rfl) ?_
  refine RG.vl rfl rfl rfl (Ev.move rfl rfl) ?_
  refine RG.split (d := 11) rfl (fun hg2 => ?_) (fun hg2 => ?_)
  · refine RG.pass rfl rfl rfl ?_
    refine RG.pass rfl rfl rfl ?_
    refine RG.pass rfl rfl rfl ?_
    refine RG.pass rfl rfl rfl ?_
    refine RG.vl rfl rfl rfl (Ev.pickT rfl rfl rfl) ?_
    refine RG.done ?_
    refine QW.then_ ?_
    refine CW.condT rfl ?_
    refine CW.skip ?_
    refine QW.then_ ?_
    refine CW.seq ?_
    refine CW.block ?_
    have h1 := hp.cf i
    have h2 := hq.cf i
    refine CW.region ?_
    refine RG.vl rfl rfl rfl (Ev.move rfl rfl) ?_
    refine RG.vl rfl rfl rfl (Ev.move rfl rfl) ?_
    refine RG.vl rfl rfl rfl (Ev.move rfl rfl) ?_
    refine RG.call rfl rfl rfl rfl rfl rfl rfl en_66 (coef_ret _ _ _ _ ((hl.ext hxwl1))) ?_
    rintro _ w3 ⟨rfl, hx3⟩
    replace hxwl1 := Ex.tr hxwl1 hx3
    have hE4 := hx3
    refine RG.vl rfl rfl rfl (Ev.move rfl rfl) ?_
    refine RG.vl rfl rfl rfl (Ev.move rfl rfl) ?_
    refine RG.call rfl rfl rfl rfl rfl rfl rfl en_66 (coef_ret _ _ _ _ ((hm.ext hxwl1))) ?_
    rintro _ w5 ⟨rfl, hx5⟩
    replace hxwl1 := Ex.tr hxwl1 hx5
    replace hE4 := Ex.tr hE4 hx5
    have hE6 := hx5
    refine RG.vl rfl rfl rfl (Ev.xor8 rfl rfl rfl (by omega) (by omega)) ?_
    refine RG.litO (os := [.tmp 26]) (enc := encN) ([cf p i ^^^ cf q i]) rfl rfl rfl rfl rfl rfl rfl Try.underlying22 inf_5 rfl rfl rfl rfl rfl encN_len rfl rfl (fun v7 wk8 hxwk8 hown9 hnew10 => ?_)
    replace hxwl1 := Ex.tr hxwl1 hxwk8
    replace hE4 := Ex.tr hE4 hxwk8
    replace hE6 := Ex.tr hE6 hxwk8
    have hE11 := hxwk8
    refine RG.appO rfl rfl rfl rfl rfl rfl rfl Try.underlying22 inf_5 rfl rfl encN_len (fun _ => rfl) (Own.ext hown hE4) ((hown9.rdl encN_len)) (by show _ + 1 ≤ maxLen; simp only [maxLen]; omega) (by show (_ + 1) * _ ≤ _; omega) (hxwl1.size) (fun v12 wa13 hown14 hgr15 hat16 => ?_)
    replace hxwl1 := own_block (Own.ext hown hE4) hxwl1 hgr15 (Nat.le_refl _) hxwl1.size
    refine RG.vl rfl rfl rfl (Ev.assign rfl rfl) ?_
    refine RG.done ?_
    refine QW.sub (S' := [(0, _), (1, _), (4, _), (5, _), (6, _)]) ⟨rfl, rfl, rfl, rfl, rfl, trivial⟩ ?_
    refine QW.blockN ?_
    refine QW.then_ ?_
    refine CW.region ?_
    refine RG.vl rfl rfl rfl (Ev.move rfl rfl) ?_
    refine RG.vl rfl rfl rfl (Ev.addI rfl rfl rfl (by omega)) ?_
    refine RG.vl rfl rfl rfl (Ev.assign rfl rfl) ?_
    refine RG.done ?_
    refine QW.round2 (i + 1) (v12) ⟨rfl, rfl, trivial⟩ ⟨rfl, rfl, rfl, trivial⟩ ⟨⟨by omega, by rw [take_more _ i _ (pa_at (by omega))]; exact hown14⟩, (Ex.tr hB0 hxwl1)⟩ (by omega)
  · refine RG.vl rfl rfl rfl (Ev.move rfl rfl) ?_
    refine RG.vl rfl rfl rfl (Ev.move rfl rfl) ?_
    refine RG.vl rfl rfl rfl (Ev.lenL rfl rfl rfl Try.underlying22 ((hm.ext hxwl1))) ?_
    refine RG.vl rfl rfl rfl (Ev.lss rfl rfl rfl) ?_
    refine RG.vl rfl rfl rfl (Ev.pickF rfl rfl rfl) ?_
    refine RG.done ?_
    refine QW.then_ ?_
    refine CW.condP rfl (fun hc17 => ?_) (fun hc17 => ?_)
    · refine CW.skip ?_
      refine QW.then_ ?_
      refine CW.seq ?_
      refine CW.block ?_
      have h1 := hp.cf i
      have h2 := hq.cf i
      refine CW.region ?_
      refine RG.vl rfl rfl rfl (Ev.move rfl rfl) ?_
      refine RG.vl rfl rfl rfl (Ev.move rfl rfl) ?_
      refine RG.vl rfl rfl rfl (Ev.move rfl rfl) ?_
      refine RG.call rfl rfl rfl rfl rfl rfl rfl en_66 (coef_ret _ _ _ _ ((hl.ext hxwl1))) ?_
      rintro _ w18 ⟨rfl, hx18⟩
      replace hxwl1 := Ex.tr hxwl1 hx18
      have hE19 := hx18
      refine RG.vl rfl rfl rfl (Ev.move rfl rfl) ?_
      refine RG.vl rfl rfl rfl (Ev.move rfl rfl) ?_
      refine RG.call rfl rfl rfl rfl rfl rfl rfl en_66 (coef_ret _ _ _ _ ((hm.ext hxwl1))) ?_
      rintro _ w20 ⟨rfl, hx20⟩
      replace hxwl1 := Ex.tr hxwl1 hx20
      replace hE19 := Ex.tr hE19 hx20
      have hE21 := hx20
      refine RG.vl rfl rfl rfl (Ev.xor8 rfl rfl rfl (by omega) (by omega)) ?_
      refine RG.litO (os := [.tmp 26]) (enc := encN) ([cf p i ^^^ cf q i]) rfl rfl rfl rfl rfl rfl rfl Try.underlying22 inf_5 rfl rfl rfl rfl rfl encN_len rfl rfl (fun v22 wk23 hxwk23 hown24 hnew25 => ?_)
      replace hxwl1 := Ex.tr hxwl1 hxwk23
      replace hE19 := Ex.tr hE19 hxwk23
      replace hE21 := Ex.tr hE21 hxwk23
      have hE26 := hxwk23
      refine RG.appO rfl rfl rfl rfl rfl rfl rfl Try.underlying22 inf_5 rfl rfl encN_len (fun _ => rfl) (Own.ext hown hE19) ((hown24.rdl encN_len)) (by show _ + 1 ≤ maxLen; simp only [maxLen]; omega) (by show (_ + 1) * _ ≤ _; omega) (hxwl1.size) (fun v27 wa28 hown29 hgr30 hat31 => ?_)
      replace hxwl1 := own_block (Own.ext hown hE19) hxwl1 hgr30 (Nat.le_refl _) hxwl1.size
      refine RG.vl rfl rfl rfl (Ev.assign rfl rfl) ?_
      refine RG.done ?_
      refine QW.sub (S' := [(0, _), (1, _), (4, _), (5, _), (6, _)]) ⟨rfl, rfl, rfl, rfl, rfl, trivial⟩ ?_
      refine QW.blockN ?_
      refine QW.then_ ?_
      refine CW.region ?_
      refine RG.vl rfl rfl rfl (Ev.move rfl rfl) ?_
      refine RG.vl rfl rfl rfl (Ev.addI rfl rfl rfl (by omega)) ?_
      refine RG.vl rfl rfl rfl (Ev.assign rfl rfl) ?_
      refine RG.done ?_
      refine QW.round2 (i + 1) (v27) ⟨rfl, rfl, trivial⟩ ⟨rfl, rfl, rfl, trivial⟩ ⟨⟨by omega, by rw [take_more _ i _ (pa_at (by omega))]; exact hown29⟩, (Ex.tr hB0 hxwl1)⟩ (by omega)
    · refine CW.exit ?_
      refine QW.thenExit ?_
      refine QW.thenExit ?_
      refine QW.blockHit ?_
      refine QW.then_ ?_
      refine CW.seq ?_
      refine CW.region ?_
      refine RG.vl rfl rfl rfl (Ev.move rfl rfl) ?_
      refine RG.call rfl rfl rfl rfl rfl rfl rfl en_67 (rtrim_ret _ _ _ ((hown.rdl encN_len)) (by omega)) ?_
      have hpre32 := (Ex.tr hB0 hxwl1)
      rintro vrt32 w32 ⟨hrt32, hx32⟩
      replace hxwl1 := Ex.tr hxwl1 hx32
      have hE33 := hx32
      refine RG.vl rfl rfl rfl (Ev.assign rfl rfl) ?_
      refine RG.done ?_
      refine QW.then_ ?_
      refine CW.ret ?_
      refine QW.ret1 rfl rfl ?_
      have hB := (Ex.tr hB0 hxwl1)
      have e : i = max p.length q.length := by omega
      have e2 : (pa p q).take i = pa p q := by rw [List.take_of_length_le (by rw [pa_len]; omega)]
      rw [e2] at hrt32
      exact ⟨hrt32.low (by have := hpre32.size; omega), hB⟩

set_option maxRecDepth 100000 in
set_option maxHeartbeats 1000000 in
theorem rprod_ret (u0 v0 : Value) (p q : List Nat) (w : World) (hl : RdL w 1 encN u0 p) (hm : RdL w 1 encN v0 q) (hlen : p.length ≤ 40000) (hlen2 : q.length ≤ 40000) (hp : El p) (hq : El q) :
    Ret Try.prog 47 [u0, v0] w (fun v w' => Own w' w.heap.size 5 1 encN v (tr (pm p q)) ∧ Ex w w') := by
  have hB0 : Ex w w := Ex.rfl_ _
  refine Ret.of Try.func47 rfl Try.ntmps47 rfl ?_
  refine CW.seq ?_
  refine CW.region ?_
  refine RG.vl rfl rfl rfl (Ev.assign rfl rfl) ?_
  refine RG.done ?_
  refine QW.then_ ?_
  refine CW.seq ?_
  refine CW.region ?_
  refine RG.vl rfl rfl rfl (Ev.assign rfl rfl) ?_
  refine RG.done ?_
  refine QW.then_ ?_
  refine CW.seq ?_
  refine CW.seq ?_
  refine CW.region ?_
  refine RG.vl rfl rfl rfl (Ev.assign rfl rfl) ?_
  refine RG.done ?_
  refine QW.then_ ?_
  refine CW.block ?_
  refine CW.loop2 [(0, _), (1, _), (4, _)] ⟨rfl, rfl, rfl, trivial⟩ (fun (i : Nat) (u : Value) => [(6, .int .i64 i), (5, u)]) (fun i u w' => (i ≤ (dg p + dg q - 1) ∧ Own w' w.heap.size 5 1 encN u (cfL (cf (pm p q)) i)) ∧ Ex w w') (fun i u => (dg p + dg q - 1) - i) (0) (.slice none 0 0) ⟨rfl, rfl, trivial⟩ ⟨⟨Nat.zero_le _, Own.nil_ _ _ _ _ _⟩, hB0⟩ ?_
  rintro i u wl1 ⟨⟨hi, hown⟩, hxwl1⟩
  refine CW.sub (S' := [(6, _), (5, _), (0, _), (1, _), (4, _)]) ⟨rfl, rfl, rfl, rfl, rfl, trivial⟩ ?_
  refine CW.seq ?_
  refine CW.seq ?_
  have hdl := dg_len p
  have hdl2 := dg_len q
  have htl := cfL_len (cf (pm p q)) i
  refine CW.region ?_
  refine RG.vl rfl rfl rfl (Ev.move rfl rfl) ?_
  refine RG.vl rfl rfl rfl (Ev.move rfl rfl) ?_
  refine RG.call rfl rfl rfl rfl rfl rfl rfl en_65 (rdeg_ret _ _ _ ((hl.ext hxwl1)) (by omega)) ?_
  rintro _ w2 ⟨rfl, hx2⟩
  replace hxwl1 := Ex.tr hxwl1 hx2
  have hE3 := hx2
  refine RG.vl rfl rfl rfl (Ev.move rfl rfl) ?_
  refine RG.call rfl rfl rfl rfl rfl rfl rfl en_65 (rdeg_ret _ _ _ ((hm.ext hxwl1)) (by omega)) ?_
  rintro _ w4 ⟨rfl, hx4⟩
  replace hxwl1 := Ex.tr hxwl1 hx4
  replace hE3 := Ex.tr hE3 hx4
  have hE5 := hx4
  refine RG.vl rfl rfl rfl (Ev.addI rfl rfl rfl (by omega)) ?_
  refine RG.vl rfl rfl rfl (Ev.leq rfl rfl rfl) ?_
  refine RG.done ?_
  refine QW.then_ ?_
  refine CW.condP rfl (fun hc6 => ?_) (fun hc6 => ?_)
  · refine CW.skip ?_
    refine QW.then_ ?_
    refine CW.seq ?_
    refine CW.block ?_
    refine CW.seq ?_
    refine CW.region ?_
    refine RG.vl rfl rfl rfl (Ev.assign rfl rfl) ?_
    refine RG.done ?_
    refine QW.then_ ?_
    refine CW.seq ?_
    refine CW.seq ?_
    refine CW.region ?_
    refine RG.vl rfl rfl rfl (Ev.assign rfl rfl) ?_
    refine RG.done ?_
    refine QW.then_ ?_
    refine CW.block ?_
    refine CW.loop1 [(0, _), (1, _), (4, _), (5, _), (6, _)] ⟨rfl, rfl, rfl, rfl, rfl, trivial⟩ (fun (k : Nat) => [(8, .int .i64 k), (7, .int .u8 (cvS p q i k : Int))]) (fun k w' => (k ≤ i + 1 ∧ Own w' w.heap.size 5 1 encN u (cfL (cf (pm p q)) i)) ∧ Ex w w') (fun k => i + 1 - k) (0) ⟨rfl, rfl, trivial⟩ ⟨⟨Nat.zero_le _, (Own.ext hown hE3)⟩, (Ex.tr hB0 hxwl1)⟩ ?_
    rintro k wl7 ⟨⟨hk, hown⟩, hxwl7⟩
    refine CW.sub (S' := [(8, _), (7, _), (0, _), (1, _), (4, _), (5, _), (6, _)]) ⟨rfl, rfl, rfl, rfl, rfl, rfl, rfl, trivial⟩ ?_
    refine CW.seq ?_
    refine CW.seq ?_
    refine CW.region ?_
    refine RG.vl rfl rfl rfl (Ev.move rfl rfl) ?_
    refine RG.vl rfl rfl rfl (Ev.move rfl rfl) ?_
    refine RG.vl rfl rfl rfl (Ev.leq rfl rfl rfl) ?_
    refine RG.done ?_
    refine QW.then_ ?_
    refine CW.condP rfl (fun hc8 => ?_) (fun hc8 => ?_)
    · refine CW.skip ?_
      refine QW.then_ ?_
      refine CW.seq ?_
      refine CW.block ?_
      have h1 := hp.cf k
      have h2 := hq.cf (i - k)
      have h3 := cvS_lt p q i k
      have h4 := gm_lt (cf p k) (cf q (i - k))
      refine CW.region ?_
      refine RG.vl rfl rfl rfl (Ev.move rfl rfl) ?_
      refine RG.vl rfl rfl rfl (Ev.move rfl rfl) ?_
      refine RG.vl rfl rfl rfl (Ev.move rfl rfl) ?_
      refine RG.call rfl rfl rfl rfl rfl rfl rfl en_66 (coef_ret _ _ _ _ ((hl.ext hxwl7))) ?_
      rintro _ w9 ⟨rfl, hx9⟩
      replace hxwl7 := Ex.tr hxwl7 hx9
      have hE10 := hx9
      refine RG.vl rfl rfl rfl (Ev.move rfl rfl) ?_
      refine RG.vl rfl rfl rfl (Ev.move rfl rfl) ?_
      refine RG.vl rfl rfl rfl (Ev.move rfl rfl) ?_
      refine RG.vl rfl rfl rfl ((Ev.subI rfl rfl rfl (by omega)).conv (congrArg (Value.int .i64) (show (i : Int) - (k : Int) = ((i - k : Nat) : Int) by omega))) ?_
      refine RG.call rfl rfl rfl rfl rfl rfl rfl en_66 (coef_ret _ _ _ _ ((hm.ext hxwl7))) ?_
      rintro _ w11 ⟨rfl, hx11⟩
      replace hxwl7 := Ex.tr hxwl7 hx11
      replace hE10 := Ex.tr hE10 hx11
      have hE12 := hx11
      refine RG.call rfl rfl rfl rfl rfl rfl rfl en_46 (rmul_ret _ _ _ (by exact h1) (by exact h2)) ?_
      rintro _ w13 ⟨rfl, hx13⟩
      replace hxwl7 := Ex.tr hxwl7 hx13
      replace hE10 := Ex.tr hE10 hx13
      replace hE12 := Ex.tr hE12 hx13
      have hE14 := hx13
      refine RG.vl rfl rfl rfl (Ev.xor8 rfl rfl rfl (by omega) (by omega)) ?_
      refine RG.vl rfl rfl rfl (Ev.assign rfl rfl) ?_
      refine RG.done ?_
      refine QW.sub (S' := [(0, _), (1, _), (4, _), (5, _), (6, _), (7, _), (8, _)]) ⟨rfl, rfl, rfl, rfl, rfl, rfl, rfl, trivial⟩ ?_
      refine QW.blockN ?_
      refine QW.then_ ?_
      refine CW.region ?_
      refine RG.vl rfl rfl rfl (Ev.move rfl rfl) ?_
      refine RG.vl rfl rfl rfl (Ev.addI rfl rfl rfl (by omega)) ?_
      refine RG.vl rfl rfl rfl (Ev.assign rfl rfl) ?_
      refine RG.done ?_
      refine QW.round1 (k + 1) ⟨rfl, rfl, trivial⟩ ⟨rfl, rfl, rfl, rfl, rfl, trivial⟩ ⟨⟨by omega, (Own.ext hown hE10)⟩, (Ex.tr hB0 hxwl7)⟩ (by omega)
    · refine CW.exit ?_
      refine QW.thenExit ?_
      refine QW.thenExit ?_
      refine QW.blockHit ?_
      refine QW.then_ ?_
      have hcv : cvS p q i k = cf (pm p q) i := by obtain rfl : k = i + 1 := (by omega); exact cvS_pm p q i
      refine CW.region ?_
      refine RG.vl rfl rfl rfl (Ev.move rfl rfl) ?_
      refine RG.vl rfl rfl rfl ((Ev.move rfl rfl).conv (congrArg (fun n : Nat => Value.int .u8 (n : Int)) hcv)) ?_
      refine RG.litO (os := [.tmp 35]) (enc := encN) ([cf (pm p q) i]) rfl rfl rfl rfl rfl rfl rfl Try.underlying22 inf_5 rfl rfl rfl rfl rfl encN_len rfl rfl (fun v15 wk16 hxwk16 hown17 hnew18 => ?_)
      replace hxwl7 := Ex.tr hxwl7 hxwk16
      have hE19 := hxwk16
      refine RG.appO rfl rfl rfl rfl rfl rfl rfl Try.underlying22 inf_5 rfl rfl encN_len (fun _ => rfl) (Own.ext hown hE19) ((hown17.rdl encN_len)) (by show _ + 1 ≤ maxLen; simp only [maxLen]; omega) (by show (_ + 1) * _ ≤ _; omega) (hxwl7.size) (fun v20 wa21 hown22 hgr23 hat24 => ?_)
      replace hxwl7 := own_block (Own.ext hown hE19) hxwl7 hgr23 (Nat.le_refl _) hxwl7.size
      refine RG.vl rfl rfl rfl (Ev.assign rfl rfl) ?_
      refine RG.done ?_
      refine QW.blockN ?_
      refine QW.then_ ?_
      refine CW.region ?_
      refine RG.vl rfl rfl rfl (Ev.move rfl rfl) ?_
      refine RG.vl rfl rfl rfl (Ev.addI rfl rfl rfl (by omega)) ?_
      refine RG.vl rfl rfl rfl (Ev.assign rfl rfl) ?_
      refine RG.done ?_
      refine QW.round2 (i + 1) (v20) ⟨rfl, rfl, trivial⟩ ⟨rfl, rfl, rfl, trivial⟩ ⟨⟨by omega, by rw [cfL_more]; exact hown22⟩, (Ex.tr hB0 hxwl7)⟩ (by omega)
  · refine CW.exit ?_
    refine QW.thenExit ?_
    refine QW.thenExit ?_
    refine QW.blockHit ?_
    refine QW.then_ ?_
    refine CW.seq ?_
    refine CW.region ?_
    refine RG.vl rfl rfl rfl (Ev.move rfl rfl) ?_
    refine RG.call rfl rfl rfl rfl rfl rfl rfl en_67 (rtrim_ret _ _ _ (((Own.ext hown hE3).rdl encN_len)) (by omega)) ?_
    have hpre25 := (Ex.tr hB0 hxwl1)
    rintro vrt25 w25 ⟨hrt25, hx25⟩
    replace hxwl1 := Ex.tr hxwl1 hx25
    replace hE3 := Ex.tr hE3 hx25
    replace hE5 := Ex.tr hE5 hx25
    have hE26 := hx25
    refine RG.vl rfl rfl rfl (Ev.assign rfl rfl) ?_
    refine RG.done ?_
    refine QW.then_ ?_
    refine CW.ret ?_
    refine QW.ret1 rfl rfl ?_
    have hB := (Ex.tr hB0 hxwl1)
    have e : i = (dg p + dg q - 1) := by omega
    rw [e, rprod_end] at hrt25
    exact ⟨hrt25.low (by have := hpre25.size; omega), hB⟩

set_option maxRecDepth 100000 in
set_option maxHeartbeats 1000000 in
theorem rshift_ret (u0 : Value) (p : List Nat) (c n : Nat) (w : World) (hl : RdL w 1 encN u0 p) (hlen : p.length ≤ 100000) (hn : n ≤ 100000) (hp : El p) (hc : c < 64) :
    Ret Try.prog 69 [u0, .int .u8 (c : Int), .int .i64 (n : Int)] w (fun v w' => Own w' w.heap.size 5 1 encN v (shl p c n) ∧ Ex w w') := by
  have hB0 : Ex w w := Ex.rfl_ _
  refine Ret.of Try.func69 rfl Try.ntmps69 rfl ?_
  refine CW.seq ?_
  refine CW.region ?_
  refine RG.vl rfl rfl rfl (Ev.assign rfl rfl) ?_
  refine RG.done ?_
  refine QW.then_ ?_
  refine CW.seq ?_
  refine CW.region ?_
  refine RG.vl rfl rfl rfl (Ev.move rfl rfl) ?_
  refine RG.makeO (m := n) (enc := encN) 0 rfl rfl rfl rfl rfl rfl (rfl) Try.underlying22 inf_5 encN_len rfl rfl (by omega) (by simp only [maxLen]; omega) (fun vz wk1 hxwk1 hown2 hnew3 => ?_)
  have hE4 := hxwk1
  refine RG.vl rfl rfl rfl (Ev.assign rfl rfl) ?_
  refine RG.done ?_
  refine QW.then_ ?_
  refine CW.seq ?_
  refine CW.seq ?_
  refine CW.region ?_
  refine RG.vl rfl rfl rfl (Ev.assign rfl rfl) ?_
  refine RG.done ?_
  refine QW.then_ ?_
  refine CW.block ?_
  refine CW.loop2 [(0, _), (1, _), (6, _)] ⟨rfl, rfl, rfl, trivial⟩ (fun (i : Nat) (u : Value) => [(8, .int .i64 i), (7, u)]) (fun i u w' => (i ≤ p.length ∧ Own w' w.heap.size 5 1 encN u (shl (p.take i) c n)) ∧ Ex w w') (fun i u => p.length - i) (0) (vz) ⟨rfl, rfl, trivial⟩ ⟨⟨Nat.zero_le _, by rw [List.take_zero, show shl [] c n = List.replicate n 0 from by unfold shl; simp]; exact hown2⟩, (Ex.tr hB0 hE4)⟩ ?_
  rintro i u wl5 ⟨⟨hi, hown⟩, hxwl5⟩
  refine CW.sub (S' := [(8, _), (7, _), (0, _), (1, _), (6, _)]) ⟨rfl, rfl, rfl, rfl, rfl, trivial⟩ ?_
  refine CW.seq ?_
  refine CW.seq ?_
  have htl := shl_len (p.take i) c n
  rw [List.length_take] at htl
  refine CW.region ?_
  refine RG.vl rfl rfl rfl (Ev.move rfl rfl) ?_
  refine RG.vl rfl rfl rfl (Ev.move rfl rfl) ?_
  refine RG.vl rfl rfl rfl (Ev.lenL rfl rfl rfl Try.underlying22 ((hl.ext hxwl5))) ?_
  refine RG.vl rfl rfl rfl (Ev.lss rfl rfl rfl) ?_
  refine RG.done ?_
  refine QW.then_ ?_
  refine CW.condP rfl (fun hc6 => ?_) (fun hc6 => ?_)
  · refine CW.skip ?_
    refine QW.then_ ?_
    refine CW.seq ?_
    refine CW.block ?_
    obtain ⟨a, ha⟩ : ∃ c, p[i]? = some c := ⟨_, List.getElem?_eq_getElem (by omega)⟩
    have ha64 := hp.get ha
    refine CW.region ?_
    refine RG.vl rfl rfl rfl (Ev.move rfl rfl) ?_
    refine RG.vl rfl rfl rfl (Ev.move rfl rfl) ?_
    refine RG.vl rfl rfl rfl (Ev.move rfl rfl) ?_
    refine RG.idxL rfl rfl rfl rfl rfl rfl Try.underlying22 sz_5 ((hl.ext hxwl5)) (ha) (fun p7 hp7b hp7 => ?_)
    refine RG.vl rfl rfl rfl (Ev.ld0 rfl rfl Try.underlying5 rfl (hp7) (rfl)) ?_
    refine RG.vl rfl rfl rfl (Ev.move rfl rfl) ?_
    refine RG.call rfl rfl rfl rfl rfl rfl rfl en_46 (rmul_ret _ _ _ (by exact ha64) (by exact hc)) ?_
    rintro _ w8 ⟨rfl, hx8⟩
    replace hxwl5 := Ex.tr hxwl5 hx8
    have hE9 := hx8
    refine RG.litO (os := [.tmp 23]) (enc := encN) ([gm a c]) rfl rfl rfl rfl rfl rfl rfl Try.underlying22 inf_5 rfl rfl rfl rfl rfl encN_len rfl rfl (fun v10 wk11 hxwk11 hown12 hnew13 => ?_)
    have hsep14 : Sep v10 _ := Sep.of_new (Own.ext hown hE9) hnew13
    replace hxwl5 := Ex.tr hxwl5 hxwk11
    replace hE9 := Ex.tr hE9 hxwk11
    have hE15 := hxwk11
    refine RG.appO rfl rfl rfl rfl rfl rfl rfl Try.underlying22 inf_5 rfl rfl encN_len (fun _ => rfl) (Own.ext hown hE9) ((hown12.rdl encN_len)) (by show _ + 1 ≤ maxLen; simp only [maxLen]; omega) (by show (_ + 1) * _ ≤ _; omega) (hxwl5.size) (fun v16 wa17 hown18 hgr19 hat20 => ?_)
    have hsep22 := Sep.app (Sep.symm hsep14) hown12 hat20
    have hown21 := Own.grown hown12 hgr19 (fun k a b => (Sep.symm hsep14) k b a)
    replace hxwl5 := own_block (Own.ext hown hE9) hxwl5 hgr19 (Nat.le_refl _) hxwl5.size
    refine RG.vl rfl rfl rfl (Ev.assign rfl rfl) ?_
    refine RG.done ?_
    refine QW.sub (S' := [(0, _), (1, _), (6, _), (7, _), (8, _)]) ⟨rfl, rfl, rfl, rfl, rfl, trivial⟩ ?_
    refine QW.blockN ?_
    refine QW.then_ ?_
    refine CW.region ?_
    refine RG.vl rfl rfl rfl (Ev.move rfl rfl) ?_
    refine RG.vl rfl rfl rfl (Ev.addI rfl rfl rfl (by omega)) ?_
    refine RG.vl rfl rfl rfl (Ev.assign rfl rfl) ?_
    refine RG.done ?_
    refine QW.round2 (i + 1) (v16) ⟨rfl, rfl, trivial⟩ ⟨rfl, rfl, rfl, trivial⟩ ⟨⟨by omega, by rw [shl_more ha]; exact hown18⟩, (Ex.tr hB0 hxwl5)⟩ (by omega)
  · refine CW.exit ?_
    refine QW.thenExit ?_
    refine QW.thenExit ?_
    refine QW.blockHit ?_
    refine QW.then_ ?_
    refine CW.seq ?_
    refine CW.region ?_
    refine RG.vl rfl rfl rfl (Ev.move rfl rfl) ?_
    refine RG.vl rfl rfl rfl (Ev.assign rfl rfl) ?_
    refine RG.done ?_
    refine QW.then_ ?_
    refine CW.ret ?_
    refine QW.ret1 rfl rfl ?_
    have hB := (Ex.tr hB0 hxwl5)
    have e : i = p.length := by omega
    rw [e, List.take_length] at hown
    exact ⟨hown.low (by have := hB0.size; omega), hB⟩

set_option maxRecDepth 100000 in
set_option maxHeartbeats 2000000 in
theorem rdiv_ret (u0 v0 : Value) (p q : List Nat) (w : World) (hl : RdL w 1 encN u0 p) (hm : RdL w 1 encN v0 q) (hlen : p.length ≤ 40000) (hlen2 : q.length ≤ 40000) (hp : El p) (hq : El q) (hq0 : 0 < dg q) :
    Ret Try.prog 48 [u0, v0] w (fun v w' => ∃ r1 r2 d r, v = .tuple #[r1, r2] ∧ RdL w' 1 encN r1 d ∧ RdL w' 1 encN r2 r ∧ IsDiv p q d r ∧ tr d = d ∧ tr r = r ∧ El d ∧ El r ∧ Ex w w') := by
  have hB0 : Ex w w := Ex.rfl_ _
  refine Ret.of Try.func48 rfl Try.ntmps48 rfl ?_
  refine CW.seq ?_
  refine CW.region ?_
  refine RG.vl rfl rfl rfl (Ev.assign rfl rfl) ?_
  refine RG.vl rfl rfl rfl (Ev.assign rfl rfl) ?_
  refine RG.done ?_
  refine QW.then_ ?_
  refine CW.seq ?_
  refine CW.region ?_
  refine RG.vl rfl rfl rfl (Ev.assign rfl rfl) ?_
  refine RG.done ?_
  refine QW.then_ ?_
  refine CW.seq ?_
  refine CW.region ?_
  refine RG.vl rfl rfl rfl (Ev.move rfl rfl) ?_
  refine RG.call rfl rfl rfl rfl rfl rfl rfl en_67 (rtrim_ret _ _ _ (hl) (by omega)) ?_
  have hpre1 := hB0
  rintro vrt1 w1 ⟨hrt1, hx1⟩
  have hE2 := hx1
  refine RG.vl rfl rfl rfl (Ev.assign rfl rfl) ?_
  refine RG.done ?_
  refine QW.then_ ?_
  refine CW.seq ?_
  refine CW.block ?_
  replace hl := (hl.ext hE2)
  replace hm := (hm.ext hE2)
  have hR3 := (Ex.tr hB0 hE2)
  refine CW.loop4 [(1, _), (4, _), (5, _)] ⟨rfl, rfl, rfl, trivial⟩ (fun (ud : Value) (D : List Nat) (ur : Value) (R : List Nat) => [(6, ud), (7, ur)]) (fun ud D ur R w' => (Rdv p q D R ∧ RdL w' 1 encN ud D ∧ RdL w' 1 encN ur R) ∧ Ex w1 w') (fun ud D ur R => dg R) (.slice none 0 0) ([]) (_) (tr p) ⟨rfl, rfl, trivial⟩ ⟨⟨rdv_start hp, RdL.nil_ _, hrt1.rdl encN_len⟩, (Ex.rfl_ _)⟩ ?_
  rintro ud D ur R wl4 ⟨⟨hdv, hD, hR⟩, hxwl4⟩
  refine CW.sub (S' := [(6, _), (7, _), (1, _), (4, _), (5, _)]) ⟨rfl, rfl, rfl, rfl, rfl, trivial⟩ ?_
  have hdp := dg_len p
  have hdq := dg_len q
  have hD1 := dg_of_tr hdv.dt
  have hR1 := dg_of_tr hdv.rt
  have hDd := hdv.dd
  have hRd := hdv.rd
  refine CW.seq ?_
  refine CW.seq ?_
  refine CW.region ?_
  refine RG.vl rfl rfl rfl (Ev.move rfl rfl) ?_
  refine RG.call rfl rfl rfl rfl rfl rfl rfl en_65 (rdeg_ret _ _ _ (hR) (by omega)) ?_
  rintro _ w5 ⟨rfl, hx5⟩
  replace hxwl4 := Ex.tr hxwl4 hx5
  have hE6 := hx5
  refine RG.vl rfl rfl rfl (Ev.move rfl rfl) ?_
  refine RG.call rfl rfl rfl rfl rfl rfl rfl en_65 (rdeg_ret _ _ _ ((hm.ext hxwl4)) (by omega)) ?_
  rintro _ w7 ⟨rfl, hx7⟩
  replace hxwl4 := Ex.tr hxwl4 hx7
  replace hE6 := Ex.tr hE6 hx7
  have hE8 := hx7
  refine RG.vl rfl rfl rfl (Ev.geq rfl rfl rfl) ?_
  refine RG.done ?_
  refine QW.then_ ?_
  refine CW.condP rfl (fun hc9 => ?_) (fun hc9 => ?_)
  · refine CW.skip ?_
    refine QW.then_ ?_
    refine CW.block ?_
    refine CW.seq ?_
    have hge : dg q ≤ dg R := by omega
    have hRt : R[dg R - 1]? = some (cf R (dg R - 1)) := getElem?_cf (by omega)
    have hqt : q[dg q - 1]? = some (cf q (dg q - 1)) := getElem?_cf (by omega)
    have hR64 := hdv.re.cf (dg R - 1)
    have hq64 := hq.cf (dg q - 1)
    have hgi := (gi_lt (cf q (dg q - 1))).2
    have hq00 := cf_top q hq0
    have hC64 : (gm (cf R (dg R - 1)) (gi (cf q (dg q - 1)))) < 64 := gm_lt _ _
    obtain ⟨hst, hstl⟩ := rdv_step hq hq0 hdv hge
    have h1e : El [1] := el1 (by omega)
    have hDe := hdv.de
    have hRe := hdv.re
    have h1l : [1].length = 1 := rfl
    have hs1 := shl_len [1] (gm (cf R (dg R - 1)) (gi (cf q (dg q - 1)))) (dg R - dg q)
    have hs2 := shl_len q (gm (cf R (dg R - 1)) (gi (cf q (dg q - 1)))) (dg R - dg q)
    refine CW.region ?_
    refine RG.vl rfl rfl rfl (Ev.move rfl rfl) ?_
    refine RG.call rfl rfl rfl rfl rfl rfl rfl en_65 (rdeg_ret _ _ _ ((hR.ext hE6)) (by omega)) ?_
    rintro _ w10 ⟨rfl, hx10⟩
    replace hxwl4 := Ex.tr hxwl4 hx10
    replace hE6 := Ex.tr hE6 hx10
    replace hE8 := Ex.tr hE8 hx10
    have hE11 := hx10
    refine RG.vl rfl rfl rfl (Ev.move rfl rfl) ?_
    refine RG.call rfl rfl rfl rfl rfl rfl rfl en_65 (rdeg_ret _ _ _ ((hm.ext hxwl4)) (by omega)) ?_
    rintro _ w12 ⟨rfl, hx12⟩
    replace hxwl4 := Ex.tr hxwl4 hx12
    replace hE6 := Ex.tr hE6 hx12
    replace hE8 := Ex.tr hE8 hx12
    replace hE11 := Ex.tr hE11 hx12
    have hE13 := hx12
    refine RG.vl rfl rfl rfl ((Ev.subI rfl rfl rfl (by omega)).conv (congrArg (Value.int .i64) (show (dg R : Int) - 1 - ((dg q : Int) - 1) = ((dg R - dg q : Nat) : Int) by omega))) ?_
    refine RG.vl rfl rfl rfl (Ev.assign rfl rfl) ?_
    refine RG.done ?_
    refine QW.then_ ?_
    refine CW.seq ?_
    refine CW.draw [] (.ex) 13 rfl mixed (fun wd14 hxwd14 => ?_)
    replace hxwl4 := Ex.tr hxwl4 hxwd14
    replace hE6 := Ex.tr hE6 hxwd14
    replace hE8 := Ex.tr hE8 hxwd14
    replace hE11 := Ex.tr hE11 hxwd14
    replace hE13 := Ex.tr hE13 hxwd14
    refine AG.takeW 0 rfl (by kernel_rfl) (by kernel_rfl) rfl rfl rfl (fun _ => Ev.move rfl rfl) ?_
    refine AG.takeW 1 rfl (by kernel_rfl) (by kernel_rfl) rfl rfl rfl (fun _ => Ev.move rfl rfl) ?_
    refine AG.takeW 5 rfl (by kernel_rfl) (by kernel_rfl) rfl rfl rfl (fun _ => Ev.move rfl rfl) ?_
    refine AG.takeW 6 rfl (by kernel_rfl) (by kernel_rfl) rfl rfl rfl (fun _ => Ev.move rfl rfl) ?_
    refine AG.only 2 rfl (by kernel_rfl) ?_
    refine RG.call rfl rfl rfl rfl rfl rfl rfl en_65 (rdegN _ R _ ((hR.ext hE6)) (by omega) (by omega)) ?_
    rintro _ w16 ⟨rfl, hx16⟩
    replace hxwl4 := Ex.tr hxwl4 hx16
    replace hE6 := Ex.tr hE6 hx16
    replace hE8 := Ex.tr hE8 hx16
    replace hE11 := Ex.tr hE11 hx16
    replace hE13 := Ex.tr hE13 hx16
    have hE17 := hx16
    refine RG.done ?_
    refine QW.an (fun _ => hE17) ?_
    refine AG.idxL _ 3 rfl (by kernel_rfl) (by kernel_rfl) rfl rfl rfl rfl rfl rfl Try.underlying22 sz_5 ((hR.ext hE6)) (hRt) (fun p18 hp18b hp18 => ?_)
    refine AG.take 4 rfl (by kernel_rfl) (by kernel_rfl) rfl rfl rfl (fun wq hq => Ev.ld0 rfl rfl Try.underlying5 rfl (hp18.ext hq hp18b) (rfl)) ?_
    refine AG.only 7 rfl (by kernel_rfl) ?_
    refine RG.call rfl rfl rfl rfl rfl rfl rfl en_65 (rdegN _ q _ ((hm.ext hxwl4)) (by omega) (by omega)) ?_
    rintro _ w20 ⟨rfl, hx20⟩
    replace hxwl4 := Ex.tr hxwl4 hx20
    replace hE6 := Ex.tr hE6 hx20
    replace hE8 := Ex.tr hE8 hx20
    replace hE11 := Ex.tr hE11 hx20
    replace hE13 := Ex.tr hE13 hx20
    replace hE17 := Ex.tr hE17 hx20
    have hE21 := hx20
    refine RG.done ?_
    refine QW.an (fun _ => hE21) ?_
    refine AG.idxL _ 8 rfl (by kernel_rfl) (by kernel_rfl) rfl rfl rfl rfl rfl rfl Try.underlying22 sz_5 ((hm.ext hxwl4)) (hqt) (fun p22 hp22b hp22 => ?_)
    refine AG.take 9 rfl (by kernel_rfl) (by kernel_rfl) rfl rfl rfl (fun wq hq => Ev.ld0 rfl rfl Try.underlying5 rfl (hp22.ext hq hp22b) (rfl)) ?_
    refine AG.only 10 rfl (by kernel_rfl) ?_
    refine RG.call rfl rfl rfl rfl rfl rfl rfl en_58 (rinvN (cf q (dg q - 1)) _ hq64 hq00) ?_
    rintro _ w24 ⟨rfl, hx24⟩
    replace hxwl4 := Ex.tr hxwl4 hx24
    replace hE6 := Ex.tr hE6 hx24
    replace hE8 := Ex.tr hE8 hx24
    replace hE11 := Ex.tr hE11 hx24
    replace hE13 := Ex.tr hE13 hx24
    replace hE17 := Ex.tr hE17 hx24
    replace hE21 := Ex.tr hE21 hx24
    have hE25 := hx24
    refine RG.done ?_
    refine QW.an (fun _ => hE25) ?_
    refine AG.only 11 rfl (by kernel_rfl) ?_
    refine RG.call rfl rfl rfl rfl rfl rfl rfl en_46 (rmul_ret _ _ _ (by exact hR64) (by exact hgi)) ?_
    rintro _ w27 ⟨rfl, hx27⟩
    replace hxwl4 := Ex.tr hxwl4 hx27
    replace hE6 := Ex.tr hE6 hx27
    replace hE8 := Ex.tr hE8 hx27
    replace hE11 := Ex.tr hE11 hx27
    replace hE13 := Ex.tr hE13 hx27
    replace hE17 := Ex.tr hE17 hx27
    replace hE21 := Ex.tr hE21 hx27
    replace hE25 := Ex.tr hE25 hx27
    have hE28 := hx27
    refine RG.done ?_
    refine QW.an (fun _ => hE28) ?_
    refine AG.takeW 12 rfl (by kernel_rfl) (by kernel_rfl) rfl rfl rfl (fun _ => Ev.assign rfl rfl) ?_
    refine AG.done (by kernel_rfl) ?_
    refine QW.sub (S' := [(1, _), (4, _), (5, _), (6, _), (7, _), (8, _), (9, _)]) ⟨rfl, rfl, rfl, rfl, rfl, rfl, rfl, trivial⟩ ?_
    refine QW.then_ ?_
    refine CW.seq ?_
    refine CW.region ?_
    refine RG.vl rfl rfl rfl (Ev.move rfl rfl) ?_
    refine RG.litO (os := [_]) (enc := encN) ([1]) rfl rfl rfl rfl rfl rfl rfl Try.underlying22 inf_5 rfl rfl rfl rfl rfl encN_len rfl rfl (fun v29 wk30 hxwk30 hown31 hnew32 => ?_)
    replace hxwl4 := Ex.tr hxwl4 hxwk30
    replace hE6 := Ex.tr hE6 hxwk30
    replace hE8 := Ex.tr hE8 hxwk30
    replace hE11 := Ex.tr hE11 hxwk30
    replace hE13 := Ex.tr hE13 hxwk30
    replace hE17 := Ex.tr hE17 hxwk30
    replace hE21 := Ex.tr hE21 hxwk30
    replace hE25 := Ex.tr hE25 hxwk30
    replace hE28 := Ex.tr hE28 hxwk30
    have hE33 := hxwk30
    refine RG.vl rfl rfl rfl (Ev.move rfl rfl) ?_
    refine RG.vl rfl rfl rfl (Ev.move rfl rfl) ?_
    refine RG.call rfl rfl rfl rfl rfl rfl rfl en_69 (rshift_ret _ _ _ _ _ ((hown31.rdl encN_len)) (by omega) (by omega) (by exact h1e) (by exact hC64)) ?_
    have hpre34 := (Ex.tr hR3 hxwl4)
    rintro vrh34 w34 ⟨hrh34, hx34⟩
    replace hxwl4 := Ex.tr hxwl4 hx34
    replace hE6 := Ex.tr hE6 hx34
    replace hE8 := Ex.tr hE8 hx34
    replace hE11 := Ex.tr hE11 hx34
    replace hE13 := Ex.tr hE13 hx34
    replace hE17 := Ex.tr hE17 hx34
    replace hE21 := Ex.tr hE21 hx34
    replace hE25 := Ex.tr hE25 hx34
    replace hE28 := Ex.tr hE28 hx34
    replace hE33 := Ex.tr hE33 hx34
    have hE35 := hx34
    refine RG.call rfl rfl rfl rfl rfl rfl rfl en_68 (rsum_ret _ _ _ _ _ ((hD.ext hE6)) ((hrh34.rdl encN_len)) (by omega) (by omega) (by exact hDe) (by exact el_shl _ _ _)) ?_
    have hpre36 := (Ex.tr hR3 hxwl4)
    rintro vrs36 w36 ⟨hrs36, hx36⟩
    replace hxwl4 := Ex.tr hxwl4 hx36
    replace hE6 := Ex.tr hE6 hx36
    replace hE8 := Ex.tr hE8 hx36
    replace hE11 := Ex.tr hE11 hx36
    replace hE13 := Ex.tr hE13 hx36
    replace hE17 := Ex.tr hE17 hx36
    replace hE21 := Ex.tr hE21 hx36
    replace hE25 := Ex.tr hE25 hx36
    replace hE28 := Ex.tr hE28 hx36
    replace hE33 := Ex.tr hE33 hx36
    replace hE35 := Ex.tr hE35 hx36
    have hE37 := hx36
    refine RG.vl rfl rfl rfl (Ev.assign rfl rfl) ?_
    refine RG.done ?_
    refine QW.then_ ?_
    refine CW.region ?_
    refine RG.vl rfl rfl rfl (Ev.move rfl rfl) ?_
    refine RG.vl rfl rfl rfl (Ev.move rfl rfl) ?_
    refine RG.vl rfl rfl rfl (Ev.move rfl rfl) ?_
    refine RG.vl rfl rfl rfl (Ev.move rfl rfl) ?_
    refine RG.call rfl rfl rfl rfl rfl rfl rfl en_69 (rshift_ret _ _ _ _ _ ((hm.ext hxwl4)) (by omega) (by omega) (by exact hq) (by exact hC64)) ?_
    have hpre38 := (Ex.tr hR3 hxwl4)
    rintro vrh38 w38 ⟨hrh38, hx38⟩
    replace hxwl4 := Ex.tr hxwl4 hx38
    replace hE6 := Ex.tr hE6 hx38
    replace hE8 := Ex.tr hE8 hx38
    replace hE11 := Ex.tr hE11 hx38
    replace hE13 := Ex.tr hE13 hx38
    replace hE17 := Ex.tr hE17 hx38
    replace hE21 := Ex.tr hE21 hx38
    replace hE25 := Ex.tr hE25 hx38
    replace hE28 := Ex.tr hE28 hx38
    replace hE33 := Ex.tr hE33 hx38
    replace hE35 := Ex.tr hE35 hx38
    replace hE37 := Ex.tr hE37 hx38
    have hE39 := hx38
    refine RG.call rfl rfl rfl rfl rfl rfl rfl en_68 (rsum_ret _ _ _ _ _ ((hR.ext hE6)) ((hrh38.rdl encN_len)) (by omega) (by omega) (by exact hRe) (by exact el_shl _ _ _)) ?_
    have hpre40 := (Ex.tr hR3 hxwl4)
    rintro vrs40 w40 ⟨hrs40, hx40⟩
    replace hxwl4 := Ex.tr hxwl4 hx40
    replace hE6 := Ex.tr hE6 hx40
    replace hE8 := Ex.tr hE8 hx40
    replace hE11 := Ex.tr hE11 hx40
    replace hE13 := Ex.tr hE13 hx40
    replace hE17 := Ex.tr hE17 hx40
    replace hE21 := Ex.tr hE21 hx40
    replace hE25 := Ex.tr hE25 hx40
    replace hE28 := Ex.tr hE28 hx40
    replace hE33 := Ex.tr hE33 hx40
    replace hE35 := Ex.tr hE35 hx40
    replace hE37 := Ex.tr hE37 hx40
    replace hE39 := Ex.tr hE39 hx40
    have hE41 := hx40
    refine RG.vl rfl rfl rfl (Ev.assign rfl rfl) ?_
    refine RG.done ?_
    refine QW.sub (S' := [(1, _), (4, _), (5, _), (6, _), (7, _)]) ⟨rfl, rfl, rfl, rfl, rfl, trivial⟩ ?_
    refine QW.blockN ?_
    refine QW.round4 (_) (_) (_) (_) ⟨rfl, rfl, trivial⟩ ⟨rfl, rfl, rfl, trivial⟩ ⟨⟨hst, (Own.ext hrs36 hE39).rdl encN_len, hrs40.rdl encN_len⟩, hxwl4⟩ (hstl)
  · refine CW.exit ?_
    refine QW.thenExit ?_
    refine QW.thenExit ?_
    refine QW.blockHit ?_
    refine QW.then_ ?_
    refine CW.seq ?_
    refine CW.region ?_
    refine RG.vl rfl rfl rfl (Ev.move rfl rfl) ?_
    refine RG.vl rfl rfl rfl (Ev.move rfl rfl) ?_
    refine RG.vl rfl rfl rfl (Ev.assign rfl rfl) ?_
    refine RG.vl rfl rfl rfl (Ev.assign rfl rfl) ?_
    refine RG.done ?_
    refine QW.then_ ?_
    refine CW.ret ?_
    refine QW.ret2 rfl rfl rfl ?_
    have hB := (Ex.tr hR3 hxwl4)
    exact ⟨_, _, D, R, rfl, (hD.ext hE6), (hR.ext hE6), rdv_end hdv (by omega), hdv.dt, hdv.rt, hdv.de, hdv.re, hB⟩

set_option maxRecDepth 100000 in
set_option maxHeartbeats 1000000 in
theorem rword_ret (u : Value) (l : List Nat) (w : World) (hl : RdL w 1 encN u l) (hlen : l.length ≤ 100000) :
    Ret Try.prog 26 [u] w (fun v w' => v = .bool (isW l) ∧ Ex w w') := by
  have hB0 : Ex w w := Ex.rfl_ _
  refine Ret.of Try.func26 rfl Try.ntmps26 rfl ?_
  refine CW.seq ?_
  refine CW.region ?_
  refine RG.vl rfl rfl rfl (Ev.assign rfl rfl) ?_
  refine RG.done ?_
  refine QW.then_ ?_
  refine CW.seq ?_
  refine CW.seq ?_
  refine CW.region ?_
  refine RG.vl rfl rfl rfl (Ev.move rfl rfl) ?_
  refine RG.vl rfl rfl rfl (Ev.lenL rfl rfl rfl Try.underlying22 (hl)) ?_
  refine RG.vl rfl rfl rfl (Ev.lss rfl rfl rfl) ?_
  refine RG.vl rfl rfl rfl (Ev.move rfl rfl) ?_
  refine RG.split (d := 7) rfl (fun hg1 => ?_) (fun hg1 => ?_)
  · refine RG.pass rfl rfl rfl ?_
    refine RG.pass rfl rfl rfl ?_
    refine RG.pass rfl rfl rfl ?_
    refine RG.vl rfl rfl rfl (Ev.pickT rfl rfl rfl) ?_
    refine RG.done ?_
    refine QW.then_ ?_
    refine CW.condT rfl ?_
    refine CW.seq ?_
    refine CW.region ?_
    refine RG.vl rfl rfl rfl (Ev.assign rfl rfl) ?_
    refine RG.done ?_
    refine QW.then_ ?_
    refine CW.ret ?_
    refine QW.thenRet ?_
    refine QW.ret1 rfl rfl ?_
    have hB := hB0
    refine ⟨congrArg Value.bool ?_, hB⟩
    rw [eq_comm, Bool.eq_false_iff]
    intro h
    obtain ⟨h1, h2, h3⟩ := isW_iff.1 h
    omega
  · refine RG.vl rfl rfl rfl (Ev.move rfl rfl) ?_
    refine RG.vl rfl rfl rfl (Ev.lenL rfl rfl rfl Try.underlying22 (hl)) ?_
    refine RG.vl rfl rfl rfl (Ev.gtr rfl rfl rfl) ?_
    refine RG.vl rfl rfl rfl (Ev.pickF rfl rfl rfl) ?_
    refine RG.done ?_
    refine QW.then_ ?_
    refine CW.condP rfl (fun hc2 => ?_) (fun hc2 => ?_)
    · refine CW.seq ?_
      refine CW.region ?_
      refine RG.vl rfl rfl rfl (Ev.assign rfl rfl) ?_
      refine RG.done ?_
      refine QW.then_ ?_
      refine CW.ret ?_
      refine QW.thenRet ?_
      refine QW.ret1 rfl rfl ?_
      have hB := hB0
      refine ⟨congrArg Value.bool ?_, hB⟩
      rw [eq_comm, Bool.eq_false_iff]
      intro h
      obtain ⟨h1, h2, h3⟩ := isW_iff.1 h
      omega
    · refine CW.skip ?_
      refine QW.then_ ?_
      refine CW.seq ?_
      refine CW.seq ?_
      refine CW.region ?_
      refine RG.vl rfl rfl rfl (Ev.assign rfl rfl) ?_
      refine RG.done ?_
      refine QW.then_ ?_
      refine CW.block ?_
      refine CW.loop1 [(0, _)] ⟨rfl, trivial⟩ (fun (i : Nat) => [(3, .int .i64 i)]) (fun i w' => (i ≤ l.length ∧ ∀ j a, j < i → l[j]? = some a → a < 64) ∧ Ex w w') (fun i => l.length - i) (0) ⟨rfl, trivial⟩ ⟨⟨Nat.zero_le _, fun j a h => absurd h (by omega)⟩, hB0⟩ ?_
      rintro i wl3 ⟨⟨hi, hall⟩, hxwl3⟩
      refine CW.sub (S' := [(3, _), (0, _)]) ⟨rfl, rfl, trivial⟩ ?_
      refine CW.seq ?_
      refine CW.seq ?_
      refine CW.region ?_
      refine RG.vl rfl rfl rfl (Ev.move rfl rfl) ?_
      refine RG.vl rfl rfl rfl (Ev.move rfl rfl) ?_
      refine RG.vl rfl rfl rfl (Ev.lenL rfl rfl rfl Try.underlying22 ((hl.ext hxwl3))) ?_
      refine RG.vl rfl rfl rfl (Ev.lss rfl rfl rfl) ?_
      refine RG.done ?_
      refine QW.then_ ?_
      refine CW.condP rfl (fun hc4 => ?_) (fun hc4 => ?_)
      · refine CW.skip ?_
        refine QW.then_ ?_
        refine CW.seq ?_
        refine CW.block ?_
        refine CW.seq ?_
        obtain ⟨c, hc⟩ : ∃ c, l[i]? = some c := ⟨_, List.getElem?_eq_getElem (by omega)⟩
        refine CW.region ?_
        refine RG.vl rfl rfl rfl (Ev.move rfl rfl) ?_
        refine RG.vl rfl rfl rfl (Ev.move rfl rfl) ?_
        refine RG.idxL rfl rfl rfl rfl rfl rfl Try.underlying22 sz_5 ((hl.ext hxwl3)) (hc) (fun p5 hp5b hp5 => ?_)
        refine RG.vl rfl rfl rfl (Ev.ld0 rfl rfl Try.underlying5 rfl (hp5) (rfl)) ?_
        refine RG.vl rfl rfl rfl (Ev.gtr rfl rfl rfl) ?_
        refine RG.done ?_
        refine QW.then_ ?_
        refine CW.condP rfl (fun hc6 => ?_) (fun hc6 => ?_)
        · refine CW.seq ?_
          refine CW.region ?_
          refine RG.vl rfl rfl rfl (Ev.assign rfl rfl) ?_
          refine RG.done ?_
          refine QW.then_ ?_
          refine CW.ret ?_
          refine QW.blockR ?_
          refine QW.thenRet ?_
          refine QW.thenRet ?_
          refine QW.blockR ?_
          refine QW.thenRet ?_
          refine QW.ret1 rfl rfl ?_
          have hB := (Ex.tr hB0 hxwl3)
          refine ⟨congrArg Value.bool ?_, hB⟩
          rw [eq_comm, Bool.eq_false_iff]
          intro h
          obtain ⟨h1, h2, h3⟩ := isW_iff.1 h
          have := h3 c (List.mem_of_getElem? hc)
          omega
        · refine CW.skip ?_
          refine QW.blockN ?_
          refine QW.then_ ?_
          refine CW.region ?_
          refine RG.vl rfl rfl rfl (Ev.move rfl rfl) ?_
          refine RG.vl rfl rfl rfl (Ev.addI rfl rfl rfl (by omega)) ?_
          refine RG.vl rfl rfl rfl (Ev.assign rfl rfl) ?_
          refine RG.done ?_
          refine QW.round1 (i + 1) ⟨rfl, trivial⟩ ⟨rfl, trivial⟩ ⟨⟨by omega, el_step hc (by omega) hall⟩, (Ex.tr hB0 hxwl3)⟩ (by omega)
      · refine CW.exit ?_
        refine QW.thenExit ?_
        refine QW.thenExit ?_
        refine QW.blockHit ?_
        refine QW.then_ ?_
        refine CW.seq ?_
        refine CW.region ?_
        refine RG.vl rfl rfl rfl (Ev.assign rfl rfl) ?_
        refine RG.done ?_
        refine QW.then_ ?_
        refine CW.ret ?_
        refine QW.ret1 rfl rfl ?_
        have hB := (Ex.tr hB0 hxwl3)
        refine ⟨congrArg Value.bool ?_, hB⟩
        rw [eq_comm, isW_iff]
        exact ⟨by omega, by omega, el_of (by omega) hall⟩

set_option maxRecDepth 100000 in
set_option maxHeartbeats 2000000 in
theorem rsynd_ret (u : Value) (l : List Nat) (w : World) (hl : RdL w 1 encN u l) (hlen : l.length ≤ 100000) (hel : El l) :
    Ret Try.prog 27 [u] w (fun v w' => Own w' w.heap.size 5 1 encN v (syL l) ∧ Ex w w') := by
  have hB0 : Ex w w := Ex.rfl_ _
  refine Ret.of Try.func27 rfl Try.ntmps27 rfl ?_
  refine CW.seq ?_
  refine CW.region ?_
  refine RG.vl rfl rfl rfl (Ev.assign rfl rfl) ?_
  refine RG.done ?_
  refine QW.then_ ?_
  refine CW.seq ?_
  refine CW.region ?_
  refine RG.vl rfl rfl rfl (Ev.assign rfl rfl) ?_
  refine RG.done ?_
  refine QW.then_ ?_
  refine CW.seq ?_
  refine CW.seq ?_
  refine CW.region ?_
  refine RG.vl rfl rfl rfl (Ev.assign rfl rfl) ?_
  refine RG.done ?_
  refine QW.then_ ?_
  refine CW.block ?_
  refine CW.loop2 [(0, _), (2, _)] ⟨rfl, rfl, trivial⟩ (fun (j : Nat) (u3 : Value) => [(4, .int .i64 ((j : Int) + 1)), (3, u3)]) (fun j u3 w' => (j ≤ 4 ∧ Own w' w.heap.size 5 1 encN u3 ((syL l).take j)) ∧ Ex w w') (fun j u3 => 4 - j) (0) (.slice none 0 0) ⟨rfl, rfl, trivial⟩ ⟨⟨Nat.zero_le _, Own.nil_ _ _ _ _ _⟩, hB0⟩ ?_
  rintro j u3 wl1 ⟨⟨hj, hou⟩, hxwl1⟩
  refine CW.sub (S' := [(4, _), (3, _), (0, _), (2, _)]) ⟨rfl, rfl, rfl, rfl, trivial⟩ ?_
  have hll : ((syL l).take j).length ≤ 4 := by rw [List.length_take]; show min j 4 ≤ 4; omega
  refine CW.seq ?_
  refine CW.seq ?_
  refine CW.region ?_
  refine RG.vl rfl rfl rfl (Ev.move rfl rfl) ?_
  refine RG.vl rfl rfl rfl (Ev.leq rfl rfl rfl) ?_
  refine RG.done ?_
  refine QW.then_ ?_
  refine CW.condP rfl (fun hc2 => ?_) (fun hc2 => ?_)
  · refine CW.skip ?_
    refine QW.then_ ?_
    refine CW.seq ?_
    refine CW.block ?_
    refine CW.seq ?_
    have hpl := pw_lt (j + 1) (by omega)
    refine CW.region ?_
    refine RG.vl rfl rfl rfl (Ev.move rfl rfl) ?_
    refine RG.call rfl rfl rfl rfl rfl rfl rfl en_45 ((by have k := rpow_ret 2 (j + 1) wl1 (by omega) (by omega); rw [gp_two _ (by omega)] at k; exact k)) ?_
    rintro _ w3 ⟨rfl, hx3⟩
    replace hxwl1 := Ex.tr hxwl1 hx3
    have hE4 := hx3
    refine RG.vl rfl rfl rfl (Ev.assign rfl rfl) ?_
    refine RG.vl rfl rfl rfl (Ev.assign rfl rfl) ?_
    refine RG.done ?_
    refine QW.then_ ?_
    refine CW.seq ?_
    refine CW.seq ?_
    refine CW.region ?_
    refine RG.vl rfl rfl rfl (Ev.assign rfl rfl) ?_
    refine RG.done ?_
    refine QW.then_ ?_
    refine CW.block ?_
    refine CW.loop1 [(0, _), (2, _), (3, _), (4, _), (6, _)] ⟨rfl, rfl, rfl, rfl, rfl, trivial⟩ (fun (i : Nat) => [(7, .int .i64 i), (5, .int .u8 (evl (l.take i).reverse (pw (j + 1)) : Nat))]) (fun i w' => (i ≤ l.length ∧ Own w' w.heap.size 5 1 encN u3 ((syL l).take j)) ∧ Ex w w') (fun i => l.length - i) (0) ⟨rfl, rfl, trivial⟩ ⟨⟨Nat.zero_le _, (Own.ext hou hE4)⟩, (Ex.tr hB0 hxwl1)⟩ ?_
    rintro i wl5 ⟨⟨hi, hou⟩, hxwl5⟩
    refine CW.sub (S' := [(7, _), (5, _), (0, _), (2, _), (3, _), (4, _), (6, _)]) ⟨rfl, rfl, rfl, rfl, rfl, rfl, rfl, trivial⟩ ?_
    refine CW.seq ?_
    refine CW.seq ?_
    refine CW.region ?_
    refine RG.vl rfl rfl rfl (Ev.move rfl rfl) ?_
    refine RG.vl rfl rfl rfl (Ev.move rfl rfl) ?_
    refine RG.vl rfl rfl rfl (Ev.lenL rfl rfl rfl Try.underlying22 ((hl.ext hxwl5))) ?_
    refine RG.vl rfl rfl rfl (Ev.lss rfl rfl rfl) ?_
    refine RG.done ?_
    refine QW.then_ ?_
    refine CW.condP rfl (fun hc6 => ?_) (fun hc6 => ?_)
    · refine CW.skip ?_
      refine QW.then_ ?_
      refine CW.seq ?_
      refine CW.block ?_
      have hc : l[i]? = some (cf l i) := getElem?_cf (by omega)
      have hc64 := hel.cf i
      have hv64 : evl (l.take i).reverse (pw (j + 1)) < 64 := evl_lt _ _ ((hel.take i).rev)
      have hg64 := gm_lt (evl (l.take i).reverse (pw (j + 1))) (pw (j + 1))
      have hst := syn_step (l := l) (i := i) (x := pw (j + 1)) (by omega)
      refine CW.draw [] (.ex) 9 rfl mixed (fun wd7 hxwd7 => ?_)
      replace hxwl5 := Ex.tr hxwl5 hxwd7
      have hE8 := hxwd7
      refine AG.takeW 0 rfl (by kernel_rfl) (by kernel_rfl) rfl rfl rfl (fun _ => Ev.move rfl rfl) ?_
      refine AG.takeW 1 rfl (by kernel_rfl) (by kernel_rfl) rfl rfl rfl (fun _ => Ev.move rfl rfl) ?_
      refine AG.takeW 3 rfl (by kernel_rfl) (by kernel_rfl) rfl rfl rfl (fun _ => Ev.move rfl rfl) ?_
      refine AG.takeW 4 rfl (by kernel_rfl) (by kernel_rfl) rfl rfl rfl (fun _ => Ev.move rfl rfl) ?_
      refine AG.idxL _ 5 rfl (by kernel_rfl) (by kernel_rfl) rfl rfl rfl rfl rfl rfl Try.underlying22 sz_5 ((hl.ext hxwl5)) (hc) (fun p9 hp9b hp9 => ?_)
      refine AG.take 6 rfl (by kernel_rfl) (by kernel_rfl) rfl rfl rfl (fun wq hq => Ev.ld0 rfl rfl Try.underlying5 rfl (hp9.ext hq hp9b) (rfl)) ?_
      refine AG.only 2 rfl (by kernel_rfl) ?_
      refine RG.call rfl rfl rfl rfl rfl rfl rfl en_46 (rmul_ret _ _ _ (by exact hv64) (by exact hpl.2)) ?_
      rintro _ w11 ⟨rfl, hx11⟩
      replace hxwl5 := Ex.tr hxwl5 hx11
      replace hE8 := Ex.tr hE8 hx11
      have hE12 := hx11
      refine RG.done ?_
      refine QW.an (fun _ => hE12) ?_
      refine AG.takeW 7 rfl (by kernel_rfl) (by kernel_rfl) rfl rfl rfl (fun _ => (Ev.xor8 rfl rfl rfl (by omega) (by omega)).conv (congrArg (fun n : Nat => Value.int .u8 (n : Int)) hst.symm)) ?_
      refine AG.takeW 8 rfl (by kernel_rfl) (by kernel_rfl) rfl rfl rfl (fun _ => Ev.assign rfl rfl) ?_
      refine AG.done (by kernel_rfl) ?_
      refine QW.blockN ?_
      refine QW.then_ ?_
      refine CW.region ?_
      refine RG.vl rfl rfl rfl (Ev.move rfl rfl) ?_
      refine RG.vl rfl rfl rfl (Ev.addI rfl rfl rfl (by omega)) ?_
      refine RG.vl rfl rfl rfl (Ev.assign rfl rfl) ?_
      refine RG.done ?_
      refine QW.sub (S' := [(0, _), (2, _), (3, _), (4, _), (5, _), (6, _), (7, _)]) ⟨rfl, rfl, rfl, rfl, rfl, rfl, rfl, trivial⟩ ?_
      refine QW.round1 (i + 1) ⟨rfl, rfl, trivial⟩ ⟨rfl, rfl, rfl, rfl, rfl, trivial⟩ ⟨⟨by omega, (Own.ext hou hE8)⟩, (Ex.tr hB0 hxwl5)⟩ (by omega)
    · refine CW.exit ?_
      refine QW.thenExit ?_
      refine QW.thenExit ?_
      refine QW.blockHit ?_
      refine QW.then_ ?_
      obtain rfl : i = l.length := by omega
      have hsy : evl (l.take l.length).reverse (pw (j + 1)) = sy l j := by rw [List.take_length]; rfl
      refine CW.region ?_
      refine RG.vl rfl rfl rfl (Ev.move rfl rfl) ?_
      refine RG.vl rfl rfl rfl ((Ev.move rfl rfl).conv (congrArg (fun n : Nat => Value.int .u8 (n : Int)) hsy)) ?_
      refine RG.litO (os := [.tmp 29]) (enc := encN) ([sy l j]) rfl rfl rfl rfl rfl rfl rfl Try.underlying22 inf_5 rfl rfl rfl rfl rfl encN_len rfl rfl (fun v13 wk14 hxwk14 hown15 hnew16 => ?_)
      have hsep17 : Sep v13 _ := Sep.of_new hou hnew16
      replace hxwl5 := Ex.tr hxwl5 hxwk14
      have hE18 := hxwk14
      refine RG.appO rfl rfl rfl rfl rfl rfl rfl Try.underlying22 inf_5 rfl rfl encN_len (fun _ => rfl) (Own.ext hou hE18) ((hown15.rdl encN_len)) (by show _ + 1 ≤ maxLen; simp only [maxLen]; omega) (by show (_ + 1) * _ ≤ _; omega) (hxwl5.size) (fun v19 wa20 hown21 hgr22 hat23 => ?_)
      have hsep25 := Sep.app (Sep.symm hsep17) hown15 hat23
      have hown24 := Own.grown hown15 hgr22 (fun k a b => (Sep.symm hsep17) k b a)
      replace hxwl5 := own_block (Own.ext hou hE18) hxwl5 hgr22 (Nat.le_refl _) hxwl5.size
      refine RG.vl rfl rfl rfl (Ev.assign rfl rfl) ?_
      refine RG.done ?_
      refine QW.blockN ?_
      refine QW.then_ ?_
      refine CW.region ?_
      refine RG.vl rfl rfl rfl (Ev.move rfl rfl) ?_
      refine RG.vl rfl rfl rfl (Ev.addI rfl rfl rfl (by omega)) ?_
      refine RG.vl rfl rfl rfl (Ev.assign rfl rfl) ?_
      refine RG.done ?_
      refine QW.round2 (j + 1) (v19) ⟨rfl, rfl, trivial⟩ ⟨rfl, rfl, trivial⟩ ⟨⟨by omega, by rw [syL_more l (by omega)]; exact hown21⟩, (Ex.tr hB0 hxwl5)⟩ (by omega)
  · refine CW.exit ?_
    refine QW.thenExit ?_
    refine QW.thenExit ?_
    refine QW.blockHit ?_
    refine QW.then_ ?_
    refine CW.seq ?_
    refine CW.region ?_
    refine RG.vl rfl rfl rfl (Ev.move rfl rfl) ?_
    refine RG.vl rfl rfl rfl (Ev.assign rfl rfl) ?_
    refine RG.done ?_
    refine QW.then_ ?_
    refine CW.ret ?_
    refine QW.ret1 rfl rfl ?_
    have hB := (Ex.tr hB0 hxwl1)
    obtain rfl : j = 4 := by omega
    exact ⟨hou, hB⟩

set_option maxRecDepth 100000 in
set_option maxHeartbeats 1000000 in
theorem rvalid_ret (u : Value) (l : List Nat) (w : World) (hl : RdL w 1 encN u l) (hlen : l.length ≤ 100000) :
    Ret Try.prog 28 [u] w (fun v w' => v = .bool (vldB l) ∧ Ex w w') := by
  have hB0 : Ex w w := Ex.rfl_ _
  refine Ret.of Try.func28 rfl Try.ntmps28 rfl ?_
  refine CW.seq ?_
  refine CW.region ?_
  refine RG.vl rfl rfl rfl (Ev.assign rfl rfl) ?_
  refine RG.done ?_
  refine QW.then_ ?_
  refine CW.seq ?_
  refine CW.seq ?_
  refine CW.region ?_
  refine RG.vl rfl rfl rfl (Ev.move rfl rfl) ?_
  refine RG.call rfl rfl rfl rfl rfl rfl rfl en_26 (rword_ret _ _ _ (hl) (by omega)) ?_
  rintro _ w1 ⟨rfl, hx1⟩
  have hE2 := hx1
  refine RG.vl rfl rfl rfl (Ev.not rfl rfl) ?_
  refine RG.done ?_
  refine QW.then_ ?_
  refine CW.cond rfl (fun hc3 => ?_) (fun hc3 => ?_)
  · refine CW.seq ?_
    refine CW.region ?_
    refine RG.vl rfl rfl rfl (Ev.assign rfl rfl) ?_
    refine RG.done ?_
    refine QW.then_ ?_
    refine CW.ret ?_
    refine QW.thenRet ?_
    refine QW.ret1 rfl rfl ?_
    have hB := (Ex.tr hB0 hE2)
    rw [isW_no (by simpa using (by assumption : (!isW l) = true))]
    exact ⟨rfl, hB⟩
  · refine CW.skip ?_
    refine QW.then_ ?_
    refine CW.seq ?_
    have hyes : isW l = true := by simpa using (by assumption : (!isW l) = false)
    obtain ⟨hw1, hw2, hel⟩ := isW_iff.1 hyes
    have hs4 : (syL l).length = 4 := rfl
    refine CW.region ?_
    refine RG.vl rfl rfl rfl (Ev.move rfl rfl) ?_
    refine RG.call rfl rfl rfl rfl rfl rfl rfl en_27 (rsynd_ret _ _ _ ((hl.ext hE2)) (by omega) (by exact hel)) ?_
    have hpre4 := (Ex.tr hB0 hE2)
    rintro rs4 w4 ⟨hrs4, hx4⟩
    replace hE2 := Ex.tr hE2 hx4
    have hE5 := hx4
    refine RG.vl rfl rfl rfl (Ev.assign rfl rfl) ?_
    refine RG.done ?_
    refine QW.then_ ?_
    refine CW.seq ?_
    refine CW.region ?_
    refine RG.vl rfl rfl rfl (Ev.move rfl rfl) ?_
    refine RG.idxO (i := 0) rfl rfl rfl rfl rfl rfl Try.underlying22 sz_5 encN_len (hrs4) (syL_at l (k := 0) (by decide)) (fun g7 hg7 hBg7 hp6b hp6 => ?_)
    refine RG.vl rfl rfl rfl (Ev.ld0 rfl rfl Try.underlying5 rfl (hp6) (rfl)) ?_
    refine RG.vl rfl rfl rfl (Ev.eqI rfl rfl rfl) ?_
    refine RG.vl rfl rfl rfl (Ev.move rfl rfl) ?_
    refine RG.split (d := 13) rfl (fun hg8 => ?_) (fun hg8 => ?_)
    · refine RG.vl rfl rfl rfl (Ev.move rfl rfl) ?_
      refine RG.idxO (i := 1) rfl rfl rfl rfl rfl rfl Try.underlying22 sz_5 encN_len (hrs4) (syL_at l (k := 1) (by decide)) (fun g10 hg10 hBg10 hp9b hp9 => ?_)
      refine RG.vl rfl rfl rfl (Ev.ld0 rfl rfl Try.underlying5 rfl (hp9) (rfl)) ?_
      refine RG.vl rfl rfl rfl (Ev.eqI rfl rfl rfl) ?_
      refine RG.vl rfl rfl rfl (Ev.pickT rfl rfl rfl) ?_
      refine RG.vl rfl rfl rfl (Ev.move rfl rfl) ?_
      refine RG.split (d := 19) rfl (fun hg11 => ?_) (fun hg11 => ?_)
      · refine RG.vl rfl rfl rfl (Ev.move rfl rfl) ?_
        refine RG.idxO (i := 2) rfl rfl rfl rfl rfl rfl Try.underlying22 sz_5 encN_len (hrs4) (syL_at l (k := 2) (by decide)) (fun g13 hg13 hBg13 hp12b hp12 => ?_)
        refine RG.vl rfl rfl rfl (Ev.ld0 rfl rfl Try.underlying5 rfl (hp12) (rfl)) ?_
        refine RG.vl rfl rfl rfl (Ev.eqI rfl rfl rfl) ?_
        refine RG.vl rfl rfl rfl (Ev.pickT rfl rfl rfl) ?_
        refine RG.vl rfl rfl rfl (Ev.move rfl rfl) ?_
        refine RG.split (d := 25) rfl (fun hg14 => ?_) (fun hg14 => ?_)
        · refine RG.vl rfl rfl rfl (Ev.move rfl rfl) ?_
          refine RG.idxO (i := 3) rfl rfl rfl rfl rfl rfl Try.underlying22 sz_5 encN_len (hrs4) (syL_at l (k := 3) (by decide)) (fun g16 hg16 hBg16 hp15b hp15 => ?_)
          refine RG.vl rfl rfl rfl (Ev.ld0 rfl rfl Try.underlying5 rfl (hp15) (rfl)) ?_
          refine RG.vl rfl rfl rfl (Ev.eqI rfl rfl rfl) ?_
          refine RG.vl rfl rfl rfl (Ev.pickT rfl rfl rfl) ?_
          refine RG.vl rfl rfl rfl (Ev.assign rfl rfl) ?_
          refine RG.done ?_
          refine QW.sub (S' := [(2, _)]) ⟨rfl, trivial⟩ ?_
          refine QW.then_ ?_
          refine CW.ret ?_
          refine QW.ret1 rfl rfl ?_
          have hB := (Ex.tr hB0 hE2)
          first | exact ⟨congrArg Value.bool (vldD hyes (by omega) (by omega) (by omega)), hB⟩ | exact ⟨congrArg Value.bool (vldF fun _ => by omega), hB⟩
        · refine RG.pass rfl rfl rfl ?_
          refine RG.pass rfl rfl rfl ?_
          refine RG.pass rfl rfl rfl ?_
          refine RG.pass rfl rfl rfl ?_
          refine RG.vl rfl rfl rfl (Ev.pickF rfl rfl rfl) ?_
          refine RG.vl rfl rfl rfl (Ev.assign rfl rfl) ?_
          refine RG.done ?_
          refine QW.sub (S' := [(2, _)]) ⟨rfl, trivial⟩ ?_
          refine QW.then_ ?_
          refine CW.ret ?_
          refine QW.ret1 rfl rfl ?_
          have hB := (Ex.tr hB0 hE2)
          first | exact ⟨congrArg Value.bool (vldD hyes (by omega) (by omega) (by omega)), hB⟩ | exact ⟨congrArg Value.bool (vldF fun _ => by omega), hB⟩
      · refine RG.pass rfl rfl rfl ?_
        refine RG.pass rfl rfl rfl ?_
        refine RG.pass rfl rfl rfl ?_
        refine RG.pass rfl rfl rfl ?_
        refine RG.vl rfl rfl rfl (Ev.pickF rfl rfl rfl) ?_
        refine RG.vl rfl rfl rfl (Ev.move rfl rfl) ?_
        refine RG.pass rfl rfl rfl ?_
        refine RG.pass rfl rfl rfl ?_
        refine RG.pass rfl rfl rfl ?_
        refine RG.pass rfl rfl rfl ?_
        refine RG.vl rfl rfl rfl (Ev.pickF rfl rfl rfl) ?_
        refine RG.vl rfl rfl rfl (Ev.assign rfl rfl) ?_
        refine RG.done ?_
        refine QW.sub (S' := [(2, _)]) ⟨rfl, trivial⟩ ?_
        refine QW.then_ ?_
        refine CW.ret ?_
        refine QW.ret1 rfl rfl ?_
        have hB := (Ex.tr hB0 hE2)
        first | exact ⟨congrArg Value.bool (vldD hyes (by omega) (by omega) (by omega)), hB⟩ | exact ⟨congrArg Value.bool (vldF fun _ => by omega), hB⟩
    · refine RG.pass rfl rfl rfl ?_
      refine RG.pass rfl rfl rfl ?_
      refine RG.pass rfl rfl rfl ?_
      refine RG.pass rfl rfl rfl ?_
      refine RG.vl rfl rfl rfl (Ev.pickF rfl rfl rfl) ?_
      refine RG.vl rfl rfl rfl (Ev.move rfl rfl) ?_
      refine RG.pass rfl rfl rfl ?_
      refine RG.pass rfl rfl rfl ?_
      refine RG.pass rfl rfl rfl ?_
      refine RG.pass rfl rfl rfl ?_
      refine RG.vl rfl rfl rfl (Ev.pickF rfl rfl rfl) ?_
      refine RG.vl rfl rfl rfl (Ev.move rfl rfl) ?_
      refine RG.pass rfl rfl rfl ?_
      refine RG.pass rfl rfl rfl ?_
      refine RG.pass rfl rfl rfl ?_
      refine RG.pass rfl rfl rfl ?_
      refine RG.vl rfl rfl rfl (Ev.pickF rfl rfl rfl) ?_
      refine RG.vl rfl rfl rfl (Ev.assign rfl rfl) ?_
      refine RG.done ?_
      refine QW.sub (S' := [(2, _)]) ⟨rfl, trivial⟩ ?_
      refine QW.then_ ?_
      refine CW.ret ?_
      refine QW.ret1 rfl rfl ?_
      have hB := (Ex.tr hB0 hE2)
      first | exact ⟨congrArg Value.bool (vldD hyes (by omega) (by omega) (by omega)), hB⟩ | exact ⟨congrArg Value.bool (vldF fun _ => by omega), hB⟩

set_option maxRecDepth 100000 in
set_option maxHeartbeats 4000000 in
theorem rencode_ret (u : Value) (l : List Nat) (w : World) (hl : RdL w 1 encN u l) (hlen : l.length ≤ 59) (hel : El l) :
    Ret Try.prog 29 [u] w (fun v w' => ∃ c, Own w' w.heap.size 5 1 encN v c ∧ IsEnc l c ∧ Ex w w') := by
  have hB0 : Ex w w := Ex.rfl_ _
  refine Ret.of Try.func29 rfl Try.ntmps29 rfl ?_
  refine CW.seq ?_
  refine CW.region ?_
  refine RG.vl rfl rfl rfl (Ev.assign rfl rfl) ?_
  refine RG.done ?_
  refine QW.then_ ?_
  refine CW.seq ?_
  refine CW.region ?_
  refine RG.litO (os := [_]) (enc := encN) ([1]) rfl rfl rfl rfl rfl rfl rfl Try.underlying22 inf_5 rfl rfl rfl rfl rfl encN_len rfl rfl (fun v1 wk2 hxwk2 hown3 hnew4 => ?_)
  have hE5 := hxwk2
  refine RG.vl rfl rfl rfl (Ev.assign rfl rfl) ?_
  refine RG.done ?_
  refine QW.then_ ?_
  refine CW.seq ?_
  refine CW.seq ?_
  refine CW.region ?_
  refine RG.vl rfl rfl rfl (Ev.assign rfl rfl) ?_
  refine RG.done ?_
  refine QW.then_ ?_
  refine CW.block ?_
  refine CW.loop2 [(0, _), (2, _)] ⟨rfl, rfl, trivial⟩ (fun (j : Nat) (ug : Value) => [(4, .int .i64 ((j : Int) + 1)), (3, ug)]) (fun j ug w' => (j ≤ 4 ∧ RdL w' 1 encN ug (genL j)) ∧ Ex w w') (fun j ug => 4 - j) (0) (v1) ⟨rfl, rfl, trivial⟩ ⟨⟨Nat.zero_le _, hown3.rdl encN_len⟩, (Ex.tr hB0 hE5)⟩ ?_
  rintro j ug wl6 ⟨⟨hj, hG⟩, hxwl6⟩
  refine CW.sub (S' := [(4, _), (3, _), (0, _), (2, _)]) ⟨rfl, rfl, rfl, rfl, trivial⟩ ?_
  obtain ⟨hGe, hGl⟩ := genL_ok hj
  refine CW.seq ?_
  refine CW.seq ?_
  refine CW.region ?_
  refine RG.vl rfl rfl rfl (Ev.move rfl rfl) ?_
  refine RG.vl rfl rfl rfl (Ev.leq rfl rfl rfl) ?_
  refine RG.done ?_
  refine QW.then_ ?_
  refine CW.condP rfl (fun hc7 => ?_) (fun hc7 => ?_)
  · refine CW.skip ?_
    refine QW.then_ ?_
    refine CW.seq ?_
    refine CW.block ?_
    have hpl := pw_lt (j + 1) (by omega)
    have h2l : [pw (j + 1), 1].length = 2 := rfl
    have hP2 : El [pw (j + 1), 1] := el2 hpl.2 (by omega)
    refine CW.region ?_
    refine RG.vl rfl rfl rfl (Ev.move rfl rfl) ?_
    refine RG.vl rfl rfl rfl (Ev.move rfl rfl) ?_
    refine RG.call rfl rfl rfl rfl rfl rfl rfl en_45 ((by have k := rpow_ret 2 (j + 1) wl6 (by omega) (by omega); rw [gp_two _ (by omega)] at k; exact k)) ?_
    rintro _ w8 ⟨rfl, hx8⟩
    replace hxwl6 := Ex.tr hxwl6 hx8
    have hE9 := hx8
    refine RG.litO (os := [.tmp 19, _]) (enc := encN) ([pw (j + 1), 1]) rfl rfl rfl rfl rfl rfl rfl Try.underlying22 inf_5 rfl rfl rfl rfl rfl encN_len rfl rfl (fun v10 wk11 hxwk11 hown12 hnew13 => ?_)
    replace hxwl6 := Ex.tr hxwl6 hxwk11
    replace hE9 := Ex.tr hE9 hxwk11
    have hE14 := hxwk11
    refine RG.call rfl rfl rfl rfl rfl rfl rfl en_47 (rprod_ret _ _ _ _ _ ((hG.ext hE9)) ((hown12.rdl encN_len)) (by omega) (by omega) (by exact hGe) (by exact hP2)) ?_
    have hpre15 := (Ex.tr hB0 hxwl6)
    rintro vrp15 w15 ⟨hrp15, hx15⟩
    replace hxwl6 := Ex.tr hxwl6 hx15
    replace hE9 := Ex.tr hE9 hx15
    replace hE14 := Ex.tr hE14 hx15
    have hE16 := hx15
    refine RG.vl rfl rfl rfl (Ev.assign rfl rfl) ?_
    refine RG.done ?_
    refine QW.blockN ?_
    refine QW.then_ ?_
    refine CW.region ?_
    refine RG.vl rfl rfl rfl (Ev.move rfl rfl) ?_
    refine RG.vl rfl rfl rfl (Ev.addI rfl rfl rfl (by omega)) ?_
    refine RG.vl rfl rfl rfl (Ev.assign rfl rfl) ?_
    refine RG.done ?_
    refine QW.round2 (j + 1) (vrp15) ⟨rfl, rfl, trivial⟩ ⟨rfl, rfl, trivial⟩ ⟨⟨by omega, hrp15.rdl encN_len⟩, (Ex.tr hB0 hxwl6)⟩ (by omega)
  · refine CW.exit ?_
    refine QW.thenExit ?_
    refine QW.thenExit ?_
    refine QW.blockHit ?_
    refine QW.then_ ?_
    refine CW.seq ?_
    refine CW.region ?_
    replace hl := (hl.ext hxwl6)
    have hR21 := (Ex.tr hB0 hxwl6)
    refine RG.makeO (m := 4) (enc := encN) 0 rfl rfl rfl rfl rfl rfl (rfl) Try.underlying22 inf_5 encN_len rfl rfl (by omega) (by simp only [maxLen]; omega) (fun v17 wk18 hxwk18 hown19 hnew20 => ?_)
    have hE22 := hxwk18
    refine RG.vl rfl rfl rfl (Ev.assign rfl rfl) ?_
    refine RG.done ?_
    refine QW.then_ ?_
    refine CW.seq ?_
    refine CW.seq ?_
    refine CW.region ?_
    refine RG.vl rfl rfl rfl (Ev.move rfl rfl) ?_
    refine RG.vl rfl rfl rfl (Ev.lenL rfl rfl rfl Try.underlying22 ((hl.ext hE22))) ?_
    refine RG.vl rfl rfl rfl (Ev.subI rfl rfl rfl (by omega)) ?_
    refine RG.vl rfl rfl rfl (Ev.assign rfl rfl) ?_
    refine RG.done ?_
    refine QW.then_ ?_
    refine CW.block ?_
    obtain rfl : j = 4 := by omega
    refine CW.loop2 [(0, _), (2, _), (3, _)] ⟨rfl, rfl, rfl, trivial⟩ (fun (k1 : Nat) (up : Value) => [(6, .int .i64 ((k1 : Int) - 1)), (5, up)]) (fun k1 up w' => (k1 ≤ l.length ∧ Own w' wl6.heap.size 5 1 encN up (rvD l k1)) ∧ Ex wl6 w') (fun k1 up => k1) (l.length) (v17) ⟨rfl, rfl, trivial⟩ ⟨⟨Nat.le_refl _, by rw [← rvD_start]; exact hown19⟩, hE22⟩ ?_
    rintro k1 up wl23 ⟨⟨hk1, hop⟩, hxwl23⟩
    refine CW.sub (S' := [(6, _), (5, _), (0, _), (2, _), (3, _)]) ⟨rfl, rfl, rfl, rfl, rfl, trivial⟩ ?_
    refine CW.seq ?_
    refine CW.seq ?_
    refine CW.region ?_
    refine RG.vl rfl rfl rfl (Ev.move rfl rfl) ?_
    refine RG.vl rfl rfl rfl (Ev.geq rfl rfl rfl) ?_
    refine RG.done ?_
    refine QW.then_ ?_
    refine CW.condP rfl (fun hc24 => ?_) (fun hc24 => ?_)
    · refine CW.skip ?_
      refine QW.then_ ?_
      refine CW.seq ?_
      refine CW.block ?_
      obtain ⟨k, rfl⟩ : ∃ k, k1 = k + 1 := ⟨k1 - 1, by omega⟩
      have hc : l[k]? = some (cf l k) := getElem?_cf (by omega)
      have hrl := rvD_len l (k + 1)
      refine CW.region ?_
      refine RG.vl rfl rfl rfl (Ev.move rfl rfl) ?_
      refine RG.vl rfl rfl rfl (Ev.move rfl rfl) ?_
      refine RG.vl rfl rfl rfl ((Ev.move rfl rfl).conv (congrArg (Value.int .i64) (show ((k + 1 : Nat) : Int) - 1 = (k : Int) by omega))) ?_
      refine RG.idxL rfl rfl rfl rfl rfl rfl Try.underlying22 sz_5 ((hl.ext hxwl23)) (hc) (fun p25 hp25b hp25 => ?_)
      refine RG.vl rfl rfl rfl (Ev.ld0 rfl rfl Try.underlying5 rfl (hp25) (rfl)) ?_
      refine RG.litO (os := [.tmp 34]) (enc := encN) ([cf l k]) rfl rfl rfl rfl rfl rfl rfl Try.underlying22 inf_5 rfl rfl rfl rfl rfl encN_len rfl rfl (fun v26 wk27 hxwk27 hown28 hnew29 => ?_)
      replace hxwl23 := Ex.tr hxwl23 hxwk27
      have hE30 := hxwk27
      refine RG.appO rfl rfl rfl rfl rfl rfl rfl Try.underlying22 inf_5 rfl rfl encN_len (fun _ => rfl) (Own.ext hop hE30) ((hown28.rdl encN_len)) (by show _ + 1 ≤ maxLen; simp only [maxLen]; omega) (by show (_ + 1) * _ ≤ _; omega) (hxwl23.size) (fun v31 wa32 hown33 hgr34 hat35 => ?_)
      replace hxwl23 := own_block (Own.ext hop hE30) hxwl23 hgr34 (Nat.le_refl _) hxwl23.size
      refine RG.vl rfl rfl rfl (Ev.assign rfl rfl) ?_
      refine RG.done ?_
      refine QW.blockN ?_
      refine QW.then_ ?_
      refine CW.region ?_
      refine RG.vl rfl rfl rfl (Ev.move rfl rfl) ?_
      refine RG.vl rfl rfl rfl (Ev.subI rfl rfl rfl (by omega)) ?_
      refine RG.vl rfl rfl rfl (Ev.assign rfl rfl) ?_
      refine RG.done ?_
      refine QW.round2 (k) (v31) ⟨congrArg (fun x => some (Value.int .i64 x)) (show ((k + 1 : Nat) : Int) - 1 - 1 = (k : Int) - 1 by omega), rfl, trivial⟩ ⟨rfl, rfl, rfl, trivial⟩ ⟨⟨by omega, by rw [← rvD_more (by omega)]; exact hown33⟩, hxwl23⟩ (by omega)
    · refine CW.exit ?_
      refine QW.thenExit ?_
      refine QW.thenExit ?_
      refine QW.blockHit ?_
      refine QW.then_ ?_
      refine CW.seq ?_
      rw [genL_four] at hG
      have hg5 : gen5.length = 5 := rfl
      obtain rfl : k1 = 0 := by omega
      have hrl := rvD_len l 0
      have hrE := rvD_el hel 0
      refine CW.region ?_
      refine RG.vl rfl rfl rfl (Ev.move rfl rfl) ?_
      refine RG.vl rfl rfl rfl (Ev.move rfl rfl) ?_
      refine RG.call rfl rfl rfl rfl rfl rfl rfl en_48 (rdiv_ret _ _ _ _ _ ((hop.rdl encN_len)) ((hG.ext hxwl23)) (by omega) (by omega) (by exact hrE) (by exact gen5_el) (by rw [gen5_dg]; omega)) ?_
      rintro _ w36 ⟨r136, r236, d36, e36, rfl, hod36, hoe36, hdv36, hdt36, het36, hde36, hee36, hx36⟩
      replace hxwl23 := Ex.tr hxwl23 hx36
      have hE37 := hx36
      refine RG.vl rfl rfl rfl (Ev.move rfl rfl) ?_
      refine RG.vl rfl rfl rfl (Ev.extract rfl rfl rfl) ?_
      refine RG.vl rfl rfl rfl (Ev.extract rfl rfl rfl) ?_
      refine RG.vl rfl rfl rfl (Ev.assign rfl rfl) ?_
      refine RG.vl rfl rfl rfl (Ev.assign rfl rfl) ?_
      refine RG.done ?_
      refine QW.then_ ?_
      refine CW.seq ?_
      rw [rvD_end] at hdv36
      obtain ⟨hr4, henc⟩ := enc_end hel hde36 hee36 hdv36 het36
      have hin : Ex w w36 := (Ex.tr hR21 hxwl23)
      refine CW.region ?_
      replace hl := (hl.ext hxwl23)
      replace hG := (hG.ext hxwl23)
      replace hop := (Own.ext hop hE37)
      have hR42 := (Ex.tr hR21 hxwl23)
      have hR43 := hxwl23
      have hR44 := hE37
      refine RG.build0O (enc := encN) rfl rfl rfl rfl rfl Try.underlying22 sz_5 (fun v38 wk39 hxwk39 hown40 hnew41 => ?_)
      have hE45 := hxwk39
      refine RG.vl rfl rfl rfl (Ev.move rfl rfl) ?_
      refine RG.appO rfl rfl rfl rfl rfl rfl rfl Try.underlying22 inf_5 rfl rfl encN_len (fun _ => rfl) hown40 ((hl.ext hE45)) (by show 0 + _ ≤ maxLen; simp only [maxLen]; omega) (by show (0 + _) * _ ≤ _; omega) (hE45.size) (fun v46 wa47 hown48 hgr49 hat50 => ?_)
      replace hE45 := own_block hown40 hE45 hgr49 (Nat.le_refl _) hE45.size
      refine RG.vl rfl rfl rfl (Ev.assign rfl rfl) ?_
      refine RG.done ?_
      refine QW.sub (S' := [(2, _), (8, _), (9, _)]) ⟨rfl, rfl, rfl, trivial⟩ ?_
      refine QW.then_ ?_
      refine CW.seq ?_
      refine CW.seq ?_
      refine CW.region ?_
      refine RG.vl rfl rfl rfl (Ev.assign rfl rfl) ?_
      refine RG.done ?_
      refine QW.then_ ?_
      refine CW.block ?_
      refine CW.loop2 [(2, _), (8, _)] ⟨rfl, rfl, trivial⟩ (fun (k2 : Nat) (u9 : Value) => [(10, .int .i64 ((k2 : Int) - 1)), (9, u9)]) (fun k2 u9 w' => (k2 ≤ 4 ∧ Own w' w36.heap.size 5 1 encN u9 (ckD l e36 k2)) ∧ Ex w36 w') (fun k2 u9 => k2) (4) (v46) ⟨rfl, rfl, trivial⟩ ⟨⟨Nat.le_refl _, by rw [ckD_start]; exact hown48⟩, hE45⟩ ?_
      rintro k2 u9 wl51 ⟨⟨hk2, ho9⟩, hxwl51⟩
      refine CW.sub (S' := [(10, _), (9, _), (2, _), (8, _)]) ⟨rfl, rfl, rfl, rfl, trivial⟩ ?_
      refine CW.seq ?_
      refine CW.seq ?_
      refine CW.region ?_
      refine RG.vl rfl rfl rfl (Ev.move rfl rfl) ?_
      refine RG.vl rfl rfl rfl (Ev.geq rfl rfl rfl) ?_
      refine RG.done ?_
      refine QW.then_ ?_
      refine CW.condP rfl (fun hc52 => ?_) (fun hc52 => ?_)
      · refine CW.skip ?_
        refine QW.then_ ?_
        refine CW.seq ?_
        refine CW.block ?_
        refine CW.seq ?_
        obtain ⟨k, rfl⟩ : ∃ k, k2 = k + 1 := ⟨k2 - 1, by omega⟩
        have hck := ckD_len l e36 (k + 1)
        refine CW.region ?_
        refine RG.vl rfl rfl rfl (Ev.assign rfl rfl) ?_
        refine RG.done ?_
        refine QW.then_ ?_
        refine CW.seq ?_
        refine CW.seq ?_
        refine CW.region ?_
        refine RG.vl rfl rfl rfl (Ev.move rfl rfl) ?_
        refine RG.vl rfl rfl rfl (Ev.move rfl rfl) ?_
        refine RG.vl rfl rfl rfl (Ev.lenL rfl rfl rfl Try.underlying22 ((hoe36.ext hxwl51))) ?_
        refine RG.vl rfl rfl rfl (Ev.lss rfl rfl rfl) ?_
        refine RG.done ?_
        refine QW.then_ ?_
        refine CW.condP rfl (fun hc53 => ?_) (fun hc53 => ?_)
        · refine CW.region ?_
          refine RG.vl rfl rfl rfl (Ev.move rfl rfl) ?_
          refine RG.vl rfl rfl rfl ((Ev.move rfl rfl).conv (congrArg (Value.int .i64) (show ((k + 1 : Nat) : Int) - 1 = (k : Int) by omega))) ?_
          refine RG.idxL rfl rfl rfl rfl rfl rfl Try.underlying22 sz_5 ((hoe36.ext hxwl51)) (getElem?_cf (show k < _ by omega)) (fun p54 hp54b hp54 => ?_)
          refine RG.vl rfl rfl rfl (Ev.ld0 rfl rfl Try.underlying5 rfl (hp54) (rfl)) ?_
          refine RG.vl rfl rfl rfl (Ev.assign rfl rfl) ?_
          refine RG.done ?_
          refine QW.then_ ?_
          refine CW.region ?_
          refine RG.vl rfl rfl rfl (Ev.move rfl rfl) ?_
          refine RG.vl rfl rfl rfl (Ev.move rfl rfl) ?_
          refine RG.litO (os := [.tmp 59]) (enc := encN) ([cf e36 k]) rfl rfl rfl rfl rfl rfl rfl Try.underlying22 inf_5 rfl rfl rfl rfl rfl encN_len rfl rfl (fun v55 wk56 hxwk56 hown57 hnew58 => ?_)
          replace hxwl51 := Ex.tr hxwl51 hxwk56
          have hE59 := hxwk56
          refine RG.appO rfl rfl rfl rfl rfl rfl rfl Try.underlying22 inf_5 rfl rfl encN_len (fun _ => rfl) (Own.ext ho9 hE59) ((hown57.rdl encN_len)) (by show _ + 1 ≤ maxLen; simp only [maxLen]; omega) (by show (_ + 1) * _ ≤ _; omega) (hxwl51.size) (fun v60 wa61 hown62 hgr63 hat64 => ?_)
          replace hxwl51 := own_block (Own.ext ho9 hE59) hxwl51 hgr63 (Nat.le_refl _) hxwl51.size
          refine RG.vl rfl rfl rfl (Ev.assign rfl rfl) ?_
          refine RG.done ?_
          refine QW.sub (S' := [(2, _), (8, _), (9, _), (10, _)]) ⟨rfl, rfl, rfl, rfl, trivial⟩ ?_
          refine QW.blockN ?_
          refine QW.then_ ?_
          refine CW.region ?_
          refine RG.vl rfl rfl rfl (Ev.move rfl rfl) ?_
          refine RG.vl rfl rfl rfl (Ev.subI rfl rfl rfl (by omega)) ?_
          refine RG.vl rfl rfl rfl (Ev.assign rfl rfl) ?_
          refine RG.done ?_
          refine QW.round2 (k) (v60) ⟨congrArg (fun x => some (Value.int .i64 x)) (show ((k + 1 : Nat) : Int) - 1 - 1 = (k : Int) - 1 by omega), rfl, trivial⟩ ⟨rfl, rfl, trivial⟩ ⟨⟨by omega, by rw [← ckD_more (by omega)]; exact hown62⟩, hxwl51⟩ (by omega)
        · refine CW.skip ?_
          refine QW.then_ ?_
          have hz : cf e36 k = 0 := cf_none (by omega)
          refine CW.region ?_
          refine RG.vl rfl rfl rfl (Ev.move rfl rfl) ?_
          refine RG.vl rfl rfl rfl (Ev.move rfl rfl) ?_
          refine RG.litO (os := [.tmp 59]) (enc := encN) ([0]) rfl rfl rfl rfl rfl rfl rfl Try.underlying22 inf_5 rfl rfl rfl rfl rfl encN_len rfl rfl (fun v65 wk66 hxwk66 hown67 hnew68 => ?_)
          replace hxwl51 := Ex.tr hxwl51 hxwk66
          have hE69 := hxwk66
          refine RG.appO rfl rfl rfl rfl rfl rfl rfl Try.underlying22 inf_5 rfl rfl encN_len (fun _ => rfl) (Own.ext ho9 hE69) ((hown67.rdl encN_len)) (by show _ + 1 ≤ maxLen; simp only [maxLen]; omega) (by show (_ + 1) * _ ≤ _; omega) (hxwl51.size) (fun v70 wa71 hown72 hgr73 hat74 => ?_)
          replace hxwl51 := own_block (Own.ext ho9 hE69) hxwl51 hgr73 (Nat.le_refl _) hxwl51.size
          refine RG.vl rfl rfl rfl (Ev.assign rfl rfl) ?_
          refine RG.done ?_
          refine QW.blockN ?_
          refine QW.then_ ?_
          refine CW.region ?_
          refine RG.vl rfl rfl rfl (Ev.move rfl rfl) ?_
          refine RG.vl rfl rfl rfl (Ev.subI rfl rfl rfl (by omega)) ?_
          refine RG.vl rfl rfl rfl (Ev.assign rfl rfl) ?_
          refine RG.done ?_
          refine QW.sub (S' := [(2, _), (8, _), (9, _), (10, _)]) ⟨rfl, rfl, rfl, rfl, trivial⟩ ?_
          refine QW.round2 (k) (v70) ⟨congrArg (fun x => some (Value.int .i64 x)) (show ((k + 1 : Nat) : Int) - 1 - 1 = (k : Int) - 1 by omega), rfl, trivial⟩ ⟨rfl, rfl, trivial⟩ ⟨⟨by omega, by rw [← ckD_more (by omega), hz]; exact hown72⟩, hxwl51⟩ (by omega)
      · refine CW.exit ?_
        refine QW.thenExit ?_
        refine QW.thenExit ?_
        refine QW.blockHit ?_
        refine QW.then_ ?_
        refine CW.seq ?_
        refine CW.region ?_
        refine RG.vl rfl rfl rfl (Ev.move rfl rfl) ?_
        refine RG.vl rfl rfl rfl (Ev.assign rfl rfl) ?_
        refine RG.done ?_
        refine QW.then_ ?_
        refine CW.ret ?_
        refine QW.ret1 rfl rfl ?_
        have hB := (Ex.tr hR42 hxwl51)
        obtain rfl : k2 = 0 := by omega
        exact ⟨_, ho9.low (by have := hin.size; omega), by rw [ckD_end]; exact henc, hB⟩

end Go.Proofs.Ytjhgihgggofocaa

