/- Walks (SR). Written by program. -/
import Derived.Test.YtjhgihgggofocaaT
import Derived.Test.YtjhgihgggofocaaSQ
import Derived.Test.YtjhgihgggofocaaLX
namespace Go.Proofs.Ytjhgihgggofocaa
open Go.RowKit
set_option maxRecDepth 100000 in
set_option maxHeartbeats 1000000 in
theorem sameB_ret (u v : Value) (l m : List Nat) (w : World) (hl : RdL w 1 encN u l) (hm : RdL w 1 encN v m) (hlen : l.length ≤ 100000) :
    Ret Try.prog 19 [u, v] w (fun v w' => v = .bool (decide (l = m)) ∧ Ex w w') := by
  have hB0 : Ex w w := Ex.rfl_ _
  refine Ret.of Try.func19 rfl Try.ntmps19 rfl ?_
  refine CW.seq ?_
  refine CW.region ?_
  refine RG.vl rfl rfl rfl (Ev.assign rfl rfl) ?_
  refine RG.done ?_
  refine QW.then_ ?_
  refine CW.seq ?_
  refine CW.seq ?_
  refine CW.region ?_
  refine RG.vl rfl rfl rfl (Ev.move rfl rfl) ?_
  refine RG.vl rfl rfl rfl (Ev.lenL rfl rfl rfl Try.underlying22 (hl)) ?_
  refine RG.vl rfl rfl rfl (Ev.move rfl rfl) ?_
  refine RG.vl rfl rfl rfl (Ev.lenL rfl rfl rfl Try.underlying22 (hm)) ?_
  refine RG.vl rfl rfl rfl (Ev.neI rfl rfl rfl) ?_
  refine RG.done ?_
  refine QW.then_ ?_
  refine CW.condP rfl (fun hc1 => ?_) (fun hc1 => ?_)
  · refine CW.seq ?_
    refine CW.region ?_
    refine RG.vl rfl rfl rfl (Ev.assign rfl rfl) ?_
    refine RG.done ?_
    refine QW.then_ ?_
    refine CW.ret ?_
    refine QW.thenRet ?_
    refine QW.ret1 rfl rfl ?_
    have hB := hB0
    refine ⟨congrArg Value.bool ?_, hB⟩; rw [eq_comm, decide_eq_false_iff_not]; rintro rfl; omega
  · refine CW.skip ?_
    refine QW.then_ ?_
    refine CW.seq ?_
    refine CW.seq ?_
    refine CW.region ?_
    refine RG.vl rfl rfl rfl (Ev.assign rfl rfl) ?_
    refine RG.done ?_
    refine QW.then_ ?_
    refine CW.block ?_
    refine CW.loop1 [(0, _), (1, _)] ⟨rfl, rfl, trivial⟩ (fun (k : Nat) => [(5, .int .i64 k)]) (fun k w' => (k ≤ l.length ∧ ∀ j, j < k → l[j]? = m[j]?) ∧ Ex w w') (fun k => l.length - k) (0) ⟨rfl, trivial⟩ ⟨⟨Nat.zero_le _, fun j h => absurd h (by omega)⟩, hB0⟩ ?_
    rintro k wl2 ⟨⟨hkl, heq⟩, hxwl2⟩
    refine CW.sub (S' := [(5, _), (0, _), (1, _)]) ⟨rfl, rfl, rfl, trivial⟩ ?_
    refine CW.seq ?_
    refine CW.seq ?_
    refine CW.region ?_
    refine RG.vl rfl rfl rfl (Ev.move rfl rfl) ?_
    refine RG.vl rfl rfl rfl (Ev.move rfl rfl) ?_
    refine RG.vl rfl rfl rfl (Ev.lenL rfl rfl rfl Try.underlying22 ((hl.ext hxwl2))) ?_
    refine RG.vl rfl rfl rfl (Ev.lss rfl rfl rfl) ?_
    refine RG.done ?_
    refine QW.then_ ?_
    refine CW.condP rfl (fun hc3 => ?_) (fun hc3 => ?_)
    · refine CW.skip ?_
      refine QW.then_ ?_
      refine CW.seq ?_
      refine CW.block ?_
      refine CW.seq ?_
      obtain ⟨b, hk⟩ : ∃ b, l[k]? = some b := ⟨_, List.getElem?_eq_getElem (by omega)⟩
      obtain ⟨c, hk2⟩ : ∃ c, m[k]? = some c := ⟨_, List.getElem?_eq_getElem (by omega)⟩
      refine CW.draw [] (.ex) 9 rfl mixed (fun wd4 hxwd4 => ?_)
      replace hxwl2 := Ex.tr hxwl2 hxwd4
      have hE5 := hxwd4
      refine AG.takeW 0 rfl (by kernel_rfl) (by kernel_rfl) rfl rfl rfl (fun _ => Ev.move rfl rfl) ?_
      refine AG.takeW 1 rfl (by kernel_rfl) (by kernel_rfl) rfl rfl rfl (fun _ => Ev.move rfl rfl) ?_
      refine AG.idxL _ 2 rfl (by kernel_rfl) (by kernel_rfl) rfl rfl rfl rfl rfl rfl Try.underlying22 sz_5 ((hl.ext hxwl2)) (hk) (fun p6 hp6b hp6 => ?_)
      refine AG.take 3 rfl (by kernel_rfl) (by kernel_rfl) rfl rfl rfl (fun wq hq => Ev.ld0 rfl rfl Try.underlying5 rfl (hp6.ext hq hp6b) (rfl)) ?_
      refine AG.takeW 4 rfl (by kernel_rfl) (by kernel_rfl) rfl rfl rfl (fun _ => Ev.move rfl rfl) ?_
      refine AG.takeW 5 rfl (by kernel_rfl) (by kernel_rfl) rfl rfl rfl (fun _ => Ev.move rfl rfl) ?_
      refine AG.idxL _ 6 rfl (by kernel_rfl) (by kernel_rfl) rfl rfl rfl rfl rfl rfl Try.underlying22 sz_5 ((hm.ext hxwl2)) (hk2) (fun p7 hp7b hp7 => ?_)
      refine AG.take 7 rfl (by kernel_rfl) (by kernel_rfl) rfl rfl rfl (fun wq hq => Ev.ld0 rfl rfl Try.underlying5 rfl (hp7.ext hq hp7b) (rfl)) ?_
      refine AG.takeW 8 rfl (by kernel_rfl) (by kernel_rfl) rfl rfl rfl (fun _ => Ev.neI rfl rfl rfl) ?_
      refine AG.done (by kernel_rfl) ?_
      refine QW.then_ ?_
      refine CW.condP rfl (fun hc8 => ?_) (fun hc8 => ?_)
      · refine CW.seq ?_
        refine CW.region ?_
        refine RG.vl rfl rfl rfl (Ev.assign rfl rfl) ?_
        refine RG.done ?_
        refine QW.sub (S' := [(0, _), (1, _), (4, _), (5, _)]) ⟨rfl, rfl, rfl, rfl, trivial⟩ ?_
        refine QW.then_ ?_
        refine CW.ret ?_
        refine QW.blockR ?_
        refine QW.thenRet ?_
        refine QW.thenRet ?_
        refine QW.blockR ?_
        refine QW.thenRet ?_
        refine QW.ret1 rfl rfl ?_
        have hB := (Ex.tr hB0 hxwl2)
        refine ⟨congrArg Value.bool ?_, hB⟩; rw [eq_comm, decide_eq_false_iff_not]; rintro rfl; rw [hk] at hk2; injection hk2 with hk2; subst hk2; omega
      · refine CW.skip ?_
        refine QW.blockN ?_
        refine QW.then_ ?_
        refine CW.region ?_
        refine RG.vl rfl rfl rfl (Ev.move rfl rfl) ?_
        refine RG.vl rfl rfl rfl (Ev.addI rfl rfl rfl (by omega)) ?_
        refine RG.vl rfl rfl rfl (Ev.assign rfl rfl) ?_
        refine RG.done ?_
        refine QW.sub (S' := [(0, _), (1, _), (5, _)]) ⟨rfl, rfl, rfl, trivial⟩ ?_
        refine QW.round1 (k + 1) ⟨rfl, trivial⟩ ⟨rfl, rfl, trivial⟩ ⟨⟨by omega, fun j hj => by rcases Nat.lt_or_ge j k with h | h; exact heq j h; obtain rfl : j = k := (by omega); rw [hk, hk2]; congr 1; omega⟩, (Ex.tr hB0 hxwl2)⟩ (by omega)
    · refine CW.exit ?_
      refine QW.thenExit ?_
      refine QW.thenExit ?_
      refine QW.blockHit ?_
      refine QW.then_ ?_
      refine CW.seq ?_
      refine CW.region ?_
      refine RG.vl rfl rfl rfl (Ev.assign rfl rfl) ?_
      refine RG.done ?_
      refine QW.then_ ?_
      refine CW.ret ?_
      refine QW.ret1 rfl rfl ?_
      have hB := (Ex.tr hB0 hxwl2)
      refine ⟨congrArg Value.bool ?_, hB⟩; rw [eq_comm, decide_eq_true_iff]; refine List.ext_getElem? fun j => ?_; rcases Nat.lt_or_ge j l.length with h | h; exact heq j (by omega); rw [List.getElem?_eq_none h, List.getElem?_eq_none (by omega)]

set_option maxRecDepth 100000 in
set_option maxHeartbeats 1000000 in
theorem sameI_ret (u v : Value) (l m : List Nat) (w : World) (hl : RdL w 1 encZ u l) (hm : RdL w 1 encZ v m) (hlen : l.length ≤ 100000) :
    Ret Try.prog 20 [u, v] w (fun v w' => v = .bool (decide (l = m)) ∧ Ex w w') := by
  have hB0 : Ex w w := Ex.rfl_ _
  refine Ret.of Try.func20 rfl Try.ntmps20 rfl ?_
  refine CW.seq ?_
  refine CW.region ?_
  refine RG.vl rfl rfl rfl (Ev.assign rfl rfl) ?_
  refine RG.done ?_
  refine QW.then_ ?_
  refine CW.seq ?_
  refine CW.seq ?_
  refine CW.region ?_
  refine RG.vl rfl rfl rfl (Ev.move rfl rfl) ?_
  refine RG.vl rfl rfl rfl (Ev.lenL rfl rfl rfl Try.underlying23 (hl)) ?_
  refine RG.vl rfl rfl rfl (Ev.move rfl rfl) ?_
  refine RG.vl rfl rfl rfl (Ev.lenL rfl rfl rfl Try.underlying23 (hm)) ?_
  refine RG.vl rfl rfl rfl (Ev.neI rfl rfl rfl) ?_
  refine RG.done ?_
  refine QW.then_ ?_
  refine CW.condP rfl (fun hc1 => ?_) (fun hc1 => ?_)
  · refine CW.seq ?_
    refine CW.region ?_
    refine RG.vl rfl rfl rfl (Ev.assign rfl rfl) ?_
    refine RG.done ?_
    refine QW.then_ ?_
    refine CW.ret ?_
    refine QW.thenRet ?_
    refine QW.ret1 rfl rfl ?_
    have hB := hB0
    refine ⟨congrArg Value.bool ?_, hB⟩; rw [eq_comm, decide_eq_false_iff_not]; rintro rfl; omega
  · refine CW.skip ?_
    refine QW.then_ ?_
    refine CW.seq ?_
    refine CW.seq ?_
    refine CW.region ?_
    refine RG.vl rfl rfl rfl (Ev.assign rfl rfl) ?_
    refine RG.done ?_
    refine QW.then_ ?_
    refine CW.block ?_
    refine CW.loop1 [(0, _), (1, _)] ⟨rfl, rfl, trivial⟩ (fun (k : Nat) => [(5, .int .i64 k)]) (fun k w' => (k ≤ l.length ∧ ∀ j, j < k → l[j]? = m[j]?) ∧ Ex w w') (fun k => l.length - k) (0) ⟨rfl, trivial⟩ ⟨⟨Nat.zero_le _, fun j h => absurd h (by omega)⟩, hB0⟩ ?_
    rintro k wl2 ⟨⟨hkl, heq⟩, hxwl2⟩
    refine CW.sub (S' := [(5, _), (0, _), (1, _)]) ⟨rfl, rfl, rfl, trivial⟩ ?_
    refine CW.seq ?_
    refine CW.seq ?_
    refine CW.region ?_
    refine RG.vl rfl rfl rfl (Ev.move rfl rfl) ?_
    refine RG.vl rfl rfl rfl (Ev.move rfl rfl) ?_
    refine RG.vl rfl rfl rfl (Ev.lenL rfl rfl rfl Try.underlying23 ((hl.ext hxwl2))) ?_
    refine RG.vl rfl rfl rfl (Ev.lss rfl rfl rfl) ?_
    refine RG.done ?_
    refine QW.then_ ?_
    refine CW.condP rfl (fun hc3 => ?_) (fun hc3 => ?_)
    · refine CW.skip ?_
      refine QW.then_ ?_
      refine CW.seq ?_
      refine CW.block ?_
      refine CW.seq ?_
      obtain ⟨b, hk⟩ : ∃ b, l[k]? = some b := ⟨_, List.getElem?_eq_getElem (by omega)⟩
      obtain ⟨c, hk2⟩ : ∃ c, m[k]? = some c := ⟨_, List.getElem?_eq_getElem (by omega)⟩
      refine CW.draw [] (.ex) 9 rfl mixed (fun wd4 hxwd4 => ?_)
      replace hxwl2 := Ex.tr hxwl2 hxwd4
      have hE5 := hxwd4
      refine AG.takeW 0 rfl (by kernel_rfl) (by kernel_rfl) rfl rfl rfl (fun _ => Ev.move rfl rfl) ?_
      refine AG.takeW 1 rfl (by kernel_rfl) (by kernel_rfl) rfl rfl rfl (fun _ => Ev.move rfl rfl) ?_
      refine AG.idxL _ 2 rfl (by kernel_rfl) (by kernel_rfl) rfl rfl rfl rfl rfl rfl Try.underlying23 sz_3 ((hl.ext hxwl2)) (hk) (fun p6 hp6b hp6 => ?_)
      refine AG.take 3 rfl (by kernel_rfl) (by kernel_rfl) rfl rfl rfl (fun wq hq => Ev.ld0 rfl rfl Try.underlying3 rfl (hp6.ext hq hp6b) (rfl)) ?_
      refine AG.takeW 4 rfl (by kernel_rfl) (by kernel_rfl) rfl rfl rfl (fun _ => Ev.move rfl rfl) ?_
      refine AG.takeW 5 rfl (by kernel_rfl) (by kernel_rfl) rfl rfl rfl (fun _ => Ev.move rfl rfl) ?_
      refine AG.idxL _ 6 rfl (by kernel_rfl) (by kernel_rfl) rfl rfl rfl rfl rfl rfl Try.underlying23 sz_3 ((hm.ext hxwl2)) (hk2) (fun p7 hp7b hp7 => ?_)
      refine AG.take 7 rfl (by kernel_rfl) (by kernel_rfl) rfl rfl rfl (fun wq hq => Ev.ld0 rfl rfl Try.underlying3 rfl (hp7.ext hq hp7b) (rfl)) ?_
      refine AG.takeW 8 rfl (by kernel_rfl) (by kernel_rfl) rfl rfl rfl (fun _ => Ev.neI rfl rfl rfl) ?_
      refine AG.done (by kernel_rfl) ?_
      refine QW.then_ ?_
      refine CW.condP rfl (fun hc8 => ?_) (fun hc8 => ?_)
      · refine CW.seq ?_
        refine CW.region ?_
        refine RG.vl rfl rfl rfl (Ev.assign rfl rfl) ?_
        refine RG.done ?_
        refine QW.sub (S' := [(0, _), (1, _), (4, _), (5, _)]) ⟨rfl, rfl, rfl, rfl, trivial⟩ ?_
        refine QW.then_ ?_
        refine CW.ret ?_
        refine QW.blockR ?_
        refine QW.thenRet ?_
        refine QW.thenRet ?_
        refine QW.blockR ?_
        refine QW.thenRet ?_
        refine QW.ret1 rfl rfl ?_
        have hB := (Ex.tr hB0 hxwl2)
        refine ⟨congrArg Value.bool ?_, hB⟩; rw [eq_comm, decide_eq_false_iff_not]; rintro rfl; rw [hk] at hk2; injection hk2 with hk2; subst hk2; omega
      · refine CW.skip ?_
        refine QW.blockN ?_
        refine QW.then_ ?_
        refine CW.region ?_
        refine RG.vl rfl rfl rfl (Ev.move rfl rfl) ?_
        refine RG.vl rfl rfl rfl (Ev.addI rfl rfl rfl (by omega)) ?_
        refine RG.vl rfl rfl rfl (Ev.assign rfl rfl) ?_
        refine RG.done ?_
        refine QW.sub (S' := [(0, _), (1, _), (5, _)]) ⟨rfl, rfl, rfl, trivial⟩ ?_
        refine QW.round1 (k + 1) ⟨rfl, trivial⟩ ⟨rfl, rfl, trivial⟩ ⟨⟨by omega, fun j hj => by rcases Nat.lt_or_ge j k with h | h; exact heq j h; obtain rfl : j = k := (by omega); rw [hk, hk2]; congr 1; omega⟩, (Ex.tr hB0 hxwl2)⟩ (by omega)
    · refine CW.exit ?_
      refine QW.thenExit ?_
      refine QW.thenExit ?_
      refine QW.blockHit ?_
      refine QW.then_ ?_
      refine CW.seq ?_
      refine CW.region ?_
      refine RG.vl rfl rfl rfl (Ev.assign rfl rfl) ?_
      refine RG.done ?_
      refine QW.then_ ?_
      refine CW.ret ?_
      refine QW.ret1 rfl rfl ?_
      have hB := (Ex.tr hB0 hxwl2)
      refine ⟨congrArg Value.bool ?_, hB⟩; rw [eq_comm, decide_eq_true_iff]; refine List.ext_getElem? fun j => ?_; rcases Nat.lt_or_ge j l.length with h | h; exact heq j (by omega); rw [List.getElem?_eq_none h, List.getElem?_eq_none (by omega)]

theorem sameBt_ret (u v : Value) (l : List Nat) (w : World) (hl : RdL w 1 encN u l) (hm : RdL w 1 encN v l) (hlen : l.length ≤ 100000) : Ret Try.prog 19 [u, v] w (fun v w' => v = .bool true ∧ Ex w w') := by
  have k := sameB_ret u v l l w hl hm hlen; rw [decide_eq_true (rfl : l = l)] at k; exact k
theorem sameIt_ret (u v : Value) (l : List Nat) (w : World) (hl : RdL w 1 encZ u l) (hm : RdL w 1 encZ v l) (hlen : l.length ≤ 100000) : Ret Try.prog 20 [u, v] w (fun v w' => v = .bool true ∧ Ex w w') := by
  have k := sameI_ret u v l l w hl hm hlen; rw [decide_eq_true (rfl : l = l)] at k; exact k

set_option maxRecDepth 100000 in
set_option maxHeartbeats 8000000 in
theorem awake_ret  (w : World)  :
    Ret Try.prog 10 [] w (fun v w' => v = .bool true ∧ Ex w w') := by
  have hB0 : Ex w w := Ex.rfl_ _
  refine Ret.of Try.func10 rfl Try.ntmps10 rfl ?_
  refine CW.seq ?_
  refine CW.region ?_
  refine RG.vl rfl rfl rfl (Ev.assign rfl rfl) ?_
  refine RG.done ?_
  refine QW.then_ ?_
  refine CW.seq ?_
  refine CW.region ?_
  refine RG.litO (os := [_]) (enc := encN) ([1]) rfl rfl rfl rfl rfl rfl rfl Try.underlying22 inf_5 rfl rfl rfl rfl rfl encN_len rfl rfl (fun v1 wk2 hxwk2 hown3 hnew4 => ?_)
  have hE5 := hxwk2
  refine RG.call rfl rfl rfl rfl rfl rfl rfl en_23 (enc_is _ _ [1] [1, 30, 29, 17, 48] ((hown3.rdl encN_len)) (by decide +kernel) good_code rfl) ?_
  have hpre6 := (Ex.tr hB0 hE5)
  rintro _ w6 ⟨re, rfl, hoen, hx6⟩
  replace hE5 := Ex.tr hE5 hx6
  have hE7 := hx6
  refine RG.vl rfl rfl rfl (Ev.move rfl rfl) ?_
  refine RG.vl rfl rfl rfl (Ev.extract rfl rfl rfl) ?_
  refine RG.vl rfl rfl rfl (Ev.extract rfl rfl rfl) ?_
  refine RG.vl rfl rfl rfl (Ev.assign rfl rfl) ?_
  refine RG.vl rfl rfl rfl (Ev.assign rfl rfl) ?_
  refine RG.done ?_
  refine QW.then_ ?_
  refine CW.seq ?_
  refine CW.region ?_
  refine RG.litO (os := [_, _, _, _, _]) (enc := encN) ([0, 0, 29, 17, 48]) rfl rfl rfl rfl rfl rfl rfl Try.underlying22 inf_5 rfl rfl rfl rfl rfl encN_len rfl rfl (fun v8 wk9 hxwk9 hown10 hnew11 => ?_)
  replace hE5 := Ex.tr hE5 hxwk9
  replace hE7 := Ex.tr hE7 hxwk9
  have hE12 := hxwk9
  refine RG.call rfl rfl rfl rfl rfl rfl rfl en_13 (dec_is _ _ _ [0, 0, 29, 17, 48] [] [1, 30, 29, 17, 48] [0, 1] (hown10.rdl encN_len) (RdL.nil_ _) (by decide +kernel) (by unfold okE; decide +kernel) (by decide) good_code (by decide +kernel) (by decide)) ?_
  have hpre13 := (Ex.tr hB0 hE5)
  rintro _ w13 ⟨A13, B13, C13, D13, rfl, hor13, hoe13, hx13⟩
  replace hE5 := Ex.tr hE5 hx13
  replace hE7 := Ex.tr hE7 hx13
  replace hE12 := Ex.tr hE12 hx13
  have hE14 := hx13
  refine RG.vl rfl rfl rfl (Ev.move rfl rfl) ?_
  refine RG.vl rfl rfl rfl (Ev.extract rfl rfl rfl) ?_
  refine RG.vl rfl rfl rfl (Ev.extract rfl rfl rfl) ?_
  refine RG.local_ rfl rfl rfl rfl (fun _ => rfl) rfl rfl (fun _ => rfl) inf_28 rfl rfl rfl (fun g15 w15 eg15 hx15 hb15 => ?_)
  have hsb16 := fun e => sep_new (g := g15) (Own.ext hown3 hE7) eg15 e
  have hsb17 := fun e => sep_new (g := g15) (Own.ext hoen hE12) eg15 e
  have hsb18 := fun e => sep_new (g := g15) (Own.ext hown10 hE14) eg15 e
  have hsb19 := fun e => sep_new (g := g15) hor13 eg15 e
  have hsb20 := fun e => sep_new (g := g15) hoe13 eg15 e
  have hle21 : w.heap.size ≤ g15 := by have := hE5.size; omega
  have hle22 : wk2.heap.size ≤ g15 := by have := hE7.size; omega
  have hle23 : w6.heap.size ≤ g15 := by have := hE12.size; omega
  have hle24 : wk9.heap.size ≤ g15 := by have := hE14.size; omega
  have hle25 : w13.heap.size ≤ g15 := by have := (Ex.rfl_ w13).size; omega
  replace hE5 := Ex.tr hE5 hx15
  replace hE7 := Ex.tr hE7 hx15
  replace hE12 := Ex.tr hE12 hx15
  replace hE14 := Ex.tr hE14 hx15
  have hE26 := hx15
  refine RG.vl rfl rfl rfl (Ev.assign rfl rfl) ?_
  refine RG.done ?_
  refine QW.sub (S' := [(0, _), (1, _), (2, _), (3, _), (4, _)]) ⟨rfl, rfl, rfl, rfl, rfl, trivial⟩ ?_
  refine QW.then_ ?_
  refine CW.seq ?_
  refine CW.region ?_
  refine RG.litO (os := [_, _, _, _, _]) (enc := encN) ([9, 9, 9, 9, 48]) rfl rfl rfl rfl rfl rfl rfl Try.underlying22 inf_5 rfl rfl rfl rfl rfl encN_len rfl rfl (fun v27 wk28 hxwk28 hown29 hnew30 => ?_)
  replace hE5 := Ex.tr hE5 hxwk28
  replace hE7 := Ex.tr hE7 hxwk28
  replace hE12 := Ex.tr hE12 hxwk28
  replace hE14 := Ex.tr hE14 hxwk28
  replace hE26 := Ex.tr hE26 hxwk28
  have hE31 := hxwk28
  refine RG.litO (os := [_, _, _, _]) (enc := encZ) ([0, 1, 2, 3]) rfl rfl rfl rfl rfl rfl rfl Try.underlying23 inf_3 rfl rfl rfl rfl rfl encZ_len rfl rfl (fun v32 wk33 hxwk33 hown34 hnew35 => ?_)
  replace hE5 := Ex.tr hE5 hxwk33
  replace hE7 := Ex.tr hE7 hxwk33
  replace hE12 := Ex.tr hE12 hxwk33
  replace hE14 := Ex.tr hE14 hxwk33
  replace hE26 := Ex.tr hE26 hxwk33
  replace hE31 := Ex.tr hE31 hxwk33
  have hE36 := hxwk33
  refine RG.call rfl rfl rfl rfl rfl rfl rfl en_13 (dec_is _ _ _ [9, 9, 9, 9, 48] (([0, 1, 2, 3] : List Nat).map (fun n : Nat => (n : Int))) [1, 30, 29, 17, 48] [] ((Own.ext hown29 hE36).rdl encN_len) ((rdl_i (hown34.rdl encZ_len))) (by decide +kernel) (by unfold okE; decide +kernel) (by decide) good_code (by decide +kernel) (by decide)) ?_
  have hpre37 := (Ex.tr hB0 hE5)
  rintro _ w37 ⟨A37, B37, C37, D37, rfl, hor37, hoe37, hx37⟩
  replace hE5 := Ex.tr hE5 hx37
  replace hE7 := Ex.tr hE7 hx37
  replace hE12 := Ex.tr hE12 hx37
  replace hE14 := Ex.tr hE14 hx37
  replace hE26 := Ex.tr hE26 hx37
  replace hE31 := Ex.tr hE31 hx37
  replace hE36 := Ex.tr hE36 hx37
  have hE38 := hx37
  refine RG.vl rfl rfl rfl (Ev.move rfl rfl) ?_
  refine RG.vl rfl rfl rfl (Ev.extract rfl rfl rfl) ?_
  refine RG.vl rfl rfl rfl (Ev.extract rfl rfl rfl) ?_
  refine RG.local_ rfl rfl rfl rfl (fun _ => rfl) rfl rfl (fun _ => rfl) inf_28 rfl rfl rfl (fun g39 w39 eg39 hx39 hb39 => ?_)
  have hsb40 := fun e => sep_new (g := g39) (Own.ext hown3 hE7) eg39 e
  have hsb41 := fun e => sep_new (g := g39) (Own.ext hoen hE12) eg39 e
  have hsb42 := fun e => sep_new (g := g39) (Own.ext hown10 hE14) eg39 e
  have hsb43 := fun e => sep_new (g := g39) (Own.ext hor13 hE26) eg39 e
  have hsb44 := fun e => sep_new (g := g39) (Own.ext hoe13 hE26) eg39 e
  have hsb45 := fun e => sep_new (g := g39) (Own.ext hown29 hE36) eg39 e
  have hsb46 := fun e => sep_new (g := g39) (Own.ext hown34 hE38) eg39 e
  have hsb47 := fun e => sep_new (g := g39) hor37 eg39 e
  have hsb48 := fun e => sep_new (g := g39) hoe37 eg39 e
  have hle49 : w.heap.size ≤ g39 := by have := hE5.size; omega
  have hle50 : wk2.heap.size ≤ g39 := by have := hE7.size; omega
  have hle51 : w6.heap.size ≤ g39 := by have := hE12.size; omega
  have hle52 : wk9.heap.size ≤ g39 := by have := hE14.size; omega
  have hle53 : w13.heap.size ≤ g39 := by have := hE26.size; omega
  have hle54 : w15.heap.size ≤ g39 := by have := hE31.size; omega
  have hle55 : wk28.heap.size ≤ g39 := by have := hE36.size; omega
  have hle56 : wk33.heap.size ≤ g39 := by have := hE38.size; omega
  have hle57 : w37.heap.size ≤ g39 := by have := (Ex.rfl_ w37).size; omega
  have hlt58 : g15 < g39 := by have := Blk.lt (hb15.ext hE31); omega
  replace hE5 := Ex.tr hE5 hx39
  replace hE7 := Ex.tr hE7 hx39
  replace hE12 := Ex.tr hE12 hx39
  replace hE14 := Ex.tr hE14 hx39
  replace hE26 := Ex.tr hE26 hx39
  replace hE31 := Ex.tr hE31 hx39
  replace hE36 := Ex.tr hE36 hx39
  replace hE38 := Ex.tr hE38 hx39
  have hE59 := hx39
  refine RG.vl rfl rfl rfl (Ev.assign rfl rfl) ?_
  refine RG.done ?_
  refine QW.then_ ?_
  refine CW.seq ?_
  refine CW.region ?_
  refine RG.litO (os := [_, _, _, _, _]) (enc := encN) ([1, 0, 0, 0, 0]) rfl rfl rfl rfl rfl rfl rfl Try.underlying22 inf_5 rfl rfl rfl rfl rfl encN_len rfl rfl (fun v60 wk61 hxwk61 hown62 hnew63 => ?_)
  replace hE5 := Ex.tr hE5 hxwk61
  replace hE7 := Ex.tr hE7 hxwk61
  replace hE12 := Ex.tr hE12 hxwk61
  replace hE14 := Ex.tr hE14 hxwk61
  replace hE26 := Ex.tr hE26 hxwk61
  replace hE31 := Ex.tr hE31 hxwk61
  replace hE36 := Ex.tr hE36 hxwk61
  replace hE38 := Ex.tr hE38 hxwk61
  replace hE59 := Ex.tr hE59 hxwk61
  have hE64 := hxwk61
  refine RG.call rfl rfl rfl rfl rfl rfl rfl en_24 (synd_is _ _ [1, 0, 0, 0, 0] ((hown62.rdl encN_len)) (by decide +kernel)) ?_
  rintro _ w65 ⟨rs, rfl, hrs, hx65⟩
  replace hE5 := Ex.tr hE5 hx65
  replace hE7 := Ex.tr hE7 hx65
  replace hE12 := Ex.tr hE12 hx65
  replace hE14 := Ex.tr hE14 hx65
  replace hE26 := Ex.tr hE26 hx65
  replace hE31 := Ex.tr hE31 hx65
  replace hE36 := Ex.tr hE36 hx65
  replace hE38 := Ex.tr hE38 hx65
  replace hE59 := Ex.tr hE59 hx65
  replace hE64 := Ex.tr hE64 hx65
  have hE66 := hx65
  rw [show syL [1, 0, 0, 0, 0] = [16, 12, 5, 19] by decide +kernel] at hrs
  refine RG.vl rfl rfl rfl (Ev.move rfl rfl) ?_
  refine RG.vl rfl rfl rfl (Ev.extract rfl rfl rfl) ?_
  refine RG.vl rfl rfl rfl (Ev.extract rfl rfl rfl) ?_
  refine RG.vl rfl rfl rfl (Ev.assign rfl rfl) ?_
  refine RG.vl rfl rfl rfl (Ev.assign rfl rfl) ?_
  refine RG.done ?_
  refine QW.sub (S' := [(0, _), (1, _), (2, _), (3, _), (4, _), (5, _), (6, _), (7, _), (8, _)]) ⟨rfl, rfl, rfl, rfl, rfl, rfl, rfl, rfl, rfl, trivial⟩ ?_
  refine QW.then_ ?_
  refine CW.seq ?_
  refine CW.region ?_
  refine RG.litO (os := [_, _, _, _, _]) (enc := encN) ([1, 0, 0, 0, 0]) rfl rfl rfl rfl rfl rfl rfl Try.underlying22 inf_5 rfl rfl rfl rfl rfl encN_len rfl rfl (fun v67 wk68 hxwk68 hown69 hnew70 => ?_)
  replace hE5 := Ex.tr hE5 hxwk68
  replace hE7 := Ex.tr hE7 hxwk68
  replace hE12 := Ex.tr hE12 hxwk68
  replace hE14 := Ex.tr hE14 hxwk68
  replace hE26 := Ex.tr hE26 hxwk68
  replace hE31 := Ex.tr hE31 hxwk68
  replace hE36 := Ex.tr hE36 hxwk68
  replace hE38 := Ex.tr hE38 hxwk68
  replace hE59 := Ex.tr hE59 hxwk68
  replace hE64 := Ex.tr hE64 hxwk68
  replace hE66 := Ex.tr hE66 hxwk68
  have hE71 := hxwk68
  refine RG.call rfl rfl rfl rfl rfl rfl rfl en_13 (dec_is _ _ _ [1, 0, 0, 0, 0] [] [0, 0, 0, 0, 0] [0] (hown69.rdl encN_len) (RdL.nil_ _) (by decide +kernel) (by unfold okE; decide +kernel) (by decide) zero_code (by decide +kernel) (by decide)) ?_
  have hpre72 := (Ex.tr hB0 hE5)
  rintro _ w72 ⟨A72, B72, C72, D72, rfl, hor72, hoe72, hx72⟩
  replace hE5 := Ex.tr hE5 hx72
  replace hE7 := Ex.tr hE7 hx72
  replace hE12 := Ex.tr hE12 hx72
  replace hE14 := Ex.tr hE14 hx72
  replace hE26 := Ex.tr hE26 hx72
  replace hE31 := Ex.tr hE31 hx72
  replace hE36 := Ex.tr hE36 hx72
  replace hE38 := Ex.tr hE38 hx72
  replace hE59 := Ex.tr hE59 hx72
  replace hE64 := Ex.tr hE64 hx72
  replace hE66 := Ex.tr hE66 hx72
  replace hE71 := Ex.tr hE71 hx72
  have hE73 := hx72
  refine RG.vl rfl rfl rfl (Ev.move rfl rfl) ?_
  refine RG.vl rfl rfl rfl (Ev.extract rfl rfl rfl) ?_
  refine RG.vl rfl rfl rfl (Ev.extract rfl rfl rfl) ?_
  refine RG.local_ rfl rfl rfl rfl (fun _ => rfl) rfl rfl (fun _ => rfl) inf_28 rfl rfl rfl (fun g74 w74 eg74 hx74 hb74 => ?_)
  have hsb75 := fun e => sep_new (g := g74) (Own.ext hown3 hE7) eg74 e
  have hsb76 := fun e => sep_new (g := g74) (Own.ext hoen hE12) eg74 e
  have hsb77 := fun e => sep_new (g := g74) (Own.ext hown10 hE14) eg74 e
  have hsb78 := fun e => sep_new (g := g74) (Own.ext hor13 hE26) eg74 e
  have hsb79 := fun e => sep_new (g := g74) (Own.ext hoe13 hE26) eg74 e
  have hsb80 := fun e => sep_new (g := g74) (Own.ext hown29 hE36) eg74 e
  have hsb81 := fun e => sep_new (g := g74) (Own.ext hown34 hE38) eg74 e
  have hsb82 := fun e => sep_new (g := g74) (Own.ext hor37 hE59) eg74 e
  have hsb83 := fun e => sep_new (g := g74) (Own.ext hoe37 hE59) eg74 e
  have hsb84 := fun e => sep_new (g := g74) (Own.ext hown62 hE66) eg74 e
  have hsb85 := fun e => sep_new (g := g74) (Own.ext hown69 hE73) eg74 e
  have hsb86 := fun e => sep_new (g := g74) hor72 eg74 e
  have hsb87 := fun e => sep_new (g := g74) hoe72 eg74 e
  have hle88 : w.heap.size ≤ g74 := by have := hE5.size; omega
  have hle89 : wk2.heap.size ≤ g74 := by have := hE7.size; omega
  have hle90 : w6.heap.size ≤ g74 := by have := hE12.size; omega
  have hle91 : wk9.heap.size ≤ g74 := by have := hE14.size; omega
  have hle92 : w13.heap.size ≤ g74 := by have := hE26.size; omega
  have hle93 : w15.heap.size ≤ g74 := by have := hE31.size; omega
  have hle94 : wk28.heap.size ≤ g74 := by have := hE36.size; omega
  have hle95 : wk33.heap.size ≤ g74 := by have := hE38.size; omega
  have hle96 : w37.heap.size ≤ g74 := by have := hE59.size; omega
  have hle97 : w39.heap.size ≤ g74 := by have := hE64.size; omega
  have hle98 : wk61.heap.size ≤ g74 := by have := hE66.size; omega
  have hle99 : w65.heap.size ≤ g74 := by have := hE71.size; omega
  have hle100 : wk68.heap.size ≤ g74 := by have := hE73.size; omega
  have hle101 : w72.heap.size ≤ g74 := by have := (Ex.rfl_ w72).size; omega
  have hlt102 : g15 < g74 := by have := Blk.lt (hb15.ext hE31); omega
  have hlt103 : g39 < g74 := by have := Blk.lt (hb39.ext hE64); omega
  replace hE5 := Ex.tr hE5 hx74
  replace hE7 := Ex.tr hE7 hx74
  replace hE12 := Ex.tr hE12 hx74
  replace hE14 := Ex.tr hE14 hx74
  replace hE26 := Ex.tr hE26 hx74
  replace hE31 := Ex.tr hE31 hx74
  replace hE36 := Ex.tr hE36 hx74
  replace hE38 := Ex.tr hE38 hx74
  replace hE59 := Ex.tr hE59 hx74
  replace hE64 := Ex.tr hE64 hx74
  replace hE66 := Ex.tr hE66 hx74
  replace hE71 := Ex.tr hE71 hx74
  replace hE73 := Ex.tr hE73 hx74
  have hE104 := hx74
  refine RG.vl rfl rfl rfl (Ev.assign rfl rfl) ?_
  refine RG.done ?_
  refine QW.then_ ?_
  refine CW.seq ?_
  refine CW.region ?_
  refine RG.litO (os := [_, _, _, _, _]) (enc := encN) ([1, 30, 29, 17, 48]) rfl rfl rfl rfl rfl rfl rfl Try.underlying22 inf_5 rfl rfl rfl rfl rfl encN_len rfl rfl (fun v105 wk106 hxwk106 hown107 hnew108 => ?_)
  replace hE5 := Ex.tr hE5 hxwk106
  replace hE7 := Ex.tr hE7 hxwk106
  replace hE12 := Ex.tr hE12 hxwk106
  replace hE14 := Ex.tr hE14 hxwk106
  replace hE26 := Ex.tr hE26 hxwk106
  replace hE31 := Ex.tr hE31 hxwk106
  replace hE36 := Ex.tr hE36 hxwk106
  replace hE38 := Ex.tr hE38 hxwk106
  replace hE59 := Ex.tr hE59 hxwk106
  replace hE64 := Ex.tr hE64 hxwk106
  replace hE66 := Ex.tr hE66 hxwk106
  replace hE71 := Ex.tr hE71 hxwk106
  replace hE73 := Ex.tr hE73 hxwk106
  replace hE104 := Ex.tr hE104 hxwk106
  have hE109 := hxwk106
  refine RG.vl rfl rfl rfl (Ev.assign rfl rfl) ?_
  refine RG.done ?_
  refine QW.then_ ?_
  refine CW.seq ?_
  refine CW.draw [] (.ex) 57 rfl mixed (fun wd110 hxwd110 => ?_)
  replace hE5 := Ex.tr hE5 hxwd110
  replace hE7 := Ex.tr hE7 hxwd110
  replace hE12 := Ex.tr hE12 hxwd110
  replace hE14 := Ex.tr hE14 hxwd110
  replace hE26 := Ex.tr hE26 hxwd110
  replace hE31 := Ex.tr hE31 hxwd110
  replace hE36 := Ex.tr hE36 hxwd110
  replace hE38 := Ex.tr hE38 hxwd110
  replace hE59 := Ex.tr hE59 hxwd110
  replace hE64 := Ex.tr hE64 hxwd110
  replace hE66 := Ex.tr hE66 hxwd110
  replace hE71 := Ex.tr hE71 hxwd110
  replace hE73 := Ex.tr hE73 hxwd110
  replace hE104 := Ex.tr hE104 hxwd110
  replace hE109 := Ex.tr hE109 hxwd110
  have hE111 := hxwd110
  refine AG.takeW 0 rfl (by kernel_rfl) (by kernel_rfl) rfl rfl rfl (fun _ => Ev.move rfl rfl) ?_
  refine AG.takeW 1 rfl (by kernel_rfl) (by kernel_rfl) rfl rfl rfl (fun _ => Ev.move rfl rfl) ?_
  refine AG.takeW 2 rfl (by kernel_rfl) (by kernel_rfl) rfl rfl rfl (fun _ => Ev.addI rfl rfl rfl (by omega)) ?_
  refine AG.takeW 3 rfl (by kernel_rfl) (by kernel_rfl) rfl rfl rfl (fun _ => Ev.move rfl rfl) ?_
  refine AG.takeW 4 rfl (by kernel_rfl) (by kernel_rfl) rfl rfl rfl (fun _ => Ev.addI rfl rfl rfl (by omega)) ?_
  refine AG.takeW 5 rfl (by kernel_rfl) (by kernel_rfl) rfl rfl rfl (fun _ => Ev.move rfl rfl) ?_
  refine AG.takeW 6 rfl (by kernel_rfl) (by kernel_rfl) rfl rfl rfl (fun _ => Ev.addI rfl rfl rfl (by omega)) ?_
  refine AG.takeW 7 rfl (by kernel_rfl) (by kernel_rfl) rfl rfl rfl (fun _ => Ev.move rfl rfl) ?_
  refine AG.takeW 8 rfl (by kernel_rfl) (by kernel_rfl) rfl rfl rfl (fun _ => Ev.addI rfl rfl rfl (by omega)) ?_
  refine AG.takeW 9 rfl (by kernel_rfl) (by kernel_rfl) rfl rfl rfl (fun _ => Ev.isT (Ev.eqI rfl rfl rfl) (rfl)) ?_
  refine AG.takeW 10 rfl (by kernel_rfl) (by kernel_rfl) rfl rfl rfl (fun _ => Ev.move rfl rfl) ?_
  refine AG.takeW 11 rfl (by kernel_rfl) (by kernel_rfl) rfl rfl rfl (fun _ => Ev.move rfl rfl) ?_
  refine AG.takeW 12 rfl (by kernel_rfl) (by kernel_rfl) rfl rfl rfl (fun _ => Ev.move rfl rfl) ?_
  refine AG.only 13 rfl (by kernel_rfl) ?_
  refine RG.call rfl rfl rfl rfl rfl rfl rfl en_19 (sameBt_ret _ _ [1, 30, 29, 17, 48] _ (((Own.ext hoen hE12).rdl encN_len)) (((Own.ext hown107 hE111).rdl encN_len)) (by decide)) ?_
  rintro _ w113 ⟨rfl, hx113⟩
  replace hE5 := Ex.tr hE5 hx113
  replace hE7 := Ex.tr hE7 hx113
  replace hE12 := Ex.tr hE12 hx113
  replace hE14 := Ex.tr hE14 hx113
  replace hE26 := Ex.tr hE26 hx113
  replace hE31 := Ex.tr hE31 hx113
  replace hE36 := Ex.tr hE36 hx113
  replace hE38 := Ex.tr hE38 hx113
  replace hE59 := Ex.tr hE59 hx113
  replace hE64 := Ex.tr hE64 hx113
  replace hE66 := Ex.tr hE66 hx113
  replace hE71 := Ex.tr hE71 hx113
  replace hE73 := Ex.tr hE73 hx113
  replace hE104 := Ex.tr hE104 hx113
  replace hE109 := Ex.tr hE109 hx113
  replace hE111 := Ex.tr hE111 hx113
  have hE114 := hx113
  refine RG.done ?_
  refine QW.an (fun _ => hE114) ?_
  refine AG.takeW 14 rfl (by kernel_rfl) (by kernel_rfl) rfl rfl rfl (fun _ => Ev.pickT rfl rfl rfl) ?_
  refine AG.takeW 15 rfl (by kernel_rfl) (by kernel_rfl) rfl rfl rfl (fun _ => Ev.move rfl rfl) ?_
  refine AG.takeW 16 rfl (by kernel_rfl) (by kernel_rfl) rfl rfl rfl (fun _ => Ev.fld rfl rfl fld_28_0) ?_
  refine AG.take 17 rfl (by kernel_rfl) (by kernel_rfl) rfl rfl rfl (fun wq hq => Ev.ldAt rfl rfl Try.underlying22 rfl (((hb15.ext hE31).ext hq).cells) (rfl)) ?_
  refine AG.takeW 18 rfl (by kernel_rfl) (by kernel_rfl) rfl rfl rfl (fun _ => Ev.move rfl rfl) ?_
  refine AG.only 19 rfl (by kernel_rfl) ?_
  refine RG.call rfl rfl rfl rfl rfl rfl rfl en_19 (sameBt_ret _ _ [1, 30, 29, 17, 48] _ (((Own.ext hor13 hE26).rdl encN_len)) (((Own.ext hown107 hE111).rdl encN_len)) (by decide)) ?_
  rintro _ w116 ⟨rfl, hx116⟩
  replace hE5 := Ex.tr hE5 hx116
  replace hE7 := Ex.tr hE7 hx116
  replace hE12 := Ex.tr hE12 hx116
  replace hE14 := Ex.tr hE14 hx116
  replace hE26 := Ex.tr hE26 hx116
  replace hE31 := Ex.tr hE31 hx116
  replace hE36 := Ex.tr hE36 hx116
  replace hE38 := Ex.tr hE38 hx116
  replace hE59 := Ex.tr hE59 hx116
  replace hE64 := Ex.tr hE64 hx116
  replace hE66 := Ex.tr hE66 hx116
  replace hE71 := Ex.tr hE71 hx116
  replace hE73 := Ex.tr hE73 hx116
  replace hE104 := Ex.tr hE104 hx116
  replace hE109 := Ex.tr hE109 hx116
  replace hE111 := Ex.tr hE111 hx116
  replace hE114 := Ex.tr hE114 hx116
  have hE117 := hx116
  refine RG.done ?_
  refine QW.an (fun _ => hE117) ?_
  refine AG.takeW 20 rfl (by kernel_rfl) (by kernel_rfl) rfl rfl rfl (fun _ => Ev.pickT rfl rfl rfl) ?_
  refine AG.takeW 21 rfl (by kernel_rfl) (by kernel_rfl) rfl rfl rfl (fun _ => Ev.move rfl rfl) ?_
  refine AG.takeW 22 rfl (by kernel_rfl) (by kernel_rfl) rfl rfl rfl (fun _ => Ev.fld rfl rfl fld_28_1) ?_
  refine AG.take 23 rfl (by kernel_rfl) (by kernel_rfl) rfl rfl rfl (fun wq hq => Ev.ldAt rfl rfl Try.underlying23 rfl (((hb15.ext hE31).ext hq).cells) (rfl)) ?_
  refine AG.only 24 rfl (by kernel_rfl) ?_
  refine RG.litO (os := [_, _]) (enc := encZ) ([0, 1]) rfl rfl rfl rfl rfl rfl rfl Try.underlying23 inf_3 rfl rfl rfl rfl rfl encZ_len rfl rfl (fun v119 wk120 hxwk120 hown121 hnew122 => ?_)
  replace hE5 := Ex.tr hE5 hxwk120
  replace hE7 := Ex.tr hE7 hxwk120
  replace hE12 := Ex.tr hE12 hxwk120
  replace hE14 := Ex.tr hE14 hxwk120
  replace hE26 := Ex.tr hE26 hxwk120
  replace hE31 := Ex.tr hE31 hxwk120
  replace hE36 := Ex.tr hE36 hxwk120
  replace hE38 := Ex.tr hE38 hxwk120
  replace hE59 := Ex.tr hE59 hxwk120
  replace hE64 := Ex.tr hE64 hxwk120
  replace hE66 := Ex.tr hE66 hxwk120
  replace hE71 := Ex.tr hE71 hxwk120
  replace hE73 := Ex.tr hE73 hxwk120
  replace hE104 := Ex.tr hE104 hxwk120
  replace hE109 := Ex.tr hE109 hxwk120
  replace hE111 := Ex.tr hE111 hxwk120
  replace hE114 := Ex.tr hE114 hxwk120
  replace hE117 := Ex.tr hE117 hxwk120
  have hE123 := hxwk120
  refine RG.done ?_
  refine QW.an (fun _ => hE123) ?_
  refine AG.only 25 rfl (by kernel_rfl) ?_
  refine RG.call rfl rfl rfl rfl rfl rfl rfl en_20 (sameIt_ret _ _ [0, 1] _ (((Own.ext hoe13 hE26).rdl encZ_len)) ((hown121.rdl encZ_len)) (by decide)) ?_
  rintro _ w125 ⟨rfl, hx125⟩
  replace hE5 := Ex.tr hE5 hx125
  replace hE7 := Ex.tr hE7 hx125
  replace hE12 := Ex.tr hE12 hx125
  replace hE14 := Ex.tr hE14 hx125
  replace hE26 := Ex.tr hE26 hx125
  replace hE31 := Ex.tr hE31 hx125
  replace hE36 := Ex.tr hE36 hx125
  replace hE38 := Ex.tr hE38 hx125
  replace hE59 := Ex.tr hE59 hx125
  replace hE64 := Ex.tr hE64 hx125
  replace hE66 := Ex.tr hE66 hx125
  replace hE71 := Ex.tr hE71 hx125
  replace hE73 := Ex.tr hE73 hx125
  replace hE104 := Ex.tr hE104 hx125
  replace hE109 := Ex.tr hE109 hx125
  replace hE111 := Ex.tr hE111 hx125
  replace hE114 := Ex.tr hE114 hx125
  replace hE117 := Ex.tr hE117 hx125
  replace hE123 := Ex.tr hE123 hx125
  have hE126 := hx125
  refine RG.done ?_
  refine QW.an (fun _ => hE126) ?_
  refine AG.takeW 26 rfl (by kernel_rfl) (by kernel_rfl) rfl rfl rfl (fun _ => Ev.pickT rfl rfl rfl) ?_
  refine AG.takeW 27 rfl (by kernel_rfl) (by kernel_rfl) rfl rfl rfl (fun _ => Ev.move rfl rfl) ?_
  refine AG.takeW 28 rfl (by kernel_rfl) (by kernel_rfl) rfl rfl rfl (fun _ => Ev.fld rfl rfl fld_28_0) ?_
  refine AG.take 29 rfl (by kernel_rfl) (by kernel_rfl) rfl rfl rfl (fun wq hq => Ev.ldAt rfl rfl Try.underlying22 rfl (((hb39.ext hE64).ext hq).cells) (rfl)) ?_
  refine AG.takeW 30 rfl (by kernel_rfl) (by kernel_rfl) rfl rfl rfl (fun _ => Ev.move rfl rfl) ?_
  refine AG.only 31 rfl (by kernel_rfl) ?_
  refine RG.call rfl rfl rfl rfl rfl rfl rfl en_19 (sameBt_ret _ _ [1, 30, 29, 17, 48] _ (((Own.ext hor37 hE59).rdl encN_len)) (((Own.ext hown107 hE111).rdl encN_len)) (by decide)) ?_
  rintro _ w128 ⟨rfl, hx128⟩
  replace hE5 := Ex.tr hE5 hx128
  replace hE7 := Ex.tr hE7 hx128
  replace hE12 := Ex.tr hE12 hx128
  replace hE14 := Ex.tr hE14 hx128
  replace hE26 := Ex.tr hE26 hx128
  replace hE31 := Ex.tr hE31 hx128
  replace hE36 := Ex.tr hE36 hx128
  replace hE38 := Ex.tr hE38 hx128
  replace hE59 := Ex.tr hE59 hx128
  replace hE64 := Ex.tr hE64 hx128
  replace hE66 := Ex.tr hE66 hx128
  replace hE71 := Ex.tr hE71 hx128
  replace hE73 := Ex.tr hE73 hx128
  replace hE104 := Ex.tr hE104 hx128
  replace hE109 := Ex.tr hE109 hx128
  replace hE111 := Ex.tr hE111 hx128
  replace hE114 := Ex.tr hE114 hx128
  replace hE117 := Ex.tr hE117 hx128
  replace hE123 := Ex.tr hE123 hx128
  replace hE126 := Ex.tr hE126 hx128
  have hE129 := hx128
  refine RG.done ?_
  refine QW.an (fun _ => hE129) ?_
  refine AG.takeW 32 rfl (by kernel_rfl) (by kernel_rfl) rfl rfl rfl (fun _ => Ev.pickT rfl rfl rfl) ?_
  refine AG.takeW 33 rfl (by kernel_rfl) (by kernel_rfl) rfl rfl rfl (fun _ => Ev.move rfl rfl) ?_
  refine AG.takeW 34 rfl (by kernel_rfl) (by kernel_rfl) rfl rfl rfl (fun _ => Ev.fld rfl rfl fld_28_1) ?_
  refine AG.take 35 rfl (by kernel_rfl) (by kernel_rfl) rfl rfl rfl (fun wq hq => Ev.ldAt rfl rfl Try.underlying23 rfl (((hb39.ext hE64).ext hq).cells) (rfl)) ?_
  refine AG.takeW 36 rfl (by kernel_rfl) (by kernel_rfl) rfl rfl rfl (fun _ => Ev.lenL rfl rfl rfl Try.underlying23 (((Own.ext hoe37 hE59).rdl encZ_len))) ?_
  refine AG.takeW 37 rfl (by kernel_rfl) (by kernel_rfl) rfl rfl rfl (fun _ => Ev.isT (Ev.eqI rfl rfl rfl) (rfl)) ?_
  refine AG.takeW 38 rfl (by kernel_rfl) (by kernel_rfl) rfl rfl rfl (fun _ => Ev.pickT rfl rfl rfl) ?_
  refine AG.takeW 39 rfl (by kernel_rfl) (by kernel_rfl) rfl rfl rfl (fun _ => Ev.move rfl rfl) ?_
  refine AG.takeW 40 rfl (by kernel_rfl) (by kernel_rfl) rfl rfl rfl (fun _ => Ev.move rfl rfl) ?_
  refine AG.only 41 rfl (by kernel_rfl) ?_
  refine RG.litO (os := [_, _, _, _]) (enc := encN) ([16, 12, 5, 19]) rfl rfl rfl rfl rfl rfl rfl Try.underlying22 inf_5 rfl rfl rfl rfl rfl encN_len rfl rfl (fun v131 wk132 hxwk132 hown133 hnew134 => ?_)
  replace hE5 := Ex.tr hE5 hxwk132
  replace hE7 := Ex.tr hE7 hxwk132
  replace hE12 := Ex.tr hE12 hxwk132
  replace hE14 := Ex.tr hE14 hxwk132
  replace hE26 := Ex.tr hE26 hxwk132
  replace hE31 := Ex.tr hE31 hxwk132
  replace hE36 := Ex.tr hE36 hxwk132
  replace hE38 := Ex.tr hE38 hxwk132
  replace hE59 := Ex.tr hE59 hxwk132
  replace hE64 := Ex.tr hE64 hxwk132
  replace hE66 := Ex.tr hE66 hxwk132
  replace hE71 := Ex.tr hE71 hxwk132
  replace hE73 := Ex.tr hE73 hxwk132
  replace hE104 := Ex.tr hE104 hxwk132
  replace hE109 := Ex.tr hE109 hxwk132
  replace hE111 := Ex.tr hE111 hxwk132
  replace hE114 := Ex.tr hE114 hxwk132
  replace hE117 := Ex.tr hE117 hxwk132
  replace hE123 := Ex.tr hE123 hxwk132
  replace hE126 := Ex.tr hE126 hxwk132
  replace hE129 := Ex.tr hE129 hxwk132
  have hE135 := hxwk132
  refine RG.done ?_
  refine QW.an (fun _ => hE135) ?_
  refine AG.only 42 rfl (by kernel_rfl) ?_
  refine RG.call rfl rfl rfl rfl rfl rfl rfl en_19 (sameBt_ret _ _ [16, 12, 5, 19] _ ((hrs.ext hE71)) ((hown133.rdl encN_len)) (by decide)) ?_
  rintro _ w137 ⟨rfl, hx137⟩
  replace hE5 := Ex.tr hE5 hx137
  replace hE7 := Ex.tr hE7 hx137
  replace hE12 := Ex.tr hE12 hx137
  replace hE14 := Ex.tr hE14 hx137
  replace hE26 := Ex.tr hE26 hx137
  replace hE31 := Ex.tr hE31 hx137
  replace hE36 := Ex.tr hE36 hx137
  replace hE38 := Ex.tr hE38 hx137
  replace hE59 := Ex.tr hE59 hx137
  replace hE64 := Ex.tr hE64 hx137
  replace hE66 := Ex.tr hE66 hx137
  replace hE71 := Ex.tr hE71 hx137
  replace hE73 := Ex.tr hE73 hx137
  replace hE104 := Ex.tr hE104 hx137
  replace hE109 := Ex.tr hE109 hx137
  replace hE111 := Ex.tr hE111 hx137
  replace hE114 := Ex.tr hE114 hx137
  replace hE117 := Ex.tr hE117 hx137
  replace hE123 := Ex.tr hE123 hx137
  replace hE126 := Ex.tr hE126 hx137
  replace hE129 := Ex.tr hE129 hx137
  replace hE135 := Ex.tr hE135 hx137
  have hE138 := hx137
  refine RG.done ?_
  refine QW.an (fun _ => hE138) ?_
  refine AG.takeW 43 rfl (by kernel_rfl) (by kernel_rfl) rfl rfl rfl (fun _ => Ev.pickT rfl rfl rfl) ?_
  refine AG.takeW 44 rfl (by kernel_rfl) (by kernel_rfl) rfl rfl rfl (fun _ => Ev.move rfl rfl) ?_
  refine AG.takeW 45 rfl (by kernel_rfl) (by kernel_rfl) rfl rfl rfl (fun _ => Ev.fld rfl rfl fld_28_0) ?_
  refine AG.take 46 rfl (by kernel_rfl) (by kernel_rfl) rfl rfl rfl (fun wq hq => Ev.ldAt rfl rfl Try.underlying22 rfl (((hb74.ext hE109).ext hq).cells) (rfl)) ?_
  refine AG.only 47 rfl (by kernel_rfl) ?_
  refine RG.makeO (m := 5) (enc := encN) 0 rfl rfl rfl rfl rfl rfl (rfl) Try.underlying22 inf_5 encN_len rfl rfl (by omega) (by simp only [maxLen]; omega) (fun v140 wk141 hxwk141 hown142 hnew143 => ?_)
  replace hE5 := Ex.tr hE5 hxwk141
  replace hE7 := Ex.tr hE7 hxwk141
  replace hE12 := Ex.tr hE12 hxwk141
  replace hE14 := Ex.tr hE14 hxwk141
  replace hE26 := Ex.tr hE26 hxwk141
  replace hE31 := Ex.tr hE31 hxwk141
  replace hE36 := Ex.tr hE36 hxwk141
  replace hE38 := Ex.tr hE38 hxwk141
  replace hE59 := Ex.tr hE59 hxwk141
  replace hE64 := Ex.tr hE64 hxwk141
  replace hE66 := Ex.tr hE66 hxwk141
  replace hE71 := Ex.tr hE71 hxwk141
  replace hE73 := Ex.tr hE73 hxwk141
  replace hE104 := Ex.tr hE104 hxwk141
  replace hE109 := Ex.tr hE109 hxwk141
  replace hE111 := Ex.tr hE111 hxwk141
  replace hE114 := Ex.tr hE114 hxwk141
  replace hE117 := Ex.tr hE117 hxwk141
  replace hE123 := Ex.tr hE123 hxwk141
  replace hE126 := Ex.tr hE126 hxwk141
  replace hE129 := Ex.tr hE129 hxwk141
  replace hE135 := Ex.tr hE135 hxwk141
  replace hE138 := Ex.tr hE138 hxwk141
  have hE144 := hxwk141
  refine RG.done ?_
  refine QW.an (fun _ => hE144) ?_
  refine AG.only 48 rfl (by kernel_rfl) ?_
  refine RG.call rfl rfl rfl rfl rfl rfl rfl en_19 (sameBt_ret _ _ [0, 0, 0, 0, 0] _ (((Own.ext hor72 hE104).rdl encN_len)) ((hown142.rdl encN_len)) (by decide)) ?_
  rintro _ w146 ⟨rfl, hx146⟩
  replace hE5 := Ex.tr hE5 hx146
  replace hE7 := Ex.tr hE7 hx146
  replace hE12 := Ex.tr hE12 hx146
  replace hE14 := Ex.tr hE14 hx146
  replace hE26 := Ex.tr hE26 hx146
  replace hE31 := Ex.tr hE31 hx146
  replace hE36 := Ex.tr hE36 hx146
  replace hE38 := Ex.tr hE38 hx146
  replace hE59 := Ex.tr hE59 hx146
  replace hE64 := Ex.tr hE64 hx146
  replace hE66 := Ex.tr hE66 hx146
  replace hE71 := Ex.tr hE71 hx146
  replace hE73 := Ex.tr hE73 hx146
  replace hE104 := Ex.tr hE104 hx146
  replace hE109 := Ex.tr hE109 hx146
  replace hE111 := Ex.tr hE111 hx146
  replace hE114 := Ex.tr hE114 hx146
  replace hE117 := Ex.tr hE117 hx146
  replace hE123 := Ex.tr hE123 hx146
  replace hE126 := Ex.tr hE126 hx146
  replace hE129 := Ex.tr hE129 hx146
  replace hE135 := Ex.tr hE135 hx146
  replace hE138 := Ex.tr hE138 hx146
  replace hE144 := Ex.tr hE144 hx146
  have hE147 := hx146
  refine RG.done ?_
  refine QW.an (fun _ => hE147) ?_
  refine AG.takeW 49 rfl (by kernel_rfl) (by kernel_rfl) rfl rfl rfl (fun _ => Ev.pickT rfl rfl rfl) ?_
  refine AG.takeW 50 rfl (by kernel_rfl) (by kernel_rfl) rfl rfl rfl (fun _ => Ev.move rfl rfl) ?_
  refine AG.takeW 51 rfl (by kernel_rfl) (by kernel_rfl) rfl rfl rfl (fun _ => Ev.fld rfl rfl fld_28_1) ?_
  refine AG.take 52 rfl (by kernel_rfl) (by kernel_rfl) rfl rfl rfl (fun wq hq => Ev.ldAt rfl rfl Try.underlying23 rfl (((hb74.ext hE109).ext hq).cells) (rfl)) ?_
  refine AG.only 53 rfl (by kernel_rfl) ?_
  refine RG.litO (os := [_]) (enc := encZ) ([0]) rfl rfl rfl rfl rfl rfl rfl Try.underlying23 inf_3 rfl rfl rfl rfl rfl encZ_len rfl rfl (fun v149 wk150 hxwk150 hown151 hnew152 => ?_)
  replace hE5 := Ex.tr hE5 hxwk150
  replace hE7 := Ex.tr hE7 hxwk150
  replace hE12 := Ex.tr hE12 hxwk150
  replace hE14 := Ex.tr hE14 hxwk150
  replace hE26 := Ex.tr hE26 hxwk150
  replace hE31 := Ex.tr hE31 hxwk150
  replace hE36 := Ex.tr hE36 hxwk150
  replace hE38 := Ex.tr hE38 hxwk150
  replace hE59 := Ex.tr hE59 hxwk150
  replace hE64 := Ex.tr hE64 hxwk150
  replace hE66 := Ex.tr hE66 hxwk150
  replace hE71 := Ex.tr hE71 hxwk150
  replace hE73 := Ex.tr hE73 hxwk150
  replace hE104 := Ex.tr hE104 hxwk150
  replace hE109 := Ex.tr hE109 hxwk150
  replace hE111 := Ex.tr hE111 hxwk150
  replace hE114 := Ex.tr hE114 hxwk150
  replace hE117 := Ex.tr hE117 hxwk150
  replace hE123 := Ex.tr hE123 hxwk150
  replace hE126 := Ex.tr hE126 hxwk150
  replace hE129 := Ex.tr hE129 hxwk150
  replace hE135 := Ex.tr hE135 hxwk150
  replace hE138 := Ex.tr hE138 hxwk150
  replace hE144 := Ex.tr hE144 hxwk150
  replace hE147 := Ex.tr hE147 hxwk150
  have hE153 := hxwk150
  refine RG.done ?_
  refine QW.an (fun _ => hE153) ?_
  refine AG.only 54 rfl (by kernel_rfl) ?_
  refine RG.call rfl rfl rfl rfl rfl rfl rfl en_20 (sameIt_ret _ _ [0] _ (((Own.ext hoe72 hE104).rdl encZ_len)) ((hown151.rdl encZ_len)) (by decide)) ?_
  rintro _ w155 ⟨rfl, hx155⟩
  replace hE5 := Ex.tr hE5 hx155
  replace hE7 := Ex.tr hE7 hx155
  replace hE12 := Ex.tr hE12 hx155
  replace hE14 := Ex.tr hE14 hx155
  replace hE26 := Ex.tr hE26 hx155
  replace hE31 := Ex.tr hE31 hx155
  replace hE36 := Ex.tr hE36 hx155
  replace hE38 := Ex.tr hE38 hx155
  replace hE59 := Ex.tr hE59 hx155
  replace hE64 := Ex.tr hE64 hx155
  replace hE66 := Ex.tr hE66 hx155
  replace hE71 := Ex.tr hE71 hx155
  replace hE73 := Ex.tr hE73 hx155
  replace hE104 := Ex.tr hE104 hx155
  replace hE109 := Ex.tr hE109 hx155
  replace hE111 := Ex.tr hE111 hx155
  replace hE114 := Ex.tr hE114 hx155
  replace hE117 := Ex.tr hE117 hx155
  replace hE123 := Ex.tr hE123 hx155
  replace hE126 := Ex.tr hE126 hx155
  replace hE129 := Ex.tr hE129 hx155
  replace hE135 := Ex.tr hE135 hx155
  replace hE138 := Ex.tr hE138 hx155
  replace hE144 := Ex.tr hE144 hx155
  replace hE147 := Ex.tr hE147 hx155
  replace hE153 := Ex.tr hE153 hx155
  have hE156 := hx155
  refine RG.done ?_
  refine QW.an (fun _ => hE156) ?_
  refine AG.takeW 55 rfl (by kernel_rfl) (by kernel_rfl) rfl rfl rfl (fun _ => Ev.pickT rfl rfl rfl) ?_
  refine AG.takeW 56 rfl (by kernel_rfl) (by kernel_rfl) rfl rfl rfl (fun _ => Ev.assign rfl rfl) ?_
  refine AG.done (by kernel_rfl) ?_
  refine QW.sub (S' := [(0, _)]) ⟨rfl, trivial⟩ ?_
  refine QW.then_ ?_
  refine CW.ret ?_
  refine QW.ret1 rfl rfl ?_
  have hB := (Ex.tr hB0 hE5)
  exact ⟨rfl, hB⟩

end Go.Proofs.Ytjhgihgggofocaa
