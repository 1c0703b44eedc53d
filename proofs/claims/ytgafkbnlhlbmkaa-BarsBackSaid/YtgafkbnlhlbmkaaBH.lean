/- Walks (BH). Written by program. -/
import Derived.Test.YtgafkbnlhlbmkaaT
import Derived.Test.YtgafkbnlhlbmkaaBG
namespace Go.Proofs.Ytgafkbnlhlbmkaa
open Go.RowKit
set_option maxRecDepth 100000 in
set_option maxHeartbeats 1000000 in
theorem sameB_ret (u v : Value) (l m : List UInt8) (w : World) (hl : RdL w 1 encB u l) (hm : RdL w 1 encB v m) (hlen : l.length ≤ 100000) :
    Ret Try.prog 18 [u, v] w (fun v w' => v = .bool (decide (l = m)) ∧ Ex w w') := by
  have hB0 : Ex w w := Ex.rfl_ _
  refine Ret.of Try.func18 rfl Try.ntmps18 rfl ?_
  refine CW.seq ?_
  refine CW.region ?_
  refine RG.vl rfl rfl rfl (Ev.assign rfl rfl) ?_
  refine RG.done ?_
  refine QW.then_ ?_
  refine CW.seq ?_
  refine CW.seq ?_
  refine CW.region ?_
  refine RG.vl rfl rfl rfl (Ev.move rfl rfl) ?_
  refine RG.vl rfl rfl rfl (Ev.lenL rfl rfl rfl Try.underlying22 (hl)) ?_
  refine RG.vl rfl rfl rfl (Ev.move rfl rfl) ?_
  refine RG.vl rfl rfl rfl (Ev.lenL rfl rfl rfl Try.underlying22 (hm)) ?_
  refine RG.vl rfl rfl rfl (Ev.neI rfl rfl rfl) ?_
  refine RG.done ?_
  refine QW.then_ ?_
  refine CW.condP rfl (fun hc1 => ?_) (fun hc1 => ?_)
  · refine CW.seq ?_
    refine CW.region ?_
    refine RG.vl rfl rfl rfl (Ev.assign rfl rfl) ?_
    refine RG.done ?_
    refine QW.then_ ?_
    refine CW.ret ?_
    refine QW.thenRet ?_
    refine QW.ret1 rfl rfl ?_
    have hB := hB0
    refine ⟨congrArg Value.bool ?_, hB⟩; rw [eq_comm, decide_eq_false_iff_not]; rintro rfl; omega
  · refine CW.skip ?_
    refine QW.then_ ?_
    refine CW.seq ?_
    refine CW.seq ?_
    refine CW.region ?_
    refine RG.vl rfl rfl rfl (Ev.assign rfl rfl) ?_
    refine RG.done ?_
    refine QW.then_ ?_
    refine CW.block ?_
    refine CW.loop1 [(0, _), (1, _)] ⟨rfl, rfl, trivial⟩ (fun (k : Nat) => [(5, .int .i64 k)]) (fun k w' => (k ≤ l.length ∧ ∀ j, j < k → l[j]? = m[j]?) ∧ Ex w w') (fun k => l.length - k) (0) ⟨rfl, trivial⟩ ⟨⟨Nat.zero_le _, fun j h => absurd h (by omega)⟩, hB0⟩ ?_
    rintro k wl2 ⟨⟨hkl, heq⟩, hxwl2⟩
    refine CW.sub (S' := [(5, _), (0, _), (1, _)]) ⟨rfl, rfl, rfl, trivial⟩ ?_
    refine CW.seq ?_
    refine CW.seq ?_
    refine CW.region ?_
    refine RG.vl rfl rfl rfl (Ev.move rfl rfl) ?_
    refine RG.vl rfl rfl rfl (Ev.move rfl rfl) ?_
    refine RG.vl rfl rfl rfl (Ev.lenL rfl rfl rfl Try.underlying22 ((hl.ext hxwl2))) ?_
    refine RG.vl rfl rfl rfl (Ev.lss rfl rfl rfl) ?_
    refine RG.done ?_
    refine QW.then_ ?_
    refine CW.condP rfl (fun hc3 => ?_) (fun hc3 => ?_)
    · refine CW.skip ?_
      refine QW.then_ ?_
      refine CW.seq ?_
      refine CW.block ?_
      refine CW.seq ?_
      obtain ⟨b, hk⟩ : ∃ b, l[k]? = some b := ⟨_, List.getElem?_eq_getElem (by omega)⟩
      obtain ⟨c, hk2⟩ : ∃ c, m[k]? = some c := ⟨_, List.getElem?_eq_getElem (by omega)⟩
      refine CW.draw [] (.ex) 9 rfl mixed (fun wd4 hxwd4 => ?_)
      replace hxwl2 := Ex.tr hxwl2 hxwd4
      have hE5 := hxwd4
      refine AG.takeW 0 rfl (by kernel_rfl) (by kernel_rfl) rfl rfl rfl (fun _ => Ev.move rfl rfl) ?_
      refine AG.takeW 1 rfl (by kernel_rfl) (by kernel_rfl) rfl rfl rfl (fun _ => Ev.move rfl rfl) ?_
      refine AG.idxL _ 2 rfl (by kernel_rfl) (by kernel_rfl) rfl rfl rfl rfl rfl rfl Try.underlying22 sz_5 ((hl.ext hxwl2)) (hk) (fun p6 hp6b hp6 => ?_)
      refine AG.take 3 rfl (by kernel_rfl) (by kernel_rfl) rfl rfl rfl (fun wq hq => Ev.ld0 rfl rfl Try.underlying5 rfl (hp6.ext hq hp6b) (rfl)) ?_
      refine AG.takeW 4 rfl (by kernel_rfl) (by kernel_rfl) rfl rfl rfl (fun _ => Ev.move rfl rfl) ?_
      refine AG.takeW 5 rfl (by kernel_rfl) (by kernel_rfl) rfl rfl rfl (fun _ => Ev.move rfl rfl) ?_
      refine AG.idxL _ 6 rfl (by kernel_rfl) (by kernel_rfl) rfl rfl rfl rfl rfl rfl Try.underlying22 sz_5 ((hm.ext hxwl2)) (hk2) (fun p7 hp7b hp7 => ?_)
      refine AG.take 7 rfl (by kernel_rfl) (by kernel_rfl) rfl rfl rfl (fun wq hq => Ev.ld0 rfl rfl Try.underlying5 rfl (hp7.ext hq hp7b) (rfl)) ?_
      refine AG.takeW 8 rfl (by kernel_rfl) (by kernel_rfl) rfl rfl rfl (fun _ => Ev.neI rfl rfl rfl) ?_
      refine AG.done (by kernel_rfl) ?_
      refine QW.then_ ?_
      refine CW.condP rfl (fun hc8 => ?_) (fun hc8 => ?_)
      · refine CW.seq ?_
        refine CW.region ?_
        refine RG.vl rfl rfl rfl (Ev.assign rfl rfl) ?_
        refine RG.done ?_
        refine QW.sub (S' := [(0, _), (1, _), (4, _), (5, _)]) ⟨rfl, rfl, rfl, rfl, trivial⟩ ?_
        refine QW.then_ ?_
        refine CW.ret ?_
        refine QW.blockR ?_
        refine QW.thenRet ?_
        refine QW.thenRet ?_
        refine QW.blockR ?_
        refine QW.thenRet ?_
        refine QW.ret1 rfl rfl ?_
        have hB := (Ex.tr hB0 hxwl2)
        refine ⟨congrArg Value.bool ?_, hB⟩; rw [eq_comm, decide_eq_false_iff_not]; rintro rfl; rw [hk] at hk2; injection hk2 with hk2; subst hk2; omega
      · refine CW.skip ?_
        refine QW.blockN ?_
        refine QW.then_ ?_
        refine CW.region ?_
        refine RG.vl rfl rfl rfl (Ev.move rfl rfl) ?_
        refine RG.vl rfl rfl rfl (Ev.addI rfl rfl rfl (by omega)) ?_
        refine RG.vl rfl rfl rfl (Ev.assign rfl rfl) ?_
        refine RG.done ?_
        refine QW.sub (S' := [(0, _), (1, _), (5, _)]) ⟨rfl, rfl, rfl, trivial⟩ ?_
        refine QW.round1 (k + 1) ⟨rfl, trivial⟩ ⟨rfl, rfl, trivial⟩ ⟨⟨by omega, fun j hj => by rcases Nat.lt_or_ge j k with h | h; exact heq j h; obtain rfl : j = k := (by omega); rw [hk, hk2]; congr 1; exact UInt8.toNat_inj.1 (by omega)⟩, (Ex.tr hB0 hxwl2)⟩ (by omega)
    · refine CW.exit ?_
      refine QW.thenExit ?_
      refine QW.thenExit ?_
      refine QW.blockHit ?_
      refine QW.then_ ?_
      refine CW.seq ?_
      refine CW.region ?_
      refine RG.vl rfl rfl rfl (Ev.assign rfl rfl) ?_
      refine RG.done ?_
      refine QW.then_ ?_
      refine CW.ret ?_
      refine QW.ret1 rfl rfl ?_
      have hB := (Ex.tr hB0 hxwl2)
      refine ⟨congrArg Value.bool ?_, hB⟩; rw [eq_comm, decide_eq_true_iff]; refine List.ext_getElem? fun j => ?_; rcases Nat.lt_or_ge j l.length with h | h; exact heq j (by omega); rw [List.getElem?_eq_none h, List.getElem?_eq_none (by omega)]

set_option maxRecDepth 100000 in
set_option maxHeartbeats 1000000 in
theorem sameI_ret (u v : Value) (l m : List Nat) (w : World) (hl : RdL w 1 encZ u l) (hm : RdL w 1 encZ v m) (hlen : l.length ≤ 100000) :
    Ret Try.prog 22 [u, v] w (fun v w' => v = .bool (decide (l = m)) ∧ Ex w w') := by
  have hB0 : Ex w w := Ex.rfl_ _
  refine Ret.of Try.func22 rfl Try.ntmps22 rfl ?_
  refine CW.seq ?_
  refine CW.region ?_
  refine RG.vl rfl rfl rfl (Ev.assign rfl rfl) ?_
  refine RG.done ?_
  refine QW.then_ ?_
  refine CW.seq ?_
  refine CW.seq ?_
  refine CW.region ?_
  refine RG.vl rfl rfl rfl (Ev.move rfl rfl) ?_
  refine RG.vl rfl rfl rfl (Ev.lenL rfl rfl rfl Try.underlying33 (hl)) ?_
  refine RG.vl rfl rfl rfl (Ev.move rfl rfl) ?_
  refine RG.vl rfl rfl rfl (Ev.lenL rfl rfl rfl Try.underlying33 (hm)) ?_
  refine RG.vl rfl rfl rfl (Ev.neI rfl rfl rfl) ?_
  refine RG.done ?_
  refine QW.then_ ?_
  refine CW.condP rfl (fun hc1 => ?_) (fun hc1 => ?_)
  · refine CW.seq ?_
    refine CW.region ?_
    refine RG.vl rfl rfl rfl (Ev.assign rfl rfl) ?_
    refine RG.done ?_
    refine QW.then_ ?_
    refine CW.ret ?_
    refine QW.thenRet ?_
    refine QW.ret1 rfl rfl ?_
    have hB := hB0
    refine ⟨congrArg Value.bool ?_, hB⟩; rw [eq_comm, decide_eq_false_iff_not]; rintro rfl; omega
  · refine CW.skip ?_
    refine QW.then_ ?_
    refine CW.seq ?_
    refine CW.seq ?_
    refine CW.region ?_
    refine RG.vl rfl rfl rfl (Ev.assign rfl rfl) ?_
    refine RG.done ?_
    refine QW.then_ ?_
    refine CW.block ?_
    refine CW.loop1 [(0, _), (1, _)] ⟨rfl, rfl, trivial⟩ (fun (k : Nat) => [(5, .int .i64 k)]) (fun k w' => (k ≤ l.length ∧ ∀ j, j < k → l[j]? = m[j]?) ∧ Ex w w') (fun k => l.length - k) (0) ⟨rfl, trivial⟩ ⟨⟨Nat.zero_le _, fun j h => absurd h (by omega)⟩, hB0⟩ ?_
    rintro k wl2 ⟨⟨hkl, heq⟩, hxwl2⟩
    refine CW.sub (S' := [(5, _), (0, _), (1, _)]) ⟨rfl, rfl, rfl, trivial⟩ ?_
    refine CW.seq ?_
    refine CW.seq ?_
    refine CW.region ?_
    refine RG.vl rfl rfl rfl (Ev.move rfl rfl) ?_
    refine RG.vl rfl rfl rfl (Ev.move rfl rfl) ?_
    refine RG.vl rfl rfl rfl (Ev.lenL rfl rfl rfl Try.underlying33 ((hl.ext hxwl2))) ?_
    refine RG.vl rfl rfl rfl (Ev.lss rfl rfl rfl) ?_
    refine RG.done ?_
    refine QW.then_ ?_
    refine CW.condP rfl (fun hc3 => ?_) (fun hc3 => ?_)
    · refine CW.skip ?_
      refine QW.then_ ?_
      refine CW.seq ?_
      refine CW.block ?_
      refine CW.seq ?_
      obtain ⟨b, hk⟩ : ∃ b, l[k]? = some b := ⟨_, List.getElem?_eq_getElem (by omega)⟩
      obtain ⟨c, hk2⟩ : ∃ c, m[k]? = some c := ⟨_, List.getElem?_eq_getElem (by omega)⟩
      refine CW.draw [] (.ex) 9 rfl mixed (fun wd4 hxwd4 => ?_)
      replace hxwl2 := Ex.tr hxwl2 hxwd4
      have hE5 := hxwd4
      refine AG.takeW 0 rfl (by kernel_rfl) (by kernel_rfl) rfl rfl rfl (fun _ => Ev.move rfl rfl) ?_
      refine AG.takeW 1 rfl (by kernel_rfl) (by kernel_rfl) rfl rfl rfl (fun _ => Ev.move rfl rfl) ?_
      refine AG.idxL _ 2 rfl (by kernel_rfl) (by kernel_rfl) rfl rfl rfl rfl rfl rfl Try.underlying33 sz_3 ((hl.ext hxwl2)) (hk) (fun p6 hp6b hp6 => ?_)
      refine AG.take 3 rfl (by kernel_rfl) (by kernel_rfl) rfl rfl rfl (fun wq hq => Ev.ld0 rfl rfl Try.underlying3 rfl (hp6.ext hq hp6b) (rfl)) ?_
      refine AG.takeW 4 rfl (by kernel_rfl) (by kernel_rfl) rfl rfl rfl (fun _ => Ev.move rfl rfl) ?_
      refine AG.takeW 5 rfl (by kernel_rfl) (by kernel_rfl) rfl rfl rfl (fun _ => Ev.move rfl rfl) ?_
      refine AG.idxL _ 6 rfl (by kernel_rfl) (by kernel_rfl) rfl rfl rfl rfl rfl rfl Try.underlying33 sz_3 ((hm.ext hxwl2)) (hk2) (fun p7 hp7b hp7 => ?_)
      refine AG.take 7 rfl (by kernel_rfl) (by kernel_rfl) rfl rfl rfl (fun wq hq => Ev.ld0 rfl rfl Try.underlying3 rfl (hp7.ext hq hp7b) (rfl)) ?_
      refine AG.takeW 8 rfl (by kernel_rfl) (by kernel_rfl) rfl rfl rfl (fun _ => Ev.neI rfl rfl rfl) ?_
      refine AG.done (by kernel_rfl) ?_
      refine QW.then_ ?_
      refine CW.condP rfl (fun hc8 => ?_) (fun hc8 => ?_)
      · refine CW.seq ?_
        refine CW.region ?_
        refine RG.vl rfl rfl rfl (Ev.assign rfl rfl) ?_
        refine RG.done ?_
        refine QW.sub (S' := [(0, _), (1, _), (4, _), (5, _)]) ⟨rfl, rfl, rfl, rfl, trivial⟩ ?_
        refine QW.then_ ?_
        refine CW.ret ?_
        refine QW.blockR ?_
        refine QW.thenRet ?_
        refine QW.thenRet ?_
        refine QW.blockR ?_
        refine QW.thenRet ?_
        refine QW.ret1 rfl rfl ?_
        have hB := (Ex.tr hB0 hxwl2)
        refine ⟨congrArg Value.bool ?_, hB⟩; rw [eq_comm, decide_eq_false_iff_not]; rintro rfl; rw [hk] at hk2; injection hk2 with hk2; subst hk2; omega
      · refine CW.skip ?_
        refine QW.blockN ?_
        refine QW.then_ ?_
        refine CW.region ?_
        refine RG.vl rfl rfl rfl (Ev.move rfl rfl) ?_
        refine RG.vl rfl rfl rfl (Ev.addI rfl rfl rfl (by omega)) ?_
        refine RG.vl rfl rfl rfl (Ev.assign rfl rfl) ?_
        refine RG.done ?_
        refine QW.sub (S' := [(0, _), (1, _), (5, _)]) ⟨rfl, rfl, rfl, trivial⟩ ?_
        refine QW.round1 (k + 1) ⟨rfl, trivial⟩ ⟨rfl, rfl, trivial⟩ ⟨⟨by omega, fun j hj => by rcases Nat.lt_or_ge j k with h | h; exact heq j h; obtain rfl : j = k := (by omega); rw [hk, hk2]; congr 1; omega⟩, (Ex.tr hB0 hxwl2)⟩ (by omega)
    · refine CW.exit ?_
      refine QW.thenExit ?_
      refine QW.thenExit ?_
      refine QW.blockHit ?_
      refine QW.then_ ?_
      refine CW.seq ?_
      refine CW.region ?_
      refine RG.vl rfl rfl rfl (Ev.assign rfl rfl) ?_
      refine RG.done ?_
      refine QW.then_ ?_
      refine CW.ret ?_
      refine QW.ret1 rfl rfl ?_
      have hB := (Ex.tr hB0 hxwl2)
      refine ⟨congrArg Value.bool ?_, hB⟩; rw [eq_comm, decide_eq_true_iff]; refine List.ext_getElem? fun j => ?_; rcases Nat.lt_or_ge j l.length with h | h; exact heq j (by omega); rw [List.getElem?_eq_none h, List.getElem?_eq_none (by omega)]

theorem write_is (u : Value) (l : List UInt8) (t : List UInt8) (e : Int) (w : World) (hl : RdL w 1 encB u l) (h : writeB l = (t, e)) : Ret Try.prog 12 [u] w (fun v w' => v = .tuple #[.string ⟨t.toArray⟩, .int .i64 e] ∧ Ex w w') := by
  have k := write_ret u l w hl; rw [h] at k; exact k
theorem turn_is (t x : List UInt8) (e : Int) (w : World) (h : turnB t = (x, e)) : Ret Try.prog 17 [.string ⟨t.toArray⟩] w (fun v w' => v = .tuple #[.string ⟨x.toArray⟩, .int .i64 e] ∧ Ex w w') := by
  have k := turn_ret t w; rw [h] at k; exact k
theorem frame_is (t x : List UInt8) (e : Int) (w : World) (h : frameB t = (x, e)) : Ret Try.prog 19 [.string ⟨t.toArray⟩] w (fun v w' => v = .tuple #[.string ⟨x.toArray⟩, .int .i64 e] ∧ Ex w w') := by
  have k := frame_ret t w; rw [h] at k; exact k
theorem unf_is (t x : List UInt8) (b : Bool) (e : Int) (w : World) (h : unframeB t = (x, b, e)) : Ret Try.prog 20 [.string ⟨t.toArray⟩] w (fun v w' => v = .tuple #[.string ⟨x.toArray⟩, .bool b, .int .i64 e] ∧ Ex w w') := by
  have k := unf_ret t w; rw [h] at k; exact k
theorem read_is (t l : List UInt8) (m : List Nat) (e : Int) (w : World) (h : readB t = (l, m, e)) : Ret Try.prog 15 [.string ⟨t.toArray⟩] w (fun v w' => ∃ r x, v = .tuple #[r, x, .int .i64 e] ∧ Own w' w.heap.size 5 1 encB r l ∧ Own w' w.heap.size 3 1 encZ x m ∧ Ex w w') := by
  have k := read_ret t w; rw [h] at k; exact k
theorem sameBt_ret (u v : Value) (l : List UInt8) (w : World) (hl : RdL w 1 encB u l) (hm : RdL w 1 encB v l) (hlen : l.length ≤ 100000) : Ret Try.prog 18 [u, v] w (fun v w' => v = .bool true ∧ Ex w w') := by
  have k := sameB_ret u v l l w hl hm hlen; rw [decide_eq_true (rfl : l = l)] at k; exact k
theorem sameIt_ret (u v : Value) (l : List Nat) (w : World) (hl : RdL w 1 encZ u l) (hm : RdL w 1 encZ v l) (hlen : l.length ≤ 100000) : Ret Try.prog 22 [u, v] w (fun v w' => v = .bool true ∧ Ex w w') := by
  have k := sameI_ret u v l l w hl hm hlen; rw [decide_eq_true (rfl : l = l)] at k; exact k

end Go.Proofs.Ytgafkbnlhlbmkaa
