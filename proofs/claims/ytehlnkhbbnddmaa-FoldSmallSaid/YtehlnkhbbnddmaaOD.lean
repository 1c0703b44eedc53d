/- Walks (OD). Written by program. -/
import Derived.Test.YtehlnkhbbnddmaaT
import Derived.Test.YtehlnkhbbnddmaaOQ
namespace Go.Proofs.Ytehlnkhbbnddmaa
open Go.RowKit
set_option maxRecDepth 100000 in
set_option maxHeartbeats 1000000 in
theorem has_ret (u : Value) (l : List (List UInt8)) (x : List UInt8) (w : World) (hl : RdL w 1 encT u l) (hlen : l.length ≤ 1000) :
    Ret Try.prog 28 [u, .string ⟨x.toArray⟩] w (fun v w' => v = .bool (decide (x ∈ l)) ∧ Ex w w') := by
  have hB0 : Ex w w := Ex.rfl_ _
  refine Ret.of Try.func28 rfl Try.ntmps28 rfl ?_
  refine CW.seq ?_
  refine CW.region ?_
  refine RG.vl rfl rfl rfl (Ev.assign rfl rfl) ?_
  refine RG.done ?_
  refine QW.then_ ?_
  refine CW.seq ?_
  refine CW.seq ?_
  refine CW.region ?_
  refine RG.vl rfl rfl rfl (Ev.move rfl rfl) ?_
  refine RG.vl rfl rfl rfl (Ev.lenL rfl rfl rfl Try.underlying32 (hl)) ?_
  refine RG.vl rfl rfl rfl (Ev.move rfl rfl) ?_
  refine RG.done ?_
  refine QW.then_ ?_
  refine CW.block ?_
  refine CW.loop1 [(1, _), (7, _), (8, _)] ⟨rfl, rfl, rfl, trivial⟩ (fun (i : Nat) => [(9, .int .i64 i)]) (fun i w' => (i ≤ l.length ∧ ∀ j y, j < i → l[j]? = some y → y ≠ x) ∧ Ex w w') (fun i => l.length - i) (0) ⟨rfl, trivial⟩ ⟨⟨Nat.zero_le _, fun j y h => absurd h (by omega)⟩, hB0⟩ ?_
  rintro i wl1 ⟨⟨hi, hno⟩, hxwl1⟩
  refine CW.sub (S' := [(9, _), (1, _), (7, _), (8, _)]) ⟨rfl, rfl, rfl, rfl, trivial⟩ ?_
  refine CW.seq ?_
  refine CW.region ?_
  refine RG.vl rfl rfl rfl (Ev.lss rfl rfl rfl) ?_
  refine RG.done ?_
  refine QW.then_ ?_
  refine CW.seq ?_
  refine CW.condP rfl (fun hc2 => ?_) (fun hc2 => ?_)
  · refine CW.skip ?_
    refine QW.then_ ?_
    refine CW.seq ?_
    refine CW.block ?_
    refine CW.seq ?_
    obtain ⟨y, hk⟩ : ∃ y, l[i]? = some y := ⟨_, List.getElem?_eq_getElem (by omega)⟩
    refine CW.region ?_
    refine RG.idxL rfl rfl rfl rfl rfl rfl Try.underlying32 sz_9 ((hl.ext hxwl1)) (hk) (fun p3 hp3b hp3 => ?_)
    refine RG.vl rfl rfl rfl (Ev.ld0 rfl rfl Try.underlying9 rfl (hp3) (rfl)) ?_
    refine RG.vl rfl rfl rfl (Ev.assign rfl rfl) ?_
    refine RG.done ?_
    refine QW.then_ ?_
    refine CW.seq ?_
    refine CW.region ?_
    refine RG.vl rfl rfl rfl (Ev.move rfl rfl) ?_
    refine RG.vl rfl rfl rfl (Ev.move rfl rfl) ?_
    refine RG.vl rfl rfl rfl (Ev.eqS rfl rfl rfl) ?_
    refine RG.done ?_
    refine QW.then_ ?_
    refine CW.condP rfl (fun hc4 => ?_) (fun hc4 => ?_)
    · refine CW.seq ?_
      refine CW.region ?_
      refine RG.vl rfl rfl rfl (Ev.assign rfl rfl) ?_
      refine RG.done ?_
      refine QW.then_ ?_
      refine CW.ret ?_
      refine QW.blockR ?_
      refine QW.thenRet ?_
      refine QW.thenRet ?_
      refine QW.blockR ?_
      refine QW.thenRet ?_
      refine QW.ret1 rfl rfl ?_
      have hB := (Ex.tr hB0 hxwl1)
      refine ⟨congrArg Value.bool ?_, hB⟩
      exact (decide_eq_true (by have e := binj.1 (show (⟨y.toArray⟩ : ByteArray) = ⟨x.toArray⟩ by assumption); rw [← e]; exact List.mem_of_getElem? hk)).symm
    · refine CW.skip ?_
      refine QW.blockN ?_
      refine QW.then_ ?_
      refine CW.region ?_
      refine RG.vl rfl rfl rfl (Ev.addI rfl rfl rfl (by omega)) ?_
      refine RG.vl rfl rfl rfl (Ev.move rfl rfl) ?_
      refine RG.done ?_
      refine QW.round1 (i + 1) ⟨rfl, trivial⟩ ⟨rfl, rfl, rfl, trivial⟩ ⟨⟨by omega, fun j y' hj hy => by rcases Nat.lt_or_ge j i with h | h; exact hno j y' h hy; obtain rfl : j = i := (by omega); rw [hk] at hy; injection hy with hy; subst hy; exact fun e => absurd (binj.2 e) (by assumption)⟩, (Ex.tr hB0 hxwl1)⟩ (by omega)
  · refine CW.exit ?_
    refine QW.thenExit ?_
    refine QW.thenExit ?_
    refine QW.blockHit ?_
    refine QW.then_ ?_
    refine CW.seq ?_
    refine CW.region ?_
    refine RG.vl rfl rfl rfl (Ev.assign rfl rfl) ?_
    refine RG.done ?_
    refine QW.then_ ?_
    refine CW.ret ?_
    refine QW.ret1 rfl rfl ?_
    have hB := (Ex.tr hB0 hxwl1)
    refine ⟨congrArg Value.bool ?_, hB⟩
    exact (decide_eq_false (fun h => by obtain ⟨j, hj⟩ := List.mem_iff_getElem?.1 h; exact hno j _ (by have := (List.getElem?_eq_some_iff.1 hj).1; omega) hj rfl)).symm

set_option maxRecDepth 100000 in
set_option maxHeartbeats 1000000 in
theorem lhas_ret (u : Value) (l : List (List UInt8)) (x : List UInt8) (w : World) (hl : RdL w 1 encT u l) (hlen : l.length ≤ 1000) :
    Ret Try.prog 14 [u, .string ⟨x.toArray⟩] w (fun v w' => v = .bool (decide (x ∈ l)) ∧ Ex w w') := by
  have hB0 : Ex w w := Ex.rfl_ _
  refine Ret.of Try.func14 rfl Try.ntmps14 rfl ?_
  refine CW.seq ?_
  refine CW.region ?_
  refine RG.vl rfl rfl rfl (Ev.assign rfl rfl) ?_
  refine RG.done ?_
  refine QW.then_ ?_
  refine CW.seq ?_
  refine CW.seq ?_
  refine CW.region ?_
  refine RG.vl rfl rfl rfl (Ev.assign rfl rfl) ?_
  refine RG.done ?_
  refine QW.then_ ?_
  refine CW.block ?_
  refine CW.loop1 [(0, _), (1, _)] ⟨rfl, rfl, trivial⟩ (fun (i : Nat) => [(5, .int .i64 i)]) (fun i w' => (i ≤ l.length ∧ ∀ j y, j < i → l[j]? = some y → y ≠ x) ∧ Ex w w') (fun i => l.length - i) (0) ⟨rfl, trivial⟩ ⟨⟨Nat.zero_le _, fun j y h => absurd h (by omega)⟩, hB0⟩ ?_
  rintro i wl1 ⟨⟨hi, hno⟩, hxwl1⟩
  refine CW.sub (S' := [(5, _), (0, _), (1, _)]) ⟨rfl, rfl, rfl, trivial⟩ ?_
  refine CW.seq ?_
  refine CW.seq ?_
  refine CW.region ?_
  refine RG.vl rfl rfl rfl (Ev.move rfl rfl) ?_
  refine RG.vl rfl rfl rfl (Ev.move rfl rfl) ?_
  refine RG.vl rfl rfl rfl (Ev.lenL rfl rfl rfl Try.underlying32 ((hl.ext hxwl1))) ?_
  refine RG.vl rfl rfl rfl (Ev.lss rfl rfl rfl) ?_
  refine RG.done ?_
  refine QW.then_ ?_
  refine CW.condP rfl (fun hc2 => ?_) (fun hc2 => ?_)
  · refine CW.skip ?_
    refine QW.then_ ?_
    refine CW.seq ?_
    refine CW.block ?_
    refine CW.seq ?_
    obtain ⟨y, hk⟩ : ∃ y, l[i]? = some y := ⟨_, List.getElem?_eq_getElem (by omega)⟩
    refine CW.region ?_
    refine RG.vl rfl rfl rfl (Ev.move rfl rfl) ?_
    refine RG.vl rfl rfl rfl (Ev.move rfl rfl) ?_
    refine RG.idxL rfl rfl rfl rfl rfl rfl Try.underlying32 sz_9 ((hl.ext hxwl1)) (hk) (fun p3 hp3b hp3 => ?_)
    refine RG.vl rfl rfl rfl (Ev.ld0 rfl rfl Try.underlying9 rfl (hp3) (rfl)) ?_
    refine RG.vl rfl rfl rfl (Ev.move rfl rfl) ?_
    refine RG.vl rfl rfl rfl (Ev.eqS rfl rfl rfl) ?_
    refine RG.done ?_
    refine QW.then_ ?_
    refine CW.condP rfl (fun hc4 => ?_) (fun hc4 => ?_)
    · refine CW.seq ?_
      refine CW.region ?_
      refine RG.vl rfl rfl rfl (Ev.assign rfl rfl) ?_
      refine RG.done ?_
      refine QW.then_ ?_
      refine CW.ret ?_
      refine QW.blockR ?_
      refine QW.thenRet ?_
      refine QW.thenRet ?_
      refine QW.blockR ?_
      refine QW.thenRet ?_
      refine QW.ret1 rfl rfl ?_
      have hB := (Ex.tr hB0 hxwl1)
      refine ⟨congrArg Value.bool ?_, hB⟩
      exact (decide_eq_true (by have e := binj.1 (show (⟨y.toArray⟩ : ByteArray) = ⟨x.toArray⟩ by assumption); rw [← e]; exact List.mem_of_getElem? hk)).symm
    · refine CW.skip ?_
      refine QW.blockN ?_
      refine QW.then_ ?_
      refine CW.region ?_
      refine RG.vl rfl rfl rfl (Ev.move rfl rfl) ?_
      refine RG.vl rfl rfl rfl (Ev.addI rfl rfl rfl (by omega)) ?_
      refine RG.vl rfl rfl rfl (Ev.assign rfl rfl) ?_
      refine RG.done ?_
      refine QW.round1 (i + 1) ⟨rfl, trivial⟩ ⟨rfl, rfl, trivial⟩ ⟨⟨by omega, fun j y' hj hy => by rcases Nat.lt_or_ge j i with h | h; exact hno j y' h hy; obtain rfl : j = i := (by omega); rw [hk] at hy; injection hy with hy; subst hy; exact fun e => absurd (binj.2 e) (by assumption)⟩, (Ex.tr hB0 hxwl1)⟩ (by omega)
  · refine CW.exit ?_
    refine QW.thenExit ?_
    refine QW.thenExit ?_
    refine QW.blockHit ?_
    refine QW.then_ ?_
    refine CW.seq ?_
    refine CW.region ?_
    refine RG.vl rfl rfl rfl (Ev.assign rfl rfl) ?_
    refine RG.done ?_
    refine QW.then_ ?_
    refine CW.ret ?_
    refine QW.ret1 rfl rfl ?_
    have hB := (Ex.tr hB0 hxwl1)
    refine ⟨congrArg Value.bool ?_, hB⟩
    exact (decide_eq_false (fun h => by obtain ⟨j, hj⟩ := List.mem_iff_getElem?.1 h; exact hno j _ (by have := (List.getElem?_eq_some_iff.1 hj).1; omega) hj rfl)).symm

set_option maxRecDepth 100000 in
set_option maxHeartbeats 1000000 in
theorem texts_ret (u v : Value) (l m : List (List UInt8)) (w : World) (hl : RdL w 1 encT u l) (hm : RdL w 1 encT v m) (hlen : l.length ≤ 1000) :
    Ret Try.prog 25 [u, v] w (fun v w' => v = .bool (decide (l = m)) ∧ Ex w w') := by
  have hB0 : Ex w w := Ex.rfl_ _
  refine Ret.of Try.func25 rfl Try.ntmps25 rfl ?_
  refine CW.seq ?_
  refine CW.region ?_
  refine RG.vl rfl rfl rfl (Ev.assign rfl rfl) ?_
  refine RG.done ?_
  refine QW.then_ ?_
  refine CW.seq ?_
  refine CW.seq ?_
  refine CW.region ?_
  refine RG.vl rfl rfl rfl (Ev.move rfl rfl) ?_
  refine RG.vl rfl rfl rfl (Ev.lenL rfl rfl rfl Try.underlying32 (hl)) ?_
  refine RG.vl rfl rfl rfl (Ev.move rfl rfl) ?_
  refine RG.vl rfl rfl rfl (Ev.lenL rfl rfl rfl Try.underlying32 (hm)) ?_
  refine RG.vl rfl rfl rfl (Ev.neI rfl rfl rfl) ?_
  refine RG.done ?_
  refine QW.then_ ?_
  refine CW.condP rfl (fun hc1 => ?_) (fun hc1 => ?_)
  · refine CW.seq ?_
    refine CW.region ?_
    refine RG.vl rfl rfl rfl (Ev.assign rfl rfl) ?_
    refine RG.done ?_
    refine QW.then_ ?_
    refine CW.ret ?_
    refine QW.thenRet ?_
    refine QW.ret1 rfl rfl ?_
    have hB := hB0
    refine ⟨congrArg Value.bool ?_, hB⟩
    exact (decide_eq_false (fun h => by have := congrArg List.length h; omega)).symm
  · refine CW.skip ?_
    refine QW.then_ ?_
    refine CW.seq ?_
    refine CW.seq ?_
    refine CW.region ?_
    refine RG.vl rfl rfl rfl (Ev.assign rfl rfl) ?_
    refine RG.done ?_
    refine QW.then_ ?_
    refine CW.block ?_
    refine CW.loop1 [(0, _), (1, _)] ⟨rfl, rfl, trivial⟩ (fun (i : Nat) => [(5, .int .i64 i)]) (fun i w' => (i ≤ l.length ∧ l.length = m.length ∧ ∀ j, j < i → l[j]? = m[j]?) ∧ Ex w w') (fun i => l.length - i) (0) ⟨rfl, trivial⟩ ⟨⟨Nat.zero_le _, by omega, fun j h => absurd h (by omega)⟩, hB0⟩ ?_
    rintro i wl2 ⟨⟨hi, hlm, heq⟩, hxwl2⟩
    refine CW.sub (S' := [(5, _), (0, _), (1, _)]) ⟨rfl, rfl, rfl, trivial⟩ ?_
    refine CW.seq ?_
    refine CW.seq ?_
    refine CW.region ?_
    refine RG.vl rfl rfl rfl (Ev.move rfl rfl) ?_
    refine RG.vl rfl rfl rfl (Ev.move rfl rfl) ?_
    refine RG.vl rfl rfl rfl (Ev.lenL rfl rfl rfl Try.underlying32 ((hl.ext hxwl2))) ?_
    refine RG.vl rfl rfl rfl (Ev.lss rfl rfl rfl) ?_
    refine RG.done ?_
    refine QW.then_ ?_
    refine CW.condP rfl (fun hc3 => ?_) (fun hc3 => ?_)
    · refine CW.skip ?_
      refine QW.then_ ?_
      refine CW.seq ?_
      refine CW.block ?_
      refine CW.seq ?_
      obtain ⟨y, hk⟩ : ∃ y, l[i]? = some y := ⟨_, List.getElem?_eq_getElem (by omega)⟩
      obtain ⟨z, hk2⟩ : ∃ z, m[i]? = some z := ⟨_, List.getElem?_eq_getElem (by omega)⟩
      refine CW.draw [] (.ex) 9 rfl mixed (fun wd4 hxwd4 => ?_)
      replace hxwl2 := Ex.tr hxwl2 hxwd4
      have hE5 := hxwd4
      refine AG.takeW 0 rfl (by kernel_rfl) (by kernel_rfl) rfl rfl rfl (fun _ => Ev.move rfl rfl) ?_
      refine AG.takeW 1 rfl (by kernel_rfl) (by kernel_rfl) rfl rfl rfl (fun _ => Ev.move rfl rfl) ?_
      refine AG.idxL _ 2 rfl (by kernel_rfl) (by kernel_rfl) rfl rfl rfl rfl rfl rfl Try.underlying32 sz_9 ((hl.ext hxwl2)) (hk) (fun p6 hp6b hp6 => ?_)
      refine AG.take 3 rfl (by kernel_rfl) (by kernel_rfl) rfl rfl rfl (fun wq hq => Ev.ld0 rfl rfl Try.underlying9 rfl (hp6.ext hq hp6b) (rfl)) ?_
      refine AG.takeW 4 rfl (by kernel_rfl) (by kernel_rfl) rfl rfl rfl (fun _ => Ev.move rfl rfl) ?_
      refine AG.takeW 5 rfl (by kernel_rfl) (by kernel_rfl) rfl rfl rfl (fun _ => Ev.move rfl rfl) ?_
      refine AG.idxL _ 6 rfl (by kernel_rfl) (by kernel_rfl) rfl rfl rfl rfl rfl rfl Try.underlying32 sz_9 ((hm.ext hxwl2)) (hk2) (fun p7 hp7b hp7 => ?_)
      refine AG.take 7 rfl (by kernel_rfl) (by kernel_rfl) rfl rfl rfl (fun wq hq => Ev.ld0 rfl rfl Try.underlying9 rfl (hp7.ext hq hp7b) (rfl)) ?_
      refine AG.takeW 8 rfl (by kernel_rfl) (by kernel_rfl) rfl rfl rfl (fun _ => Ev.neS rfl rfl rfl) ?_
      refine AG.done (by kernel_rfl) ?_
      refine QW.then_ ?_
      refine CW.condP rfl (fun hc8 => ?_) (fun hc8 => ?_)
      · refine CW.seq ?_
        refine CW.region ?_
        refine RG.vl rfl rfl rfl (Ev.assign rfl rfl) ?_
        refine RG.done ?_
        refine QW.sub (S' := [(0, _), (1, _), (4, _), (5, _)]) ⟨rfl, rfl, rfl, rfl, trivial⟩ ?_
        refine QW.then_ ?_
        refine CW.ret ?_
        refine QW.blockR ?_
        refine QW.thenRet ?_
        refine QW.thenRet ?_
        refine QW.blockR ?_
        refine QW.thenRet ?_
        refine QW.ret1 rfl rfl ?_
        have hB := (Ex.tr hB0 hxwl2)
        refine ⟨congrArg Value.bool ?_, hB⟩
        exact (decide_eq_false (fun h => by subst h; rw [hk] at hk2; injection hk2 with hk2; exact absurd (binj.2 hk2) (by assumption))).symm
      · refine CW.skip ?_
        refine QW.blockN ?_
        refine QW.then_ ?_
        refine CW.region ?_
        refine RG.vl rfl rfl rfl (Ev.move rfl rfl) ?_
        refine RG.vl rfl rfl rfl (Ev.addI rfl rfl rfl (by omega)) ?_
        refine RG.vl rfl rfl rfl (Ev.assign rfl rfl) ?_
        refine RG.done ?_
        refine QW.sub (S' := [(0, _), (1, _), (5, _)]) ⟨rfl, rfl, rfl, trivial⟩ ?_
        refine QW.round1 (i + 1) ⟨rfl, trivial⟩ ⟨rfl, rfl, trivial⟩ ⟨⟨by omega, hlm, fun j hj => by rcases Nat.lt_or_ge j i with h | h; exact heq j h; obtain rfl : j = i := (by omega); rw [hk, hk2, binj.1 (show (⟨y.toArray⟩ : ByteArray) = ⟨z.toArray⟩ from Decidable.not_not.1 (by assumption))]⟩, (Ex.tr hB0 hxwl2)⟩ (by omega)
    · refine CW.exit ?_
      refine QW.thenExit ?_
      refine QW.thenExit ?_
      refine QW.blockHit ?_
      refine QW.then_ ?_
      refine CW.seq ?_
      refine CW.region ?_
      refine RG.vl rfl rfl rfl (Ev.assign rfl rfl) ?_
      refine RG.done ?_
      refine QW.then_ ?_
      refine CW.ret ?_
      refine QW.ret1 rfl rfl ?_
      have hB := (Ex.tr hB0 hxwl2)
      refine ⟨congrArg Value.bool ?_, hB⟩
      exact (decide_eq_true (by refine List.ext_getElem? fun j => ?_; rcases Nat.lt_or_ge j l.length with h | h; exact heq j (by omega); rw [List.getElem?_eq_none h, List.getElem?_eq_none (by omega)])).symm

end Go.Proofs.Ytehlnkhbbnddmaa
