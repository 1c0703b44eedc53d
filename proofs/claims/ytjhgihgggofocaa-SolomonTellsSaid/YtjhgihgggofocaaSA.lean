/- Walks (SA). Written by program. -/
import Derived.Test.YtjhgihgggofocaaT
import Derived.Test.YtjhgihgggofocaaSD
import Derived.Test.YtjhgihgggofocaaLU
import Derived.Test.YtjhgihgggofocaaLM
namespace Go.Proofs.Ytjhgihgggofocaa
open Go.RowKit
set_option maxRecDepth 100000 in
set_option maxHeartbeats 1000000 in
theorem clone_ret (u : Value) (l : List Nat) (w : World) (hl : RdL w 1 encN u l) (hlen : l.length ≤ 100000) :
    Ret Try.prog 39 [u] w (fun v w' => Own w' w.heap.size 5 1 encN v l ∧ Ex w w') := by
  obtain ⟨uA, uC, rfl⟩ := hl.shape
  have hB0 : Ex w w := Ex.rfl_ _
  refine Ret.of Try.func39 rfl Try.ntmps39 rfl ?_
  refine CW.seq ?_
  refine CW.region ?_
  refine RG.vl rfl rfl rfl (Ev.assign rfl rfl) ?_
  refine RG.done ?_
  refine QW.then_ ?_
  refine CW.seq ?_
  refine CW.seq ?_
  refine CW.region ?_
  refine RG.vl rfl rfl rfl (Ev.move rfl rfl) ?_
  refine RG.vl rfl rfl rfl (Ev.eqNil rfl rfl rfl Try.underlying22) ?_
  refine RG.done ?_
  refine QW.then_ ?_
  refine CW.cond rfl (fun hc1 => ?_) (fun hc1 => ?_)
  · refine CW.seq ?_
    refine CW.region ?_
    refine RG.vl rfl rfl rfl (Ev.assign rfl rfl) ?_
    refine RG.done ?_
    refine QW.then_ ?_
    refine CW.ret ?_
    refine QW.thenRet ?_
    refine QW.ret1 rfl rfl ?_
    have hB := hB0
    obtain rfl : uA = none := Option.isNone_iff_eq_none.1 (by assumption)
    have hl0 := RdL.of_none hl
    subst hl0
    exact ⟨Own.nil_ _ _ _ _ _, hB⟩
  · refine CW.skip ?_
    refine QW.then_ ?_
    refine CW.seq ?_
    have hn0 : ([] : List Nat).length = 0 := rfl
    refine CW.region ?_
    refine RG.build0O (enc := encN) rfl rfl rfl rfl rfl Try.underlying22 sz_5 (fun v2 wk3 hxwk3 hown4 hnew5 => ?_)
    have hE6 := hxwk3
    refine RG.vl rfl rfl rfl (Ev.move rfl rfl) ?_
    refine RG.appO rfl rfl rfl rfl rfl rfl rfl Try.underlying22 inf_5 rfl rfl encN_len (fun _ => rfl) hown4 ((hl.ext hE6)) (by simp only [maxLen]; omega) (by omega) (hE6.size) (fun v7 wa8 hown9 hgr10 hat11 => ?_)
    replace hE6 := own_block hown4 hE6 hgr10 (Nat.le_refl _) hE6.size
    refine RG.vl rfl rfl rfl (Ev.assign rfl rfl) ?_
    refine RG.done ?_
    refine QW.then_ ?_
    refine CW.ret ?_
    refine QW.ret1 rfl rfl ?_
    have hB := (Ex.tr hB0 hE6)
    exact ⟨(show Own _ _ _ _ _ _ l from hown9).low (by have := hB0.size; omega), hB⟩

set_option maxRecDepth 100000 in
set_option maxHeartbeats 1000000 in
theorem cloneI_ret (u : Value) (l : List Nat) (w : World) (hl : RdL w 1 encZ u l) (hlen : l.length ≤ 100000) :
    Ret Try.prog 54 [u] w (fun v w' => Own w' w.heap.size 3 1 encZ v l ∧ Ex w w') := by
  obtain ⟨uA, uC, rfl⟩ := hl.shape
  have hB0 : Ex w w := Ex.rfl_ _
  refine Ret.of Try.func54 rfl Try.ntmps54 rfl ?_
  refine CW.seq ?_
  refine CW.region ?_
  refine RG.vl rfl rfl rfl (Ev.assign rfl rfl) ?_
  refine RG.done ?_
  refine QW.then_ ?_
  refine CW.seq ?_
  refine CW.seq ?_
  refine CW.region ?_
  refine RG.vl rfl rfl rfl (Ev.move rfl rfl) ?_
  refine RG.vl rfl rfl rfl (Ev.eqNil rfl rfl rfl Try.underlying23) ?_
  refine RG.done ?_
  refine QW.then_ ?_
  refine CW.cond rfl (fun hc1 => ?_) (fun hc1 => ?_)
  · refine CW.seq ?_
    refine CW.region ?_
    refine RG.vl rfl rfl rfl (Ev.assign rfl rfl) ?_
    refine RG.done ?_
    refine QW.then_ ?_
    refine CW.ret ?_
    refine QW.thenRet ?_
    refine QW.ret1 rfl rfl ?_
    have hB := hB0
    obtain rfl : uA = none := Option.isNone_iff_eq_none.1 (by assumption)
    have hl0 := RdL.of_none hl
    subst hl0
    exact ⟨Own.nil_ _ _ _ _ _, hB⟩
  · refine CW.skip ?_
    refine QW.then_ ?_
    refine CW.seq ?_
    have hn0 : ([] : List Nat).length = 0 := rfl
    refine CW.region ?_
    refine RG.build0O (enc := encZ) rfl rfl rfl rfl rfl Try.underlying23 sz_3 (fun v2 wk3 hxwk3 hown4 hnew5 => ?_)
    have hE6 := hxwk3
    refine RG.vl rfl rfl rfl (Ev.move rfl rfl) ?_
    refine RG.appO rfl rfl rfl rfl rfl rfl rfl Try.underlying23 inf_3 rfl rfl encZ_len (fun _ => rfl) hown4 ((hl.ext hE6)) (by simp only [maxLen]; omega) (by omega) (hE6.size) (fun v7 wa8 hown9 hgr10 hat11 => ?_)
    replace hE6 := own_block hown4 hE6 hgr10 (Nat.le_refl _) hE6.size
    refine RG.vl rfl rfl rfl (Ev.assign rfl rfl) ?_
    refine RG.done ?_
    refine QW.then_ ?_
    refine CW.ret ?_
    refine QW.ret1 rfl rfl ?_
    have hB := (Ex.tr hB0 hE6)
    exact ⟨(show Own _ _ _ _ _ _ l from hown9).low (by have := hB0.size; omega), hB⟩

set_option maxRecDepth 100000 in
set_option maxHeartbeats 1000000 in
theorem reverse_ret (w0 : World) (x : Value) (l : List Nat) (w : World) (hx0 : Ex w0 w) (hown : Own w w0.heap.size 5 1 encN x l) (hlen : l.length ≤ 100000) :
    Ret Try.prog 64 [x] w (fun v w' => v = .tuple #[] ∧ Own w' w0.heap.size 5 1 encN x l.reverse ∧ Ex w0 w') := by
  have hB0 : Ex w w := Ex.rfl_ _
  refine Ret.of Try.func64 rfl Try.ntmps64 rfl ?_
  refine CW.seq ?_
  refine CW.region ?_
  refine RG.vl rfl rfl rfl (Ev.move rfl rfl) ?_
  refine RG.vl rfl rfl rfl (Ev.lenL rfl rfl rfl Try.underlying22 ((hown.rdl encN_len))) ?_
  refine RG.vl rfl rfl rfl (Ev.subI rfl rfl rfl (by omega)) ?_
  refine RG.vl rfl rfl rfl (Ev.assign rfl rfl) ?_
  refine RG.vl rfl rfl rfl (Ev.assign rfl rfl) ?_
  refine RG.done ?_
  refine QW.then_ ?_
  refine CW.block ?_
  refine CW.loop1 [(0, _)] ⟨rfl, trivial⟩ (fun (i : Nat) => [(2, .int .i64 (i : Int)), (3, .int .i64 ((l.length : Int) - 1 - (i : Int)))]) (fun i w' => (2 * i ≤ l.length + 1 ∧ Own w' w0.heap.size 5 1 encN x (rvS l i)) ∧ Ex w0 w') (fun i => l.length - i) (0) ⟨rfl, congrArg (fun x => some (Value.int .i64 x)) (by omega), trivial⟩ ⟨⟨by omega, by rw [rvS_zero]; exact hown⟩, hx0⟩ ?_
  rintro i wl1 ⟨⟨hi, hoL⟩, hxwl1⟩
  refine CW.sub (S' := [(2, _), (3, _), (0, _)]) ⟨rfl, rfl, rfl, trivial⟩ ?_
  refine CW.seq ?_
  refine CW.seq ?_
  refine CW.region ?_
  refine RG.vl rfl rfl rfl (Ev.move rfl rfl) ?_
  refine RG.vl rfl rfl rfl (Ev.move rfl rfl) ?_
  refine RG.vl rfl rfl rfl (Ev.lss rfl rfl rfl) ?_
  refine RG.done ?_
  refine QW.then_ ?_
  refine CW.condP rfl (fun hc2 => ?_) (fun hc2 => ?_)
  · refine CW.skip ?_
    refine QW.then_ ?_
    refine CW.seq ?_
    refine CW.block ?_
    obtain ⟨j, hj⟩ : ∃ j, j = l.length - 1 - i := ⟨_, rfl⟩
    have hji : 2 * i + 1 < l.length := by omega
    have ha1 : (rvS l i)[i]? = some (cf l i) := by rw [rvS_at (by omega), if_neg (by omega)]
    have ha2 : (rvS l i)[j]? = some (cf l j) := by rw [rvS_at (by omega), if_neg (by omega)]
    have hcj : ((l.length : Int) - 1 - (i : Int)) = (j : Int) := by omega
    rw [hcj]
    have hrl := rvS_len l i
    have ha3 : ((rvS l i).set i (cf l j))[j]? = some (cf l j) := by rw [List.getElem?_set_ne (by omega)]; exact ha2
    refine CW.draw [13, 15] (.ex) 16 rfl mixed (fun wd3 hxwd3 => ?_)
    replace hxwl1 := Ex.tr hxwl1 hxwd3
    have hE4 := hxwd3
    refine AG.takeW 0 rfl (by kernel_rfl) (by kernel_rfl) rfl rfl rfl (fun _ => Ev.move rfl rfl) ?_
    refine AG.takeW 1 rfl (by kernel_rfl) (by kernel_rfl) rfl rfl rfl (fun _ => Ev.move rfl rfl) ?_
    refine AG.takeW 2 rfl (by kernel_rfl) (by kernel_rfl) rfl rfl rfl (fun _ => Ev.move rfl rfl) ?_
    refine AG.takeW 3 rfl (by kernel_rfl) (by kernel_rfl) rfl rfl rfl (fun _ => Ev.move rfl rfl) ?_
    refine AG.takeW 4 rfl (by kernel_rfl) (by kernel_rfl) rfl rfl rfl (fun _ => Ev.move rfl rfl) ?_
    refine AG.takeW 5 rfl (by kernel_rfl) (by kernel_rfl) rfl rfl rfl (fun _ => Ev.move rfl rfl) ?_
    refine AG.idxO _ 6 rfl (by kernel_rfl) (by kernel_rfl) rfl rfl rfl rfl rfl rfl Try.underlying22 sz_5 encN_len ((Own.ext hoL hE4)) (ha2) (fun g6 hg6 hBg6 hp5b hp5 => ?_)
    refine AG.take 7 rfl (by kernel_rfl) (by kernel_rfl) rfl rfl rfl (fun wq hq => Ev.ld0 rfl rfl Try.underlying5 rfl (hp5.ext hq hp5b) (rfl)) ?_
    refine AG.takeW 8 rfl (by kernel_rfl) (by kernel_rfl) rfl rfl rfl (fun _ => Ev.move rfl rfl) ?_
    refine AG.takeW 9 rfl (by kernel_rfl) (by kernel_rfl) rfl rfl rfl (fun _ => Ev.move rfl rfl) ?_
    refine AG.idxO _ 10 rfl (by kernel_rfl) (by kernel_rfl) rfl rfl rfl rfl rfl rfl Try.underlying22 sz_5 encN_len ((Own.ext hoL hE4)) (ha1) (fun g8 hg8 hBg8 hp7b hp7 => ?_)
    refine AG.take 11 rfl (by kernel_rfl) (by kernel_rfl) rfl rfl rfl (fun wq hq => Ev.ld0 rfl rfl Try.underlying5 rfl (hp7.ext hq hp7b) (rfl)) ?_
    refine AG.idxO _ 12 rfl (by kernel_rfl) (by kernel_rfl) rfl rfl rfl rfl rfl rfl Try.underlying22 sz_5 encN_len ((Own.ext hoL hE4)) (ha1) (fun g10 hg10 hBg10 hp9b hp9 => ?_)
    refine AG.only 13 rfl (by kernel_rfl) ?_
    refine RG.stOw0 (g := g10) (cf l j) rfl rfl rfl rfl rfl sz_5 rfl (fun _ => rfl) (Own.ext hoL hE4) hg10 (ha1) rfl (rfl) (fun ws12 hwws12 hown13 => ?_)
    replace hxwl1 := Wr.below hxwl1 hwws12 hBg10
    refine RG.done ?_
    refine QW.an (fun h => by simp at h) ?_
    refine AG.idxO _ 14 rfl (by kernel_rfl) (by kernel_rfl) rfl rfl rfl rfl rfl rfl Try.underlying22 sz_5 encN_len (hown13) (ha3) (fun g15 hg15 hBg15 hp14b hp14 => ?_)
    refine AG.only 15 rfl (by kernel_rfl) ?_
    refine RG.stOw0 (g := g15) (cf l i) rfl rfl rfl rfl rfl sz_5 rfl (fun _ => rfl) hown13 hg15 (ha3) rfl (rfl) (fun ws17 hwws17 hown18 => ?_)
    replace hxwl1 := Wr.below hxwl1 hwws17 hBg15
    refine RG.done ?_
    refine QW.an (fun h => by simp at h) ?_
    refine AG.done (by kernel_rfl) ?_
    refine QW.sub (S' := [(0, _), (2, _), (3, _)]) ⟨rfl, rfl, rfl, trivial⟩ ?_
    refine QW.blockN ?_
    refine QW.then_ ?_
    refine CW.region ?_
    refine RG.vl rfl rfl rfl (Ev.move rfl rfl) ?_
    refine RG.vl rfl rfl rfl (Ev.addI rfl rfl rfl (by omega)) ?_
    refine RG.vl rfl rfl rfl (Ev.move rfl rfl) ?_
    refine RG.vl rfl rfl rfl (Ev.subI rfl rfl rfl (by omega)) ?_
    refine RG.vl rfl rfl rfl (Ev.assign rfl rfl) ?_
    refine RG.vl rfl rfl rfl (Ev.assign rfl rfl) ?_
    refine RG.done ?_
    refine QW.round1 (i + 1) ⟨rfl, congrArg (fun x => some (Value.int .i64 x)) (by omega), trivial⟩ ⟨rfl, trivial⟩ ⟨⟨by omega, by rw [← rvS_step hji, ← hj]; exact hown18⟩, hxwl1⟩ (by omega)
  · refine CW.exit ?_
    refine QW.thenExit ?_
    refine QW.thenExit ?_
    refine QW.blockHit ?_
    refine QW.end0 rfl ?_
    rw [rvS_end (by omega)] at hoL
    exact ⟨rfl, hoL, hxwl1⟩

set_option maxRecDepth 100000 in
set_option maxHeartbeats 1000000 in
theorem areE1_ret (a : Nat) (w : World)  :
    Ret Try.prog 60 [.int .u8 (a : Int)] w (fun v w' => v = .bool (decide ((64 : Int) ≤ (a : Int))) ∧ Ex w w') := by
  have hB0 : Ex w w := Ex.rfl_ _
  refine Ret.of Try.func60 rfl Try.ntmps60 rfl ?_
  refine CW.seq ?_
  refine CW.region ?_
  refine RG.vl rfl rfl rfl (Ev.assign rfl rfl) ?_
  refine RG.done ?_
  refine QW.then_ ?_
  refine CW.seq ?_
  refine CW.region ?_
  refine RG.vl rfl rfl rfl (Ev.move rfl rfl) ?_
  refine RG.vl rfl rfl rfl (Ev.geq rfl rfl rfl) ?_
  refine RG.vl rfl rfl rfl (Ev.assign rfl rfl) ?_
  refine RG.done ?_
  refine QW.then_ ?_
  refine CW.ret ?_
  refine QW.ret1 rfl rfl ?_
  have hB := hB0
  exact ⟨rfl, hB⟩

set_option maxRecDepth 100000 in
set_option maxHeartbeats 1000000 in
theorem indexF_ret (u : Value) (l : List Nat) (w : World) (hl : RdL w 1 encN u l) (hlen : l.length ≤ 100000) :
    Ret Try.prog 74 [u, .func (.func 60) #[] #[]] w (fun v w' => ∃ k : Int, v = .int .i64 k ∧ (0 ≤ k ↔ areE l = false) ∧ Ex w w') := by
  have hB0 : Ex w w := Ex.rfl_ _
  refine Ret.of Try.func74 rfl Try.ntmps74 rfl ?_
  refine CW.seq ?_
  refine CW.region ?_
  refine RG.vl rfl rfl rfl (Ev.assign rfl rfl) ?_
  refine RG.done ?_
  refine QW.then_ ?_
  refine CW.seq ?_
  refine CW.seq ?_
  refine CW.region ?_
  refine RG.vl rfl rfl rfl (Ev.move rfl rfl) ?_
  refine RG.vl rfl rfl rfl (Ev.lenL rfl rfl rfl Try.underlying22 (hl)) ?_
  refine RG.vl rfl rfl rfl (Ev.move rfl rfl) ?_
  refine RG.done ?_
  refine QW.then_ ?_
  refine CW.block ?_
  refine CW.loop1 [(0, _), (1, _), (7, _)] ⟨rfl, rfl, rfl, trivial⟩ (fun (i : Nat) => [(8, .int .i64 i)]) (fun i w' => (i ≤ l.length ∧ ∀ j a, j < i → l[j]? = some a → a < 64) ∧ Ex w w') (fun i => l.length - i) (0) ⟨rfl, trivial⟩ ⟨⟨Nat.zero_le _, fun j a h => absurd h (by omega)⟩, hB0⟩ ?_
  rintro i wl1 ⟨⟨hi, hall⟩, hxwl1⟩
  refine CW.sub (S' := [(8, _), (0, _), (1, _), (7, _)]) ⟨rfl, rfl, rfl, rfl, trivial⟩ ?_
  refine CW.seq ?_
  refine CW.region ?_
  refine RG.vl rfl rfl rfl (Ev.lss rfl rfl rfl) ?_
  refine RG.done ?_
  refine QW.then_ ?_
  refine CW.seq ?_
  refine CW.condP rfl (fun hc2 => ?_) (fun hc2 => ?_)
  · refine CW.skip ?_
    refine QW.then_ ?_
    refine CW.seq ?_
    refine CW.block ?_
    refine CW.seq ?_
    refine CW.region ?_
    refine RG.vl rfl rfl rfl (Ev.move rfl rfl) ?_
    refine RG.vl rfl rfl rfl (Ev.assign rfl rfl) ?_
    refine RG.done ?_
    refine QW.then_ ?_
    refine CW.seq ?_
    obtain ⟨x, hx⟩ : ∃ x, l[i]? = some x := ⟨_, List.getElem?_eq_getElem (by omega)⟩
    refine CW.region ?_
    refine RG.vl rfl rfl rfl (Ev.move rfl rfl) ?_
    refine RG.vl rfl rfl rfl (Ev.move rfl rfl) ?_
    refine RG.vl rfl rfl rfl (Ev.move rfl rfl) ?_
    refine RG.idxL rfl rfl rfl rfl rfl rfl Try.underlying22 sz_5 ((hl.ext hxwl1)) (hx) (fun p3 hp3b hp3 => ?_)
    refine RG.vl rfl rfl rfl (Ev.ld0 rfl rfl Try.underlying5 rfl (hp3) (rfl)) ?_
    refine RG.call rfl rfl rfl rfl rfl rfl rfl en_60 (areE1_ret _ _) ?_
    rintro _ w4 ⟨rfl, hx4⟩
    replace hxwl1 := Ex.tr hxwl1 hx4
    have hE5 := hx4
    refine RG.done ?_
    refine QW.then_ ?_
    refine CW.condP rfl (fun hc6 => ?_) (fun hc6 => ?_)
    · refine CW.seq ?_
      refine CW.region ?_
      refine RG.vl rfl rfl rfl (Ev.move rfl rfl) ?_
      refine RG.vl rfl rfl rfl (Ev.assign rfl rfl) ?_
      refine RG.done ?_
      refine QW.then_ ?_
      refine CW.ret ?_
      refine QW.blockR ?_
      refine QW.thenRet ?_
      refine QW.thenRet ?_
      refine QW.blockR ?_
      refine QW.thenRet ?_
      refine QW.ret1 rfl rfl ?_
      have hB := (Ex.tr hB0 hxwl1)
      exact ⟨_, rfl, ⟨fun _ => areE_no hx (by omega), fun _ => by omega⟩, hB⟩
    · refine CW.skip ?_
      refine QW.blockN ?_
      refine QW.then_ ?_
      refine CW.region ?_
      refine RG.vl rfl rfl rfl (Ev.addI rfl rfl rfl (by omega)) ?_
      refine RG.vl rfl rfl rfl (Ev.move rfl rfl) ?_
      refine RG.done ?_
      refine QW.round1 (i + 1) ⟨rfl, trivial⟩ ⟨rfl, rfl, rfl, trivial⟩ ⟨⟨by omega, fun j a hj hja => by rcases Nat.lt_or_ge j i with h | h; exact hall j a h hja; obtain rfl : j = i := (by omega); rw [hx] at hja; injection hja with hja; omega⟩, (Ex.tr hB0 hxwl1)⟩ (by omega)
  · refine CW.exit ?_
    refine QW.thenExit ?_
    refine QW.thenExit ?_
    refine QW.blockHit ?_
    refine QW.then_ ?_
    refine CW.seq ?_
    refine CW.region ?_
    refine RG.vl rfl rfl rfl (Ev.assign rfl rfl) ?_
    refine RG.done ?_
    refine QW.then_ ?_
    refine CW.ret ?_
    refine QW.ret1 rfl rfl ?_
    have hB := (Ex.tr hB0 hxwl1)
    have hy := areE_yes (l := l) (fun j a hj => hall j a (by omega))
    exact ⟨_, rfl, ⟨fun h => absurd h (by decide), fun h => by rw [hy] at h; cases h⟩, hB⟩

set_option maxRecDepth 100000 in
set_option maxHeartbeats 1000000 in
theorem containsF_ret (u : Value) (l : List Nat) (w : World) (hl : RdL w 1 encN u l) (hlen : l.length ≤ 100000) :
    Ret Try.prog 59 [u, .func (.func 60) #[] #[]] w (fun v w' => v = .bool (!areE l) ∧ Ex w w') := by
  have hB0 : Ex w w := Ex.rfl_ _
  refine Ret.of Try.func59 rfl Try.ntmps59 rfl ?_
  refine CW.seq ?_
  refine CW.region ?_
  refine RG.vl rfl rfl rfl (Ev.assign rfl rfl) ?_
  refine RG.done ?_
  refine QW.then_ ?_
  refine CW.seq ?_
  refine CW.region ?_
  refine RG.vl rfl rfl rfl (Ev.move rfl rfl) ?_
  refine RG.vl rfl rfl rfl (Ev.move rfl rfl) ?_
  refine RG.call rfl rfl rfl rfl rfl rfl rfl en_74 (indexF_ret _ l _ (hl) hlen) ?_
  rintro _ w1 ⟨k, rfl, hk, hx1⟩
  have hE2 := hx1
  refine RG.vl rfl rfl rfl (Ev.geq rfl rfl rfl) ?_
  refine RG.vl rfl rfl rfl (Ev.assign rfl rfl) ?_
  refine RG.done ?_
  refine QW.then_ ?_
  refine CW.ret ?_
  refine QW.ret1 rfl rfl ?_
  have hB := (Ex.tr hB0 hE2)
  refine ⟨congrArg Value.bool ?_, hB⟩
  cases h : areE l with
  | true => exact decide_eq_false fun h2 => by have := hk.1 h2; rw [h] at this; cases this
  | false => exact decide_eq_true (hk.2 h)

set_option maxRecDepth 100000 in
set_option maxHeartbeats 1000000 in
theorem areE_ret (u : Value) (l : List Nat) (w : World) (hl : RdL w 1 encN u l) (hlen : l.length ≤ 100000) :
    Ret Try.prog 42 [u] w (fun v w' => v = .bool (areE l) ∧ Ex w w') := by
  have hB0 : Ex w w := Ex.rfl_ _
  refine Ret.of Try.func42 rfl Try.ntmps42 rfl ?_
  refine CW.seq ?_
  refine CW.region ?_
  refine RG.vl rfl rfl rfl (Ev.assign rfl rfl) ?_
  refine RG.done ?_
  refine QW.then_ ?_
  refine CW.seq ?_
  refine CW.region ?_
  refine RG.vl rfl rfl rfl (Ev.move rfl rfl) ?_
  refine RG.call rfl rfl rfl rfl rfl rfl rfl en_59 (containsF_ret _ _ _ (hl) (by omega)) ?_
  rintro _ w1 ⟨rfl, hx1⟩
  have hE2 := hx1
  refine RG.vl rfl rfl rfl (Ev.not rfl rfl) ?_
  refine RG.vl rfl rfl rfl (Ev.assign rfl rfl) ?_
  refine RG.done ?_
  refine QW.then_ ?_
  refine CW.ret ?_
  refine QW.ret1 rfl rfl ?_
  have hB := (Ex.tr hB0 hE2)
  exact ⟨congrArg Value.bool (by cases areE l <;> rfl), hB⟩

set_option maxRecDepth 100000 in
set_option maxHeartbeats 1000000 in
theorem isW_ret (u : Value) (l : List Nat) (w : World) (hl : RdL w 1 encN u l) (hlen : l.length ≤ 100000) :
    Ret Try.prog 34 [u] w (fun v w' => v = .bool (isW l) ∧ Ex w w') := by
  have hB0 : Ex w w := Ex.rfl_ _
  refine Ret.of Try.func34 rfl Try.ntmps34 rfl ?_
  refine CW.seq ?_
  refine CW.region ?_
  refine RG.vl rfl rfl rfl (Ev.assign rfl rfl) ?_
  refine RG.done ?_
  refine QW.then_ ?_
  refine CW.seq ?_
  refine CW.region ?_
  refine RG.vl rfl rfl rfl (Ev.move rfl rfl) ?_
  refine RG.vl rfl rfl rfl (Ev.lenL rfl rfl rfl Try.underlying22 (hl)) ?_
  refine RG.vl rfl rfl rfl (Ev.gtr rfl rfl rfl) ?_
  refine RG.vl rfl rfl rfl (Ev.move rfl rfl) ?_
  refine RG.split (d := 6) rfl (fun hg1 => ?_) (fun hg1 => ?_)
  · refine RG.vl rfl rfl rfl (Ev.move rfl rfl) ?_
    refine RG.vl rfl rfl rfl (Ev.lenL rfl rfl rfl Try.underlying22 (hl)) ?_
    refine RG.vl rfl rfl rfl (Ev.leq rfl rfl rfl) ?_
    refine RG.vl rfl rfl rfl (Ev.pickT rfl rfl rfl) ?_
    refine RG.vl rfl rfl rfl (Ev.move rfl rfl) ?_
    refine RG.split (d := 11) rfl (fun hg2 => ?_) (fun hg2 => ?_)
    · refine RG.vl rfl rfl rfl (Ev.move rfl rfl) ?_
      refine RG.call rfl rfl rfl rfl rfl rfl rfl en_42 (areE_ret _ _ _ (hl) (by omega)) ?_
      rintro _ w3 ⟨rfl, hx3⟩
      have hE4 := hx3
      refine RG.vl rfl rfl rfl (Ev.pickT rfl rfl rfl) ?_
      refine RG.vl rfl rfl rfl (Ev.assign rfl rfl) ?_
      refine RG.done ?_
      refine QW.sub (S' := [(2, _)]) ⟨rfl, trivial⟩ ?_
      refine QW.then_ ?_
      refine CW.ret ?_
      refine QW.ret1 rfl rfl ?_
      have hB := (Ex.tr hB0 hE4)
      refine ⟨congrArg Value.bool ?_, hB⟩
      unfold isW
      first | (rw [decide_eq_true (show 4 < l.length by omega), decide_eq_true (show l.length ≤ 63 by omega)]; rfl) | (rw [decide_eq_false (show ¬ 4 < l.length by omega)]; rfl) | (rw [decide_eq_false (show ¬ l.length ≤ 63 by omega), Bool.and_false]; rfl)
    · refine RG.pass rfl rfl rfl ?_
      refine RG.pass rfl rfl rfl ?_
      refine RG.vl rfl rfl rfl (Ev.pickF rfl rfl rfl) ?_
      refine RG.vl rfl rfl rfl (Ev.assign rfl rfl) ?_
      refine RG.done ?_
      refine QW.sub (S' := [(2, _)]) ⟨rfl, trivial⟩ ?_
      refine QW.then_ ?_
      refine CW.ret ?_
      refine QW.ret1 rfl rfl ?_
      have hB := hB0
      refine ⟨congrArg Value.bool ?_, hB⟩
      unfold isW
      first | (rw [decide_eq_true (show 4 < l.length by omega), decide_eq_true (show l.length ≤ 63 by omega)]; rfl) | (rw [decide_eq_false (show ¬ 4 < l.length by omega)]; rfl) | (rw [decide_eq_false (show ¬ l.length ≤ 63 by omega), Bool.and_false]; rfl)
  · refine RG.pass rfl rfl rfl ?_
    refine RG.pass rfl rfl rfl ?_
    refine RG.pass rfl rfl rfl ?_
    refine RG.vl rfl rfl rfl (Ev.pickF rfl rfl rfl) ?_
    refine RG.vl rfl rfl rfl (Ev.move rfl rfl) ?_
    refine RG.pass rfl rfl rfl ?_
    refine RG.pass rfl rfl rfl ?_
    refine RG.vl rfl rfl rfl (Ev.pickF rfl rfl rfl) ?_
    refine RG.vl rfl rfl rfl (Ev.assign rfl rfl) ?_
    refine RG.done ?_
    refine QW.sub (S' := [(2, _)]) ⟨rfl, trivial⟩ ?_
    refine QW.then_ ?_
    refine CW.ret ?_
    refine QW.ret1 rfl rfl ?_
    have hB := hB0
    refine ⟨congrArg Value.bool ?_, hB⟩
    unfold isW
    first | (rw [decide_eq_true (show 4 < l.length by omega), decide_eq_true (show l.length ≤ 63 by omega)]; rfl) | (rw [decide_eq_false (show ¬ 4 < l.length by omega)]; rfl) | (rw [decide_eq_false (show ¬ l.length ≤ 63 by omega), Bool.and_false]; rfl)

set_option maxRecDepth 100000 in
set_option maxHeartbeats 1000000 in
theorem poly_ret (u : Value) (l : List Nat) (w : World) (hl : RdL w 1 encN u l) (hlen : l.length ≤ 100000) :
    Ret Try.prog 44 [u] w (fun v w' => Own w' w.heap.size 5 1 encN v l.reverse ∧ Ex w w') := by
  have hB0 : Ex w w := Ex.rfl_ _
  refine Ret.of Try.func44 rfl Try.ntmps44 rfl ?_
  refine CW.seq ?_
  refine CW.region ?_
  refine RG.vl rfl rfl rfl (Ev.assign rfl rfl) ?_
  refine RG.done ?_
  refine QW.then_ ?_
  refine CW.seq ?_
  refine CW.region ?_
  refine RG.vl rfl rfl rfl (Ev.move rfl rfl) ?_
  refine RG.call rfl rfl rfl rfl rfl rfl rfl en_39 (clone_ret _ _ _ (hl) (by omega)) ?_
  have hpre1 := hB0
  rintro vcl1 w1 ⟨hcl1, hx1⟩
  have hE2 := hx1
  refine RG.vl rfl rfl rfl (Ev.assign rfl rfl) ?_
  refine RG.done ?_
  refine QW.then_ ?_
  refine CW.seq ?_
  refine CW.region ?_
  refine RG.vl rfl rfl rfl (Ev.move rfl rfl) ?_
  refine RG.call rfl rfl rfl rfl rfl rfl rfl en_64 (reverse_ret w _ _ _ (Ex.tr hB0 hE2) hcl1 (by omega)) ?_
  rintro _ w3 ⟨rfl, hown4, hxo5⟩
  replace hE2 := hxo5
  refine RG.done ?_
  refine QW.then_ ?_
  refine CW.seq ?_
  refine CW.region ?_
  refine RG.vl rfl rfl rfl (Ev.move rfl rfl) ?_
  refine RG.vl rfl rfl rfl (Ev.assign rfl rfl) ?_
  refine RG.done ?_
  refine QW.then_ ?_
  refine CW.ret ?_
  refine QW.ret1 rfl rfl ?_
  have hB := (Ex.tr hB0 hE2)
  exact ⟨hown4, hB⟩

set_option maxRecDepth 100000 in
set_option maxHeartbeats 1000000 in
theorem syn_ret (u : Value) (l : List Nat) (w : World) (hl : RdL w 1 encN u l) (hel : El l) (hlen : l.length ≤ 63) :
    Ret Try.prog 35 [u] w (fun v w' => v = .agg (encs4 (syL l)).toArray ∧ Ex w w') := by
  have hB0 : Ex w w := Ex.rfl_ _
  refine Ret.of Try.func35 rfl Try.ntmps35 rfl ?_
  refine CW.seq ?_
  refine CW.region ?_
  refine RG.alloc_ rfl rfl rfl rfl inf_57 (fun gR w1 egR hx1 hb1 => ?_)
  have hle2 : w.heap.size ≤ gR := by have := (Ex.rfl_ w).size; omega
  have hE3 := hx1
  refine RG.done ?_
  refine QW.then_ ?_
  refine CW.seq ?_
  refine CW.region ?_
  refine RG.alloc_ rfl rfl rfl rfl inf_57 (fun gS w4 egS hx4 hb4 => ?_)
  have hle5 : w.heap.size ≤ gS := by have := hE3.size; omega
  have hle6 : w1.heap.size ≤ gS := by have := (Ex.rfl_ w1).size; omega
  have hlt7 : gR < gS := by have := Blk.lt hb1; omega
  replace hE3 := Ex.tr hE3 hx4
  have hE8 := hx4
  refine RG.done ?_
  refine QW.then_ ?_
  refine CW.seq ?_
  refine CW.region ?_
  refine RG.vl rfl rfl rfl (Ev.move rfl rfl) ?_
  refine RG.call rfl rfl rfl rfl rfl rfl rfl en_44 (poly_ret _ _ _ ((hl.ext hE3)) (by omega)) ?_
  have hpre9 := (Ex.tr hB0 hE3)
  rintro vp w9 ⟨hpo, hx9⟩
  have hsb10 := fun e => sep_blk (hb1.ext hE8) (Nat.le_refl _) hpo e
  have hsb11 := fun e => sep_blk hb4 (Nat.le_refl _) hpo e
  replace hpo := Own.low (B' := w.heap.size) hpo (by have := (Ex.tr hB0 hE3).size; omega)
  replace hE3 := Ex.tr hE3 hx9
  replace hE8 := Ex.tr hE8 hx9
  have hE12 := hx9
  refine RG.vl rfl rfl rfl (Ev.assign rfl rfl) ?_
  refine RG.done ?_
  refine QW.then_ ?_
  refine CW.seq ?_
  refine CW.seq ?_
  refine CW.region ?_
  refine RG.vl rfl rfl rfl (Ev.move rfl rfl) ?_
  refine RG.done ?_
  refine QW.then_ ?_
  refine CW.block ?_
  refine CW.loop1 [(2, _), (3, _), (4, _)] ⟨rfl, rfl, rfl, trivial⟩ (fun (i : Nat) => [(8, .int .i64 i)]) (fun i w' => (i ≤ 4 ∧ Blk w' gS 57 (syC l i) ∧ Own w' w.heap.size 5 1 encN vp l.reverse ∧ Blk w' gR 57 (List.replicate 4 (.int .u8 0))) ∧ Ex w w') (fun i => 4 - i) (0) ⟨rfl, trivial⟩ ⟨⟨by omega, by rw [← syC_zero]; exact (hb4.ext hE12), hpo, (hb1.ext hE8)⟩, (Ex.tr hB0 hE3)⟩ ?_
  rintro i wl13 ⟨⟨hi, hbS, hpo, hbR⟩, hxwl13⟩
  refine CW.sub (S' := [(8, _), (2, _), (3, _), (4, _)]) ⟨rfl, rfl, rfl, rfl, trivial⟩ ?_
  refine CW.seq ?_
  refine CW.region ?_
  refine RG.vl rfl rfl rfl (Ev.lss rfl rfl rfl) ?_
  refine RG.done ?_
  refine QW.then_ ?_
  refine CW.seq ?_
  refine CW.condP rfl (fun hc14 => ?_) (fun hc14 => ?_)
  · refine CW.skip ?_
    refine QW.then_ ?_
    refine CW.seq ?_
    refine CW.block ?_
    refine CW.seq ?_
    refine CW.region ?_
    refine RG.vl rfl rfl rfl (Ev.move rfl rfl) ?_
    refine RG.vl rfl rfl rfl (Ev.assign rfl rfl) ?_
    refine RG.done ?_
    refine QW.then_ ?_
    obtain ⟨hp1, hp2⟩ := two_shl i (by omega)
    have hrl : l.reverse.length = l.length := List.length_reverse
    refine CW.region ?_
    refine RG.vl rfl rfl rfl (Ev.move rfl rfl) ?_
    refine RG.vl rfl rfl rfl (Ev.move rfl rfl) ?_
    refine RG.vl rfl rfl rfl (Ev.move rfl rfl) ?_
    refine RG.vl rfl rfl rfl ((Ev.shl8 (p := 2) rfl rfl rfl (by omega) (by omega)).conv (congrArg (fun n : Nat => Value.int .u8 (n : Int)) hp1)) ?_
    refine RG.call rfl rfl rfl rfl rfl rfl rfl en_52 (Eval_el _ _ _ (pw (i + 1)) ((hpo.rdl encN_len)) (by omega) hel.rev (by omega)) ?_
    rintro _ w15 ⟨rfl, hx15⟩
    replace hxwl13 := Ex.tr hxwl13 hx15
    have hE16 := hx15
    refine RG.vl rfl rfl rfl (Ev.move rfl rfl) ?_
    refine RG.vl rfl rfl rfl (Ev.extract rfl rfl rfl) ?_
    refine RG.vl rfl rfl rfl (Ev.extract rfl rfl rfl) ?_
    refine RG.vl rfl rfl rfl (Ev.idxA rfl rfl rfl Try.underlying57 sz_5 (by omega)) ?_
    refine RG.st (g := gS) (k := _) rfl rfl rfl rfl rfl sz_5 rfl (hbS.ext hE16) (by rw [syC_len]; simp; omega) (fun ws17 hwws17 hbws17 => ?_)
    replace hbR := Blk.far (hbR.ext hE16) hwws17 (by omega)
    replace hpo := Own.far (Own.ext hpo hE16) hwws17 hsb11
    replace hxwl13 := Wr.below hxwl13 hwws17 hle5
    refine RG.done ?_
    refine QW.blockN ?_
    refine QW.then_ ?_
    refine CW.region ?_
    refine RG.vl rfl rfl rfl (Ev.addI rfl rfl rfl (by omega)) ?_
    refine RG.vl rfl rfl rfl (Ev.move rfl rfl) ?_
    refine RG.done ?_
    refine QW.sub (S' := [(2, _), (3, _), (4, _), (8, _)]) ⟨rfl, rfl, rfl, rfl, trivial⟩ ?_
    refine QW.round1 (i + 1) ⟨rfl, trivial⟩ ⟨rfl, rfl, rfl, trivial⟩ ⟨⟨by omega, by rw [← syC_set l i (by omega)]; exact hbws17, hpo, hbR⟩, (Ex.tr hB0 hxwl13)⟩ (by omega)
  · refine CW.exit ?_
    refine QW.thenExit ?_
    refine QW.thenExit ?_
    refine QW.blockHit ?_
    refine QW.then_ ?_
    refine CW.seq ?_
    obtain rfl : i = 4 := by omega
    rw [syC_four] at hbS
    refine CW.region ?_
    refine RG.vl rfl rfl rfl (Ev.ldAgg rfl rfl Try.underlying57 rfl sz_57 rfl (hbS.cells)) ?_
    refine RG.stAll (g := gR) rfl rfl rfl rfl rfl sz_57 rfl rfl rfl hbR (fun ws18 hwws18 hbws18 => ?_)
    replace hbS := Blk.far hbS hwws18 (by omega)
    replace hpo := Own.far hpo hwws18 hsb10
    replace hxwl13 := Wr.below hxwl13 hwws18 hle2
    refine RG.done ?_
    refine QW.then_ ?_
    refine CW.ret ?_
    refine QW.retC rfl rfl Try.underlying57 rfl sz_57 rfl hbws18 ?_
    have hB := (Ex.tr hB0 hxwl13)
    exact ⟨rfl, hB⟩

end Go.Proofs.Ytjhgihgggofocaa
