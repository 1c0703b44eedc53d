/- Walks (RF). Written by program. -/
import Derived.Test.YtjhgihgggofocaaT
import Derived.Test.YtjhgihgggofocaaRE
namespace Go.Proofs.Ytjhgihgggofocaa
open Go.RowKit
set_option maxRecDepth 100000 in
set_option maxHeartbeats 1000000 in
theorem rmul_ret (a b : Nat) (w : World) (ha : a < 64) (hb : b < 64) :
    Ret Try.prog 46 [.int .u8 (a : Int), .int .u8 (b : Int)] w (fun v w' => v = .int .u8 (gm a b : Int) ∧ Ex w w') := by
  have hB0 : Ex w w := Ex.rfl_ _
  refine Ret.of Try.func46 rfl Try.ntmps46 rfl ?_
  refine CW.seq ?_
  refine CW.region ?_
  refine RG.vl rfl rfl rfl (Ev.assign rfl rfl) ?_
  refine RG.done ?_
  refine QW.then_ ?_
  refine CW.seq ?_
  refine CW.region ?_
  refine RG.vl rfl rfl rfl (Ev.assign rfl rfl) ?_
  refine RG.done ?_
  refine QW.then_ ?_
  refine CW.seq ?_
  refine CW.seq ?_
  refine CW.region ?_
  refine RG.vl rfl rfl rfl (Ev.assign rfl rfl) ?_
  refine RG.done ?_
  refine QW.then_ ?_
  refine CW.block ?_
  refine CW.loop1 [(0, _), (1, _), (4, _)] ⟨rfl, rfl, rfl, trivial⟩ (fun (i : Nat) => [(6, .int .i64 i), (5, .int .i64 (rmA a b i 0 : Nat))]) (fun i w' => (i ≤ 6) ∧ Ex w w') (fun i => 6 - i) (0) ⟨rfl, rfl, trivial⟩ ⟨by omega, hB0⟩ ?_
  rintro i wl1 ⟨hi, hxwl1⟩
  refine CW.sub (S' := [(6, _), (5, _), (0, _), (1, _), (4, _)]) ⟨rfl, rfl, rfl, rfl, rfl, trivial⟩ ?_
  refine CW.seq ?_
  refine CW.seq ?_
  refine CW.region ?_
  refine RG.vl rfl rfl rfl (Ev.move rfl rfl) ?_
  refine RG.vl rfl rfl rfl (Ev.lss rfl rfl rfl) ?_
  refine RG.done ?_
  refine QW.then_ ?_
  refine CW.condP rfl (fun hc2 => ?_) (fun hc2 => ?_)
  · refine CW.skip ?_
    refine QW.then_ ?_
    refine CW.seq ?_
    refine CW.block ?_
    refine CW.seq ?_
    have hrl := rmA_lt a b ha i (by omega)
    refine CW.region ?_
    refine RG.vl rfl rfl rfl (Ev.move rfl rfl) ?_
    refine RG.vl rfl rfl rfl (Ev.move rfl rfl) ?_
    refine RG.vl rfl rfl rfl (Ev.shrN rfl rfl rfl (by show _ ≤ 8; omega)) ?_
    refine RG.vl rfl rfl rfl ((Ev.rem8 rfl rfl rfl (⟨Int.natCast_nonneg _, by omega⟩)).conv (congrArg (Value.int .u8) (show ((b >>> i : Nat) : Int) % 2 = ((b >>> i % 2 : Nat) : Int) by omega))) ?_
    refine RG.vl rfl rfl rfl (Ev.eqI rfl rfl rfl) ?_
    refine RG.done ?_
    refine QW.then_ ?_
    refine CW.condP rfl (fun hc3 => ?_) (fun hc3 => ?_)
    · have hsh := sh64 ha (show i ≤ 5 by omega)
      have hbit : b >>> i % 2 = 1 := by omega
      refine CW.region ?_
      refine RG.vl rfl rfl rfl (Ev.move rfl rfl) ?_
      refine RG.vl rfl rfl rfl (Ev.move rfl rfl) ?_
      refine RG.vl rfl rfl rfl (Ev.to64 rfl rfl Try.underlying5 Try.underlying3 (by omega)) ?_
      refine RG.vl rfl rfl rfl (Ev.move rfl rfl) ?_
      refine RG.vl rfl rfl rfl (Ev.shlN rfl rfl rfl (by omega) (by omega)) ?_
      refine RG.vl rfl rfl rfl (Ev.xor64 rfl rfl rfl (by omega) (by omega)) ?_
      refine RG.vl rfl rfl rfl (Ev.assign rfl rfl) ?_
      refine RG.done ?_
      refine QW.sub (S' := [(0, _), (1, _), (4, _), (5, _), (6, _)]) ⟨rfl, rfl, rfl, rfl, rfl, trivial⟩ ?_
      refine QW.blockN ?_
      refine QW.then_ ?_
      refine CW.region ?_
      refine RG.vl rfl rfl rfl (Ev.move rfl rfl) ?_
      refine RG.vl rfl rfl rfl (Ev.addI rfl rfl rfl (by omega)) ?_
      refine RG.vl rfl rfl rfl (Ev.assign rfl rfl) ?_
      refine RG.done ?_
      refine QW.round1 (i + 1) ⟨rfl, by rw [rmA_hit hbit]; rfl, trivial⟩ ⟨rfl, rfl, rfl, trivial⟩ ⟨by omega, (Ex.tr hB0 hxwl1)⟩ (by omega)
    · refine CW.skip ?_
      refine QW.blockN ?_
      refine QW.then_ ?_
      refine CW.region ?_
      refine RG.vl rfl rfl rfl (Ev.move rfl rfl) ?_
      refine RG.vl rfl rfl rfl (Ev.addI rfl rfl rfl (by omega)) ?_
      refine RG.vl rfl rfl rfl (Ev.assign rfl rfl) ?_
      refine RG.done ?_
      refine QW.round1 (i + 1) ⟨rfl, by rw [rmA_miss (show b >>> i % 2 ≠ 1 by omega)]; rfl, trivial⟩ ⟨rfl, rfl, rfl, trivial⟩ ⟨by omega, (Ex.tr hB0 hxwl1)⟩ (by omega)
  · refine CW.exit ?_
    refine QW.thenExit ?_
    refine QW.thenExit ?_
    refine QW.blockHit ?_
    refine QW.then_ ?_
    refine CW.seq ?_
    refine CW.seq ?_
    refine CW.region ?_
    refine RG.vl rfl rfl rfl (Ev.assign rfl rfl) ?_
    refine RG.done ?_
    refine QW.then_ ?_
    refine CW.block ?_
    have hR4 := (Ex.tr hB0 hxwl1)
    refine CW.loop2 [(4, _)] ⟨rfl, trivial⟩ (fun (k1 : Nat) (q : Nat) => [(7, .int .i64 ((k1 : Int) + 5)), (5, .int .i64 (q : Int))]) (fun k1 q w' => (k1 ≤ 6 ∧ rmB k1 q = gm a b ∧ q < 4096) ∧ Ex wl1 w') (fun k1 q => k1) (6) (rmA a b 6 0) ⟨rfl, by obtain rfl : i = 6 := (by omega); rfl, trivial⟩ ⟨⟨by omega, rm_gm a b ha hb, rmA_lt a b ha 6 (by omega)⟩, (Ex.rfl_ _)⟩ ?_
    rintro k1 q wl5 ⟨⟨hk1, hq, hql⟩, hxwl5⟩
    refine CW.sub (S' := [(7, _), (5, _), (4, _)]) ⟨rfl, rfl, rfl, trivial⟩ ?_
    refine CW.seq ?_
    refine CW.seq ?_
    refine CW.region ?_
    refine RG.vl rfl rfl rfl (Ev.move rfl rfl) ?_
    refine RG.vl rfl rfl rfl (Ev.geq rfl rfl rfl) ?_
    refine RG.done ?_
    refine QW.then_ ?_
    refine CW.condP rfl (fun hc6 => ?_) (fun hc6 => ?_)
    · refine CW.skip ?_
      refine QW.then_ ?_
      refine CW.seq ?_
      refine CW.block ?_
      refine CW.seq ?_
      obtain ⟨k, rfl⟩ : ∃ k, k1 = k + 1 := ⟨k1 - 1, by omega⟩
      refine CW.region ?_
      refine RG.vl rfl rfl rfl (Ev.move rfl rfl) ?_
      refine RG.vl rfl rfl rfl ((Ev.move rfl rfl).conv (congrArg (Value.int .i64) (show ((k + 1 : Nat) : Int) + 5 = ((k + 6 : Nat) : Int) by omega))) ?_
      refine RG.vl rfl rfl rfl (Ev.shrN rfl rfl rfl (by show _ ≤ 64; omega)) ?_
      refine RG.vl rfl rfl rfl ((Ev.remI rfl rfl rfl (⟨Int.natCast_nonneg _, by omega⟩)).conv (congrArg (Value.int .i64) (show ((q >>> (k + 6) : Nat) : Int) % 2 = ((q >>> (k + 6) % 2 : Nat) : Int) by omega))) ?_
      refine RG.vl rfl rfl rfl (Ev.eqI rfl rfl rfl) ?_
      refine RG.done ?_
      refine QW.then_ ?_
      refine CW.condP rfl (fun hc7 => ?_) (fun hc7 => ?_)
      · have hs7 := sh67 (show k ≤ 5 by omega)
        have hbit : q >>> (k + 6) % 2 = 1 := by omega
        have hxq := Nat.xor_lt_two_pow (n := 12) hql hs7
        refine CW.region ?_
        refine RG.vl rfl rfl rfl (Ev.move rfl rfl) ?_
        refine RG.vl rfl rfl rfl ((Ev.move rfl rfl).conv (congrArg (Value.int .i64) (show ((k + 1 : Nat) : Int) + 5 = ((k + 6 : Nat) : Int) by omega))) ?_
        refine RG.vl rfl rfl rfl ((Ev.subI rfl rfl rfl (by omega)).conv (congrArg (Value.int .i64) (show ((k + 6 : Nat) : Int) - 6 = ((k : Nat) : Int) by omega))) ?_
        refine RG.vl rfl rfl rfl (Ev.shlN (p := 67) rfl rfl rfl (by omega) (by omega)) ?_
        refine RG.vl rfl rfl rfl (Ev.xor64 rfl rfl rfl (by omega) (by omega)) ?_
        refine RG.vl rfl rfl rfl (Ev.assign rfl rfl) ?_
        refine RG.done ?_
        refine QW.blockN ?_
        refine QW.then_ ?_
        refine CW.region ?_
        refine RG.vl rfl rfl rfl (Ev.move rfl rfl) ?_
        refine RG.vl rfl rfl rfl (Ev.subI rfl rfl rfl (by omega)) ?_
        refine RG.vl rfl rfl rfl (Ev.assign rfl rfl) ?_
        refine RG.done ?_
        refine QW.sub (S' := [(4, _), (5, _), (7, _)]) ⟨rfl, rfl, rfl, trivial⟩ ?_
        refine QW.round2 (k) (q ^^^ 67 <<< k) ⟨congrArg (fun x => some (Value.int .i64 x)) (show ((k + 1 : Nat) : Int) + 5 - 1 = (k : Int) + 5 by omega), rfl, trivial⟩ ⟨rfl, trivial⟩ ⟨⟨by omega, by rw [← rmB_hit hbit]; exact hq, hxq⟩, hxwl5⟩ (by omega)
      · refine CW.skip ?_
        refine QW.blockN ?_
        refine QW.then_ ?_
        refine CW.region ?_
        refine RG.vl rfl rfl rfl (Ev.move rfl rfl) ?_
        refine RG.vl rfl rfl rfl (Ev.subI rfl rfl rfl (by omega)) ?_
        refine RG.vl rfl rfl rfl (Ev.assign rfl rfl) ?_
        refine RG.done ?_
        refine QW.round2 (k) (q) ⟨congrArg (fun x => some (Value.int .i64 x)) (show ((k + 1 : Nat) : Int) + 5 - 1 = (k : Int) + 5 by omega), rfl, trivial⟩ ⟨rfl, trivial⟩ ⟨⟨by omega, by rw [← rmB_miss (show q >>> (k + 6) % 2 ≠ 1 by omega)]; exact hq, hql⟩, hxwl5⟩ (by omega)
    · refine CW.exit ?_
      refine QW.thenExit ?_
      refine QW.thenExit ?_
      refine QW.blockHit ?_
      refine QW.then_ ?_
      refine CW.seq ?_
      have hgl := gm_lt a b
      have hq0 : q = gm a b := by obtain rfl : k1 = 0 := (by omega); exact hq
      refine CW.region ?_
      refine RG.vl rfl rfl rfl (Ev.move rfl rfl) ?_
      refine RG.vl rfl rfl rfl (Ev.to8 rfl rfl Try.underlying3 Try.underlying5 (by omega)) ?_
      refine RG.vl rfl rfl rfl (Ev.assign rfl rfl) ?_
      refine RG.done ?_
      refine QW.then_ ?_
      refine CW.ret ?_
      refine QW.ret1 rfl rfl ?_
      have hB := (Ex.tr hR4 hxwl5)
      obtain rfl : k1 = 0 := by omega
      have e : q = gm a b := hq
      rw [e]
      exact ⟨rfl, hB⟩

set_option maxRecDepth 100000 in
set_option maxHeartbeats 1000000 in
theorem rinv_ret (a : Nat) (w : World) (ha : a < 64) :
    Ret Try.prog 58 [.int .u8 (a : Int)] w (fun v w' => v = .int .u8 ((if a = 0 then 0 else gi a : Nat) : Int) ∧ Ex w w') := by
  have hB0 : Ex w w := Ex.rfl_ _
  refine Ret.of Try.func58 rfl Try.ntmps58 rfl ?_
  refine CW.seq ?_
  refine CW.region ?_
  refine RG.vl rfl rfl rfl (Ev.assign rfl rfl) ?_
  refine RG.done ?_
  refine QW.then_ ?_
  refine CW.seq ?_
  refine CW.seq ?_
  refine CW.region ?_
  refine RG.vl rfl rfl rfl (Ev.assign rfl rfl) ?_
  refine RG.done ?_
  refine QW.then_ ?_
  refine CW.block ?_
  refine CW.loop1 [(0, _)] ⟨rfl, trivial⟩ (fun (x : Nat) => [(3, .int .u8 (x : Int))]) (fun x w' => (1 ≤ x ∧ x ≤ 64 ∧ ∀ y, 1 ≤ y → y < x → gm a y ≠ 1) ∧ Ex w w') (fun x => 64 - x) (1) ⟨rfl, trivial⟩ ⟨⟨by omega, by omega, fun y h1 h2 => by omega⟩, hB0⟩ ?_
  rintro x wl1 ⟨⟨hx1, hx2, hno⟩, hxwl1⟩
  refine CW.sub (S' := [(3, _), (0, _)]) ⟨rfl, rfl, trivial⟩ ?_
  refine CW.seq ?_
  refine CW.seq ?_
  refine CW.region ?_
  refine RG.vl rfl rfl rfl (Ev.move rfl rfl) ?_
  refine RG.vl rfl rfl rfl (Ev.lss rfl rfl rfl) ?_
  refine RG.done ?_
  refine QW.then_ ?_
  refine CW.condP rfl (fun hc2 => ?_) (fun hc2 => ?_)
  · refine CW.skip ?_
    refine QW.then_ ?_
    refine CW.seq ?_
    refine CW.block ?_
    refine CW.seq ?_
    refine CW.region ?_
    refine RG.vl rfl rfl rfl (Ev.move rfl rfl) ?_
    refine RG.vl rfl rfl rfl (Ev.move rfl rfl) ?_
    refine RG.call rfl rfl rfl rfl rfl rfl rfl en_46 (rmul_ret _ _ _ (by exact ha) (by omega)) ?_
    rintro _ w3 ⟨rfl, hx3⟩
    replace hxwl1 := Ex.tr hxwl1 hx3
    have hE4 := hx3
    refine RG.vl rfl rfl rfl (Ev.eqI rfl rfl rfl) ?_
    refine RG.done ?_
    refine QW.then_ ?_
    refine CW.condP rfl (fun hc5 => ?_) (fun hc5 => ?_)
    · refine CW.seq ?_
      refine CW.region ?_
      refine RG.vl rfl rfl rfl (Ev.move rfl rfl) ?_
      refine RG.vl rfl rfl rfl (Ev.assign rfl rfl) ?_
      refine RG.done ?_
      refine QW.then_ ?_
      refine CW.ret ?_
      refine QW.blockR ?_
      refine QW.thenRet ?_
      refine QW.thenRet ?_
      refine QW.blockR ?_
      refine QW.thenRet ?_
      refine QW.ret1 rfl rfl ?_
      have hB := (Ex.tr hB0 hxwl1)
      have hh : gm a x = 1 := by omega
      exact ⟨by rw [if_neg (by rintro rfl; rw [gm_zl] at hh; cases hh), gi_uniq a x ha (by omega) hh], hB⟩
    · refine CW.skip ?_
      refine QW.blockN ?_
      refine QW.then_ ?_
      refine CW.region ?_
      refine RG.vl rfl rfl rfl (Ev.move rfl rfl) ?_
      refine RG.vl rfl rfl rfl (Ev.add8 rfl rfl rfl (by omega)) ?_
      refine RG.vl rfl rfl rfl (Ev.assign rfl rfl) ?_
      refine RG.done ?_
      refine QW.round1 (x + 1) ⟨rfl, trivial⟩ ⟨rfl, trivial⟩ ⟨⟨by omega, by omega, fun y h1 h2 => by rcases Nat.lt_or_ge y x with h | h; exact hno y h1 h; obtain rfl : y = x := (by omega); omega⟩, (Ex.tr hB0 hxwl1)⟩ (by omega)
  · refine CW.exit ?_
    refine QW.thenExit ?_
    refine QW.thenExit ?_
    refine QW.blockHit ?_
    refine QW.then_ ?_
    refine CW.seq ?_
    refine CW.region ?_
    refine RG.vl rfl rfl rfl (Ev.assign rfl rfl) ?_
    refine RG.done ?_
    refine QW.then_ ?_
    refine CW.ret ?_
    refine QW.ret1 rfl rfl ?_
    have hB := (Ex.tr hB0 hxwl1)
    refine ⟨?_, hB⟩
    rcases Nat.eq_zero_or_pos a with h0 | h0
    · rw [if_pos h0]; rfl
    · have hg := gi_lt a
      exact absurd (gm_gi a ha (by omega)) (hno (gi a) (by omega) (by omega))

set_option maxRecDepth 100000 in
set_option maxHeartbeats 1000000 in
theorem rpow_ret (a n : Nat) (w : World) (ha : a < 64) (hn : n ≤ 126) :
    Ret Try.prog 45 [.int .u8 (a : Int), .int .i64 (n : Int)] w (fun v w' => v = .int .u8 (gp a n : Int) ∧ Ex w w') := by
  have hB0 : Ex w w := Ex.rfl_ _
  refine Ret.of Try.func45 rfl Try.ntmps45 rfl ?_
  refine CW.seq ?_
  refine CW.region ?_
  refine RG.vl rfl rfl rfl (Ev.assign rfl rfl) ?_
  refine RG.done ?_
  refine QW.then_ ?_
  refine CW.seq ?_
  refine CW.region ?_
  refine RG.vl rfl rfl rfl (Ev.assign rfl rfl) ?_
  refine RG.done ?_
  refine QW.then_ ?_
  refine CW.seq ?_
  refine CW.seq ?_
  refine CW.region ?_
  refine RG.vl rfl rfl rfl (Ev.move rfl rfl) ?_
  refine RG.vl rfl rfl rfl (Ev.isF (Ev.gtr rfl rfl rfl) (by omega)) ?_
  refine RG.done ?_
  refine QW.then_ ?_
  refine CW.condF rfl ?_
  refine CW.skip ?_
  refine QW.then_ ?_
  refine CW.seq ?_
  refine CW.seq ?_
  refine CW.region ?_
  refine RG.vl rfl rfl rfl (Ev.assign rfl rfl) ?_
  refine RG.done ?_
  refine QW.then_ ?_
  refine CW.block ?_
  refine CW.loop1 [(0, _), (1, _), (4, _)] ⟨rfl, rfl, rfl, trivial⟩ (fun (i : Nat) => [(6, .int .i64 i), (5, .int .u8 (gp a i : Int))]) (fun i w' => (i ≤ n) ∧ Ex w w') (fun i => n - i) (0) ⟨rfl, rfl, trivial⟩ ⟨Nat.zero_le _, hB0⟩ ?_
  rintro i wl1 ⟨hi, hxwl1⟩
  refine CW.sub (S' := [(6, _), (5, _), (0, _), (1, _), (4, _)]) ⟨rfl, rfl, rfl, rfl, rfl, trivial⟩ ?_
  refine CW.seq ?_
  refine CW.seq ?_
  refine CW.region ?_
  refine RG.vl rfl rfl rfl (Ev.move rfl rfl) ?_
  refine RG.vl rfl rfl rfl (Ev.move rfl rfl) ?_
  refine RG.vl rfl rfl rfl (Ev.lss rfl rfl rfl) ?_
  refine RG.done ?_
  refine QW.then_ ?_
  refine CW.condP rfl (fun hc2 => ?_) (fun hc2 => ?_)
  · refine CW.skip ?_
    refine QW.then_ ?_
    refine CW.seq ?_
    refine CW.block ?_
    refine CW.region ?_
    refine RG.vl rfl rfl rfl (Ev.move rfl rfl) ?_
    refine RG.vl rfl rfl rfl (Ev.move rfl rfl) ?_
    refine RG.call rfl rfl rfl rfl rfl rfl rfl en_46 (rmul_ret _ _ _ (by exact gp_lt a i) (by exact ha)) ?_
    rintro _ w3 ⟨rfl, hx3⟩
    replace hxwl1 := Ex.tr hxwl1 hx3
    have hE4 := hx3
    refine RG.vl rfl rfl rfl (Ev.assign rfl rfl) ?_
    refine RG.done ?_
    refine QW.blockN ?_
    refine QW.then_ ?_
    refine CW.region ?_
    refine RG.vl rfl rfl rfl (Ev.move rfl rfl) ?_
    refine RG.vl rfl rfl rfl (Ev.addI rfl rfl rfl (by omega)) ?_
    refine RG.vl rfl rfl rfl (Ev.assign rfl rfl) ?_
    refine RG.done ?_
    refine QW.round1 (i + 1) ⟨rfl, rfl, trivial⟩ ⟨rfl, rfl, rfl, trivial⟩ ⟨by omega, (Ex.tr hB0 hxwl1)⟩ (by omega)
  · refine CW.exit ?_
    refine QW.thenExit ?_
    refine QW.thenExit ?_
    refine QW.blockHit ?_
    refine QW.then_ ?_
    refine CW.seq ?_
    refine CW.region ?_
    refine RG.vl rfl rfl rfl (Ev.move rfl rfl) ?_
    refine RG.vl rfl rfl rfl (Ev.assign rfl rfl) ?_
    refine RG.done ?_
    refine QW.then_ ?_
    refine CW.ret ?_
    refine QW.ret1 rfl rfl ?_
    have hB := (Ex.tr hB0 hxwl1)
    obtain rfl : i = n := by omega
    exact ⟨rfl, hB⟩

set_option maxRecDepth 100000 in
set_option maxHeartbeats 1000000 in
theorem coef_ret (u : Value) (p : List Nat) (i : Nat) (w : World) (hl : RdL w 1 encN u p) :
    Ret Try.prog 66 [u, .int .i64 (i : Int)] w (fun v w' => v = .int .u8 (cf p i : Int) ∧ Ex w w') := by
  have hB0 : Ex w w := Ex.rfl_ _
  refine Ret.of Try.func66 rfl Try.ntmps66 rfl ?_
  refine CW.seq ?_
  refine CW.region ?_
  refine RG.vl rfl rfl rfl (Ev.assign rfl rfl) ?_
  refine RG.done ?_
  refine QW.then_ ?_
  refine CW.seq ?_
  refine CW.seq ?_
  refine CW.region ?_
  refine RG.vl rfl rfl rfl (Ev.move rfl rfl) ?_
  refine RG.vl rfl rfl rfl (Ev.isF (Ev.lss rfl rfl rfl) (by omega)) ?_
  refine RG.vl rfl rfl rfl (Ev.move rfl rfl) ?_
  refine RG.vl rfl rfl rfl (Ev.move rfl rfl) ?_
  refine RG.vl rfl rfl rfl (Ev.move rfl rfl) ?_
  refine RG.vl rfl rfl rfl (Ev.lenL rfl rfl rfl Try.underlying22 (hl)) ?_
  refine RG.vl rfl rfl rfl (Ev.geq rfl rfl rfl) ?_
  refine RG.vl rfl rfl rfl (Ev.pickF rfl rfl rfl) ?_
  refine RG.done ?_
  refine QW.then_ ?_
  refine CW.condP rfl (fun hc1 => ?_) (fun hc1 => ?_)
  · refine CW.seq ?_
    refine CW.region ?_
    refine RG.vl rfl rfl rfl (Ev.assign rfl rfl) ?_
    refine RG.done ?_
    refine QW.then_ ?_
    refine CW.ret ?_
    refine QW.thenRet ?_
    refine QW.ret1 rfl rfl ?_
    have hB := hB0
    exact ⟨by rw [cf_none (by omega)]; rfl, hB⟩
  · refine CW.skip ?_
    refine QW.then_ ?_
    refine CW.seq ?_
    refine CW.region ?_
    refine RG.vl rfl rfl rfl (Ev.move rfl rfl) ?_
    refine RG.vl rfl rfl rfl (Ev.move rfl rfl) ?_
    refine RG.idxL rfl rfl rfl rfl rfl rfl Try.underlying22 sz_5 (hl) (getElem?_cf (by omega)) (fun p2 hp2b hp2 => ?_)
    refine RG.vl rfl rfl rfl (Ev.ld0 rfl rfl Try.underlying5 rfl (hp2) (rfl)) ?_
    refine RG.vl rfl rfl rfl (Ev.assign rfl rfl) ?_
    refine RG.done ?_
    refine QW.sub (S' := [(4, _)]) ⟨rfl, trivial⟩ ?_
    refine QW.then_ ?_
    refine CW.ret ?_
    refine QW.ret1 rfl rfl ?_
    have hB := hB0
    exact ⟨rfl, hB⟩

set_option maxRecDepth 100000 in
set_option maxHeartbeats 1000000 in
theorem rdeg_ret (u : Value) (p : List Nat) (w : World) (hl : RdL w 1 encN u p) (hlen : p.length ≤ 100000) :
    Ret Try.prog 65 [u] w (fun v w' => v = .int .i64 ((dg p : Int) - 1) ∧ Ex w w') := by
  have hB0 : Ex w w := Ex.rfl_ _
  refine Ret.of Try.func65 rfl Try.ntmps65 rfl ?_
  refine CW.seq ?_
  refine CW.region ?_
  refine RG.vl rfl rfl rfl (Ev.assign rfl rfl) ?_
  refine RG.done ?_
  refine QW.then_ ?_
  refine CW.seq ?_
  refine CW.region ?_
  refine RG.vl rfl rfl rfl (Ev.assign rfl rfl) ?_
  refine RG.done ?_
  refine QW.then_ ?_
  refine CW.seq ?_
  refine CW.seq ?_
  refine CW.region ?_
  refine RG.vl rfl rfl rfl (Ev.assign rfl rfl) ?_
  refine RG.done ?_
  refine QW.then_ ?_
  refine CW.block ?_
  refine CW.loop1 [(0, _), (2, _)] ⟨rfl, rfl, trivial⟩ (fun (i : Nat) => [(4, .int .i64 i), (3, .int .i64 ((dg (p.take i) : Int) - 1))]) (fun i w' => (i ≤ p.length) ∧ Ex w w') (fun i => p.length - i) (0) ⟨rfl, rfl, trivial⟩ ⟨Nat.zero_le _, hB0⟩ ?_
  rintro i wl1 ⟨hi, hxwl1⟩
  refine CW.sub (S' := [(4, _), (3, _), (0, _), (2, _)]) ⟨rfl, rfl, rfl, rfl, trivial⟩ ?_
  refine CW.seq ?_
  refine CW.seq ?_
  refine CW.region ?_
  refine RG.vl rfl rfl rfl (Ev.move rfl rfl) ?_
  refine RG.vl rfl rfl rfl (Ev.move rfl rfl) ?_
  refine RG.vl rfl rfl rfl (Ev.lenL rfl rfl rfl Try.underlying22 ((hl.ext hxwl1))) ?_
  refine RG.vl rfl rfl rfl (Ev.lss rfl rfl rfl) ?_
  refine RG.done ?_
  refine QW.then_ ?_
  refine CW.condP rfl (fun hc2 => ?_) (fun hc2 => ?_)
  · refine CW.skip ?_
    refine QW.then_ ?_
    refine CW.seq ?_
    refine CW.block ?_
    refine CW.seq ?_
    obtain ⟨c, hc⟩ : ∃ c, p[i]? = some c := ⟨_, List.getElem?_eq_getElem (by omega)⟩
    refine CW.region ?_
    refine RG.vl rfl rfl rfl (Ev.move rfl rfl) ?_
    refine RG.vl rfl rfl rfl (Ev.move rfl rfl) ?_
    refine RG.idxL rfl rfl rfl rfl rfl rfl Try.underlying22 sz_5 ((hl.ext hxwl1)) (hc) (fun p3 hp3b hp3 => ?_)
    refine RG.vl rfl rfl rfl (Ev.ld0 rfl rfl Try.underlying5 rfl (hp3) (rfl)) ?_
    refine RG.vl rfl rfl rfl (Ev.neI rfl rfl rfl) ?_
    refine RG.done ?_
    refine QW.then_ ?_
    refine CW.condP rfl (fun hc4 => ?_) (fun hc4 => ?_)
    · refine CW.region ?_
      refine RG.vl rfl rfl rfl (Ev.move rfl rfl) ?_
      refine RG.vl rfl rfl rfl (Ev.assign rfl rfl) ?_
      refine RG.done ?_
      refine QW.blockN ?_
      refine QW.then_ ?_
      refine CW.region ?_
      refine RG.vl rfl rfl rfl (Ev.move rfl rfl) ?_
      refine RG.vl rfl rfl rfl (Ev.addI rfl rfl rfl (by omega)) ?_
      refine RG.vl rfl rfl rfl (Ev.assign rfl rfl) ?_
      refine RG.done ?_
      refine QW.sub (S' := [(0, _), (2, _), (3, _), (4, _)]) ⟨rfl, rfl, rfl, rfl, trivial⟩ ?_
      refine QW.round1 (i + 1) ⟨rfl, congrArg (fun x => some (Value.int .i64 x)) (by rw [dg_take_hit hc (by omega)]; omega), trivial⟩ ⟨rfl, rfl, trivial⟩ ⟨by omega, (Ex.tr hB0 hxwl1)⟩ (by omega)
    · refine CW.skip ?_
      refine QW.blockN ?_
      refine QW.then_ ?_
      refine CW.region ?_
      refine RG.vl rfl rfl rfl (Ev.move rfl rfl) ?_
      refine RG.vl rfl rfl rfl (Ev.addI rfl rfl rfl (by omega)) ?_
      refine RG.vl rfl rfl rfl (Ev.assign rfl rfl) ?_
      refine RG.done ?_
      refine QW.round1 (i + 1) ⟨rfl, congrArg (fun x => some (Value.int .i64 x)) (by rw [dg_take_miss (by rw [hc]; congr 1; omega)]), trivial⟩ ⟨rfl, rfl, trivial⟩ ⟨by omega, (Ex.tr hB0 hxwl1)⟩ (by omega)
  · refine CW.exit ?_
    refine QW.thenExit ?_
    refine QW.thenExit ?_
    refine QW.blockHit ?_
    refine QW.then_ ?_
    refine CW.seq ?_
    refine CW.region ?_
    refine RG.vl rfl rfl rfl (Ev.move rfl rfl) ?_
    refine RG.vl rfl rfl rfl (Ev.assign rfl rfl) ?_
    refine RG.done ?_
    refine QW.then_ ?_
    refine CW.ret ?_
    refine QW.ret1 rfl rfl ?_
    have hB := (Ex.tr hB0 hxwl1)
    obtain rfl : i = p.length := by omega
    exact ⟨by rw [List.take_length], hB⟩

end Go.Proofs.Ytjhgihgggofocaa
