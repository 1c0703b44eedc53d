/- Walks (BO). Written by program. -/
import Derived.Test.YtgafkbnlhlbmkaaT
import Derived.Test.YtgafkbnlhlbmkaaBS
import Derived.Test.YtgafkbnlhlbmkaaBN
namespace Go.Proofs.Ytgafkbnlhlbmkaa
open Go.RowKit
set_option maxRecDepth 100000 in
set_option maxHeartbeats 1000000 in
theorem number_ret (c : UInt8) (w : World)  :
    Ret Try.prog 35 [.int .u8 (c.toNat : Int)] w (fun v w' => v = .int .i64 (numR c : Int) ∧ Ex w w') := by
  have hB0 : Ex w w := Ex.rfl_ _
  refine Ret.of Try.func35 rfl Try.ntmps35 rfl ?_
  refine CW.seq ?_
  refine CW.region ?_
  refine RG.vl rfl rfl rfl (Ev.assign rfl rfl) ?_
  refine RG.done ?_
  refine QW.then_ ?_
  refine CW.seq ?_
  refine CW.seq ?_
  refine CW.region ?_
  refine RG.vl rfl rfl rfl (Ev.move rfl rfl) ?_
  refine RG.vl rfl rfl rfl (Ev.eqI rfl rfl rfl) ?_
  refine RG.done ?_
  refine QW.then_ ?_
  refine CW.condP rfl (fun hc1 => ?_) (fun hc1 => ?_)
  · refine CW.seq ?_
    refine CW.region ?_
    refine RG.vl rfl rfl rfl (Ev.assign rfl rfl) ?_
    refine RG.done ?_
    refine QW.then_ ?_
    refine CW.ret ?_
    refine QW.thenRet ?_
    refine QW.ret1 rfl rfl ?_
    have hB := hB0
    have hn : 0 = numR c := by unfold numR; repeat (first | rw [if_pos (by omega)] | rw [if_neg (by omega)])
    exact ⟨by rw [← hn]; rfl, hB⟩
  · refine CW.skip ?_
    refine QW.then_ ?_
    refine CW.seq ?_
    refine CW.seq ?_
    refine CW.region ?_
    refine RG.vl rfl rfl rfl (Ev.move rfl rfl) ?_
    refine RG.vl rfl rfl rfl (Ev.eqI rfl rfl rfl) ?_
    refine RG.done ?_
    refine QW.then_ ?_
    refine CW.condP rfl (fun hc2 => ?_) (fun hc2 => ?_)
    · refine CW.seq ?_
      refine CW.region ?_
      refine RG.vl rfl rfl rfl (Ev.assign rfl rfl) ?_
      refine RG.done ?_
      refine QW.then_ ?_
      refine CW.ret ?_
      refine QW.thenRet ?_
      refine QW.ret1 rfl rfl ?_
      have hB := hB0
      have hn : 1 = numR c := by unfold numR; repeat (first | rw [if_pos (by omega)] | rw [if_neg (by omega)])
      exact ⟨by rw [← hn]; rfl, hB⟩
    · refine CW.skip ?_
      refine QW.then_ ?_
      refine CW.seq ?_
      refine CW.seq ?_
      refine CW.region ?_
      refine RG.vl rfl rfl rfl (Ev.move rfl rfl) ?_
      refine RG.vl rfl rfl rfl (Ev.eqI rfl rfl rfl) ?_
      refine RG.done ?_
      refine QW.then_ ?_
      refine CW.condP rfl (fun hc3 => ?_) (fun hc3 => ?_)
      · refine CW.seq ?_
        refine CW.region ?_
        refine RG.vl rfl rfl rfl (Ev.assign rfl rfl) ?_
        refine RG.done ?_
        refine QW.then_ ?_
        refine CW.ret ?_
        refine QW.thenRet ?_
        refine QW.ret1 rfl rfl ?_
        have hB := hB0
        have hn : 2 = numR c := by unfold numR; repeat (first | rw [if_pos (by omega)] | rw [if_neg (by omega)])
        exact ⟨by rw [← hn]; rfl, hB⟩
      · refine CW.skip ?_
        refine QW.then_ ?_
        refine CW.seq ?_
        refine CW.seq ?_
        refine CW.region ?_
        refine RG.vl rfl rfl rfl (Ev.move rfl rfl) ?_
        refine RG.vl rfl rfl rfl (Ev.eqI rfl rfl rfl) ?_
        refine RG.done ?_
        refine QW.then_ ?_
        refine CW.condP rfl (fun hc4 => ?_) (fun hc4 => ?_)
        · refine CW.seq ?_
          refine CW.region ?_
          refine RG.vl rfl rfl rfl (Ev.assign rfl rfl) ?_
          refine RG.done ?_
          refine QW.then_ ?_
          refine CW.ret ?_
          refine QW.thenRet ?_
          refine QW.ret1 rfl rfl ?_
          have hB := hB0
          have hn : 3 = numR c := by unfold numR; repeat (first | rw [if_pos (by omega)] | rw [if_neg (by omega)])
          exact ⟨by rw [← hn]; rfl, hB⟩
        · refine CW.skip ?_
          refine QW.then_ ?_
          refine CW.seq ?_
          refine CW.seq ?_
          refine CW.region ?_
          refine RG.vl rfl rfl rfl (Ev.move rfl rfl) ?_
          refine RG.vl rfl rfl rfl (Ev.eqI rfl rfl rfl) ?_
          refine RG.done ?_
          refine QW.then_ ?_
          refine CW.condP rfl (fun hc5 => ?_) (fun hc5 => ?_)
          · refine CW.seq ?_
            refine CW.region ?_
            refine RG.vl rfl rfl rfl (Ev.assign rfl rfl) ?_
            refine RG.done ?_
            refine QW.then_ ?_
            refine CW.ret ?_
            refine QW.thenRet ?_
            refine QW.ret1 rfl rfl ?_
            have hB := hB0
            have hn : 4 = numR c := by unfold numR; repeat (first | rw [if_pos (by omega)] | rw [if_neg (by omega)])
            exact ⟨by rw [← hn]; rfl, hB⟩
          · refine CW.skip ?_
            refine QW.then_ ?_
            refine CW.seq ?_
            refine CW.region ?_
            refine RG.vl rfl rfl rfl (Ev.assign rfl rfl) ?_
            refine RG.done ?_
            refine QW.then_ ?_
            refine CW.ret ?_
            refine QW.ret1 rfl rfl ?_
            have hB := hB0
            have hn : 5 = numR c := by unfold numR; repeat (first | rw [if_pos (by omega)] | rw [if_neg (by omega)])
            exact ⟨by rw [← hn]; rfl, hB⟩

set_option maxRecDepth 100000 in
set_option maxHeartbeats 1000000 in
theorem error_ret (t : List UInt8) (m : Nat) (w : World) (hm : m ≤ 100) (hlen : t.length ≤ 100000) :
    Ret Try.prog 23 [.string ⟨t.toArray⟩, .int .i64 (m : Int)] w (fun v w' => v = .int .i64 (errB m t) ∧ Ex w w') := by
  have hts := sb_len t
  have hB0 : Ex w w := Ex.rfl_ _
  refine Ret.of Try.func23 rfl Try.ntmps23 rfl ?_
  refine CW.seq ?_
  refine CW.region ?_
  refine RG.vl rfl rfl rfl (Ev.assign rfl rfl) ?_
  refine RG.done ?_
  refine QW.then_ ?_
  refine CW.seq ?_
  refine CW.seq ?_
  refine CW.region ?_
  refine RG.vl rfl rfl rfl (Ev.move rfl rfl) ?_
  refine RG.vl rfl rfl rfl (Ev.lenStr rfl rfl rfl Try.underlying9) ?_
  refine RG.vl rfl rfl rfl (Ev.move rfl rfl) ?_
  refine RG.vl rfl rfl rfl (Ev.addI rfl rfl rfl (by omega)) ?_
  refine RG.vl rfl rfl rfl (Ev.gtr rfl rfl rfl) ?_
  refine RG.done ?_
  refine QW.then_ ?_
  refine CW.condP rfl (fun hc1 => ?_) (fun hc1 => ?_)
  · refine CW.seq ?_
    refine CW.region ?_
    refine RG.vl rfl rfl rfl (Ev.assign rfl rfl) ?_
    refine RG.done ?_
    refine QW.then_ ?_
    refine CW.ret ?_
    refine QW.thenRet ?_
    refine QW.ret1 rfl rfl ?_
    have hB := hB0
    exact ⟨by rw [errB_long (by omega)], hB⟩
  · refine CW.skip ?_
    refine QW.then_ ?_
    refine CW.seq ?_
    refine CW.seq ?_
    refine CW.region ?_
    refine RG.vl rfl rfl rfl (Ev.assign rfl rfl) ?_
    refine RG.done ?_
    refine QW.then_ ?_
    refine CW.block ?_
    refine CW.loop1 [(0, _)] ⟨rfl, trivial⟩ (fun (i : Nat) => [(5, .int .i64 (i : Int))]) (fun i w' => (i ≤ t.length ∧ (t.take i).all isL = true) ∧ Ex w w') (fun i => t.length - i) (0) ⟨rfl, trivial⟩ ⟨⟨by omega, rfl⟩, hB0⟩ ?_
    rintro i wl2 ⟨⟨hi, hall⟩, hxwl2⟩
    refine CW.sub (S' := [(5, _), (0, _)]) ⟨rfl, rfl, trivial⟩ ?_
    refine CW.seq ?_
    refine CW.seq ?_
    refine CW.region ?_
    refine RG.vl rfl rfl rfl (Ev.move rfl rfl) ?_
    refine RG.vl rfl rfl rfl (Ev.move rfl rfl) ?_
    refine RG.vl rfl rfl rfl (Ev.lenStr rfl rfl rfl Try.underlying9) ?_
    refine RG.vl rfl rfl rfl (Ev.lss rfl rfl rfl) ?_
    refine RG.done ?_
    refine QW.then_ ?_
    refine CW.condP rfl (fun hc3 => ?_) (fun hc3 => ?_)
    · refine CW.skip ?_
      refine QW.then_ ?_
      refine CW.seq ?_
      refine CW.block ?_
      refine CW.seq ?_
      obtain ⟨c, hc⟩ : ∃ c, t[i]? = some c := ⟨_, List.getElem?_eq_getElem (by omega)⟩
      refine CW.region ?_
      refine RG.vl rfl rfl rfl (Ev.move rfl rfl) ?_
      refine RG.vl rfl rfl rfl (Ev.move rfl rfl) ?_
      refine RG.vl rfl rfl rfl (Ev.byteAt rfl rfl rfl Try.underlying9 (by omega) (hc)) ?_
      refine RG.call rfl rfl rfl rfl rfl rfl rfl en_35 (number_ret c _) ?_
      rintro _ w4 ⟨rfl, hx4⟩
      replace hxwl2 := Ex.tr hxwl2 hx4
      have hE5 := hx4
      refine RG.vl rfl rfl rfl (Ev.eqI rfl rfl rfl) ?_
      refine RG.done ?_
      refine QW.then_ ?_
      refine CW.condP rfl (fun hc6 => ?_) (fun hc6 => ?_)
      · refine CW.seq ?_
        refine CW.region ?_
        refine RG.vl rfl rfl rfl (Ev.assign rfl rfl) ?_
        refine RG.done ?_
        refine QW.then_ ?_
        refine CW.ret ?_
        refine QW.blockR ?_
        refine QW.thenRet ?_
        refine QW.thenRet ?_
        refine QW.blockR ?_
        refine QW.thenRet ?_
        refine QW.ret1 rfl rfl ?_
        have hB := (Ex.tr hB0 hxwl2)
        exact ⟨by rw [errB_bad (by omega) (all_not hc (numR5 (by omega)))], hB⟩
      · refine CW.skip ?_
        refine QW.blockN ?_
        refine QW.then_ ?_
        refine CW.region ?_
        refine RG.vl rfl rfl rfl (Ev.move rfl rfl) ?_
        refine RG.vl rfl rfl rfl (Ev.addI rfl rfl rfl (by omega)) ?_
        refine RG.vl rfl rfl rfl (Ev.assign rfl rfl) ?_
        refine RG.done ?_
        refine QW.round1 (i + 1) ⟨rfl, trivial⟩ ⟨rfl, trivial⟩ ⟨⟨by omega, all_take hc hall (numR_L (by omega))⟩, (Ex.tr hB0 hxwl2)⟩ (by omega)
    · refine CW.exit ?_
      refine QW.thenExit ?_
      refine QW.thenExit ?_
      refine QW.blockHit ?_
      refine QW.then_ ?_
      refine CW.seq ?_
      refine CW.region ?_
      refine RG.vl rfl rfl rfl (Ev.assign rfl rfl) ?_
      refine RG.done ?_
      refine QW.then_ ?_
      refine CW.ret ?_
      refine QW.ret1 rfl rfl ?_
      have hB := (Ex.tr hB0 hxwl2)
      obtain rfl : i = t.length := by omega
      rw [List.take_length] at hall
      exact ⟨by rw [errB_ok (by omega) hall], hB⟩

set_option maxRecDepth 100000 in
set_option maxHeartbeats 1000000 in
theorem rturn_ret (t : List UInt8) (w : World) (hlen : t.length ≤ 1000) :
    Ret Try.prog 24 [.string ⟨t.toArray⟩] w (fun v w' => v = .string ⟨(turnL t).toArray⟩ ∧ Ex w w') := by
  have hts := sb_len t
  have hB0 : Ex w w := Ex.rfl_ _
  refine Ret.of Try.func24 rfl Try.ntmps24 rfl ?_
  refine CW.seq ?_
  refine CW.region ?_
  refine RG.vl rfl rfl rfl (Ev.assign rfl rfl) ?_
  refine RG.done ?_
  refine QW.then_ ?_
  refine CW.seq ?_
  refine CW.region ?_
  refine RG.vl rfl rfl rfl (Ev.assign rfl rfl) ?_
  refine RG.done ?_
  refine QW.then_ ?_
  refine CW.seq ?_
  refine CW.seq ?_
  refine CW.region ?_
  refine RG.vl rfl rfl rfl (Ev.assign rfl rfl) ?_
  refine RG.done ?_
  refine QW.then_ ?_
  refine CW.block ?_
  refine CW.loop1 [(0, _), (2, _)] ⟨rfl, rfl, trivial⟩ (fun (i : Nat) => [(4, .int .i64 (i : Int)), (3, .string ⟨(turnL (t.take i)).toArray⟩)]) (fun i w' => (i ≤ t.length) ∧ Ex w w') (fun i => t.length - i) (0) ⟨rfl, rfl, trivial⟩ ⟨by omega, hB0⟩ ?_
  rintro i wl1 ⟨hi, hxwl1⟩
  refine CW.sub (S' := [(4, _), (3, _), (0, _), (2, _)]) ⟨rfl, rfl, rfl, rfl, trivial⟩ ?_
  refine CW.seq ?_
  refine CW.seq ?_
  refine CW.region ?_
  refine RG.vl rfl rfl rfl (Ev.move rfl rfl) ?_
  refine RG.vl rfl rfl rfl (Ev.move rfl rfl) ?_
  refine RG.vl rfl rfl rfl (Ev.lenStr rfl rfl rfl Try.underlying9) ?_
  refine RG.vl rfl rfl rfl (Ev.lss rfl rfl rfl) ?_
  refine RG.done ?_
  refine QW.then_ ?_
  refine CW.condP rfl (fun hc2 => ?_) (fun hc2 => ?_)
  · refine CW.skip ?_
    refine QW.then_ ?_
    refine CW.seq ?_
    refine CW.block ?_
    refine CW.seq ?_
    obtain ⟨x, hx⟩ : ∃ x, t[i]? = some x := ⟨_, List.getElem?_eq_getElem (by omega)⟩
    have hone : (t.take (i + 1)).drop i = [x] := by rw [List.take_add_one, hx]; simp [List.drop_append, show i - min i t.length = 0 by omega]
    have htl := turnL_len (t.take i)
    rw [List.length_take] at htl
    refine CW.region ?_
    refine RG.vl rfl rfl rfl (Ev.move rfl rfl) ?_
    refine RG.vl rfl rfl rfl (Ev.move rfl rfl) ?_
    refine RG.vl rfl rfl rfl (Ev.move rfl rfl) ?_
    refine RG.vl rfl rfl rfl ((Ev.addI rfl rfl rfl (by omega)).conv (congrArg (Value.int .i64) (show (i : Int) + 1 = ((i + 1 : Nat) : Int) by omega))) ?_
    refine RG.vl rfl rfl rfl ((Ev.cutStr (i := i) (j := i + 1) rfl rfl Try.underlying9 rfl rfl (by omega) (by omega)).conv (congrArg Value.string ((bx_cut t i (i + 1)).trans (by rw [hone])))) ?_
    refine RG.vl rfl rfl rfl (Ev.assign rfl rfl) ?_
    refine RG.done ?_
    refine QW.then_ ?_
    refine CW.seq ?_
    refine CW.seq ?_
    refine CW.region ?_
    refine RG.vl rfl rfl rfl (Ev.move rfl rfl) ?_
    refine RG.vl rfl rfl rfl (Ev.eqS rfl rfl rfl) ?_
    refine RG.done ?_
    refine QW.then_ ?_
    refine CW.condP rfl (fun hc3 => ?_) (fun hc3 => ?_)
    · refine CW.region ?_
      refine RG.vl rfl rfl rfl (Ev.assign rfl rfl) ?_
      refine RG.done ?_
      refine QW.then_ ?_
      have hfl : flip x = 68 := by rw [one_eq.1 (show (⟨[x].toArray⟩ : ByteArray) = ⟨[65].toArray⟩ by assumption)]; rfl
      refine CW.region ?_
      refine RG.vl rfl rfl rfl (Ev.move rfl rfl) ?_
      refine RG.vl rfl rfl rfl (Ev.move rfl rfl) ?_
      refine RG.vl rfl rfl rfl ((Ev.cat rfl rfl rfl (by rw [sb_len, sb_len]; show 1 + _ ≤ _; omega)).conv (congrArg Value.string (show _ = (⟨(turnL (t.take (i + 1))).toArray⟩ : ByteArray) from (bx_cat [_] (turnL (t.take i))).trans (by rw [turn_next hx, hfl])))) ?_
      refine RG.vl rfl rfl rfl (Ev.assign rfl rfl) ?_
      refine RG.done ?_
      refine QW.sub (S' := [(0, _), (2, _), (3, _), (4, _)]) ⟨rfl, rfl, rfl, rfl, trivial⟩ ?_
      refine QW.blockN ?_
      refine QW.then_ ?_
      refine CW.region ?_
      refine RG.vl rfl rfl rfl (Ev.move rfl rfl) ?_
      refine RG.vl rfl rfl rfl (Ev.addI rfl rfl rfl (by omega)) ?_
      refine RG.vl rfl rfl rfl (Ev.assign rfl rfl) ?_
      refine RG.done ?_
      refine QW.round1 (i + 1) ⟨rfl, rfl, trivial⟩ ⟨rfl, rfl, trivial⟩ ⟨by omega, (Ex.tr hB0 hxwl1)⟩ (by omega)
    · refine CW.seq ?_
      refine CW.region ?_
      refine RG.vl rfl rfl rfl (Ev.move rfl rfl) ?_
      refine RG.vl rfl rfl rfl (Ev.eqS rfl rfl rfl) ?_
      refine RG.done ?_
      refine QW.sub (S' := [(0, _), (2, _), (3, _), (4, _), (5, _), (20, _)]) ⟨rfl, rfl, rfl, rfl, rfl, rfl, trivial⟩ ?_
      refine QW.then_ ?_
      refine CW.condP rfl (fun hc4 => ?_) (fun hc4 => ?_)
      · refine CW.region ?_
        refine RG.vl rfl rfl rfl (Ev.assign rfl rfl) ?_
        refine RG.done ?_
        refine QW.then_ ?_
        have hfl : flip x = 65 := by rw [one_eq.1 (show (⟨[x].toArray⟩ : ByteArray) = ⟨[68].toArray⟩ by assumption)]; rfl
        refine CW.region ?_
        refine RG.vl rfl rfl rfl (Ev.move rfl rfl) ?_
        refine RG.vl rfl rfl rfl (Ev.move rfl rfl) ?_
        refine RG.vl rfl rfl rfl ((Ev.cat rfl rfl rfl (by rw [sb_len, sb_len]; show 1 + _ ≤ _; omega)).conv (congrArg Value.string (show _ = (⟨(turnL (t.take (i + 1))).toArray⟩ : ByteArray) from (bx_cat [_] (turnL (t.take i))).trans (by rw [turn_next hx, hfl])))) ?_
        refine RG.vl rfl rfl rfl (Ev.assign rfl rfl) ?_
        refine RG.done ?_
        refine QW.blockN ?_
        refine QW.then_ ?_
        refine CW.region ?_
        refine RG.vl rfl rfl rfl (Ev.move rfl rfl) ?_
        refine RG.vl rfl rfl rfl (Ev.addI rfl rfl rfl (by omega)) ?_
        refine RG.vl rfl rfl rfl (Ev.assign rfl rfl) ?_
        refine RG.done ?_
        refine QW.round1 (i + 1) ⟨rfl, rfl, trivial⟩ ⟨rfl, rfl, trivial⟩ ⟨by omega, (Ex.tr hB0 hxwl1)⟩ (by omega)
      · refine CW.skip ?_
        refine QW.then_ ?_
        have hfl : flip x = x := by unfold flip; rw [if_neg (fun e => absurd (one_eq.2 e) (by assumption)), if_neg (fun e => absurd (one_eq.2 e) (by assumption))]
        refine CW.region ?_
        refine RG.vl rfl rfl rfl (Ev.move rfl rfl) ?_
        refine RG.vl rfl rfl rfl (Ev.move rfl rfl) ?_
        refine RG.vl rfl rfl rfl ((Ev.cat rfl rfl rfl (by rw [sb_len, sb_len]; show 1 + _ ≤ _; omega)).conv (congrArg Value.string (show _ = (⟨(turnL (t.take (i + 1))).toArray⟩ : ByteArray) from (bx_cat [_] (turnL (t.take i))).trans (by rw [turn_next hx, hfl])))) ?_
        refine RG.vl rfl rfl rfl (Ev.assign rfl rfl) ?_
        refine RG.done ?_
        refine QW.blockN ?_
        refine QW.then_ ?_
        refine CW.region ?_
        refine RG.vl rfl rfl rfl (Ev.move rfl rfl) ?_
        refine RG.vl rfl rfl rfl (Ev.addI rfl rfl rfl (by omega)) ?_
        refine RG.vl rfl rfl rfl (Ev.assign rfl rfl) ?_
        refine RG.done ?_
        refine QW.round1 (i + 1) ⟨rfl, rfl, trivial⟩ ⟨rfl, rfl, trivial⟩ ⟨by omega, (Ex.tr hB0 hxwl1)⟩ (by omega)
  · refine CW.exit ?_
    refine QW.thenExit ?_
    refine QW.thenExit ?_
    refine QW.blockHit ?_
    refine QW.then_ ?_
    refine CW.seq ?_
    refine CW.region ?_
    refine RG.vl rfl rfl rfl (Ev.move rfl rfl) ?_
    refine RG.vl rfl rfl rfl (Ev.assign rfl rfl) ?_
    refine RG.done ?_
    refine QW.then_ ?_
    refine CW.ret ?_
    refine QW.ret1 rfl rfl ?_
    have hB := (Ex.tr hB0 hxwl1)
    obtain rfl : i = t.length := by omega
    rw [List.take_length]
    exact ⟨rfl, hB⟩

end Go.Proofs.Ytgafkbnlhlbmkaa
