/- Walks (EB). Written by program. -/
import Derived.Test.YtnhkhpnkhkagaaaDoorT
import Derived.Test.YtnhkhpnkhkagaaaDoorEA
namespace Go.Proofs.YtnhkhpnkhkagaaaDoor
open Go.RowKit
set_option maxRecDepth 100000 in
set_option maxHeartbeats 4000000 in
theorem rpass_ret (k : Nat) (wv vv : Value) (ws : List Int) (vs : List Nat) (w : World) (hws : RdL w 1 encI wv ws) (hv : RdL w 1 encZ vv vs) (hr : rightD k ws = true) (hlen : vs.length ≤ 100) (hvs : ∀ x ∈ vs, x ≤ mostD k) :
    Ret Tryd.prog 51 [.int .u8 (k : Int), wv, vv] w (fun v w' => v = .bool (passD k ws vs) ∧ Ex w w') := by
  obtain ⟨wA, wC, rfl⟩ := hws.shape
  obtain ⟨vA, vC, rfl⟩ := hv.shape
  have hB0 : Ex w w := Ex.rfl_ _
  refine Ret.of Tryd.func51 rfl Tryd.ntmps51 rfl ?_
  refine CW.seq ?_
  refine CW.region ?_
  refine RG.vl rfl rfl rfl (Ev.assign rfl rfl) ?_
  refine RG.done ?_
  refine QW.then_ ?_
  refine CW.seq ?_
  refine CW.seq ?_
  rcases right_kind hr with rfl | rfl | rfl | rfl
  · refine CW.region ?_
    refine RG.vl rfl rfl rfl (Ev.move rfl rfl) ?_
    refine RG.vl rfl rfl rfl (Ev.isF (Ev.eqI rfl rfl rfl) (by decide)) ?_
    refine RG.done ?_
    refine QW.then_ ?_
    refine CW.condF rfl ?_
    refine CW.skip ?_
    refine QW.then_ ?_
    refine CW.seq ?_
    refine CW.seq ?_
    refine CW.region ?_
    refine RG.vl rfl rfl rfl (Ev.move rfl rfl) ?_
    refine RG.vl rfl rfl rfl (Ev.isT (Ev.neI rfl rfl rfl) (by decide)) ?_
    refine RG.done ?_
    refine QW.then_ ?_
    refine CW.condT rfl ?_
    refine CW.seq ?_
    refine CW.region ?_
    refine RG.vl rfl rfl rfl (Ev.move rfl rfl) ?_
    refine RG.vl rfl rfl rfl (Ev.move rfl rfl) ?_
    refine RG.vl rfl rfl rfl (Ev.move rfl rfl) ?_
    refine RG.call rfl rfl rfl rfl rfl rfl rfl en_66 (rsumw_ret 1 _ _ ws vs _ hws hv (by decide) (right_ws hr (by omega)).1 (right_ws10 hr (by omega)) hlen (fun x h => Nat.le_trans (hvs x h) (mostD_le _))) ?_
    rintro _ w1 ⟨rfl, hs0, hx1⟩
    have hE2 := hx1
    refine RG.vl rfl rfl rfl (Ev.remI rfl rfl rfl (by omega)) ?_
    refine RG.vl rfl rfl rfl (Ev.eqI rfl rfl rfl) ?_
    refine RG.vl rfl rfl rfl (Ev.assign rfl rfl) ?_
    refine RG.done ?_
    refine QW.then_ ?_
    refine CW.ret ?_
    refine QW.thenRet ?_
    refine QW.ret1 rfl rfl ?_
    have hB := (Ex.tr hB0 hE2)
    exact ⟨rfl, hB⟩
  · refine CW.region ?_
    refine RG.vl rfl rfl rfl (Ev.move rfl rfl) ?_
    refine RG.vl rfl rfl rfl (Ev.isT (Ev.eqI rfl rfl rfl) (by decide)) ?_
    refine RG.done ?_
    refine QW.then_ ?_
    refine CW.condT rfl ?_
    refine CW.seq ?_
    refine CW.region ?_
    refine RG.vl rfl rfl rfl (Ev.move rfl rfl) ?_
    refine RG.vl rfl rfl rfl (Ev.move rfl rfl) ?_
    refine RG.vl rfl rfl rfl (Ev.move rfl rfl) ?_
    refine RG.call rfl rfl rfl rfl rfl rfl rfl en_66 (rsumw_ret 2 _ _ ws vs _ hws hv (by decide) (right_ws hr (by omega)).1 (right_ws10 hr (by omega)) hlen (fun x h => Nat.le_trans (hvs x h) (mostD_le _))) ?_
    rintro _ w3 ⟨rfl, hs0, hx3⟩
    have hE4 := hx3
    refine RG.vl rfl rfl rfl (Ev.remI rfl rfl rfl (by omega)) ?_
    refine RG.vl rfl rfl rfl (Ev.eqI rfl rfl rfl) ?_
    refine RG.vl rfl rfl rfl (Ev.assign rfl rfl) ?_
    refine RG.done ?_
    refine QW.then_ ?_
    refine CW.ret ?_
    refine QW.thenRet ?_
    refine QW.ret1 rfl rfl ?_
    have hB := (Ex.tr hB0 hE4)
    exact ⟨rfl, hB⟩
  · refine CW.region ?_
    refine RG.vl rfl rfl rfl (Ev.move rfl rfl) ?_
    refine RG.vl rfl rfl rfl (Ev.isF (Ev.eqI rfl rfl rfl) (by decide)) ?_
    refine RG.done ?_
    refine QW.then_ ?_
    refine CW.condF rfl ?_
    refine CW.skip ?_
    refine QW.then_ ?_
    refine CW.seq ?_
    refine CW.seq ?_
    refine CW.region ?_
    refine RG.vl rfl rfl rfl (Ev.move rfl rfl) ?_
    refine RG.vl rfl rfl rfl (Ev.isT (Ev.neI rfl rfl rfl) (by decide)) ?_
    refine RG.done ?_
    refine QW.then_ ?_
    refine CW.condT rfl ?_
    refine CW.seq ?_
    refine CW.region ?_
    refine RG.vl rfl rfl rfl (Ev.move rfl rfl) ?_
    refine RG.vl rfl rfl rfl (Ev.move rfl rfl) ?_
    refine RG.vl rfl rfl rfl (Ev.move rfl rfl) ?_
    refine RG.call rfl rfl rfl rfl rfl rfl rfl en_66 (rsuml_ret 3 _ _ vs _ hv rfl hlen (fun x h => by have := hvs x h; have : mostD 3 = 9 := rfl; omega)) ?_
    rintro _ w5 ⟨rfl, hx5⟩
    have hE6 := hx5
    refine RG.vl rfl rfl rfl (Ev.remI rfl rfl rfl (by omega)) ?_
    refine RG.vl rfl rfl rfl (Ev.eqI rfl rfl rfl) ?_
    refine RG.vl rfl rfl rfl (Ev.assign rfl rfl) ?_
    refine RG.done ?_
    refine QW.then_ ?_
    refine CW.ret ?_
    refine QW.thenRet ?_
    refine QW.ret1 rfl rfl ?_
    have hB := (Ex.tr hB0 hE6)
    exact ⟨congrArg Value.bool (show decide _ = decide (luhnD 0 vs % 10 = 0) by rw [decide_eq_decide]; omega), hB⟩
  · refine CW.region ?_
    refine RG.vl rfl rfl rfl (Ev.move rfl rfl) ?_
    refine RG.vl rfl rfl rfl (Ev.isF (Ev.eqI rfl rfl rfl) (by decide)) ?_
    refine RG.done ?_
    refine QW.then_ ?_
    refine CW.condF rfl ?_
    refine CW.skip ?_
    refine QW.then_ ?_
    refine CW.seq ?_
    refine CW.seq ?_
    refine CW.region ?_
    refine RG.vl rfl rfl rfl (Ev.move rfl rfl) ?_
    refine RG.vl rfl rfl rfl (Ev.isF (Ev.neI rfl rfl rfl) (by decide)) ?_
    refine RG.done ?_
    refine QW.then_ ?_
    refine CW.condF rfl ?_
    refine CW.skip ?_
    refine QW.then_ ?_
    refine CW.seq ?_
    refine CW.region ?_
    refine RG.vl rfl rfl rfl (Ev.assign rfl rfl) ?_
    refine RG.done ?_
    refine QW.then_ ?_
    refine CW.seq ?_
    refine CW.seq ?_
    refine CW.region ?_
    refine RG.vl rfl rfl rfl (Ev.assign rfl rfl) ?_
    refine RG.done ?_
    refine QW.then_ ?_
    refine CW.block ?_
    refine CW.loop2 [(2, _), (6, _)] ⟨rfl, rfl, trivial⟩ (fun (i : Nat) (q : Nat) => [(8, .int .i64 (i : Int)), (7, .int .i64 (q : Int))]) (fun i q w' => (i ≤ vs.length ∧ permD q i (vs.drop i) = permD 0 0 vs ∧ q < 10) ∧ Ex w w') (fun i q => vs.length - i) (0) (0) ⟨rfl, rfl, trivial⟩ ⟨⟨Nat.zero_le _, rfl, by omega⟩, hB0⟩ ?_
    rintro i q wl7 ⟨⟨hi, hs, hq10⟩, hxwl7⟩
    refine CW.sub (S' := [(8, _), (7, _), (2, _), (6, _)]) ⟨rfl, rfl, rfl, rfl, trivial⟩ ?_
    refine CW.seq ?_
    refine CW.seq ?_
    refine CW.region ?_
    refine RG.vl rfl rfl rfl (Ev.move rfl rfl) ?_
    refine RG.vl rfl rfl rfl (Ev.move rfl rfl) ?_
    refine RG.vl rfl rfl rfl (Ev.lenL rfl rfl rfl Tryd.underlying22 ((hv.ext hxwl7))) ?_
    refine RG.vl rfl rfl rfl (Ev.lss rfl rfl rfl) ?_
    refine RG.done ?_
    refine QW.then_ ?_
    refine CW.condP rfl (fun hc8 => ?_) (fun hc8 => ?_)
    · refine CW.skip ?_
      refine QW.then_ ?_
      refine CW.seq ?_
      refine CW.block ?_
      refine CW.seq ?_
      obtain ⟨x, hx⟩ : ∃ x, vs[i]? = some x := ⟨_, List.getElem?_eq_getElem (by omega)⟩
      have hx10 : x < 10 := by have := hvs x (List.mem_of_getElem? hx); have : mostD 4 = 9 := rfl; omega
      refine CW.region ?_
      refine RG.vl rfl rfl rfl (Ev.move rfl rfl) ?_
      refine RG.vl rfl rfl rfl (Ev.move rfl rfl) ?_
      refine RG.idxL rfl rfl rfl rfl rfl rfl Tryd.underlying22 sz_3 ((hv.ext hxwl7)) (hx) (fun p9 hp9b hp9 => ?_)
      refine RG.vl rfl rfl rfl (Ev.ld0 rfl rfl Tryd.underlying3 rfl (hp9) (rfl)) ?_
      refine RG.vl rfl rfl rfl (Ev.assign rfl rfl) ?_
      refine RG.done ?_
      refine QW.then_ ?_
      refine CW.seq ?_
      refine CW.seq ?_
      refine CW.region ?_
      refine RG.vl rfl rfl rfl (Ev.assign rfl rfl) ?_
      refine RG.done ?_
      refine QW.then_ ?_
      refine CW.block ?_
      replace hws := (hws.ext hxwl7)
      replace hv := (hv.ext hxwl7)
      have hR10 := (Ex.tr hB0 hxwl7)
      refine CW.loop1 [(2, _), (6, _), (7, _), (8, _)] ⟨rfl, rfl, rfl, rfl, trivial⟩ (fun (j : Nat) => [(10, .int .i64 (j : Int)), (9, .int .i64 (tn (j % 8) x : Nat))]) (fun j w' => (j ≤ i) ∧ Ex wl7 w') (fun j => i - j) (0) ⟨rfl, congrArg (fun n : Nat => some (Value.int .i64 (n : Int))) (tn_zero x hx10).symm, trivial⟩ ⟨Nat.zero_le _, (Ex.rfl_ _)⟩ ?_
      rintro j wl11 ⟨hj, hxwl11⟩
      refine CW.sub (S' := [(10, _), (9, _), (2, _), (6, _), (7, _), (8, _)]) ⟨rfl, rfl, rfl, rfl, rfl, rfl, trivial⟩ ?_
      refine CW.seq ?_
      refine CW.seq ?_
      refine CW.region ?_
      refine RG.vl rfl rfl rfl (Ev.move rfl rfl) ?_
      refine RG.vl rfl rfl rfl (Ev.move rfl rfl) ?_
      refine RG.vl rfl rfl rfl (Ev.lss rfl rfl rfl) ?_
      refine RG.done ?_
      refine QW.then_ ?_
      refine CW.condP rfl (fun hc12 => ?_) (fun hc12 => ?_)
      · refine CW.skip ?_
        refine QW.then_ ?_
        refine CW.seq ?_
        refine CW.block ?_
        have htj := tn_lt (j % 8) (Nat.mod_lt _ (by omega)) x hx10
        refine CW.region ?_
        refine RG.vl rfl rfl rfl (Ev.move rfl rfl) ?_
        refine RG.call rfl rfl rfl rfl rfl rfl rfl en_67 (rturn_ret _ _ htj) ?_
        rintro _ w13 ⟨rfl, hx13⟩
        replace hxwl11 := Ex.tr hxwl11 hx13
        have hE14 := hx13
        refine RG.vl rfl rfl rfl (Ev.assign rfl rfl) ?_
        refine RG.done ?_
        refine QW.blockN ?_
        refine QW.then_ ?_
        refine CW.region ?_
        refine RG.vl rfl rfl rfl (Ev.move rfl rfl) ?_
        refine RG.vl rfl rfl rfl (Ev.addI rfl rfl rfl (by omega)) ?_
        refine RG.vl rfl rfl rfl (Ev.assign rfl rfl) ?_
        refine RG.done ?_
        refine QW.round1 (j + 1) ⟨rfl, congrArg (fun n : Nat => some (Value.int .i64 (n : Int))) (tn_next j hx10), trivial⟩ ⟨rfl, rfl, rfl, rfl, trivial⟩ ⟨by omega, hxwl11⟩ (by omega)
      · refine CW.exit ?_
        refine QW.thenExit ?_
        refine QW.thenExit ?_
        refine QW.blockHit ?_
        refine QW.then_ ?_
        obtain rfl : j = i := by omega
        have htj := tn_lt (j % 8) (Nat.mod_lt _ (by omega)) x hx10
        refine CW.region ?_
        refine RG.vl rfl rfl rfl (Ev.move rfl rfl) ?_
        refine RG.vl rfl rfl rfl (Ev.move rfl rfl) ?_
        refine RG.call rfl rfl rfl rfl rfl rfl rfl en_68 (rprod_ret _ _ _ hq10 htj) ?_
        rintro _ w15 ⟨rfl, hx15⟩
        replace hxwl11 := Ex.tr hxwl11 hx15
        have hE16 := hx15
        refine RG.vl rfl rfl rfl (Ev.assign rfl rfl) ?_
        refine RG.done ?_
        refine QW.blockN ?_
        refine QW.then_ ?_
        refine CW.region ?_
        refine RG.vl rfl rfl rfl (Ev.move rfl rfl) ?_
        refine RG.vl rfl rfl rfl (Ev.addI rfl rfl rfl (by omega)) ?_
        refine RG.vl rfl rfl rfl (Ev.assign rfl rfl) ?_
        refine RG.done ?_
        refine QW.round2 (j + 1) (tm q (tn (j % 8) x)) ⟨rfl, rfl, trivial⟩ ⟨rfl, rfl, trivial⟩ ⟨⟨by omega, by rw [perm_step hx] at hs; exact hs, tm_lt q hq10 _ htj⟩, (Ex.tr hR10 hxwl11)⟩ (by omega)
    · refine CW.exit ?_
      refine QW.thenExit ?_
      refine QW.thenExit ?_
      refine QW.blockHit ?_
      refine QW.then_ ?_
      refine CW.seq ?_
      refine CW.region ?_
      refine RG.vl rfl rfl rfl (Ev.move rfl rfl) ?_
      refine RG.vl rfl rfl rfl (Ev.eqI rfl rfl rfl) ?_
      refine RG.vl rfl rfl rfl (Ev.assign rfl rfl) ?_
      refine RG.done ?_
      refine QW.then_ ?_
      refine CW.ret ?_
      refine QW.ret1 rfl rfl ?_
      have hB := (Ex.tr hB0 hxwl7)
      obtain rfl : i = vs.length := by omega
      rw [List.drop_length] at hs
      have e : q = permD 0 0 vs := by rw [← hs]; simp [permD]
      exact ⟨congrArg Value.bool (show decide _ = decide (permD 0 0 vs = 0) by rw [decide_eq_decide]; omega), hB⟩

end Go.Proofs.YtnhkhpnkhkagaaaDoor
