/- Walks (BC). Written by program. -/
import Derived.Test.YtgafkbnlhlbmkaaT
import Derived.Test.YtgafkbnlhlbmkaaBZ
namespace Go.Proofs.Ytgafkbnlhlbmkaa
open Go.RowKit
set_option maxRecDepth 100000 in
set_option maxHeartbeats 1000000 in
theorem ups_ret (t : List UInt8) (w : World)  :
    Ret Try.prog 43 [.string ⟨t.toArray⟩] w (fun v w' => (∃ g, v = .func (.func 49) #[] #[.pointer (some ⟨g, 0, none⟩)] ∧ w.heap.size ≤ g ∧ Blk w' g 9 [.string ⟨t.toArray⟩]) ∧ Ex w w') := by
  have hB0 : Ex w w := Ex.rfl_ _
  refine Ret.of Try.func43 rfl Try.ntmps43 rfl ?_
  refine CW.seq ?_
  refine CW.region ?_
  refine RG.box rfl rfl rfl rfl rfl (fun g1 w1 eg1 hx1 hb1 => ?_)
  have hE2 := hx1
  refine RG.vl rfl rfl rfl (Ev.assign rfl rfl) ?_
  refine RG.done ?_
  refine QW.then_ ?_
  refine CW.seq ?_
  refine CW.region ?_
  refine RG.vl rfl rfl rfl (Ev.mkFn rfl rfl rfl rfl rfl) ?_
  refine RG.vl rfl rfl rfl (Ev.assign rfl rfl) ?_
  refine RG.done ?_
  refine QW.then_ ?_
  refine CW.ret ?_
  refine QW.ret1 rfl rfl ?_
  have hB := (Ex.tr hB0 hE2)
  exact ⟨⟨_, rfl, Nat.le_of_eq eg1.symm, hb1⟩, hB⟩

set_option maxRecDepth 100000 in
set_option maxHeartbeats 1000000 in
theorem upsd_ret (n : Nat) (w0 : World) (lp bx b : Nat) (t : List UInt8) (J Jx : List UInt8 → World → Prop) (w : World) (hx0 : Ex w0 w) (hb : Blk w bx 9 [.string ⟨t.toArray⟩]) (ha : ∀ c ∈ t, c.toNat < 128) (hlen : t.length ≤ 1000) (hbw : b < w.heap.size) (hJa : AbidesFrom w.heap.size J) (hY : ∀ pre c W1, J pre W1 → pre.length < t.length → YieldAt Fence.wide (n - 1) Try.prog lp #[.int .i32 (c.toNat : Int)] W1 fun e W' => (e = .returned (.bool true) ∧ J (pre ++ [c]) W' ∧ Kr w0 b W1 W') ∨ (e = .returned (.bool false) ∧ Jx (pre ++ [c]) W')) (h0 : J [] w) :
    Ret Try.prog 49 [.func (.yield lp) #[] #[], .pointer (some ⟨bx, 0, none⟩)] w (fun _ w' => (J (turnL t) w' ∨ ∃ pre, Jx pre w') ∧ True) := by
  have hB0 : Ex w w := Ex.rfl_ _
  refine Ret.of Try.func49 rfl Try.ntmps49 rfl ?_
  refine CW.seq ?_
  refine CW.region ?_
  refine RG.vl rfl rfl rfl (Ev.ld0 rfl rfl Try.underlying9 rfl (hb.cells) (rfl)) ?_
  refine RG.toRunes rfl rfl rfl rfl rfl Try.underlying9 Try.underlying84 Try.underlying21 (by omega) ha (fun gr cap wk1 egr hxwk1 hrn => ?_)
  have hrd := hrn.rdl
  have hE2 := hxwk1
  refine RG.vl rfl rfl rfl (Ev.assign rfl rfl) ?_
  refine RG.done ?_
  refine QW.then_ ?_
  refine CW.seq ?_
  have hml : (t.map (·.toNat)).length = t.length := List.length_map ..
  have hxw := (Ex.tr hB0 hE2)
  refine CW.region ?_
  refine RG.vl rfl rfl rfl (Ev.move rfl rfl) ?_
  refine RG.vl rfl rfl rfl (Ev.lenL rfl rfl rfl Try.underlying84 (hrd)) ?_
  refine RG.vl rfl rfl rfl (Ev.subI rfl rfl rfl (by omega)) ?_
  refine RG.vl rfl rfl rfl (Ev.assign rfl rfl) ?_
  refine RG.done ?_
  refine QW.then_ ?_
  refine CW.block ?_
  refine CW.loop1 [(0, _), (3, _)] ⟨rfl, rfl, trivial⟩ (fun (j : Nat) => [(4, .int .i64 ((t.length : Int) - 1 - (j : Int)))]) (fun j w' => (j ≤ t.length ∧ J ((turnL t).take j) w' ∧ Rn w' gr 21 cap t) ∧ Ex w0 w') (fun j => t.length - j) (0) ⟨congrArg (fun x => some (Value.int .i64 x)) (by omega), trivial⟩ ⟨⟨Nat.zero_le _, hJa [] _ _ none h0 (grown0 hxw) (fun r e => by cases e), hrn⟩, (Ex.tr hx0 hE2)⟩ ?_
  rintro j wl3 ⟨⟨hj, hJ, hrn⟩, hxwl3⟩
  refine CW.sub (S' := [(4, _), (0, _), (3, _)]) ⟨rfl, rfl, rfl, trivial⟩ ?_
  have hrd := hrn.rdl
  refine CW.seq ?_
  refine CW.seq ?_
  refine CW.region ?_
  refine RG.vl rfl rfl rfl (Ev.move rfl rfl) ?_
  refine RG.vl rfl rfl rfl (Ev.geq rfl rfl rfl) ?_
  refine RG.done ?_
  refine QW.then_ ?_
  refine CW.condP rfl (fun hc4 => ?_) (fun hc4 => ?_)
  · refine CW.skip ?_
    refine QW.then_ ?_
    refine CW.seq ?_
    refine CW.block ?_
    refine CW.seq ?_
    obtain ⟨c, hc⟩ : ∃ c, t[t.length - 1 - j]? = some c := ⟨_, List.getElem?_eq_getElem (by omega)⟩
    have hcm : (t.map (·.toNat))[t.length - 1 - j]? = some c.toNat := by rw [List.getElem?_map, hc]; rfl
    have hmore := turn_more (by omega) hc
    refine CW.region ?_
    refine RG.vl rfl rfl rfl (Ev.move rfl rfl) ?_
    refine RG.vl rfl rfl rfl ((Ev.move rfl rfl).conv (congrArg (Value.int .i64) (show (t.length : Int) - 1 - j = ((t.length - 1 - j : Nat) : Int) by omega))) ?_
    refine RG.idxL rfl rfl rfl rfl rfl rfl Try.underlying84 sz_21 (hrd) (hcm) (fun p5 hp5b hp5 => ?_)
    refine RG.vl rfl rfl rfl (Ev.ld0 rfl rfl Try.underlying21 rfl (hp5) (rfl)) ?_
    refine RG.vl rfl rfl rfl (Ev.assign rfl rfl) ?_
    refine RG.done ?_
    refine QW.then_ ?_
    refine CW.seq ?_
    refine CW.seq ?_
    refine CW.region ?_
    refine RG.vl rfl rfl rfl (Ev.move rfl rfl) ?_
    refine RG.done ?_
    refine QW.then_ ?_
    refine CW.block ?_
    refine CW.seq ?_
    refine CW.region ?_
    refine RG.vl rfl rfl rfl ((Ev.byteAt rfl rfl rfl Try.underlying9 (by omega) (rfl)).conv ((show Value.int .u8 _ = Value.int .u8 65 from rfl))) ?_
    refine RG.vl rfl rfl rfl (Ev.to32 rfl rfl Try.underlying5 Try.underlying21 (by omega)) ?_
    refine RG.vl rfl rfl rfl (Ev.eqI rfl rfl rfl) ?_
    refine RG.vl rfl rfl rfl (Ev.assign rfl rfl) ?_
    refine RG.done ?_
    refine QW.then_ ?_
    refine CW.condP rfl (fun hc6 => ?_) (fun hc6 => ?_)
    · refine CW.region ?_
      refine RG.vl rfl rfl rfl ((Ev.byteAt rfl rfl rfl Try.underlying9 (by omega) (rfl)).conv ((show Value.int .u8 _ = Value.int .u8 68 from rfl))) ?_
      refine RG.vl rfl rfl rfl (Ev.to32 rfl rfl Try.underlying5 Try.underlying21 (by omega)) ?_
      refine RG.vl rfl rfl rfl (Ev.assign rfl rfl) ?_
      refine RG.done ?_
      refine QW.sub (S' := [(0, _), (3, _), (4, _), (5, _)]) ⟨rfl, rfl, rfl, rfl, trivial⟩ ?_
      refine QW.blockN ?_
      refine QW.then_ ?_
      refine CW.seq ?_
      have hfl := flip_a (by assumption)
      refine CW.fenced n ?_
      refine CWI.region ?_
      refine RGI.vl open_wide rfl rfl rfl (by intro c h; cases h) (Ev.move rfl rfl) ?_
      refine RGI.vl open_wide rfl rfl rfl (by intro c h; cases h) ((Ev.move rfl rfl).conv (congrArg (Value.int .i32) (show _ = ((flip c).toNat : Int) by first | (rw [hfl]; rfl) | rw [hfl]))) ?_
      refine RGI.yield_ (vs := [.int .i32 ((flip c).toNat : Int)]) open_wide (hY _ (flip c) _ hJ (by rw [List.length_take, turnL_len]; omega)) rfl rfl rfl rfl rfl rfl rfl (fun e w' h => by rcases h with ⟨rfl, _⟩ | ⟨rfl, _⟩ <;> exact ⟨_, rfl⟩) (fun q wyy7 hq => ?_)
      cases q
      · rcases hq with ⟨h, _⟩ | ⟨_, hJx1⟩
        · simp at h
        refine RGI.vl open_wide rfl rfl rfl (by intro c h; cases h) (Ev.notT rfl rfl) ?_
        refine RGI.doneQ ?_
        refine QW.then_ ?_
        refine CW.condT rfl ?_
        refine CW.ret ?_
        refine QW.blockR ?_
        refine QW.thenRet ?_
        refine QW.thenRet ?_
        refine QW.blockR ?_
        refine QW.ret0 rfl ?_
        exact ⟨.inr ⟨_, hJx1⟩, trivial⟩
      · rcases hq with ⟨_, hJ1, hK⟩ | ⟨h, _⟩
        rotate_left
        · simp at h
        have hxy := Below.trans hxwl3 hK.1
        have hrn1 := hrn.kept hK (by decide) (by omega)
        refine RGI.vl open_wide rfl rfl rfl (by intro c h; cases h) (Ev.notF rfl rfl) ?_
        refine RGI.doneQ ?_
        refine QW.then_ ?_
        refine CW.condF rfl ?_
        refine CW.skip ?_
        refine QW.blockN ?_
        refine QW.then_ ?_
        refine CW.region ?_
        refine RG.vl rfl rfl rfl (Ev.move rfl rfl) ?_
        refine RG.vl rfl rfl rfl (Ev.subI rfl rfl rfl (by omega)) ?_
        refine RG.vl rfl rfl rfl (Ev.assign rfl rfl) ?_
        refine RG.done ?_
        refine QW.round1 (j + 1) ⟨congrArg (fun x => some (Value.int .i64 x)) (by omega), trivial⟩ ⟨rfl, rfl, trivial⟩ ⟨⟨by omega, by rw [hmore]; exact hJ1, hrn1⟩, hxy⟩ (by omega)
    · refine CW.seq ?_
      refine CW.region ?_
      refine RG.vl rfl rfl rfl ((Ev.byteAt rfl rfl rfl Try.underlying9 (by omega) (rfl)).conv ((show Value.int .u8 _ = Value.int .u8 68 from rfl))) ?_
      refine RG.vl rfl rfl rfl (Ev.to32 rfl rfl Try.underlying5 Try.underlying21 (by omega)) ?_
      refine RG.vl rfl rfl rfl (Ev.eqI rfl rfl rfl) ?_
      refine RG.vl rfl rfl rfl (Ev.assign rfl rfl) ?_
      refine RG.done ?_
      refine QW.sub (S' := [(0, _), (3, _), (4, _), (5, _), (26, _)]) ⟨rfl, rfl, rfl, rfl, rfl, trivial⟩ ?_
      refine QW.then_ ?_
      refine CW.condP rfl (fun hc8 => ?_) (fun hc8 => ?_)
      · refine CW.region ?_
        refine RG.vl rfl rfl rfl ((Ev.byteAt rfl rfl rfl Try.underlying9 (by omega) (rfl)).conv ((show Value.int .u8 _ = Value.int .u8 65 from rfl))) ?_
        refine RG.vl rfl rfl rfl (Ev.to32 rfl rfl Try.underlying5 Try.underlying21 (by omega)) ?_
        refine RG.vl rfl rfl rfl (Ev.assign rfl rfl) ?_
        refine RG.done ?_
        refine QW.blockN ?_
        refine QW.then_ ?_
        refine CW.seq ?_
        have hfl := flip_d (by assumption)
        refine CW.fenced n ?_
        refine CWI.region ?_
        refine RGI.vl open_wide rfl rfl rfl (by intro c h; cases h) (Ev.move rfl rfl) ?_
        refine RGI.vl open_wide rfl rfl rfl (by intro c h; cases h) ((Ev.move rfl rfl).conv (congrArg (Value.int .i32) (show _ = ((flip c).toNat : Int) by first | (rw [hfl]; rfl) | rw [hfl]))) ?_
        refine RGI.yield_ (vs := [.int .i32 ((flip c).toNat : Int)]) open_wide (hY _ (flip c) _ hJ (by rw [List.length_take, turnL_len]; omega)) rfl rfl rfl rfl rfl rfl rfl (fun e w' h => by rcases h with ⟨rfl, _⟩ | ⟨rfl, _⟩ <;> exact ⟨_, rfl⟩) (fun q wyy9 hq => ?_)
        cases q
        · rcases hq with ⟨h, _⟩ | ⟨_, hJx1⟩
          · simp at h
          refine RGI.vl open_wide rfl rfl rfl (by intro c h; cases h) (Ev.notT rfl rfl) ?_
          refine RGI.doneQ ?_
          refine QW.then_ ?_
          refine CW.condT rfl ?_
          refine CW.ret ?_
          refine QW.blockR ?_
          refine QW.thenRet ?_
          refine QW.thenRet ?_
          refine QW.blockR ?_
          refine QW.ret0 rfl ?_
          exact ⟨.inr ⟨_, hJx1⟩, trivial⟩
        · rcases hq with ⟨_, hJ1, hK⟩ | ⟨h, _⟩
          rotate_left
          · simp at h
          have hxy := Below.trans hxwl3 hK.1
          have hrn1 := hrn.kept hK (by decide) (by omega)
          refine RGI.vl open_wide rfl rfl rfl (by intro c h; cases h) (Ev.notF rfl rfl) ?_
          refine RGI.doneQ ?_
          refine QW.then_ ?_
          refine CW.condF rfl ?_
          refine CW.skip ?_
          refine QW.blockN ?_
          refine QW.then_ ?_
          refine CW.region ?_
          refine RG.vl rfl rfl rfl (Ev.move rfl rfl) ?_
          refine RG.vl rfl rfl rfl (Ev.subI rfl rfl rfl (by omega)) ?_
          refine RG.vl rfl rfl rfl (Ev.assign rfl rfl) ?_
          refine RG.done ?_
          refine QW.round1 (j + 1) ⟨congrArg (fun x => some (Value.int .i64 x)) (by omega), trivial⟩ ⟨rfl, rfl, trivial⟩ ⟨⟨by omega, by rw [hmore]; exact hJ1, hrn1⟩, hxy⟩ (by omega)
      · refine CW.skip ?_
        refine QW.blockN ?_
        refine QW.then_ ?_
        refine CW.seq ?_
        have hfl := flip_o (by assumption) (by assumption)
        refine CW.fenced n ?_
        refine CWI.region ?_
        refine RGI.vl open_wide rfl rfl rfl (by intro c h; cases h) (Ev.move rfl rfl) ?_
        refine RGI.vl open_wide rfl rfl rfl (by intro c h; cases h) ((Ev.move rfl rfl).conv (congrArg (Value.int .i32) (show _ = ((flip c).toNat : Int) by first | (rw [hfl]; rfl) | rw [hfl]))) ?_
        refine RGI.yield_ (vs := [.int .i32 ((flip c).toNat : Int)]) open_wide (hY _ (flip c) _ hJ (by rw [List.length_take, turnL_len]; omega)) rfl rfl rfl rfl rfl rfl rfl (fun e w' h => by rcases h with ⟨rfl, _⟩ | ⟨rfl, _⟩ <;> exact ⟨_, rfl⟩) (fun q wyy10 hq => ?_)
        cases q
        · rcases hq with ⟨h, _⟩ | ⟨_, hJx1⟩
          · simp at h
          refine RGI.vl open_wide rfl rfl rfl (by intro c h; cases h) (Ev.notT rfl rfl) ?_
          refine RGI.doneQ ?_
          refine QW.then_ ?_
          refine CW.condT rfl ?_
          refine CW.ret ?_
          refine QW.blockR ?_
          refine QW.thenRet ?_
          refine QW.thenRet ?_
          refine QW.blockR ?_
          refine QW.ret0 rfl ?_
          exact ⟨.inr ⟨_, hJx1⟩, trivial⟩
        · rcases hq with ⟨_, hJ1, hK⟩ | ⟨h, _⟩
          rotate_left
          · simp at h
          have hxy := Below.trans hxwl3 hK.1
          have hrn1 := hrn.kept hK (by decide) (by omega)
          refine RGI.vl open_wide rfl rfl rfl (by intro c h; cases h) (Ev.notF rfl rfl) ?_
          refine RGI.doneQ ?_
          refine QW.then_ ?_
          refine CW.condF rfl ?_
          refine CW.skip ?_
          refine QW.blockN ?_
          refine QW.then_ ?_
          refine CW.region ?_
          refine RG.vl rfl rfl rfl (Ev.move rfl rfl) ?_
          refine RG.vl rfl rfl rfl (Ev.subI rfl rfl rfl (by omega)) ?_
          refine RG.vl rfl rfl rfl (Ev.assign rfl rfl) ?_
          refine RG.done ?_
          refine QW.round1 (j + 1) ⟨congrArg (fun x => some (Value.int .i64 x)) (by omega), trivial⟩ ⟨rfl, rfl, trivial⟩ ⟨⟨by omega, by rw [hmore]; exact hJ1, hrn1⟩, hxy⟩ (by omega)
  · refine CW.exit ?_
    refine QW.thenExit ?_
    refine QW.thenExit ?_
    refine QW.blockHit ?_
    refine QW.end0 rfl ?_
    obtain rfl : j = t.length := by omega
    rw [← turnL_len, List.take_length] at hJ
    exact ⟨.inl hJ, trivial⟩

end Go.Proofs.Ytgafkbnlhlbmkaa
