/- Walks (BL). Written by program. -/
import Derived.Test.YtgafkbnlhlbmkaaT
import Derived.Test.YtgafkbnlhlbmkaaBJ
import Derived.Test.YtgafkbnlhlbmkaaBT
namespace Go.Proofs.Ytgafkbnlhlbmkaa
open Go.RowKit
set_option maxRecDepth 100000 in
set_option maxHeartbeats 1000000 in
theorem letter_ret (n : Nat) (w : World) (hn : n < 5) :
    Ret Try.prog 29 [.int .i64 (n : Int)] w (fun v w' => v = .string ⟨[ltr n].toArray⟩ ∧ Ex w w') := by
  have hB0 : Ex w w := Ex.rfl_ _
  refine Ret.of Try.func29 rfl Try.ntmps29 rfl ?_
  refine CW.seq ?_
  refine CW.region ?_
  refine RG.vl rfl rfl rfl (Ev.assign rfl rfl) ?_
  refine RG.done ?_
  refine QW.then_ ?_
  refine CW.seq ?_
  refine CW.region ?_
  refine RG.vl rfl rfl rfl (Ev.move rfl rfl) ?_
  refine RG.vl rfl rfl rfl (Ev.move rfl rfl) ?_
  refine RG.vl rfl rfl rfl ((Ev.addI rfl rfl rfl (by omega)).conv (congrArg (Value.int .i64) (show (n : Int) + 1 = ((n + 1 : Nat) : Int) by omega))) ?_
  refine RG.vl rfl rfl rfl ((Ev.cutStr (i := n) (j := n + 1) rfl rfl Try.underlying9 rfl rfl (by omega) (by show _ ≤ 5; omega)).conv (congrArg Value.string ((bx_cut s5 n (n + 1)).trans (by rw [s5_cut hn])))) ?_
  refine RG.vl rfl rfl rfl (Ev.assign rfl rfl) ?_
  refine RG.done ?_
  refine QW.then_ ?_
  refine CW.ret ?_
  refine QW.ret1 rfl rfl ?_
  have hB := hB0
  exact ⟨rfl, hB⟩

set_option maxRecDepth 100000 in
set_option maxHeartbeats 1000000 in
theorem rwrite_ret (wv : Value) (l : List UInt8) (w : World) (hws : RdL w 1 encB wv l) (hlen : l.length ≤ 100000) :
    Ret Try.prog 13 [wv] w (fun v w' => v = .tuple #[.string ⟨(writeB l).1.toArray⟩, .int .i64 (writeB l).2] ∧ Ex w w') := by
  obtain ⟨wA, wC, rfl⟩ := hws.shape
  have hB0 : Ex w w := Ex.rfl_ _
  refine Ret.of Try.func13 rfl Try.ntmps13 rfl ?_
  refine CW.seq ?_
  refine CW.region ?_
  refine RG.vl rfl rfl rfl (Ev.assign rfl rfl) ?_
  refine RG.vl rfl rfl rfl (Ev.assign rfl rfl) ?_
  refine RG.done ?_
  refine QW.then_ ?_
  refine CW.seq ?_
  refine CW.seq ?_
  refine CW.region ?_
  refine RG.vl rfl rfl rfl (Ev.move rfl rfl) ?_
  refine RG.vl rfl rfl rfl (Ev.lenL rfl rfl rfl Try.underlying22 (hws)) ?_
  refine RG.vl rfl rfl rfl (Ev.mulI rfl rfl rfl (by omega)) ?_
  refine RG.vl rfl rfl rfl (Ev.gtr rfl rfl rfl) ?_
  refine RG.done ?_
  refine QW.then_ ?_
  refine CW.condP rfl (fun hc1 => ?_) (fun hc1 => ?_)
  · refine CW.seq ?_
    refine CW.region ?_
    refine RG.vl rfl rfl rfl (Ev.assign rfl rfl) ?_
    refine RG.vl rfl rfl rfl (Ev.assign rfl rfl) ?_
    refine RG.done ?_
    refine QW.then_ ?_
    refine CW.ret ?_
    refine QW.thenRet ?_
    refine QW.ret2 rfl rfl rfl ?_
    have hB := hB0
    exact ⟨by rw [w_long (by omega)], hB⟩
  · refine CW.skip ?_
    refine QW.then_ ?_
    refine CW.seq ?_
    refine CW.region ?_
    refine RG.vl rfl rfl rfl (Ev.assign rfl rfl) ?_
    refine RG.done ?_
    refine QW.then_ ?_
    refine CW.seq ?_
    refine CW.seq ?_
    refine CW.region ?_
    refine RG.vl rfl rfl rfl (Ev.assign rfl rfl) ?_
    refine RG.done ?_
    refine QW.then_ ?_
    refine CW.block ?_
    refine CW.loop1 [(0, _)] ⟨rfl, trivial⟩ (fun (i : Nat) => [(5, .int .i64 (i : Int)), (4, .string ⟨((l.take i).flatMap w3).toArray⟩)]) (fun i w' => (i ≤ l.length ∧ (l.take i).all (fun s => decide (s.toNat < 64)) = true) ∧ Ex w w') (fun i => l.length - i) (0) ⟨rfl, rfl, trivial⟩ ⟨⟨by omega, rfl⟩, hB0⟩ ?_
    rintro i wl2 ⟨⟨hi, hall⟩, hxwl2⟩
    refine CW.sub (S' := [(5, _), (4, _), (0, _)]) ⟨rfl, rfl, rfl, trivial⟩ ?_
    refine CW.seq ?_
    refine CW.seq ?_
    refine CW.region ?_
    refine RG.vl rfl rfl rfl (Ev.move rfl rfl) ?_
    refine RG.vl rfl rfl rfl (Ev.move rfl rfl) ?_
    refine RG.vl rfl rfl rfl (Ev.lenL rfl rfl rfl Try.underlying22 ((hws.ext hxwl2))) ?_
    refine RG.vl rfl rfl rfl (Ev.lss rfl rfl rfl) ?_
    refine RG.done ?_
    refine QW.then_ ?_
    refine CW.condP rfl (fun hc3 => ?_) (fun hc3 => ?_)
    · refine CW.skip ?_
      refine QW.then_ ?_
      refine CW.seq ?_
      refine CW.block ?_
      refine CW.seq ?_
      obtain ⟨x, hx⟩ : ∃ x, l[i]? = some x := ⟨_, List.getElem?_eq_getElem (by omega)⟩
      have hx8 := x.toNat_lt
      have hwl := w3s_len (l.take i)
      rw [List.length_take] at hwl
      refine CW.region ?_
      refine RG.vl rfl rfl rfl (Ev.move rfl rfl) ?_
      refine RG.vl rfl rfl rfl (Ev.move rfl rfl) ?_
      refine RG.idxL rfl rfl rfl rfl rfl rfl Try.underlying22 sz_5 ((hws.ext hxwl2)) (hx) (fun p4 hp4b hp4 => ?_)
      refine RG.vl rfl rfl rfl (Ev.ld0 rfl rfl Try.underlying5 rfl (hp4) (rfl)) ?_
      refine RG.vl rfl rfl rfl (Ev.to64 rfl rfl Try.underlying5 Try.underlying3 (by omega)) ?_
      refine RG.vl rfl rfl rfl (Ev.assign rfl rfl) ?_
      refine RG.done ?_
      refine QW.then_ ?_
      refine CW.seq ?_
      refine CW.seq ?_
      refine CW.region ?_
      refine RG.vl rfl rfl rfl (Ev.move rfl rfl) ?_
      refine RG.vl rfl rfl rfl (Ev.gtr rfl rfl rfl) ?_
      refine RG.done ?_
      refine QW.then_ ?_
      refine CW.condP rfl (fun hc5 => ?_) (fun hc5 => ?_)
      · refine CW.seq ?_
        refine CW.region ?_
        refine RG.vl rfl rfl rfl (Ev.assign rfl rfl) ?_
        refine RG.vl rfl rfl rfl (Ev.assign rfl rfl) ?_
        refine RG.done ?_
        refine QW.sub (S' := [(0, _), (2, _), (3, _), (4, _), (5, _), (6, _)]) ⟨rfl, rfl, rfl, rfl, rfl, rfl, trivial⟩ ?_
        refine QW.then_ ?_
        refine CW.ret ?_
        refine QW.thenRet ?_
        refine QW.blockR ?_
        refine QW.thenRet ?_
        refine QW.thenRet ?_
        refine QW.blockR ?_
        refine QW.thenRet ?_
        refine QW.ret2 rfl rfl rfl ?_
        have hB := (Ex.tr hB0 hxwl2)
        exact ⟨by rw [w_bad (by omega) hx (by omega)], hB⟩
      · refine CW.skip ?_
        refine QW.then_ ?_
        refine CW.region ?_
        refine RG.vl rfl rfl rfl (Ev.move rfl rfl) ?_
        refine RG.vl rfl rfl rfl (Ev.move rfl rfl) ?_
        refine RG.vl rfl rfl rfl ((Ev.quoI rfl rfl rfl (by omega)).conv (congrArg (Value.int .i64) (show (x.toNat : Int) / 16 = ((x.toNat / 16 : Nat) : Int) by omega))) ?_
        refine RG.call rfl rfl rfl rfl rfl rfl rfl en_29 (letter_ret _ _ (by omega)) ?_
        rintro _ w6 ⟨rfl, hx6⟩
        replace hxwl2 := Ex.tr hxwl2 hx6
        have hE7 := hx6
        refine RG.vl rfl rfl rfl ((Ev.cat rfl rfl rfl (by rw [sb_len, sb_len]; (repeat rw [List.length_append]); simp only [List.length_singleton]; omega)).conv (congrArg Value.string (bx_cat ((l.take i).flatMap w3) [ltr (x.toNat / 16)]))) ?_
        refine RG.vl rfl rfl rfl (Ev.move rfl rfl) ?_
        refine RG.vl rfl rfl rfl ((Ev.quoI rfl rfl rfl (by omega)).conv (congrArg (Value.int .i64) (show (x.toNat : Int) / 4 = ((x.toNat / 4 : Nat) : Int) by omega))) ?_
        refine RG.vl rfl rfl rfl ((Ev.remI rfl rfl rfl (by omega)).conv (congrArg (Value.int .i64) (show ((x.toNat / 4 : Nat) : Int) % 4 = ((x.toNat / 4 % 4 : Nat) : Int) by omega))) ?_
        refine RG.call rfl rfl rfl rfl rfl rfl rfl en_29 (letter_ret _ _ (by omega)) ?_
        rintro _ w8 ⟨rfl, hx8⟩
        replace hxwl2 := Ex.tr hxwl2 hx8
        replace hE7 := Ex.tr hE7 hx8
        have hE9 := hx8
        refine RG.vl rfl rfl rfl ((Ev.cat rfl rfl rfl (by rw [sb_len, sb_len]; (repeat rw [List.length_append]); simp only [List.length_singleton]; omega)).conv (congrArg Value.string (bx_cat ((l.take i).flatMap w3 ++ [ltr (x.toNat / 16)]) [ltr (x.toNat / 4 % 4)]))) ?_
        refine RG.vl rfl rfl rfl (Ev.move rfl rfl) ?_
        refine RG.vl rfl rfl rfl ((Ev.remI rfl rfl rfl (by omega)).conv (congrArg (Value.int .i64) (show (x.toNat : Int) % 4 = ((x.toNat % 4 : Nat) : Int) by omega))) ?_
        refine RG.call rfl rfl rfl rfl rfl rfl rfl en_29 (letter_ret _ _ (by omega)) ?_
        rintro _ w10 ⟨rfl, hx10⟩
        replace hxwl2 := Ex.tr hxwl2 hx10
        replace hE7 := Ex.tr hE7 hx10
        replace hE9 := Ex.tr hE9 hx10
        have hE11 := hx10
        refine RG.vl rfl rfl rfl ((Ev.cat rfl rfl rfl (by rw [sb_len, sb_len]; (repeat rw [List.length_append]); simp only [List.length_singleton]; omega)).conv (congrArg Value.string (show _ = (⟨((l.take (i + 1)).flatMap w3).toArray⟩ : ByteArray) by rw [bx_cat, w3_more hx]; simp [w3]))) ?_
        refine RG.vl rfl rfl rfl (Ev.assign rfl rfl) ?_
        refine RG.done ?_
        refine QW.sub (S' := [(0, _), (4, _), (5, _)]) ⟨rfl, rfl, rfl, trivial⟩ ?_
        refine QW.blockN ?_
        refine QW.then_ ?_
        refine CW.region ?_
        refine RG.vl rfl rfl rfl (Ev.move rfl rfl) ?_
        refine RG.vl rfl rfl rfl (Ev.addI rfl rfl rfl (by omega)) ?_
        refine RG.vl rfl rfl rfl (Ev.assign rfl rfl) ?_
        refine RG.done ?_
        refine QW.round1 (i + 1) ⟨rfl, rfl, trivial⟩ ⟨rfl, trivial⟩ ⟨⟨by omega, sym_more hx hall (by omega)⟩, (Ex.tr hB0 hxwl2)⟩ (by omega)
    · refine CW.exit ?_
      refine QW.thenExit ?_
      refine QW.thenExit ?_
      refine QW.blockHit ?_
      refine QW.then_ ?_
      refine CW.seq ?_
      refine CW.region ?_
      refine RG.vl rfl rfl rfl (Ev.move rfl rfl) ?_
      refine RG.vl rfl rfl rfl (Ev.assign rfl rfl) ?_
      refine RG.vl rfl rfl rfl (Ev.assign rfl rfl) ?_
      refine RG.done ?_
      refine QW.then_ ?_
      refine CW.ret ?_
      refine QW.ret2 rfl rfl rfl ?_
      have hB := (Ex.tr hB0 hxwl2)
      obtain rfl : i = l.length := by omega
      rw [List.take_length] at hall ⊢
      exact ⟨by rw [w_ok (by omega) hall], hB⟩

end Go.Proofs.Ytgafkbnlhlbmkaa
