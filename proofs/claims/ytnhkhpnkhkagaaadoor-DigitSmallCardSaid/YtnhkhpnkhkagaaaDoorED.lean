/- Walks (ED). Written by program. -/
import Derived.Test.YtnhkhpnkhkagaaaDoorT
import Derived.Test.YtnhkhpnkhkagaaaDoorEC
namespace Go.Proofs.YtnhkhpnkhkagaaaDoor
open Go.RowKit
set_option maxRecDepth 100000 in
set_option maxHeartbeats 1000000 in
theorem rcheck_ret (k : Nat) (wv : Value) (ws : List Int) (t : List UInt8) (w : World) (hws : RdL w 1 encI wv ws) (hwl : ws.length ≤ 100000) (hlen : t.length ≤ 100000) :
    Ret Tryd.prog 43 [.int .u8 (k : Int), wv, .string ⟨t.toArray⟩] w (fun v w' => v = .tuple #[.int .u8 (checkR k ws t).1.toNat, .int .i64 (checkR k ws t).2] ∧ Ex w w') := by
  obtain ⟨wA, wC, rfl⟩ := hws.shape
  have hsz := sbytes t
  have hB0 : Ex w w := Ex.rfl_ _
  refine Ret.of Tryd.func43 rfl Tryd.ntmps43 rfl ?_
  refine CW.seq ?_
  refine CW.region ?_
  refine RG.vl rfl rfl rfl (Ev.assign rfl rfl) ?_
  refine RG.vl rfl rfl rfl (Ev.assign rfl rfl) ?_
  refine RG.done ?_
  refine QW.then_ ?_
  refine CW.seq ?_
  refine CW.seq ?_
  refine CW.region ?_
  refine RG.vl rfl rfl rfl (Ev.move rfl rfl) ?_
  refine RG.vl rfl rfl rfl (Ev.move rfl rfl) ?_
  refine RG.call rfl rfl rfl rfl rfl rfl rfl en_23 (rright_ret k _ ws _ hws (by omega)) ?_
  rintro _ w1 ⟨rfl, hx1⟩
  have hE2 := hx1
  refine RG.vl rfl rfl rfl (Ev.not rfl rfl) ?_
  refine RG.done ?_
  refine QW.then_ ?_
  refine CW.cond rfl (fun hc3 => ?_) (fun hc3 => ?_)
  · refine CW.seq ?_
    refine CW.region ?_
    refine RG.vl rfl rfl rfl (Ev.assign rfl rfl) ?_
    refine RG.vl rfl rfl rfl (Ev.assign rfl rfl) ?_
    refine RG.done ?_
    refine QW.then_ ?_
    refine CW.ret ?_
    refine QW.thenRet ?_
    refine QW.ret2 rfl rfl rfl ?_
    have hB := (Ex.tr hB0 hE2)
    exact ⟨by unfold checkR; rw [show rightD k ws = false from not_t (by assumption)]; rfl, hB⟩
  · refine CW.skip ?_
    refine QW.then_ ?_
    refine CW.seq ?_
    refine CW.seq ?_
    refine CW.region ?_
    refine RG.vl rfl rfl rfl (Ev.move rfl rfl) ?_
    refine RG.vl rfl rfl rfl (Ev.lenStr rfl rfl rfl Tryd.underlying9) ?_
    refine RG.vl rfl rfl rfl (Ev.gtr rfl rfl rfl) ?_
    refine RG.done ?_
    refine QW.then_ ?_
    refine CW.condP rfl (fun hc4 => ?_) (fun hc4 => ?_)
    · refine CW.seq ?_
      refine CW.region ?_
      refine RG.vl rfl rfl rfl (Ev.assign rfl rfl) ?_
      refine RG.vl rfl rfl rfl (Ev.assign rfl rfl) ?_
      refine RG.done ?_
      refine QW.then_ ?_
      refine CW.ret ?_
      refine QW.thenRet ?_
      refine QW.ret2 rfl rfl rfl ?_
      have hB := (Ex.tr hB0 hE2)
      exact ⟨by unfold checkR; rw [show rightD k ws = true from not_f (by assumption), if_neg (by decide), if_pos (by omega)]; rfl, hB⟩
    · refine CW.skip ?_
      refine QW.then_ ?_
      refine CW.seq ?_
      refine CW.seq ?_
      have hr : rightD k ws = true := not_f (by assumption)
      refine CW.region ?_
      refine RG.vl rfl rfl rfl (Ev.assign rfl rfl) ?_
      refine RG.done ?_
      refine QW.then_ ?_
      refine CW.block ?_
      replace hws := (hws.ext hE2)
      have hR5 := (Ex.tr hB0 hE2)
      refine CW.loop1 [(0, _), (1, _), (2, _)] ⟨rfl, rfl, rfl, trivial⟩ (fun (i : Nat) => [(8, .int .i64 (i : Int))]) (fun i w' => (i ≤ 11 ∧ ∀ j, j < i → ¬ ((testR k ws (t ++ [chr j])).2 = 0 ∧ (testR k ws (t ++ [chr j])).1 = true)) ∧ Ex w1 w') (fun i => 11 - i) (0) ⟨rfl, trivial⟩ ⟨⟨by omega, fun j h => by omega⟩, (Ex.rfl_ _)⟩ ?_
      rintro i wl6 ⟨⟨hi, hno⟩, hxwl6⟩
      refine CW.sub (S' := [(8, _), (0, _), (1, _), (2, _)]) ⟨rfl, rfl, rfl, rfl, trivial⟩ ?_
      refine CW.seq ?_
      refine CW.seq ?_
      refine CW.region ?_
      refine RG.vl rfl rfl rfl (Ev.move rfl rfl) ?_
      refine RG.vl rfl rfl rfl (Ev.lss rfl rfl rfl) ?_
      refine RG.done ?_
      refine QW.then_ ?_
      refine CW.condP rfl (fun hc7 => ?_) (fun hc7 => ?_)
      · refine CW.skip ?_
        refine QW.then_ ?_
        refine CW.seq ?_
        refine CW.block ?_
        refine CW.seq ?_
        have hl1 : (t ++ [chr i]).length = t.length + 1 := by simp
        refine CW.region ?_
        refine RG.vl rfl rfl rfl (Ev.move rfl rfl) ?_
        refine RG.vl rfl rfl rfl (Ev.move rfl rfl) ?_
        refine RG.vl rfl rfl rfl (Ev.move rfl rfl) ?_
        refine RG.vl rfl rfl rfl (Ev.move rfl rfl) ?_
        refine RG.vl rfl rfl rfl (Ev.move rfl rfl) ?_
        refine RG.vl rfl rfl rfl (Ev.addI rfl rfl rfl (by omega)) ?_
        refine RG.vl rfl rfl rfl ((Ev.cutStr (i := i) (j := i + 1) rfl rfl Tryd.underlying9 rfl rfl (by omega) (by rw [show (⟨allC.toArray⟩ : ByteArray).size = 11 from rfl]; omega)).conv (congrArg Value.string (all_cut (i := i) (by omega)))) ?_
        refine RG.vl rfl rfl rfl ((Ev.cat rfl rfl rfl (by rw [sbytes, sbytes]; show _ + 1 ≤ _; omega)).conv (congrArg Value.string (bx_cat t [chr i]))) ?_
        refine RG.call rfl rfl rfl rfl rfl rfl rfl en_44 (rtest_ret k _ ws (t ++ [chr i]) _ (hws.ext hxwl6) (by omega) (by omega)) ?_
        rintro _ w8 ⟨rfl, hx8⟩
        replace hxwl6 := Ex.tr hxwl6 hx8
        have hE9 := hx8
        refine RG.vl rfl rfl rfl (Ev.move rfl rfl) ?_
        refine RG.vl rfl rfl rfl (Ev.extract rfl rfl rfl) ?_
        refine RG.vl rfl rfl rfl (Ev.extract rfl rfl rfl) ?_
        refine RG.vl rfl rfl rfl (Ev.assign rfl rfl) ?_
        refine RG.vl rfl rfl rfl (Ev.assign rfl rfl) ?_
        refine RG.done ?_
        refine QW.sub (S' := [(0, _), (1, _), (2, _), (8, _), (9, _), (10, _)]) ⟨rfl, rfl, rfl, rfl, rfl, rfl, trivial⟩ ?_
        refine QW.then_ ?_
        refine CW.seq ?_
        refine CW.region ?_
        refine RG.vl rfl rfl rfl (Ev.move rfl rfl) ?_
        refine RG.vl rfl rfl rfl (Ev.eqI rfl rfl rfl) ?_
        refine RG.vl rfl rfl rfl (Ev.move rfl rfl) ?_
        refine RG.split (d := 36) rfl (fun hg10 => ?_) (fun hg10 => ?_)
        · refine RG.vl rfl rfl rfl (Ev.move rfl rfl) ?_
          refine RG.vl rfl rfl rfl (Ev.pickT rfl rfl rfl) ?_
          refine RG.done ?_
          refine QW.then_ ?_
          refine CW.cond rfl (fun hc11 => ?_) (fun hc11 => ?_)
          · refine CW.seq ?_
            refine CW.region ?_
            refine RG.vl rfl rfl rfl (Ev.move rfl rfl) ?_
            refine RG.vl rfl rfl rfl (Ev.byteAt rfl rfl rfl Tryd.underlying9 (by omega) ((show _ = some (chr i) from all_at (i := i) (by omega)))) ?_
            refine RG.vl rfl rfl rfl (Ev.assign rfl rfl) ?_
            refine RG.vl rfl rfl rfl (Ev.assign rfl rfl) ?_
            refine RG.done ?_
            refine QW.then_ ?_
            refine CW.ret ?_
            refine QW.blockR ?_
            refine QW.thenRet ?_
            refine QW.thenRet ?_
            refine QW.blockR ?_
            refine QW.thenRet ?_
            refine QW.ret2 rfl rfl rfl ?_
            have hB := (Ex.tr hR5 hxwl6)
            exact ⟨by rw [rchk_hit (i := i) hr (by omega) (by omega) (by assumption)], hB⟩
          · refine CW.skip ?_
            refine QW.blockN ?_
            refine QW.then_ ?_
            refine CW.region ?_
            refine RG.vl rfl rfl rfl (Ev.move rfl rfl) ?_
            refine RG.vl rfl rfl rfl (Ev.addI rfl rfl rfl (by omega)) ?_
            refine RG.vl rfl rfl rfl (Ev.assign rfl rfl) ?_
            refine RG.done ?_
            refine QW.round1 (i + 1) ⟨rfl, trivial⟩ ⟨rfl, rfl, rfl, trivial⟩ ⟨⟨by omega, no_upto hno (by rintro ⟨h1, h2⟩; first | (rw [h2] at *; simp at *; done) | exact absurd h1 (by assumption) | exact absurd h2 (by simp_all))⟩, hxwl6⟩ (by omega)
        · refine RG.pass rfl rfl rfl ?_
          refine RG.vl rfl rfl rfl (Ev.pickF rfl rfl rfl) ?_
          refine RG.done ?_
          refine QW.then_ ?_
          refine CW.condF rfl ?_
          refine CW.skip ?_
          refine QW.blockN ?_
          refine QW.then_ ?_
          refine CW.region ?_
          refine RG.vl rfl rfl rfl (Ev.move rfl rfl) ?_
          refine RG.vl rfl rfl rfl (Ev.addI rfl rfl rfl (by omega)) ?_
          refine RG.vl rfl rfl rfl (Ev.assign rfl rfl) ?_
          refine RG.done ?_
          refine QW.round1 (i + 1) ⟨rfl, trivial⟩ ⟨rfl, rfl, rfl, trivial⟩ ⟨⟨by omega, no_upto hno (by rintro ⟨h1, h2⟩; first | (rw [h2] at *; simp at *; done) | exact absurd h1 (by assumption) | exact absurd h2 (by simp_all))⟩, hxwl6⟩ (by omega)
      · refine CW.exit ?_
        refine QW.thenExit ?_
        refine QW.thenExit ?_
        refine QW.blockHit ?_
        refine QW.then_ ?_
        refine CW.seq ?_
        refine CW.region ?_
        refine RG.vl rfl rfl rfl (Ev.assign rfl rfl) ?_
        refine RG.vl rfl rfl rfl (Ev.assign rfl rfl) ?_
        refine RG.done ?_
        refine QW.then_ ?_
        refine CW.ret ?_
        refine QW.ret2 rfl rfl rfl ?_
        have hB := (Ex.tr hR5 hxwl6)
        obtain rfl : i = 11 := by omega
        exact ⟨by rw [rchk_no hr (by omega) hno]; rfl, hB⟩

set_option maxRecDepth 100000 in
set_option maxHeartbeats 4000000 in
theorem rfill_ret (k : Nat) (wv : Value) (ws : List Int) (t : List UInt8) (w : World) (hws : RdL w 1 encI wv ws) (hwl : ws.length ≤ 100000) (hlen : t.length ≤ 100000) :
    Ret Tryd.prog 45 [.int .u8 (k : Int), wv, .string ⟨t.toArray⟩] w (fun v w' => v = .tuple #[.string ⟨(fillR k ws t).1.toArray⟩, .int .i64 (fillR k ws t).2] ∧ Ex w w') := by
  obtain ⟨wA, wC, rfl⟩ := hws.shape
  have hsz := sbytes t
  have hB0 : Ex w w := Ex.rfl_ _
  refine Ret.of Tryd.func45 rfl Tryd.ntmps45 rfl ?_
  refine CW.seq ?_
  refine CW.region ?_
  refine RG.vl rfl rfl rfl (Ev.assign rfl rfl) ?_
  refine RG.vl rfl rfl rfl (Ev.assign rfl rfl) ?_
  refine RG.done ?_
  refine QW.then_ ?_
  refine CW.seq ?_
  refine CW.seq ?_
  refine CW.region ?_
  refine RG.vl rfl rfl rfl (Ev.move rfl rfl) ?_
  refine RG.vl rfl rfl rfl (Ev.move rfl rfl) ?_
  refine RG.call rfl rfl rfl rfl rfl rfl rfl en_23 (rright_ret k _ ws _ hws (by omega)) ?_
  rintro _ w1 ⟨rfl, hx1⟩
  have hE2 := hx1
  refine RG.vl rfl rfl rfl (Ev.not rfl rfl) ?_
  refine RG.done ?_
  refine QW.then_ ?_
  refine CW.cond rfl (fun hc3 => ?_) (fun hc3 => ?_)
  · refine CW.seq ?_
    refine CW.region ?_
    refine RG.vl rfl rfl rfl (Ev.assign rfl rfl) ?_
    refine RG.vl rfl rfl rfl (Ev.assign rfl rfl) ?_
    refine RG.done ?_
    refine QW.then_ ?_
    refine CW.ret ?_
    refine QW.thenRet ?_
    refine QW.ret2 rfl rfl rfl ?_
    have hB := (Ex.tr hB0 hE2)
    exact ⟨by unfold fillR; rw [show rightD k ws = false from not_t (by assumption)]; rfl, hB⟩
  · refine CW.skip ?_
    refine QW.then_ ?_
    refine CW.seq ?_
    refine CW.seq ?_
    refine CW.region ?_
    refine RG.vl rfl rfl rfl (Ev.move rfl rfl) ?_
    refine RG.vl rfl rfl rfl (Ev.lenStr rfl rfl rfl Tryd.underlying9) ?_
    refine RG.vl rfl rfl rfl (Ev.gtr rfl rfl rfl) ?_
    refine RG.done ?_
    refine QW.then_ ?_
    refine CW.condP rfl (fun hc4 => ?_) (fun hc4 => ?_)
    · refine CW.seq ?_
      refine CW.region ?_
      refine RG.vl rfl rfl rfl (Ev.assign rfl rfl) ?_
      refine RG.vl rfl rfl rfl (Ev.assign rfl rfl) ?_
      refine RG.done ?_
      refine QW.then_ ?_
      refine CW.ret ?_
      refine QW.thenRet ?_
      refine QW.ret2 rfl rfl rfl ?_
      have hB := (Ex.tr hB0 hE2)
      exact ⟨by unfold fillR; rw [show rightD k ws = true from not_f (by assumption), if_neg (by decide), if_pos (by omega)], hB⟩
    · refine CW.skip ?_
      refine QW.then_ ?_
      refine CW.seq ?_
      have hr : rightD k ws = true := not_f (by assumption)
      refine CW.region ?_
      refine RG.vl rfl rfl rfl (Ev.assign rfl rfl) ?_
      refine RG.vl rfl rfl rfl (Ev.assign rfl rfl) ?_
      refine RG.done ?_
      refine QW.then_ ?_
      refine CW.seq ?_
      refine CW.seq ?_
      refine CW.region ?_
      refine RG.vl rfl rfl rfl (Ev.assign rfl rfl) ?_
      refine RG.done ?_
      refine QW.then_ ?_
      refine CW.block ?_
      replace hws := (hws.ext hE2)
      have hR5 := (Ex.tr hB0 hE2)
      refine CW.loop3 [(0, _), (1, _), (2, _), (6, _), (7, _)] ⟨rfl, rfl, rfl, rfl, rfl, trivial⟩ (fun (i : Nat) (a : Nat) (m : Nat) => [(10, .int .i64 (i : Int)), (8, .int .i64 (a : Int)), (9, .int .i64 (m : Int))]) (fun i a m w' => (i ≤ t.length ∧ m = (t.take i).count 63 ∧ (0 < m → t[a]? = some 63 ∧ a < i)) ∧ Ex w1 w') (fun i a m => t.length - i) (0) (0) (0) ⟨rfl, rfl, rfl, trivial⟩ ⟨⟨by omega, rfl, fun h => by omega⟩, (Ex.rfl_ _)⟩ ?_
      rintro i a m wl6 ⟨⟨hi, hm, ha⟩, hxwl6⟩
      refine CW.sub (S' := [(10, _), (8, _), (9, _), (0, _), (1, _), (2, _), (6, _), (7, _)]) ⟨rfl, rfl, rfl, rfl, rfl, rfl, rfl, rfl, trivial⟩ ?_
      refine CW.seq ?_
      refine CW.seq ?_
      refine CW.region ?_
      refine RG.vl rfl rfl rfl (Ev.move rfl rfl) ?_
      refine RG.vl rfl rfl rfl (Ev.move rfl rfl) ?_
      refine RG.vl rfl rfl rfl (Ev.lenStr rfl rfl rfl Tryd.underlying9) ?_
      refine RG.vl rfl rfl rfl (Ev.lss rfl rfl rfl) ?_
      refine RG.done ?_
      refine QW.then_ ?_
      refine CW.condP rfl (fun hc7 => ?_) (fun hc7 => ?_)
      · refine CW.skip ?_
        refine QW.then_ ?_
        refine CW.seq ?_
        refine CW.block ?_
        refine CW.seq ?_
        obtain ⟨c, hc⟩ : ∃ c, t[i]? = some c := ⟨_, List.getElem?_eq_getElem (by omega)⟩
        have hmm := cnt_more hc
        have hml := List.count_le_length (a := (63 : UInt8)) (l := t.take i)
        have htl : (t.take i).length ≤ i := by rw [List.length_take]; omega
        refine CW.region ?_
        refine RG.vl rfl rfl rfl (Ev.move rfl rfl) ?_
        refine RG.vl rfl rfl rfl (Ev.move rfl rfl) ?_
        refine RG.vl rfl rfl rfl (Ev.byteAt rfl rfl rfl Tryd.underlying9 (by omega) (hc)) ?_
        refine RG.vl rfl rfl rfl (Ev.eqI rfl rfl rfl) ?_
        refine RG.done ?_
        refine QW.then_ ?_
        refine CW.condP rfl (fun hc8 => ?_) (fun hc8 => ?_)
        · refine CW.seq ?_
          refine CW.region ?_
          refine RG.vl rfl rfl rfl (Ev.move rfl rfl) ?_
          refine RG.vl rfl rfl rfl (Ev.assign rfl rfl) ?_
          refine RG.done ?_
          refine QW.then_ ?_
          refine CW.region ?_
          refine RG.vl rfl rfl rfl (Ev.move rfl rfl) ?_
          refine RG.vl rfl rfl rfl (Ev.addI rfl rfl rfl (by omega)) ?_
          refine RG.vl rfl rfl rfl (Ev.assign rfl rfl) ?_
          refine RG.done ?_
          refine QW.blockN ?_
          refine QW.then_ ?_
          refine CW.region ?_
          refine RG.vl rfl rfl rfl (Ev.move rfl rfl) ?_
          refine RG.vl rfl rfl rfl (Ev.addI rfl rfl rfl (by omega)) ?_
          refine RG.vl rfl rfl rfl (Ev.assign rfl rfl) ?_
          refine RG.done ?_
          refine QW.sub (S' := [(0, _), (1, _), (2, _), (6, _), (7, _), (8, _), (9, _), (10, _)]) ⟨rfl, rfl, rfl, rfl, rfl, rfl, rfl, rfl, trivial⟩ ?_
          refine QW.round3 (i + 1) (i) (m + 1) ⟨rfl, rfl, rfl, trivial⟩ ⟨rfl, rfl, rfl, rfl, rfl, trivial⟩ ⟨⟨by omega, by rw [hmm, if_pos (byte_eq63 (c := c) (by assumption)), hm], fun _ => ⟨by rw [hc, byte_eq63 (c := c) (by assumption)], by omega⟩⟩, hxwl6⟩ (by omega)
        · refine CW.skip ?_
          refine QW.blockN ?_
          refine QW.then_ ?_
          refine CW.region ?_
          refine RG.vl rfl rfl rfl (Ev.move rfl rfl) ?_
          refine RG.vl rfl rfl rfl (Ev.addI rfl rfl rfl (by omega)) ?_
          refine RG.vl rfl rfl rfl (Ev.assign rfl rfl) ?_
          refine RG.done ?_
          refine QW.round3 (i + 1) (a) (m) ⟨rfl, rfl, rfl, trivial⟩ ⟨rfl, rfl, rfl, rfl, rfl, trivial⟩ ⟨⟨by omega, by rw [hmm, if_neg (byte_ne63 (c := c) (by assumption)), hm], fun h => ⟨(ha h).1, by have := (ha h).2; omega⟩⟩, hxwl6⟩ (by omega)
      · refine CW.exit ?_
        refine QW.thenExit ?_
        refine QW.thenExit ?_
        refine QW.blockHit ?_
        refine QW.then_ ?_
        refine CW.seq ?_
        refine CW.seq ?_
        refine CW.region ?_
        refine RG.vl rfl rfl rfl (Ev.move rfl rfl) ?_
        refine RG.vl rfl rfl rfl (Ev.neI rfl rfl rfl) ?_
        refine RG.done ?_
        refine QW.then_ ?_
        refine CW.condP rfl (fun hc9 => ?_) (fun hc9 => ?_)
        · refine CW.seq ?_
          refine CW.region ?_
          refine RG.vl rfl rfl rfl (Ev.assign rfl rfl) ?_
          refine RG.vl rfl rfl rfl (Ev.assign rfl rfl) ?_
          refine RG.done ?_
          refine QW.then_ ?_
          refine CW.ret ?_
          refine QW.thenRet ?_
          refine QW.ret2 rfl rfl rfl ?_
          have hB := (Ex.tr hR5 hxwl6)
          obtain rfl : i = t.length := by omega
          rw [List.take_length] at hm
          exact ⟨by rw [fil_no hr (by omega) (.inl (by omega))], hB⟩
        · refine CW.skip ?_
          refine QW.then_ ?_
          refine CW.seq ?_
          obtain rfl : i = t.length := by omega
          rw [List.take_length] at hm
          obtain ⟨A, B, rfl, rfl, hA, hAB⟩ := q_split (ha (by omega)).1 (by omega)
          have hab : (A ++ 63 :: B).length = A.length + B.length + 1 := by simp; omega
          have h48 : (A ++ 48 :: B).length = A.length + B.length + 1 := by simp; omega
          refine CW.draw [] (.ex) 17 rfl mixed (fun wd10 hxwd10 => ?_)
          replace hxwl6 := Ex.tr hxwl6 hxwd10
          have hE11 := hxwd10
          refine AG.takeW 0 rfl (by kernel_rfl) (by kernel_rfl) rfl rfl rfl (fun _ => Ev.move rfl rfl) ?_
          refine AG.takeW 1 rfl (by kernel_rfl) (by kernel_rfl) rfl rfl rfl (fun _ => Ev.move rfl rfl) ?_
          refine AG.takeW 2 rfl (by kernel_rfl) (by kernel_rfl) rfl rfl rfl (fun _ => Ev.move rfl rfl) ?_
          refine AG.takeW 3 rfl (by kernel_rfl) (by kernel_rfl) rfl rfl rfl (fun _ => Ev.move rfl rfl) ?_
          refine AG.takeW 4 rfl (by kernel_rfl) (by kernel_rfl) rfl rfl rfl (fun _ => (Ev.cutStr (i := 0) (j := A.length) rfl rfl Tryd.underlying9 rfl rfl (by omega) (by omega)).conv (congrArg Value.string (show _ = (⟨A.toArray⟩ : ByteArray) from (bx_cut _ 0 A.length).trans (by simp)))) ?_
          refine AG.takeW 5 rfl (by kernel_rfl) (by kernel_rfl) rfl rfl rfl (fun _ => (Ev.cat rfl rfl rfl (by rw [sbytes, sbytes]; show _ + 1 ≤ _; omega)).conv (congrArg Value.string (bx_cat A [48]))) ?_
          refine AG.takeW 6 rfl (by kernel_rfl) (by kernel_rfl) rfl rfl rfl (fun _ => Ev.move rfl rfl) ?_
          refine AG.takeW 7 rfl (by kernel_rfl) (by kernel_rfl) rfl rfl rfl (fun _ => Ev.move rfl rfl) ?_
          refine AG.takeW 8 rfl (by kernel_rfl) (by kernel_rfl) rfl rfl rfl (fun _ => Ev.addI rfl rfl rfl (by omega)) ?_
          refine AG.takeW 9 rfl (by kernel_rfl) (by kernel_rfl) rfl rfl rfl (fun _ => (Ev.cutStr (i := A.length + 1) (j := (A ++ 63 :: B).length) rfl rfl Tryd.underlying9 rfl rfl (by omega) (by omega)).conv (congrArg Value.string (show _ = (⟨B.toArray⟩ : ByteArray) from (bx_cut _ (A.length + 1) (A ++ 63 :: B).length).trans (by rw [List.take_length, drop_mid])))) ?_
          refine AG.takeW 10 rfl (by kernel_rfl) (by kernel_rfl) rfl rfl rfl (fun _ => (Ev.cat rfl rfl rfl (by rw [sbytes, sbytes, List.length_append]; show _ + 1 + _ ≤ _; omega)).conv (congrArg Value.string (show _ = (⟨(A ++ 48 :: B).toArray⟩ : ByteArray) by rw [bx_cat, List.append_assoc]; rfl))) ?_
          refine AG.only 11 rfl (by kernel_rfl) ?_
          refine RG.call rfl rfl rfl rfl rfl rfl rfl en_44 (rtest_ret k _ ws (A ++ 48 :: B) _ (hws.ext hxwl6) (by omega) (by omega)) ?_
          rintro _ w13 ⟨rfl, hx13⟩
          replace hxwl6 := Ex.tr hxwl6 hx13
          replace hE11 := Ex.tr hE11 hx13
          have hE14 := hx13
          refine RG.done ?_
          refine QW.an (fun _ => hE14) ?_
          refine AG.takeW 12 rfl (by kernel_rfl) (by kernel_rfl) rfl rfl rfl (fun _ => Ev.move rfl rfl) ?_
          refine AG.takeW 13 rfl (by kernel_rfl) (by kernel_rfl) rfl rfl rfl (fun _ => Ev.extract rfl rfl rfl) ?_
          refine AG.takeW 14 rfl (by kernel_rfl) (by kernel_rfl) rfl rfl rfl (fun _ => Ev.extract rfl rfl rfl) ?_
          refine AG.takeW 15 rfl (by kernel_rfl) (by kernel_rfl) rfl rfl rfl (fun _ => Ev.assign rfl rfl) ?_
          refine AG.takeW 16 rfl (by kernel_rfl) (by kernel_rfl) rfl rfl rfl (fun _ => Ev.assign rfl rfl) ?_
          refine AG.done (by kernel_rfl) ?_
          refine QW.sub (S' := [(0, _), (1, _), (2, _), (6, _), (7, _), (8, _), (12, _)]) ⟨rfl, rfl, rfl, rfl, rfl, rfl, rfl, trivial⟩ ?_
          refine QW.then_ ?_
          refine CW.seq ?_
          refine CW.seq ?_
          refine CW.region ?_
          refine RG.vl rfl rfl rfl (Ev.move rfl rfl) ?_
          refine RG.vl rfl rfl rfl (Ev.neI rfl rfl rfl) ?_
          refine RG.done ?_
          refine QW.then_ ?_
          refine CW.condP rfl (fun hc15 => ?_) (fun hc15 => ?_)
          · refine CW.seq ?_
            refine CW.region ?_
            refine RG.vl rfl rfl rfl (Ev.move rfl rfl) ?_
            refine RG.vl rfl rfl rfl (Ev.assign rfl rfl) ?_
            refine RG.vl rfl rfl rfl (Ev.assign rfl rfl) ?_
            refine RG.done ?_
            refine QW.then_ ?_
            refine CW.ret ?_
            refine QW.thenRet ?_
            refine QW.ret2 rfl rfl rfl ?_
            have hB := (Ex.tr hR5 hxwl6)
            exact ⟨by rw [rfill_err hr (by omega) hA (by assumption)], hB⟩
          · refine CW.skip ?_
            refine QW.then_ ?_
            refine CW.seq ?_
            have hE0 : (testR k ws (A ++ 48 :: B)).2 = 0 := Decidable.not_not.1 (by assumption)
            refine CW.region ?_
            refine RG.vl rfl rfl rfl (Ev.assign rfl rfl) ?_
            refine RG.done ?_
            refine QW.then_ ?_
            refine CW.seq ?_
            refine CW.seq ?_
            refine CW.region ?_
            refine RG.vl rfl rfl rfl (Ev.assign rfl rfl) ?_
            refine RG.done ?_
            refine QW.then_ ?_
            refine CW.block ?_
            replace hws := (hws.ext hxwl6)
            have hR16 := (Ex.tr hR5 hxwl6)
            have hR17 := hxwl6
            have hR18 := hE11
            have hR19 := hE14
            refine CW.loop1 [(0, _), (1, _), (2, _), (6, _), (7, _), (8, _)] ⟨rfl, rfl, rfl, rfl, rfl, rfl, trivial⟩ (fun (j : Nat) => [(14, .int .i64 (j : Int)), (13, .string ⟨(chs (fun v => decide (testR k ws (A ++ chr v :: B) = (true, 0))) 0 j).toArray⟩)]) (fun j w' => (j ≤ 11) ∧ Ex w13 w') (fun j => 11 - j) (0) ⟨rfl, rfl, trivial⟩ ⟨by omega, (Ex.rfl_ _)⟩ ?_
            rintro j wl20 ⟨hj, hxwl20⟩
            refine CW.sub (S' := [(14, _), (13, _), (0, _), (1, _), (2, _), (6, _), (7, _), (8, _)]) ⟨rfl, rfl, rfl, rfl, rfl, rfl, rfl, rfl, trivial⟩ ?_
            refine CW.seq ?_
            refine CW.seq ?_
            refine CW.region ?_
            refine RG.vl rfl rfl rfl (Ev.move rfl rfl) ?_
            refine RG.vl rfl rfl rfl (Ev.lss rfl rfl rfl) ?_
            refine RG.done ?_
            refine QW.then_ ?_
            refine CW.condP rfl (fun hc21 => ?_) (fun hc21 => ?_)
            · refine CW.skip ?_
              refine QW.then_ ?_
              refine CW.seq ?_
              refine CW.block ?_
              refine CW.seq ?_
              have hcj : (A ++ chr j :: B).length = A.length + B.length + 1 := by simp; omega
              refine CW.draw [] (.ex) 21 rfl mixed (fun wd22 hxwd22 => ?_)
              replace hxwl20 := Ex.tr hxwl20 hxwd22
              have hE23 := hxwd22
              refine AG.takeW 0 rfl (by kernel_rfl) (by kernel_rfl) rfl rfl rfl (fun _ => Ev.move rfl rfl) ?_
              refine AG.takeW 1 rfl (by kernel_rfl) (by kernel_rfl) rfl rfl rfl (fun _ => Ev.move rfl rfl) ?_
              refine AG.takeW 2 rfl (by kernel_rfl) (by kernel_rfl) rfl rfl rfl (fun _ => Ev.move rfl rfl) ?_
              refine AG.takeW 3 rfl (by kernel_rfl) (by kernel_rfl) rfl rfl rfl (fun _ => Ev.move rfl rfl) ?_
              refine AG.takeW 4 rfl (by kernel_rfl) (by kernel_rfl) rfl rfl rfl (fun _ => (Ev.cutStr (i := 0) (j := A.length) rfl rfl Tryd.underlying9 rfl rfl (by omega) (by omega)).conv (congrArg Value.string (show _ = (⟨A.toArray⟩ : ByteArray) from (bx_cut _ 0 A.length).trans (by simp)))) ?_
              refine AG.takeW 5 rfl (by kernel_rfl) (by kernel_rfl) rfl rfl rfl (fun _ => Ev.move rfl rfl) ?_
              refine AG.takeW 6 rfl (by kernel_rfl) (by kernel_rfl) rfl rfl rfl (fun _ => Ev.move rfl rfl) ?_
              refine AG.takeW 7 rfl (by kernel_rfl) (by kernel_rfl) rfl rfl rfl (fun _ => Ev.addI rfl rfl rfl (by omega)) ?_
              refine AG.takeW 8 rfl (by kernel_rfl) (by kernel_rfl) rfl rfl rfl (fun _ => (Ev.cutStr (i := j) (j := j + 1) rfl rfl Tryd.underlying9 rfl rfl (by omega) (by rw [show (⟨allC.toArray⟩ : ByteArray).size = 11 from rfl]; omega)).conv (congrArg Value.string (all_cut (i := j) (by omega)))) ?_
              refine AG.takeW 9 rfl (by kernel_rfl) (by kernel_rfl) rfl rfl rfl (fun _ => (Ev.cat rfl rfl rfl (by rw [sbytes, sbytes]; show _ + 1 ≤ _; omega)).conv (congrArg Value.string (bx_cat A [chr j]))) ?_
              refine AG.takeW 10 rfl (by kernel_rfl) (by kernel_rfl) rfl rfl rfl (fun _ => Ev.move rfl rfl) ?_
              refine AG.takeW 11 rfl (by kernel_rfl) (by kernel_rfl) rfl rfl rfl (fun _ => Ev.move rfl rfl) ?_
              refine AG.takeW 12 rfl (by kernel_rfl) (by kernel_rfl) rfl rfl rfl (fun _ => Ev.addI rfl rfl rfl (by omega)) ?_
              refine AG.takeW 13 rfl (by kernel_rfl) (by kernel_rfl) rfl rfl rfl (fun _ => (Ev.cutStr (i := A.length + 1) (j := (A ++ 63 :: B).length) rfl rfl Tryd.underlying9 rfl rfl (by omega) (by omega)).conv (congrArg Value.string (show _ = (⟨B.toArray⟩ : ByteArray) from (bx_cut _ (A.length + 1) (A ++ 63 :: B).length).trans (by rw [List.take_length, drop_mid])))) ?_
              refine AG.takeW 14 rfl (by kernel_rfl) (by kernel_rfl) rfl rfl rfl (fun _ => (Ev.cat rfl rfl rfl (by rw [sbytes, sbytes, List.length_append]; show _ + 1 + _ ≤ _; omega)).conv (congrArg Value.string (show _ = (⟨(A ++ chr j :: B).toArray⟩ : ByteArray) by rw [bx_cat, List.append_assoc]; rfl))) ?_
              refine AG.only 15 rfl (by kernel_rfl) ?_
              refine RG.call rfl rfl rfl rfl rfl rfl rfl en_44 (rtest_ret k _ ws (A ++ chr j :: B) _ (hws.ext hxwl20) (by omega) (by omega)) ?_
              rintro _ w25 ⟨rfl, hx25⟩
              replace hxwl20 := Ex.tr hxwl20 hx25
              replace hE23 := Ex.tr hE23 hx25
              have hE26 := hx25
              refine RG.done ?_
              refine QW.an (fun _ => hE26) ?_
              refine AG.takeW 16 rfl (by kernel_rfl) (by kernel_rfl) rfl rfl rfl (fun _ => Ev.move rfl rfl) ?_
              refine AG.takeW 17 rfl (by kernel_rfl) (by kernel_rfl) rfl rfl rfl (fun _ => Ev.extract rfl rfl rfl) ?_
              refine AG.takeW 18 rfl (by kernel_rfl) (by kernel_rfl) rfl rfl rfl (fun _ => Ev.extract rfl rfl rfl) ?_
              refine AG.takeW 19 rfl (by kernel_rfl) (by kernel_rfl) rfl rfl rfl (fun _ => Ev.assign rfl rfl) ?_
              refine AG.takeW 20 rfl (by kernel_rfl) (by kernel_rfl) rfl rfl rfl (fun _ => Ev.assign rfl rfl) ?_
              refine AG.done (by kernel_rfl) ?_
              refine QW.sub (S' := [(0, _), (1, _), (2, _), (6, _), (7, _), (8, _), (13, _), (14, _), (15, _), (16, _)]) ⟨rfl, rfl, rfl, rfl, rfl, rfl, rfl, rfl, rfl, rfl, trivial⟩ ?_
              refine QW.then_ ?_
              refine CW.seq ?_
              refine CW.region ?_
              refine RG.vl rfl rfl rfl (Ev.move rfl rfl) ?_
              refine RG.vl rfl rfl rfl (Ev.eqI rfl rfl rfl) ?_
              refine RG.vl rfl rfl rfl (Ev.move rfl rfl) ?_
              refine RG.split (d := 82) rfl (fun hg27 => ?_) (fun hg27 => ?_)
              · refine RG.vl rfl rfl rfl (Ev.move rfl rfl) ?_
                refine RG.vl rfl rfl rfl (Ev.pickT rfl rfl rfl) ?_
                refine RG.done ?_
                refine QW.then_ ?_
                refine CW.cond rfl (fun hc28 => ?_) (fun hc28 => ?_)
                · have hcl := chs_len (fun v => decide (testR k ws (A ++ chr v :: B) = (true, 0))) j 0
                  refine CW.region ?_
                  refine RG.vl rfl rfl rfl (Ev.move rfl rfl) ?_
                  refine RG.vl rfl rfl rfl (Ev.move rfl rfl) ?_
                  refine RG.vl rfl rfl rfl (Ev.move rfl rfl) ?_
                  refine RG.vl rfl rfl rfl (Ev.addI rfl rfl rfl (by omega)) ?_
                  refine RG.vl rfl rfl rfl ((Ev.cutStr (i := j) (j := j + 1) rfl rfl Tryd.underlying9 rfl rfl (by omega) (by rw [show (⟨allC.toArray⟩ : ByteArray).size = 11 from rfl]; omega)).conv (congrArg Value.string (all_cut (i := j) (by omega)))) ?_
                  refine RG.vl rfl rfl rfl ((Ev.cat rfl rfl rfl (by rw [sbytes, sbytes]; show _ + 1 ≤ _; omega)).conv (congrArg Value.string (bx_cat (chs (fun v => decide (testR k ws (A ++ chr v :: B) = (true, 0))) 0 j) [chr j]))) ?_
                  refine RG.vl rfl rfl rfl (Ev.assign rfl rfl) ?_
                  refine RG.done ?_
                  refine QW.blockN ?_
                  refine QW.then_ ?_
                  refine CW.region ?_
                  refine RG.vl rfl rfl rfl (Ev.move rfl rfl) ?_
                  refine RG.vl rfl rfl rfl (Ev.addI rfl rfl rfl (by omega)) ?_
                  refine RG.vl rfl rfl rfl (Ev.assign rfl rfl) ?_
                  refine RG.done ?_
                  refine QW.sub (S' := [(0, _), (1, _), (2, _), (6, _), (7, _), (8, _), (13, _), (14, _)]) ⟨rfl, rfl, rfl, rfl, rfl, rfl, rfl, rfl, trivial⟩ ?_
                  refine QW.round1 (j + 1) ⟨rfl, by rw [chs_hit (n := j) (f := (fun v => decide (testR k ws (A ++ chr v :: B) = (true, 0)))) (by first | exact pair_t (by assumption) (by assumption) | exact pair_f1 (by assumption) | exact pair_f2 (by assumption))]; rfl, trivial⟩ ⟨rfl, rfl, rfl, rfl, rfl, rfl, trivial⟩ ⟨by omega, hxwl20⟩ (by omega)
                · refine CW.skip ?_
                  refine QW.blockN ?_
                  refine QW.then_ ?_
                  refine CW.region ?_
                  refine RG.vl rfl rfl rfl (Ev.move rfl rfl) ?_
                  refine RG.vl rfl rfl rfl (Ev.addI rfl rfl rfl (by omega)) ?_
                  refine RG.vl rfl rfl rfl (Ev.assign rfl rfl) ?_
                  refine RG.done ?_
                  refine QW.round1 (j + 1) ⟨rfl, by rw [chs_miss (n := j) (f := (fun v => decide (testR k ws (A ++ chr v :: B) = (true, 0)))) (by first | exact pair_t (by assumption) (by assumption) | exact pair_f1 (by assumption) | exact pair_f2 (by assumption))]; rfl, trivial⟩ ⟨rfl, rfl, rfl, rfl, rfl, rfl, trivial⟩ ⟨by omega, hxwl20⟩ (by omega)
              · refine RG.pass rfl rfl rfl ?_
                refine RG.vl rfl rfl rfl (Ev.pickF rfl rfl rfl) ?_
                refine RG.done ?_
                refine QW.then_ ?_
                refine CW.condF rfl ?_
                refine CW.skip ?_
                refine QW.blockN ?_
                refine QW.then_ ?_
                refine CW.region ?_
                refine RG.vl rfl rfl rfl (Ev.move rfl rfl) ?_
                refine RG.vl rfl rfl rfl (Ev.addI rfl rfl rfl (by omega)) ?_
                refine RG.vl rfl rfl rfl (Ev.assign rfl rfl) ?_
                refine RG.done ?_
                refine QW.round1 (j + 1) ⟨rfl, by rw [chs_miss (n := j) (f := (fun v => decide (testR k ws (A ++ chr v :: B) = (true, 0)))) (by first | exact pair_t (by assumption) (by assumption) | exact pair_f1 (by assumption) | exact pair_f2 (by assumption))]; rfl, trivial⟩ ⟨rfl, rfl, rfl, rfl, rfl, rfl, trivial⟩ ⟨by omega, hxwl20⟩ (by omega)
            · refine CW.exit ?_
              refine QW.thenExit ?_
              refine QW.thenExit ?_
              refine QW.blockHit ?_
              refine QW.then_ ?_
              refine CW.seq ?_
              refine CW.region ?_
              refine RG.vl rfl rfl rfl (Ev.move rfl rfl) ?_
              refine RG.vl rfl rfl rfl (Ev.assign rfl rfl) ?_
              refine RG.vl rfl rfl rfl (Ev.assign rfl rfl) ?_
              refine RG.done ?_
              refine QW.then_ ?_
              refine CW.ret ?_
              refine QW.ret2 rfl rfl rfl ?_
              have hB := (Ex.tr hR16 hxwl20)
              obtain rfl : j = 11 := by omega
              exact ⟨by rw [rfill_ok hr (by omega) hA hAB hE0], hB⟩

end Go.Proofs.YtnhkhpnkhkagaaaDoor
