/- Walks (EA). Written by program. -/
import Derived.Test.YtnhkhpnkhkagaaaDoorT
import Derived.Test.YtnhkhpnkhkagaaaDoorDZ
namespace Go.Proofs.YtnhkhpnkhkagaaaDoor
open Go.RowKit
set_option maxRecDepth 100000 in
set_option maxHeartbeats 1000000 in
theorem rright_ret (k : Nat) (wv : Value) (ws : List Int) (w : World) (hws : RdL w 1 encI wv ws) (hlen : ws.length ≤ 100000) :
    Ret Tryd.prog 23 [.int .u8 (k : Int), wv] w (fun v w' => v = .bool (rightD k ws) ∧ Ex w w') := by
  obtain ⟨wA, wC, rfl⟩ := hws.shape
  have hB0 : Ex w w := Ex.rfl_ _
  refine Ret.of Tryd.func23 rfl Tryd.ntmps23 rfl ?_
  refine CW.seq ?_
  refine CW.region ?_
  refine RG.vl rfl rfl rfl (Ev.assign rfl rfl) ?_
  refine RG.done ?_
  refine QW.then_ ?_
  refine CW.seq ?_
  refine CW.seq ?_
  refine CW.region ?_
  refine RG.vl rfl rfl rfl (Ev.move rfl rfl) ?_
  refine RG.vl rfl rfl rfl (Ev.eqI rfl rfl rfl) ?_
  refine RG.vl rfl rfl rfl (Ev.move rfl rfl) ?_
  refine RG.split (d := 8) rfl (fun hg1 => ?_) (fun hg1 => ?_)
  · refine RG.pass rfl rfl rfl ?_
    refine RG.pass rfl rfl rfl ?_
    refine RG.vl rfl rfl rfl (Ev.pickT rfl rfl rfl) ?_
    refine RG.done ?_
    refine QW.then_ ?_
    refine CW.condT rfl ?_
    refine CW.seq ?_
    refine CW.region ?_
    refine RG.vl rfl rfl rfl (Ev.move rfl rfl) ?_
    refine RG.vl rfl rfl rfl (Ev.lenL rfl rfl rfl Tryd.underlying22 (hws)) ?_
    refine RG.vl rfl rfl rfl (Ev.eqI rfl rfl rfl) ?_
    refine RG.vl rfl rfl rfl (Ev.assign rfl rfl) ?_
    refine RG.done ?_
    refine QW.then_ ?_
    refine CW.ret ?_
    refine QW.thenRet ?_
    refine QW.ret1 rfl rfl ?_
    have hB := hB0
    exact ⟨congrArg Value.bool (right_34 (by omega) ws), hB⟩
  · refine RG.vl rfl rfl rfl (Ev.move rfl rfl) ?_
    refine RG.vl rfl rfl rfl (Ev.eqI rfl rfl rfl) ?_
    refine RG.vl rfl rfl rfl (Ev.pickF rfl rfl rfl) ?_
    refine RG.done ?_
    refine QW.then_ ?_
    refine CW.condP rfl (fun hc2 => ?_) (fun hc2 => ?_)
    · refine CW.seq ?_
      refine CW.region ?_
      refine RG.vl rfl rfl rfl (Ev.move rfl rfl) ?_
      refine RG.vl rfl rfl rfl (Ev.lenL rfl rfl rfl Tryd.underlying22 (hws)) ?_
      refine RG.vl rfl rfl rfl (Ev.eqI rfl rfl rfl) ?_
      refine RG.vl rfl rfl rfl (Ev.assign rfl rfl) ?_
      refine RG.done ?_
      refine QW.then_ ?_
      refine CW.ret ?_
      refine QW.thenRet ?_
      refine QW.ret1 rfl rfl ?_
      have hB := hB0
      exact ⟨congrArg Value.bool (right_34 (by omega) ws), hB⟩
    · refine CW.skip ?_
      refine QW.then_ ?_
      refine CW.seq ?_
      refine CW.seq ?_
      refine CW.region ?_
      refine RG.vl rfl rfl rfl (Ev.move rfl rfl) ?_
      refine RG.vl rfl rfl rfl (Ev.neI rfl rfl rfl) ?_
      refine RG.vl rfl rfl rfl (Ev.move rfl rfl) ?_
      refine RG.split (d := 17) rfl (fun hg3 => ?_) (fun hg3 => ?_)
      · refine RG.vl rfl rfl rfl (Ev.move rfl rfl) ?_
        refine RG.vl rfl rfl rfl (Ev.neI rfl rfl rfl) ?_
        refine RG.vl rfl rfl rfl (Ev.pickT rfl rfl rfl) ?_
        refine RG.vl rfl rfl rfl (Ev.move rfl rfl) ?_
        refine RG.split (d := 21) rfl (fun hg4 => ?_) (fun hg4 => ?_)
        · refine RG.pass rfl rfl rfl ?_
          refine RG.pass rfl rfl rfl ?_
          refine RG.pass rfl rfl rfl ?_
          refine RG.vl rfl rfl rfl (Ev.pickT rfl rfl rfl) ?_
          refine RG.vl rfl rfl rfl (Ev.move rfl rfl) ?_
          refine RG.pass rfl rfl rfl ?_
          refine RG.pass rfl rfl rfl ?_
          refine RG.pass rfl rfl rfl ?_
          refine RG.vl rfl rfl rfl (Ev.pickT rfl rfl rfl) ?_
          refine RG.done ?_
          refine QW.sub (S' := [(0, _), (1, _), (4, _), (30, _)]) ⟨rfl, rfl, rfl, rfl, trivial⟩ ?_
          refine QW.then_ ?_
          refine CW.condT rfl ?_
          refine CW.seq ?_
          refine CW.region ?_
          refine RG.vl rfl rfl rfl (Ev.assign rfl rfl) ?_
          refine RG.done ?_
          refine QW.then_ ?_
          refine CW.ret ?_
          refine QW.thenRet ?_
          refine QW.ret1 rfl rfl ?_
          have hB := hB0
          exact ⟨congrArg Value.bool (by first | exact right_no (by omega) ws | exact right_len (by omega) (by omega)), hB⟩
        · refine RG.vl rfl rfl rfl (Ev.move rfl rfl) ?_
          refine RG.vl rfl rfl rfl (Ev.lenL rfl rfl rfl Tryd.underlying22 (hws)) ?_
          refine RG.vl rfl rfl rfl (Ev.eqI rfl rfl rfl) ?_
          refine RG.vl rfl rfl rfl (Ev.pickF rfl rfl rfl) ?_
          refine RG.vl rfl rfl rfl (Ev.move rfl rfl) ?_
          refine RG.split (d := 26) rfl (fun hg5 => ?_) (fun hg5 => ?_)
          · refine RG.pass rfl rfl rfl ?_
            refine RG.pass rfl rfl rfl ?_
            refine RG.pass rfl rfl rfl ?_
            refine RG.vl rfl rfl rfl (Ev.pickT rfl rfl rfl) ?_
            refine RG.done ?_
            refine QW.sub (S' := [(0, _), (1, _), (4, _), (30, _)]) ⟨rfl, rfl, rfl, rfl, trivial⟩ ?_
            refine QW.then_ ?_
            refine CW.condT rfl ?_
            refine CW.seq ?_
            refine CW.region ?_
            refine RG.vl rfl rfl rfl (Ev.assign rfl rfl) ?_
            refine RG.done ?_
            refine QW.then_ ?_
            refine CW.ret ?_
            refine QW.thenRet ?_
            refine QW.ret1 rfl rfl ?_
            have hB := hB0
            exact ⟨congrArg Value.bool (by first | exact right_no (by omega) ws | exact right_len (by omega) (by omega)), hB⟩
          · refine RG.vl rfl rfl rfl (Ev.move rfl rfl) ?_
            refine RG.vl rfl rfl rfl (Ev.lenL rfl rfl rfl Tryd.underlying22 (hws)) ?_
            refine RG.vl rfl rfl rfl (Ev.gtr rfl rfl rfl) ?_
            refine RG.vl rfl rfl rfl (Ev.pickF rfl rfl rfl) ?_
            refine RG.done ?_
            refine QW.sub (S' := [(0, _), (1, _), (4, _), (30, _)]) ⟨rfl, rfl, rfl, rfl, trivial⟩ ?_
            refine QW.then_ ?_
            refine CW.condP rfl (fun hc6 => ?_) (fun hc6 => ?_)
            · refine CW.seq ?_
              refine CW.region ?_
              refine RG.vl rfl rfl rfl (Ev.assign rfl rfl) ?_
              refine RG.done ?_
              refine QW.then_ ?_
              refine CW.ret ?_
              refine QW.thenRet ?_
              refine QW.ret1 rfl rfl ?_
              have hB := hB0
              exact ⟨congrArg Value.bool (by first | exact right_no (by omega) ws | exact right_len (by omega) (by omega)), hB⟩
            · refine CW.skip ?_
              refine QW.then_ ?_
              refine CW.seq ?_
              refine CW.seq ?_
              refine CW.region ?_
              refine RG.vl rfl rfl rfl (Ev.assign rfl rfl) ?_
              refine RG.done ?_
              refine QW.then_ ?_
              refine CW.block ?_
              refine CW.loop1 [(0, _), (1, _)] ⟨rfl, rfl, trivial⟩ (fun (i : Nat) => [(5, .int .i64 (i : Int))]) (fun i w' => (i ≤ ws.length ∧ (ws.take i).all (okW k) = true) ∧ Ex w w') (fun i => ws.length - i) (0) ⟨rfl, trivial⟩ ⟨⟨by omega, rfl⟩, hB0⟩ ?_
              rintro i wl7 ⟨⟨hi, hall⟩, hxwl7⟩
              refine CW.sub (S' := [(5, _), (0, _), (1, _)]) ⟨rfl, rfl, rfl, trivial⟩ ?_
              refine CW.seq ?_
              refine CW.seq ?_
              refine CW.region ?_
              refine RG.vl rfl rfl rfl (Ev.move rfl rfl) ?_
              refine RG.vl rfl rfl rfl (Ev.move rfl rfl) ?_
              refine RG.vl rfl rfl rfl (Ev.lenL rfl rfl rfl Tryd.underlying22 ((hws.ext hxwl7))) ?_
              refine RG.vl rfl rfl rfl (Ev.lss rfl rfl rfl) ?_
              refine RG.done ?_
              refine QW.then_ ?_
              refine CW.condP rfl (fun hc8 => ?_) (fun hc8 => ?_)
              · refine CW.skip ?_
                refine QW.then_ ?_
                refine CW.seq ?_
                refine CW.block ?_
                refine CW.seq ?_
                obtain ⟨x, hx⟩ : ∃ x, ws[i]? = some x := ⟨_, List.getElem?_eq_getElem (by omega)⟩
                refine CW.region ?_
                refine RG.vl rfl rfl rfl (Ev.move rfl rfl) ?_
                refine RG.vl rfl rfl rfl (Ev.move rfl rfl) ?_
                refine RG.idxL rfl rfl rfl rfl rfl rfl Tryd.underlying22 sz_3 ((hws.ext hxwl7)) (hx) (fun p9 hp9b hp9 => ?_)
                refine RG.vl rfl rfl rfl (Ev.ld0 rfl rfl Tryd.underlying3 rfl (hp9) (rfl)) ?_
                refine RG.vl rfl rfl rfl (Ev.lss rfl rfl rfl) ?_
                refine RG.vl rfl rfl rfl (Ev.move rfl rfl) ?_
                refine RG.split (d := 42) rfl (fun hg10 => ?_) (fun hg10 => ?_)
                · refine RG.pass rfl rfl rfl ?_
                  refine RG.pass rfl rfl rfl ?_
                  refine RG.pass rfl rfl rfl ?_
                  refine RG.pass rfl rfl rfl ?_
                  refine RG.pass rfl rfl rfl ?_
                  refine RG.vl rfl rfl rfl (Ev.pickT rfl rfl rfl) ?_
                  refine RG.vl rfl rfl rfl (Ev.move rfl rfl) ?_
                  refine RG.pass rfl rfl rfl ?_
                  refine RG.pass rfl rfl rfl ?_
                  refine RG.pass rfl rfl rfl ?_
                  refine RG.pass rfl rfl rfl ?_
                  refine RG.pass rfl rfl rfl ?_
                  refine RG.pass rfl rfl rfl ?_
                  refine RG.pass rfl rfl rfl ?_
                  refine RG.pass rfl rfl rfl ?_
                  refine RG.pass rfl rfl rfl ?_
                  refine RG.vl rfl rfl rfl (Ev.pickT rfl rfl rfl) ?_
                  refine RG.done ?_
                  refine QW.sub (S' := [(0, _), (1, _), (5, _), (59, _)]) ⟨rfl, rfl, rfl, rfl, trivial⟩ ?_
                  refine QW.then_ ?_
                  refine CW.condT rfl ?_
                  refine CW.seq ?_
                  refine CW.region ?_
                  refine RG.vl rfl rfl rfl (Ev.assign rfl rfl) ?_
                  refine RG.done ?_
                  refine QW.then_ ?_
                  refine CW.ret ?_
                  refine QW.blockR ?_
                  refine QW.thenRet ?_
                  refine QW.thenRet ?_
                  refine QW.blockR ?_
                  refine QW.thenRet ?_
                  refine QW.ret1 rfl rfl ?_
                  have hB := (Ex.tr hB0 hxwl7)
                  exact ⟨congrArg Value.bool (rright_bad (by omega) hx (by omega)), hB⟩
                · refine RG.vl rfl rfl rfl (Ev.move rfl rfl) ?_
                  refine RG.vl rfl rfl rfl (Ev.move rfl rfl) ?_
                  refine RG.idxL rfl rfl rfl rfl rfl rfl Tryd.underlying22 sz_3 ((hws.ext hxwl7)) (hx) (fun p11 hp11b hp11 => ?_)
                  refine RG.vl rfl rfl rfl (Ev.ld0 rfl rfl Tryd.underlying3 rfl (hp11) (rfl)) ?_
                  refine RG.vl rfl rfl rfl (Ev.gtr rfl rfl rfl) ?_
                  refine RG.vl rfl rfl rfl (Ev.pickF rfl rfl rfl) ?_
                  refine RG.vl rfl rfl rfl (Ev.move rfl rfl) ?_
                  refine RG.split (d := 49) rfl (fun hg12 => ?_) (fun hg12 => ?_)
                  · refine RG.pass rfl rfl rfl ?_
                    refine RG.pass rfl rfl rfl ?_
                    refine RG.pass rfl rfl rfl ?_
                    refine RG.pass rfl rfl rfl ?_
                    refine RG.pass rfl rfl rfl ?_
                    refine RG.pass rfl rfl rfl ?_
                    refine RG.pass rfl rfl rfl ?_
                    refine RG.pass rfl rfl rfl ?_
                    refine RG.pass rfl rfl rfl ?_
                    refine RG.vl rfl rfl rfl (Ev.pickT rfl rfl rfl) ?_
                    refine RG.done ?_
                    refine QW.sub (S' := [(0, _), (1, _), (5, _), (59, _)]) ⟨rfl, rfl, rfl, rfl, trivial⟩ ?_
                    refine QW.then_ ?_
                    refine CW.condT rfl ?_
                    refine CW.seq ?_
                    refine CW.region ?_
                    refine RG.vl rfl rfl rfl (Ev.assign rfl rfl) ?_
                    refine RG.done ?_
                    refine QW.then_ ?_
                    refine CW.ret ?_
                    refine QW.blockR ?_
                    refine QW.thenRet ?_
                    refine QW.thenRet ?_
                    refine QW.blockR ?_
                    refine QW.thenRet ?_
                    refine QW.ret1 rfl rfl ?_
                    have hB := (Ex.tr hB0 hxwl7)
                    exact ⟨congrArg Value.bool (rright_bad (by omega) hx (by omega)), hB⟩
                  · refine RG.vl rfl rfl rfl (Ev.move rfl rfl) ?_
                    refine RG.vl rfl rfl rfl (Ev.move rfl rfl) ?_
                    refine RG.idxL rfl rfl rfl rfl rfl rfl Tryd.underlying22 sz_3 ((hws.ext hxwl7)) (hx) (fun p13 hp13b hp13 => ?_)
                    refine RG.vl rfl rfl rfl (Ev.ld0 rfl rfl Tryd.underlying3 rfl (hp13) (rfl)) ?_
                    refine RG.vl rfl rfl rfl (Ev.eqI rfl rfl rfl) ?_
                    refine RG.vl rfl rfl rfl (Ev.move rfl rfl) ?_
                    refine RG.split (d := 55) rfl (fun hg14 => ?_) (fun hg14 => ?_)
                    · refine RG.vl rfl rfl rfl (Ev.move rfl rfl) ?_
                      refine RG.vl rfl rfl rfl (Ev.eqI rfl rfl rfl) ?_
                      refine RG.vl rfl rfl rfl (Ev.pickT rfl rfl rfl) ?_
                      refine RG.vl rfl rfl rfl (Ev.pickF rfl rfl rfl) ?_
                      refine RG.done ?_
                      refine QW.sub (S' := [(0, _), (1, _), (5, _), (59, _)]) ⟨rfl, rfl, rfl, rfl, trivial⟩ ?_
                      refine QW.then_ ?_
                      refine CW.condP rfl (fun hc15 => ?_) (fun hc15 => ?_)
                      · refine CW.seq ?_
                        refine CW.region ?_
                        refine RG.vl rfl rfl rfl (Ev.assign rfl rfl) ?_
                        refine RG.done ?_
                        refine QW.then_ ?_
                        refine CW.ret ?_
                        refine QW.blockR ?_
                        refine QW.thenRet ?_
                        refine QW.thenRet ?_
                        refine QW.blockR ?_
                        refine QW.thenRet ?_
                        refine QW.ret1 rfl rfl ?_
                        have hB := (Ex.tr hB0 hxwl7)
                        exact ⟨congrArg Value.bool (rright_bad (by omega) hx (by omega)), hB⟩
                      · refine CW.skip ?_
                        refine QW.blockN ?_
                        refine QW.then_ ?_
                        refine CW.region ?_
                        refine RG.vl rfl rfl rfl (Ev.move rfl rfl) ?_
                        refine RG.vl rfl rfl rfl (Ev.addI rfl rfl rfl (by omega)) ?_
                        refine RG.vl rfl rfl rfl (Ev.assign rfl rfl) ?_
                        refine RG.done ?_
                        refine QW.round1 (i + 1) ⟨rfl, trivial⟩ ⟨rfl, rfl, trivial⟩ ⟨⟨by omega, all_more hx hall (okW_of (by omega) (by omega) (by omega))⟩, (Ex.tr hB0 hxwl7)⟩ (by omega)
                    · refine RG.pass rfl rfl rfl ?_
                      refine RG.pass rfl rfl rfl ?_
                      refine RG.vl rfl rfl rfl (Ev.pickF rfl rfl rfl) ?_
                      refine RG.vl rfl rfl rfl (Ev.pickF rfl rfl rfl) ?_
                      refine RG.done ?_
                      refine QW.sub (S' := [(0, _), (1, _), (5, _), (59, _)]) ⟨rfl, rfl, rfl, rfl, trivial⟩ ?_
                      refine QW.then_ ?_
                      refine CW.condF rfl ?_
                      refine CW.skip ?_
                      refine QW.blockN ?_
                      refine QW.then_ ?_
                      refine CW.region ?_
                      refine RG.vl rfl rfl rfl (Ev.move rfl rfl) ?_
                      refine RG.vl rfl rfl rfl (Ev.addI rfl rfl rfl (by omega)) ?_
                      refine RG.vl rfl rfl rfl (Ev.assign rfl rfl) ?_
                      refine RG.done ?_
                      refine QW.round1 (i + 1) ⟨rfl, trivial⟩ ⟨rfl, rfl, trivial⟩ ⟨⟨by omega, all_more hx hall (okW_of (by omega) (by omega) (by omega))⟩, (Ex.tr hB0 hxwl7)⟩ (by omega)
              · refine CW.exit ?_
                refine QW.thenExit ?_
                refine QW.thenExit ?_
                refine QW.blockHit ?_
                refine QW.then_ ?_
                refine CW.seq ?_
                refine CW.region ?_
                refine RG.vl rfl rfl rfl (Ev.assign rfl rfl) ?_
                refine RG.done ?_
                refine QW.then_ ?_
                refine CW.ret ?_
                refine QW.ret1 rfl rfl ?_
                have hB := (Ex.tr hB0 hxwl7)
                obtain rfl : i = ws.length := by omega
                rw [List.take_length] at hall
                exact ⟨congrArg Value.bool (rright_ok (by omega) (by omega) (by omega) hall), hB⟩
      · refine RG.pass rfl rfl rfl ?_
        refine RG.pass rfl rfl rfl ?_
        refine RG.vl rfl rfl rfl (Ev.pickF rfl rfl rfl) ?_
        refine RG.vl rfl rfl rfl (Ev.move rfl rfl) ?_
        refine RG.vl rfl rfl rfl (Ev.move rfl rfl) ?_
        refine RG.vl rfl rfl rfl (Ev.lenL rfl rfl rfl Tryd.underlying22 (hws)) ?_
        refine RG.vl rfl rfl rfl (Ev.eqI rfl rfl rfl) ?_
        refine RG.vl rfl rfl rfl (Ev.pickF rfl rfl rfl) ?_
        refine RG.vl rfl rfl rfl (Ev.move rfl rfl) ?_
        refine RG.split (d := 26) rfl (fun hg16 => ?_) (fun hg16 => ?_)
        · refine RG.pass rfl rfl rfl ?_
          refine RG.pass rfl rfl rfl ?_
          refine RG.pass rfl rfl rfl ?_
          refine RG.vl rfl rfl rfl (Ev.pickT rfl rfl rfl) ?_
          refine RG.done ?_
          refine QW.sub (S' := [(0, _), (1, _), (4, _), (30, _)]) ⟨rfl, rfl, rfl, rfl, trivial⟩ ?_
          refine QW.then_ ?_
          refine CW.condT rfl ?_
          refine CW.seq ?_
          refine CW.region ?_
          refine RG.vl rfl rfl rfl (Ev.assign rfl rfl) ?_
          refine RG.done ?_
          refine QW.then_ ?_
          refine CW.ret ?_
          refine QW.thenRet ?_
          refine QW.ret1 rfl rfl ?_
          have hB := hB0
          exact ⟨congrArg Value.bool (by first | exact right_no (by omega) ws | exact right_len (by omega) (by omega)), hB⟩
        · refine RG.vl rfl rfl rfl (Ev.move rfl rfl) ?_
          refine RG.vl rfl rfl rfl (Ev.lenL rfl rfl rfl Tryd.underlying22 (hws)) ?_
          refine RG.vl rfl rfl rfl (Ev.gtr rfl rfl rfl) ?_
          refine RG.vl rfl rfl rfl (Ev.pickF rfl rfl rfl) ?_
          refine RG.done ?_
          refine QW.sub (S' := [(0, _), (1, _), (4, _), (30, _)]) ⟨rfl, rfl, rfl, rfl, trivial⟩ ?_
          refine QW.then_ ?_
          refine CW.condP rfl (fun hc17 => ?_) (fun hc17 => ?_)
          · refine CW.seq ?_
            refine CW.region ?_
            refine RG.vl rfl rfl rfl (Ev.assign rfl rfl) ?_
            refine RG.done ?_
            refine QW.then_ ?_
            refine CW.ret ?_
            refine QW.thenRet ?_
            refine QW.ret1 rfl rfl ?_
            have hB := hB0
            exact ⟨congrArg Value.bool (by first | exact right_no (by omega) ws | exact right_len (by omega) (by omega)), hB⟩
          · refine CW.skip ?_
            refine QW.then_ ?_
            refine CW.seq ?_
            refine CW.seq ?_
            refine CW.region ?_
            refine RG.vl rfl rfl rfl (Ev.assign rfl rfl) ?_
            refine RG.done ?_
            refine QW.then_ ?_
            refine CW.block ?_
            refine CW.loop1 [(0, _), (1, _)] ⟨rfl, rfl, trivial⟩ (fun (i : Nat) => [(5, .int .i64 (i : Int))]) (fun i w' => (i ≤ ws.length ∧ (ws.take i).all (okW k) = true) ∧ Ex w w') (fun i => ws.length - i) (0) ⟨rfl, trivial⟩ ⟨⟨by omega, rfl⟩, hB0⟩ ?_
            rintro i wl18 ⟨⟨hi, hall⟩, hxwl18⟩
            refine CW.sub (S' := [(5, _), (0, _), (1, _)]) ⟨rfl, rfl, rfl, trivial⟩ ?_
            refine CW.seq ?_
            refine CW.seq ?_
            refine CW.region ?_
            refine RG.vl rfl rfl rfl (Ev.move rfl rfl) ?_
            refine RG.vl rfl rfl rfl (Ev.move rfl rfl) ?_
            refine RG.vl rfl rfl rfl (Ev.lenL rfl rfl rfl Tryd.underlying22 ((hws.ext hxwl18))) ?_
            refine RG.vl rfl rfl rfl (Ev.lss rfl rfl rfl) ?_
            refine RG.done ?_
            refine QW.then_ ?_
            refine CW.condP rfl (fun hc19 => ?_) (fun hc19 => ?_)
            · refine CW.skip ?_
              refine QW.then_ ?_
              refine CW.seq ?_
              refine CW.block ?_
              refine CW.seq ?_
              obtain ⟨x, hx⟩ : ∃ x, ws[i]? = some x := ⟨_, List.getElem?_eq_getElem (by omega)⟩
              refine CW.region ?_
              refine RG.vl rfl rfl rfl (Ev.move rfl rfl) ?_
              refine RG.vl rfl rfl rfl (Ev.move rfl rfl) ?_
              refine RG.idxL rfl rfl rfl rfl rfl rfl Tryd.underlying22 sz_3 ((hws.ext hxwl18)) (hx) (fun p20 hp20b hp20 => ?_)
              refine RG.vl rfl rfl rfl (Ev.ld0 rfl rfl Tryd.underlying3 rfl (hp20) (rfl)) ?_
              refine RG.vl rfl rfl rfl (Ev.lss rfl rfl rfl) ?_
              refine RG.vl rfl rfl rfl (Ev.move rfl rfl) ?_
              refine RG.split (d := 42) rfl (fun hg21 => ?_) (fun hg21 => ?_)
              · refine RG.pass rfl rfl rfl ?_
                refine RG.pass rfl rfl rfl ?_
                refine RG.pass rfl rfl rfl ?_
                refine RG.pass rfl rfl rfl ?_
                refine RG.pass rfl rfl rfl ?_
                refine RG.vl rfl rfl rfl (Ev.pickT rfl rfl rfl) ?_
                refine RG.vl rfl rfl rfl (Ev.move rfl rfl) ?_
                refine RG.pass rfl rfl rfl ?_
                refine RG.pass rfl rfl rfl ?_
                refine RG.pass rfl rfl rfl ?_
                refine RG.pass rfl rfl rfl ?_
                refine RG.pass rfl rfl rfl ?_
                refine RG.pass rfl rfl rfl ?_
                refine RG.pass rfl rfl rfl ?_
                refine RG.pass rfl rfl rfl ?_
                refine RG.pass rfl rfl rfl ?_
                refine RG.vl rfl rfl rfl (Ev.pickT rfl rfl rfl) ?_
                refine RG.done ?_
                refine QW.sub (S' := [(0, _), (1, _), (5, _), (59, _)]) ⟨rfl, rfl, rfl, rfl, trivial⟩ ?_
                refine QW.then_ ?_
                refine CW.condT rfl ?_
                refine CW.seq ?_
                refine CW.region ?_
                refine RG.vl rfl rfl rfl (Ev.assign rfl rfl) ?_
                refine RG.done ?_
                refine QW.then_ ?_
                refine CW.ret ?_
                refine QW.blockR ?_
                refine QW.thenRet ?_
                refine QW.thenRet ?_
                refine QW.blockR ?_
                refine QW.thenRet ?_
                refine QW.ret1 rfl rfl ?_
                have hB := (Ex.tr hB0 hxwl18)
                exact ⟨congrArg Value.bool (rright_bad (by omega) hx (by omega)), hB⟩
              · refine RG.vl rfl rfl rfl (Ev.move rfl rfl) ?_
                refine RG.vl rfl rfl rfl (Ev.move rfl rfl) ?_
                refine RG.idxL rfl rfl rfl rfl rfl rfl Tryd.underlying22 sz_3 ((hws.ext hxwl18)) (hx) (fun p22 hp22b hp22 => ?_)
                refine RG.vl rfl rfl rfl (Ev.ld0 rfl rfl Tryd.underlying3 rfl (hp22) (rfl)) ?_
                refine RG.vl rfl rfl rfl (Ev.gtr rfl rfl rfl) ?_
                refine RG.vl rfl rfl rfl (Ev.pickF rfl rfl rfl) ?_
                refine RG.vl rfl rfl rfl (Ev.move rfl rfl) ?_
                refine RG.split (d := 49) rfl (fun hg23 => ?_) (fun hg23 => ?_)
                · refine RG.pass rfl rfl rfl ?_
                  refine RG.pass rfl rfl rfl ?_
                  refine RG.pass rfl rfl rfl ?_
                  refine RG.pass rfl rfl rfl ?_
                  refine RG.pass rfl rfl rfl ?_
                  refine RG.pass rfl rfl rfl ?_
                  refine RG.pass rfl rfl rfl ?_
                  refine RG.pass rfl rfl rfl ?_
                  refine RG.pass rfl rfl rfl ?_
                  refine RG.vl rfl rfl rfl (Ev.pickT rfl rfl rfl) ?_
                  refine RG.done ?_
                  refine QW.sub (S' := [(0, _), (1, _), (5, _), (59, _)]) ⟨rfl, rfl, rfl, rfl, trivial⟩ ?_
                  refine QW.then_ ?_
                  refine CW.condT rfl ?_
                  refine CW.seq ?_
                  refine CW.region ?_
                  refine RG.vl rfl rfl rfl (Ev.assign rfl rfl) ?_
                  refine RG.done ?_
                  refine QW.then_ ?_
                  refine CW.ret ?_
                  refine QW.blockR ?_
                  refine QW.thenRet ?_
                  refine QW.thenRet ?_
                  refine QW.blockR ?_
                  refine QW.thenRet ?_
                  refine QW.ret1 rfl rfl ?_
                  have hB := (Ex.tr hB0 hxwl18)
                  exact ⟨congrArg Value.bool (rright_bad (by omega) hx (by omega)), hB⟩
                · refine RG.vl rfl rfl rfl (Ev.move rfl rfl) ?_
                  refine RG.vl rfl rfl rfl (Ev.move rfl rfl) ?_
                  refine RG.idxL rfl rfl rfl rfl rfl rfl Tryd.underlying22 sz_3 ((hws.ext hxwl18)) (hx) (fun p24 hp24b hp24 => ?_)
                  refine RG.vl rfl rfl rfl (Ev.ld0 rfl rfl Tryd.underlying3 rfl (hp24) (rfl)) ?_
                  refine RG.vl rfl rfl rfl (Ev.eqI rfl rfl rfl) ?_
                  refine RG.vl rfl rfl rfl (Ev.move rfl rfl) ?_
                  refine RG.split (d := 55) rfl (fun hg25 => ?_) (fun hg25 => ?_)
                  · refine RG.vl rfl rfl rfl (Ev.move rfl rfl) ?_
                    refine RG.vl rfl rfl rfl (Ev.eqI rfl rfl rfl) ?_
                    refine RG.vl rfl rfl rfl (Ev.pickT rfl rfl rfl) ?_
                    refine RG.vl rfl rfl rfl (Ev.pickF rfl rfl rfl) ?_
                    refine RG.done ?_
                    refine QW.sub (S' := [(0, _), (1, _), (5, _), (59, _)]) ⟨rfl, rfl, rfl, rfl, trivial⟩ ?_
                    refine QW.then_ ?_
                    refine CW.condP rfl (fun hc26 => ?_) (fun hc26 => ?_)
                    · refine CW.seq ?_
                      refine CW.region ?_
                      refine RG.vl rfl rfl rfl (Ev.assign rfl rfl) ?_
                      refine RG.done ?_
                      refine QW.then_ ?_
                      refine CW.ret ?_
                      refine QW.blockR ?_
                      refine QW.thenRet ?_
                      refine QW.thenRet ?_
                      refine QW.blockR ?_
                      refine QW.thenRet ?_
                      refine QW.ret1 rfl rfl ?_
                      have hB := (Ex.tr hB0 hxwl18)
                      exact ⟨congrArg Value.bool (rright_bad (by omega) hx (by omega)), hB⟩
                    · refine CW.skip ?_
                      refine QW.blockN ?_
                      refine QW.then_ ?_
                      refine CW.region ?_
                      refine RG.vl rfl rfl rfl (Ev.move rfl rfl) ?_
                      refine RG.vl rfl rfl rfl (Ev.addI rfl rfl rfl (by omega)) ?_
                      refine RG.vl rfl rfl rfl (Ev.assign rfl rfl) ?_
                      refine RG.done ?_
                      refine QW.round1 (i + 1) ⟨rfl, trivial⟩ ⟨rfl, rfl, trivial⟩ ⟨⟨by omega, all_more hx hall (okW_of (by omega) (by omega) (by omega))⟩, (Ex.tr hB0 hxwl18)⟩ (by omega)
                  · refine RG.pass rfl rfl rfl ?_
                    refine RG.pass rfl rfl rfl ?_
                    refine RG.vl rfl rfl rfl (Ev.pickF rfl rfl rfl) ?_
                    refine RG.vl rfl rfl rfl (Ev.pickF rfl rfl rfl) ?_
                    refine RG.done ?_
                    refine QW.sub (S' := [(0, _), (1, _), (5, _), (59, _)]) ⟨rfl, rfl, rfl, rfl, trivial⟩ ?_
                    refine QW.then_ ?_
                    refine CW.condF rfl ?_
                    refine CW.skip ?_
                    refine QW.blockN ?_
                    refine QW.then_ ?_
                    refine CW.region ?_
                    refine RG.vl rfl rfl rfl (Ev.move rfl rfl) ?_
                    refine RG.vl rfl rfl rfl (Ev.addI rfl rfl rfl (by omega)) ?_
                    refine RG.vl rfl rfl rfl (Ev.assign rfl rfl) ?_
                    refine RG.done ?_
                    refine QW.round1 (i + 1) ⟨rfl, trivial⟩ ⟨rfl, rfl, trivial⟩ ⟨⟨by omega, all_more hx hall (okW_of (by omega) (by omega) (by omega))⟩, (Ex.tr hB0 hxwl18)⟩ (by omega)
            · refine CW.exit ?_
              refine QW.thenExit ?_
              refine QW.thenExit ?_
              refine QW.blockHit ?_
              refine QW.then_ ?_
              refine CW.seq ?_
              refine CW.region ?_
              refine RG.vl rfl rfl rfl (Ev.assign rfl rfl) ?_
              refine RG.done ?_
              refine QW.then_ ?_
              refine CW.ret ?_
              refine QW.ret1 rfl rfl ?_
              have hB := (Ex.tr hB0 hxwl18)
              obtain rfl : i = ws.length := by omega
              rw [List.take_length] at hall
              exact ⟨congrArg Value.bool (rright_ok (by omega) (by omega) (by omega) hall), hB⟩

set_option maxRecDepth 100000 in
set_option maxHeartbeats 1000000 in
theorem rsumw_ret (k : Nat) (wv vv : Value) (ws : List Int) (vs : List Nat) (w : World) (hws : RdL w 1 encI wv ws) (hv : RdL w 1 encZ vv vs) (hk : k ≠ 3) (h1 : 1 ≤ ws.length) (hb : ∀ x ∈ ws, 1 ≤ x ∧ x ≤ 10) (hlen : vs.length ≤ 100) (hvs : ∀ x ∈ vs, x ≤ 10) :
    Ret Tryd.prog 66 [.int .u8 (k : Int), wv, vv] w (fun v w' => v = .int .i64 (sumD ws 0 vs) ∧ 0 ≤ sumD ws 0 vs ∧ Ex w w') := by
  obtain ⟨wA, wC, rfl⟩ := hws.shape
  obtain ⟨vA, vC, rfl⟩ := hv.shape
  have hB0 : Ex w w := Ex.rfl_ _
  refine Ret.of Tryd.func66 rfl Tryd.ntmps66 rfl ?_
  refine CW.seq ?_
  refine CW.region ?_
  refine RG.vl rfl rfl rfl (Ev.assign rfl rfl) ?_
  refine RG.done ?_
  refine QW.then_ ?_
  refine CW.seq ?_
  refine CW.region ?_
  refine RG.vl rfl rfl rfl (Ev.assign rfl rfl) ?_
  refine RG.done ?_
  refine QW.then_ ?_
  refine CW.seq ?_
  refine CW.seq ?_
  refine CW.region ?_
  refine RG.vl rfl rfl rfl (Ev.assign rfl rfl) ?_
  refine RG.done ?_
  refine QW.then_ ?_
  refine CW.block ?_
  refine CW.loop2 [(0, _), (1, _), (2, _), (6, _)] ⟨rfl, rfl, rfl, rfl, trivial⟩ (fun (i : Nat) (tot : Int) => [(8, .int .i64 (i : Int)), (7, .int .i64 tot)]) (fun i tot w' => (i ≤ vs.length ∧ tot + sumD ws i (vs.drop i) = sumD ws 0 vs ∧ 0 ≤ tot ∧ tot ≤ 100 * i) ∧ Ex w w') (fun i tot => vs.length - i) (0) (0) ⟨rfl, rfl, trivial⟩ ⟨⟨Nat.zero_le _, by rw [Int.zero_add]; rfl, by omega, by omega⟩, hB0⟩ ?_
  rintro i tot wl1 ⟨⟨hi, hs, ht0, ht1⟩, hxwl1⟩
  refine CW.sub (S' := [(8, _), (7, _), (0, _), (1, _), (2, _), (6, _)]) ⟨rfl, rfl, rfl, rfl, rfl, rfl, trivial⟩ ?_
  refine CW.seq ?_
  refine CW.seq ?_
  refine CW.region ?_
  refine RG.vl rfl rfl rfl (Ev.move rfl rfl) ?_
  refine RG.vl rfl rfl rfl (Ev.move rfl rfl) ?_
  refine RG.vl rfl rfl rfl (Ev.lenL rfl rfl rfl Tryd.underlying22 ((hv.ext hxwl1))) ?_
  refine RG.vl rfl rfl rfl (Ev.lss rfl rfl rfl) ?_
  refine RG.done ?_
  refine QW.then_ ?_
  refine CW.condP rfl (fun hc2 => ?_) (fun hc2 => ?_)
  · refine CW.skip ?_
    refine QW.then_ ?_
    refine CW.seq ?_
    refine CW.block ?_
    refine CW.seq ?_
    obtain ⟨x, hx⟩ : ∃ x, vs[i]? = some x := ⟨_, List.getElem?_eq_getElem (by omega)⟩
    have hx10 := hvs x (List.mem_of_getElem? hx)
    refine CW.region ?_
    refine RG.vl rfl rfl rfl (Ev.move rfl rfl) ?_
    refine RG.vl rfl rfl rfl (Ev.move rfl rfl) ?_
    refine RG.idxL rfl rfl rfl rfl rfl rfl Tryd.underlying22 sz_3 ((hv.ext hxwl1)) (hx) (fun p3 hp3b hp3 => ?_)
    refine RG.vl rfl rfl rfl (Ev.ld0 rfl rfl Tryd.underlying3 rfl (hp3) (rfl)) ?_
    refine RG.vl rfl rfl rfl (Ev.assign rfl rfl) ?_
    refine RG.done ?_
    refine QW.then_ ?_
    refine CW.seq ?_
    refine CW.seq ?_
    refine CW.region ?_
    refine RG.vl rfl rfl rfl (Ev.move rfl rfl) ?_
    refine RG.vl rfl rfl rfl (Ev.isF (Ev.eqI rfl rfl rfl) (by omega)) ?_
    refine RG.vl rfl rfl rfl (Ev.move rfl rfl) ?_
    refine RG.pass rfl rfl rfl ?_
    refine RG.pass rfl rfl rfl ?_
    refine RG.pass rfl rfl rfl ?_
    refine RG.vl rfl rfl rfl (Ev.pickF rfl rfl rfl) ?_
    refine RG.done ?_
    refine QW.sub (S' := [(0, _), (1, _), (2, _), (6, _), (7, _), (8, _), (9, _), (26, _)]) ⟨rfl, rfl, rfl, rfl, rfl, rfl, rfl, rfl, trivial⟩ ?_
    refine QW.then_ ?_
    refine CW.condF rfl ?_
    refine CW.skip ?_
    refine QW.then_ ?_
    refine CW.seq ?_
    refine CW.seq ?_
    refine CW.region ?_
    refine RG.vl rfl rfl rfl (Ev.move rfl rfl) ?_
    refine RG.vl rfl rfl rfl (Ev.isT (Ev.neI rfl rfl rfl) (by omega)) ?_
    refine RG.vl rfl rfl rfl (Ev.move rfl rfl) ?_
    refine RG.vl rfl rfl rfl (Ev.move rfl rfl) ?_
    refine RG.vl rfl rfl rfl (Ev.gtr rfl rfl rfl) ?_
    refine RG.vl rfl rfl rfl (Ev.pickT rfl rfl rfl) ?_
    refine RG.done ?_
    refine QW.then_ ?_
    refine CW.condP rfl (fun hc4 => ?_) (fun hc4 => ?_)
    · have hm := mul_b hx10 (wt_b1 hb h1 i)
      refine CW.region ?_
      refine RG.vl rfl rfl rfl (Ev.move rfl rfl) ?_
      refine RG.vl rfl rfl rfl (Ev.move rfl rfl) ?_
      refine RG.vl rfl rfl rfl (Ev.move rfl rfl) ?_
      refine RG.vl rfl rfl rfl (Ev.subI rfl rfl rfl (by omega)) ?_
      refine RG.vl rfl rfl rfl (Ev.move rfl rfl) ?_
      refine RG.vl rfl rfl rfl (Ev.lenL rfl rfl rfl Tryd.underlying22 ((hws.ext hxwl1))) ?_
      refine RG.vl rfl rfl rfl ((Ev.remI rfl rfl rfl (by omega)).conv (congrArg (Value.int .i64) (show ((i : Int) - 1) % (ws.length : Int) = (((i - 1) % ws.length : Nat) : Int) by rw [Int.natCast_emod, show ((i - 1 : Nat) : Int) = (i : Int) - 1 by omega]))) ?_
      refine RG.idxL rfl rfl rfl rfl rfl rfl Tryd.underlying22 sz_3 ((hws.ext hxwl1)) (wt_at h1 (by omega)) (fun p5 hp5b hp5 => ?_)
      refine RG.vl rfl rfl rfl (Ev.ld0 rfl rfl Tryd.underlying3 rfl (hp5) (rfl)) ?_
      refine RG.vl rfl rfl rfl (Ev.mulI rfl rfl rfl (by omega)) ?_
      refine RG.vl rfl rfl rfl (Ev.assign rfl rfl) ?_
      refine RG.done ?_
      refine QW.sub (S' := [(0, _), (1, _), (2, _), (6, _), (7, _), (8, _), (9, _)]) ⟨rfl, rfl, rfl, rfl, rfl, rfl, rfl, trivial⟩ ?_
      refine QW.then_ ?_
      refine CW.region ?_
      refine RG.vl rfl rfl rfl (Ev.move rfl rfl) ?_
      refine RG.vl rfl rfl rfl (Ev.move rfl rfl) ?_
      refine RG.vl rfl rfl rfl (Ev.addI rfl rfl rfl (by omega)) ?_
      refine RG.vl rfl rfl rfl (Ev.assign rfl rfl) ?_
      refine RG.done ?_
      refine QW.blockN ?_
      refine QW.then_ ?_
      refine CW.region ?_
      refine RG.vl rfl rfl rfl (Ev.move rfl rfl) ?_
      refine RG.vl rfl rfl rfl (Ev.addI rfl rfl rfl (by omega)) ?_
      refine RG.vl rfl rfl rfl (Ev.assign rfl rfl) ?_
      refine RG.done ?_
      refine QW.round2 (i + 1) (tot + x * wt ws i) ⟨rfl, rfl, trivial⟩ ⟨rfl, rfl, rfl, rfl, trivial⟩ ⟨⟨by omega, by rw [sum_step hx] at hs; omega, by omega, by omega⟩, (Ex.tr hB0 hxwl1)⟩ (by omega)
    · refine CW.skip ?_
      refine QW.then_ ?_
      refine CW.region ?_
      refine RG.vl rfl rfl rfl (Ev.move rfl rfl) ?_
      refine RG.vl rfl rfl rfl (Ev.move rfl rfl) ?_
      refine RG.vl rfl rfl rfl (Ev.addI rfl rfl rfl (by omega)) ?_
      refine RG.vl rfl rfl rfl (Ev.assign rfl rfl) ?_
      refine RG.done ?_
      refine QW.blockN ?_
      refine QW.then_ ?_
      refine CW.region ?_
      refine RG.vl rfl rfl rfl (Ev.move rfl rfl) ?_
      refine RG.vl rfl rfl rfl (Ev.addI rfl rfl rfl (by omega)) ?_
      refine RG.vl rfl rfl rfl (Ev.assign rfl rfl) ?_
      refine RG.done ?_
      refine QW.round2 (i + 1) (tot + x) ⟨rfl, rfl, trivial⟩ ⟨rfl, rfl, rfl, rfl, trivial⟩ ⟨⟨by omega, by rw [sum_step hx, show wt ws i = 1 from (by rw [show i = 0 by omega]; rfl), Int.mul_one] at hs; omega, by omega, by omega⟩, (Ex.tr hB0 hxwl1)⟩ (by omega)
  · refine CW.exit ?_
    refine QW.thenExit ?_
    refine QW.thenExit ?_
    refine QW.blockHit ?_
    refine QW.then_ ?_
    refine CW.seq ?_
    refine CW.region ?_
    refine RG.vl rfl rfl rfl (Ev.move rfl rfl) ?_
    refine RG.vl rfl rfl rfl (Ev.assign rfl rfl) ?_
    refine RG.done ?_
    refine QW.then_ ?_
    refine CW.ret ?_
    refine QW.ret1 rfl rfl ?_
    have hB := (Ex.tr hB0 hxwl1)
    obtain rfl : i = vs.length := by omega
    rw [List.drop_length] at hs
    have e : tot = sumD ws 0 vs := by rw [← hs]; simp [sumD]
    exact ⟨by rw [e], by omega, hB⟩

set_option maxRecDepth 100000 in
set_option maxHeartbeats 1000000 in
theorem rsuml_ret (k : Nat) (wv vv : Value) (vs : List Nat) (w : World) (hv : RdL w 1 encZ vv vs) (hk : k = 3) (hlen : vs.length ≤ 100) (hvs : ∀ x ∈ vs, x ≤ 9) :
    Ret Tryd.prog 66 [.int .u8 (k : Int), wv, vv] w (fun v w' => v = .int .i64 (luhnD 0 vs : Nat) ∧ Ex w w') := by
  obtain ⟨vA, vC, rfl⟩ := hv.shape
  have hB0 : Ex w w := Ex.rfl_ _
  refine Ret.of Tryd.func66 rfl Tryd.ntmps66 rfl ?_
  refine CW.seq ?_
  refine CW.region ?_
  refine RG.vl rfl rfl rfl (Ev.assign rfl rfl) ?_
  refine RG.done ?_
  refine QW.then_ ?_
  refine CW.seq ?_
  refine CW.region ?_
  refine RG.vl rfl rfl rfl (Ev.assign rfl rfl) ?_
  refine RG.done ?_
  refine QW.then_ ?_
  refine CW.seq ?_
  refine CW.seq ?_
  refine CW.region ?_
  refine RG.vl rfl rfl rfl (Ev.assign rfl rfl) ?_
  refine RG.done ?_
  refine QW.then_ ?_
  refine CW.block ?_
  refine CW.loop2 [(0, _), (1, _), (2, _), (6, _)] ⟨rfl, rfl, rfl, rfl, trivial⟩ (fun (i : Nat) (tot : Nat) => [(8, .int .i64 (i : Int)), (7, .int .i64 (tot : Int))]) (fun i tot w' => (i ≤ vs.length ∧ tot + luhnD i (vs.drop i) = luhnD 0 vs ∧ tot ≤ 100 * i) ∧ Ex w w') (fun i tot => vs.length - i) (0) (0) ⟨rfl, rfl, trivial⟩ ⟨⟨Nat.zero_le _, by rw [Nat.zero_add]; rfl, by omega⟩, hB0⟩ ?_
  rintro i tot wl1 ⟨⟨hi, hs, ht1⟩, hxwl1⟩
  refine CW.sub (S' := [(8, _), (7, _), (0, _), (1, _), (2, _), (6, _)]) ⟨rfl, rfl, rfl, rfl, rfl, rfl, trivial⟩ ?_
  refine CW.seq ?_
  refine CW.seq ?_
  refine CW.region ?_
  refine RG.vl rfl rfl rfl (Ev.move rfl rfl) ?_
  refine RG.vl rfl rfl rfl (Ev.move rfl rfl) ?_
  refine RG.vl rfl rfl rfl (Ev.lenL rfl rfl rfl Tryd.underlying22 ((hv.ext hxwl1))) ?_
  refine RG.vl rfl rfl rfl (Ev.lss rfl rfl rfl) ?_
  refine RG.done ?_
  refine QW.then_ ?_
  refine CW.condP rfl (fun hc2 => ?_) (fun hc2 => ?_)
  · refine CW.skip ?_
    refine QW.then_ ?_
    refine CW.seq ?_
    refine CW.block ?_
    refine CW.seq ?_
    obtain ⟨x, hx⟩ : ∃ x, vs[i]? = some x := ⟨_, List.getElem?_eq_getElem (by omega)⟩
    have hx10 := hvs x (List.mem_of_getElem? hx)
    refine CW.region ?_
    refine RG.vl rfl rfl rfl (Ev.move rfl rfl) ?_
    refine RG.vl rfl rfl rfl (Ev.move rfl rfl) ?_
    refine RG.idxL rfl rfl rfl rfl rfl rfl Tryd.underlying22 sz_3 ((hv.ext hxwl1)) (hx) (fun p3 hp3b hp3 => ?_)
    refine RG.vl rfl rfl rfl (Ev.ld0 rfl rfl Tryd.underlying3 rfl (hp3) (rfl)) ?_
    refine RG.vl rfl rfl rfl (Ev.assign rfl rfl) ?_
    refine RG.done ?_
    refine QW.then_ ?_
    refine CW.seq ?_
    refine CW.seq ?_
    refine CW.region ?_
    refine RG.vl rfl rfl rfl (Ev.move rfl rfl) ?_
    refine RG.vl rfl rfl rfl (Ev.isT (Ev.eqI rfl rfl rfl) (by omega)) ?_
    refine RG.vl rfl rfl rfl (Ev.move rfl rfl) ?_
    refine RG.vl rfl rfl rfl (Ev.move rfl rfl) ?_
    refine RG.vl rfl rfl rfl (Ev.remI rfl rfl rfl (by omega)) ?_
    refine RG.vl rfl rfl rfl (Ev.eqI rfl rfl rfl) ?_
    refine RG.vl rfl rfl rfl (Ev.pickT rfl rfl rfl) ?_
    refine RG.done ?_
    refine QW.sub (S' := [(0, _), (1, _), (2, _), (6, _), (7, _), (8, _), (9, _), (26, _)]) ⟨rfl, rfl, rfl, rfl, rfl, rfl, rfl, rfl, trivial⟩ ?_
    refine QW.then_ ?_
    refine CW.condP rfl (fun hc4 => ?_) (fun hc4 => ?_)
    · refine CW.seq ?_
      have hlu := lu_odd (p := i) (show i % 2 = 1 by omega) hx10
      refine CW.region ?_
      refine RG.vl rfl rfl rfl (Ev.move rfl rfl) ?_
      refine RG.vl rfl rfl rfl (Ev.move rfl rfl) ?_
      refine RG.vl rfl rfl rfl (Ev.addI rfl rfl rfl (by omega)) ?_
      refine RG.vl rfl rfl rfl (Ev.assign rfl rfl) ?_
      refine RG.done ?_
      refine QW.then_ ?_
      refine CW.seq ?_
      refine CW.region ?_
      refine RG.vl rfl rfl rfl (Ev.move rfl rfl) ?_
      refine RG.vl rfl rfl rfl (Ev.gtr rfl rfl rfl) ?_
      refine RG.done ?_
      refine QW.then_ ?_
      refine CW.condP rfl (fun hc5 => ?_) (fun hc5 => ?_)
      · refine CW.region ?_
        refine RG.vl rfl rfl rfl (Ev.move rfl rfl) ?_
        refine RG.vl rfl rfl rfl (Ev.subI rfl rfl rfl (by omega)) ?_
        refine RG.vl rfl rfl rfl (Ev.assign rfl rfl) ?_
        refine RG.done ?_
        refine QW.then_ ?_
        refine CW.seq ?_
        refine CW.seq ?_
        refine CW.region ?_
        refine RG.vl rfl rfl rfl (Ev.move rfl rfl) ?_
        refine RG.vl rfl rfl rfl (Ev.isF (Ev.neI rfl rfl rfl) (by omega)) ?_
        refine RG.vl rfl rfl rfl (Ev.move rfl rfl) ?_
        refine RG.pass rfl rfl rfl ?_
        refine RG.pass rfl rfl rfl ?_
        refine RG.vl rfl rfl rfl (Ev.pickF rfl rfl rfl) ?_
        refine RG.done ?_
        refine QW.sub (S' := [(0, _), (1, _), (2, _), (6, _), (7, _), (8, _), (9, _), (39, _)]) ⟨rfl, rfl, rfl, rfl, rfl, rfl, rfl, rfl, trivial⟩ ?_
        refine QW.then_ ?_
        refine CW.condF rfl ?_
        refine CW.skip ?_
        refine QW.then_ ?_
        rw [if_pos (by omega)] at hlu
        refine CW.region ?_
        refine RG.vl rfl rfl rfl (Ev.move rfl rfl) ?_
        refine RG.vl rfl rfl rfl (Ev.move rfl rfl) ?_
        refine RG.vl rfl rfl rfl ((Ev.addI rfl rfl rfl (by omega)).conv (congrArg (Value.int .i64) (show (tot : Int) + ((x : Int) + x - 9) = ((tot + lu i x : Nat) : Int) by omega))) ?_
        refine RG.vl rfl rfl rfl (Ev.assign rfl rfl) ?_
        refine RG.done ?_
        refine QW.blockN ?_
        refine QW.then_ ?_
        refine CW.region ?_
        refine RG.vl rfl rfl rfl (Ev.move rfl rfl) ?_
        refine RG.vl rfl rfl rfl (Ev.addI rfl rfl rfl (by omega)) ?_
        refine RG.vl rfl rfl rfl (Ev.assign rfl rfl) ?_
        refine RG.done ?_
        refine QW.round2 (i + 1) (tot + lu i x) ⟨rfl, rfl, trivial⟩ ⟨rfl, rfl, rfl, rfl, trivial⟩ ⟨⟨by omega, by rw [luhn_step hx] at hs; omega, by omega⟩, (Ex.tr hB0 hxwl1)⟩ (by omega)
      · refine CW.skip ?_
        refine QW.then_ ?_
        refine CW.seq ?_
        refine CW.seq ?_
        refine CW.region ?_
        refine RG.vl rfl rfl rfl (Ev.move rfl rfl) ?_
        refine RG.vl rfl rfl rfl (Ev.isF (Ev.neI rfl rfl rfl) (by omega)) ?_
        refine RG.vl rfl rfl rfl (Ev.move rfl rfl) ?_
        refine RG.pass rfl rfl rfl ?_
        refine RG.pass rfl rfl rfl ?_
        refine RG.vl rfl rfl rfl (Ev.pickF rfl rfl rfl) ?_
        refine RG.done ?_
        refine QW.then_ ?_
        refine CW.condF rfl ?_
        refine CW.skip ?_
        refine QW.then_ ?_
        rw [if_neg (by omega)] at hlu
        refine CW.region ?_
        refine RG.vl rfl rfl rfl (Ev.move rfl rfl) ?_
        refine RG.vl rfl rfl rfl (Ev.move rfl rfl) ?_
        refine RG.vl rfl rfl rfl ((Ev.addI rfl rfl rfl (by omega)).conv (congrArg (Value.int .i64) (show (tot : Int) + ((x : Int) + x) = ((tot + lu i x : Nat) : Int) by omega))) ?_
        refine RG.vl rfl rfl rfl (Ev.assign rfl rfl) ?_
        refine RG.done ?_
        refine QW.sub (S' := [(0, _), (1, _), (2, _), (6, _), (7, _), (8, _)]) ⟨rfl, rfl, rfl, rfl, rfl, rfl, trivial⟩ ?_
        refine QW.blockN ?_
        refine QW.then_ ?_
        refine CW.region ?_
        refine RG.vl rfl rfl rfl (Ev.move rfl rfl) ?_
        refine RG.vl rfl rfl rfl (Ev.addI rfl rfl rfl (by omega)) ?_
        refine RG.vl rfl rfl rfl (Ev.assign rfl rfl) ?_
        refine RG.done ?_
        refine QW.round2 (i + 1) (tot + lu i x) ⟨rfl, rfl, trivial⟩ ⟨rfl, rfl, rfl, rfl, trivial⟩ ⟨⟨by omega, by rw [luhn_step hx] at hs; omega, by omega⟩, (Ex.tr hB0 hxwl1)⟩ (by omega)
    · refine CW.skip ?_
      refine QW.then_ ?_
      refine CW.seq ?_
      refine CW.seq ?_
      refine CW.region ?_
      refine RG.vl rfl rfl rfl (Ev.move rfl rfl) ?_
      refine RG.vl rfl rfl rfl (Ev.isF (Ev.neI rfl rfl rfl) (by omega)) ?_
      refine RG.vl rfl rfl rfl (Ev.move rfl rfl) ?_
      refine RG.pass rfl rfl rfl ?_
      refine RG.pass rfl rfl rfl ?_
      refine RG.vl rfl rfl rfl (Ev.pickF rfl rfl rfl) ?_
      refine RG.done ?_
      refine QW.then_ ?_
      refine CW.condF rfl ?_
      refine CW.skip ?_
      refine QW.then_ ?_
      have hlu : lu i x = x := if_neg (by omega)
      refine CW.region ?_
      refine RG.vl rfl rfl rfl (Ev.move rfl rfl) ?_
      refine RG.vl rfl rfl rfl (Ev.move rfl rfl) ?_
      refine RG.vl rfl rfl rfl ((Ev.addI rfl rfl rfl (by omega)).conv (congrArg (Value.int .i64) (show (tot : Int) + x = ((tot + lu i x : Nat) : Int) by omega))) ?_
      refine RG.vl rfl rfl rfl (Ev.assign rfl rfl) ?_
      refine RG.done ?_
      refine QW.blockN ?_
      refine QW.then_ ?_
      refine CW.region ?_
      refine RG.vl rfl rfl rfl (Ev.move rfl rfl) ?_
      refine RG.vl rfl rfl rfl (Ev.addI rfl rfl rfl (by omega)) ?_
      refine RG.vl rfl rfl rfl (Ev.assign rfl rfl) ?_
      refine RG.done ?_
      refine QW.round2 (i + 1) (tot + lu i x) ⟨rfl, rfl, trivial⟩ ⟨rfl, rfl, rfl, rfl, trivial⟩ ⟨⟨by omega, by rw [luhn_step hx] at hs; omega, by omega⟩, (Ex.tr hB0 hxwl1)⟩ (by omega)
  · refine CW.exit ?_
    refine QW.thenExit ?_
    refine QW.thenExit ?_
    refine QW.blockHit ?_
    refine QW.then_ ?_
    refine CW.seq ?_
    refine CW.region ?_
    refine RG.vl rfl rfl rfl (Ev.move rfl rfl) ?_
    refine RG.vl rfl rfl rfl (Ev.assign rfl rfl) ?_
    refine RG.done ?_
    refine QW.then_ ?_
    refine CW.ret ?_
    refine QW.ret1 rfl rfl ?_
    have hB := (Ex.tr hB0 hxwl1)
    obtain rfl : i = vs.length := by omega
    rw [List.drop_length] at hs
    have e : tot = luhnD 0 vs := by rw [← hs]; simp [luhnD]
    exact ⟨by rw [e], hB⟩

set_option maxRecDepth 100000 in
set_option maxHeartbeats 1000000 in
theorem rturn_ret (x : Nat) (w : World) (hx : x < 10) :
    Ret Tryd.prog 67 [.int .i64 (x : Int)] w (fun v w' => v = .int .i64 (tn 1 x : Nat) ∧ Ex w w') := by
  have ht := tn_lt 1 (by omega) x hx
  have htn := tr_nat hx
  have hB0 : Ex w w := Ex.rfl_ _
  refine Ret.of Tryd.func67 rfl Tryd.ntmps67 rfl ?_
  refine CW.seq ?_
  refine CW.region ?_
  refine RG.vl rfl rfl rfl (Ev.assign rfl rfl) ?_
  refine RG.done ?_
  refine QW.then_ ?_
  refine CW.seq ?_
  refine CW.region ?_
  refine RG.vl rfl rfl rfl (Ev.move rfl rfl) ?_
  refine RG.vl rfl rfl rfl (Ev.byteAt rfl rfl rfl Tryd.underlying9 (by omega) ((show _ = some (UInt8.ofNat (48 + tn 1 x)) from tr_at x hx))) ?_
  refine RG.vl rfl rfl rfl ((Ev.sub8 rfl rfl rfl (by omega)).conv (congrArg (Value.int .u8) htn)) ?_
  refine RG.vl rfl rfl rfl (Ev.to64 rfl rfl Tryd.underlying5 Tryd.underlying3 (by omega)) ?_
  refine RG.vl rfl rfl rfl (Ev.assign rfl rfl) ?_
  refine RG.done ?_
  refine QW.then_ ?_
  refine CW.ret ?_
  refine QW.ret1 rfl rfl ?_
  have hB := hB0
  exact ⟨rfl, hB⟩

set_option maxRecDepth 100000 in
set_option maxHeartbeats 1000000 in
theorem rprod_ret (x y : Nat) (w : World) (hx : x < 10) (hy : y < 10) :
    Ret Tryd.prog 68 [.int .i64 (x : Int), .int .i64 (y : Int)] w (fun v w' => v = .int .i64 (tm x y : Nat) ∧ Ex w w') := by
  have hB0 : Ex w w := Ex.rfl_ _
  refine Ret.of Tryd.func68 rfl Tryd.ntmps68 rfl ?_
  refine CW.seq ?_
  refine CW.region ?_
  refine RG.vl rfl rfl rfl (Ev.assign rfl rfl) ?_
  refine RG.done ?_
  refine QW.then_ ?_
  refine CW.seq ?_
  refine CW.seq ?_
  refine CW.region ?_
  refine RG.vl rfl rfl rfl (Ev.move rfl rfl) ?_
  refine RG.vl rfl rfl rfl (Ev.lss rfl rfl rfl) ?_
  refine RG.vl rfl rfl rfl (Ev.move rfl rfl) ?_
  refine RG.split (d := 7) rfl (fun hg1 => ?_) (fun hg1 => ?_)
  · refine RG.vl rfl rfl rfl (Ev.move rfl rfl) ?_
    refine RG.vl rfl rfl rfl (Ev.lss rfl rfl rfl) ?_
    refine RG.vl rfl rfl rfl (Ev.pickT rfl rfl rfl) ?_
    refine RG.done ?_
    refine QW.then_ ?_
    refine CW.condP rfl (fun hc2 => ?_) (fun hc2 => ?_)
    · refine CW.seq ?_
      refine CW.region ?_
      refine RG.vl rfl rfl rfl (Ev.move rfl rfl) ?_
      refine RG.vl rfl rfl rfl (Ev.move rfl rfl) ?_
      refine RG.vl rfl rfl rfl (Ev.addI rfl rfl rfl (by omega)) ?_
      refine RG.vl rfl rfl rfl (Ev.remI rfl rfl rfl (by omega)) ?_
      refine RG.vl rfl rfl rfl (Ev.assign rfl rfl) ?_
      refine RG.done ?_
      refine QW.then_ ?_
      refine CW.ret ?_
      refine QW.thenRet ?_
      refine QW.ret1 rfl rfl ?_
      have hB := hB0
      have e := pr_a x (by omega) y (by omega)
      exact ⟨congrArg (Value.int .i64) (by rw [← e]; omega), hB⟩
    · refine CW.skip ?_
      refine QW.then_ ?_
      refine CW.seq ?_
      refine CW.seq ?_
      refine CW.region ?_
      refine RG.vl rfl rfl rfl (Ev.move rfl rfl) ?_
      refine RG.vl rfl rfl rfl (Ev.lss rfl rfl rfl) ?_
      refine RG.done ?_
      refine QW.then_ ?_
      refine CW.condP rfl (fun hc3 => ?_) (fun hc3 => ?_)
      · refine CW.seq ?_
        refine CW.region ?_
        refine RG.vl rfl rfl rfl (Ev.move rfl rfl) ?_
        refine RG.vl rfl rfl rfl (Ev.move rfl rfl) ?_
        refine RG.vl rfl rfl rfl (Ev.addI rfl rfl rfl (by omega)) ?_
        refine RG.vl rfl rfl rfl (Ev.remI rfl rfl rfl (by omega)) ?_
        refine RG.vl rfl rfl rfl (Ev.addI rfl rfl rfl (by omega)) ?_
        refine RG.vl rfl rfl rfl (Ev.assign rfl rfl) ?_
        refine RG.done ?_
        refine QW.sub (S' := [(0, _), (1, _), (4, _)]) ⟨rfl, rfl, rfl, trivial⟩ ?_
        refine QW.then_ ?_
        refine CW.ret ?_
        refine QW.thenRet ?_
        refine QW.ret1 rfl rfl ?_
        have hB := hB0
        have e := pr_b x (by omega) y (by omega) (by omega)
        exact ⟨congrArg (Value.int .i64) (by rw [← e]; omega), hB⟩
      · refine CW.skip ?_
        refine QW.then_ ?_
        refine CW.seq ?_
        refine CW.seq ?_
        refine CW.region ?_
        refine RG.vl rfl rfl rfl (Ev.move rfl rfl) ?_
        refine RG.vl rfl rfl rfl (Ev.lss rfl rfl rfl) ?_
        refine RG.done ?_
        refine QW.then_ ?_
        refine CW.condP rfl (fun hc4 => ?_) (fun hc4 => ?_)
        · refine CW.seq ?_
          refine CW.region ?_
          refine RG.vl rfl rfl rfl (Ev.move rfl rfl) ?_
          refine RG.vl rfl rfl rfl (Ev.addI rfl rfl rfl (by omega)) ?_
          refine RG.vl rfl rfl rfl (Ev.move rfl rfl) ?_
          refine RG.vl rfl rfl rfl (Ev.subI rfl rfl rfl (by omega)) ?_
          refine RG.vl rfl rfl rfl (Ev.remI rfl rfl rfl (by omega)) ?_
          refine RG.vl rfl rfl rfl (Ev.addI rfl rfl rfl (by omega)) ?_
          refine RG.vl rfl rfl rfl (Ev.assign rfl rfl) ?_
          refine RG.done ?_
          refine QW.sub (S' := [(0, _), (1, _), (4, _)]) ⟨rfl, rfl, rfl, trivial⟩ ?_
          refine QW.then_ ?_
          refine CW.ret ?_
          refine QW.thenRet ?_
          refine QW.ret1 rfl rfl ?_
          have hB := hB0
          have e := pr_c x (by omega) y (by omega) (by omega)
          exact ⟨congrArg (Value.int .i64) (by rw [← e]; omega), hB⟩
        · refine CW.skip ?_
          refine QW.then_ ?_
          refine CW.seq ?_
          refine CW.region ?_
          refine RG.vl rfl rfl rfl (Ev.move rfl rfl) ?_
          refine RG.vl rfl rfl rfl (Ev.addI rfl rfl rfl (by omega)) ?_
          refine RG.vl rfl rfl rfl (Ev.move rfl rfl) ?_
          refine RG.vl rfl rfl rfl (Ev.subI rfl rfl rfl (by omega)) ?_
          refine RG.vl rfl rfl rfl (Ev.remI rfl rfl rfl (by omega)) ?_
          refine RG.vl rfl rfl rfl (Ev.assign rfl rfl) ?_
          refine RG.done ?_
          refine QW.sub (S' := [(4, _)]) ⟨rfl, trivial⟩ ?_
          refine QW.then_ ?_
          refine CW.ret ?_
          refine QW.ret1 rfl rfl ?_
          have hB := hB0
          have e := pr_d x (by omega) y (by omega) (by omega) (by omega)
          exact ⟨congrArg (Value.int .i64) (by rw [← e]; omega), hB⟩
  · refine RG.pass rfl rfl rfl ?_
    refine RG.pass rfl rfl rfl ?_
    refine RG.vl rfl rfl rfl (Ev.pickF rfl rfl rfl) ?_
    refine RG.done ?_
    refine QW.then_ ?_
    refine CW.condF rfl ?_
    refine CW.skip ?_
    refine QW.then_ ?_
    refine CW.seq ?_
    refine CW.seq ?_
    refine CW.region ?_
    refine RG.vl rfl rfl rfl (Ev.move rfl rfl) ?_
    refine RG.vl rfl rfl rfl (Ev.lss rfl rfl rfl) ?_
    refine RG.done ?_
    refine QW.then_ ?_
    refine CW.condP rfl (fun hc5 => ?_) (fun hc5 => ?_)
    · refine CW.seq ?_
      refine CW.region ?_
      refine RG.vl rfl rfl rfl (Ev.move rfl rfl) ?_
      refine RG.vl rfl rfl rfl (Ev.move rfl rfl) ?_
      refine RG.vl rfl rfl rfl (Ev.addI rfl rfl rfl (by omega)) ?_
      refine RG.vl rfl rfl rfl (Ev.remI rfl rfl rfl (by omega)) ?_
      refine RG.vl rfl rfl rfl (Ev.addI rfl rfl rfl (by omega)) ?_
      refine RG.vl rfl rfl rfl (Ev.assign rfl rfl) ?_
      refine RG.done ?_
      refine QW.sub (S' := [(0, _), (1, _), (4, _)]) ⟨rfl, rfl, rfl, trivial⟩ ?_
      refine QW.then_ ?_
      refine CW.ret ?_
      refine QW.thenRet ?_
      refine QW.ret1 rfl rfl ?_
      have hB := hB0
      have e := pr_b x (by omega) y (by omega) (by omega)
      exact ⟨congrArg (Value.int .i64) (by rw [← e]; omega), hB⟩
    · refine CW.skip ?_
      refine QW.then_ ?_
      refine CW.seq ?_
      refine CW.seq ?_
      refine CW.region ?_
      refine RG.vl rfl rfl rfl (Ev.move rfl rfl) ?_
      refine RG.vl rfl rfl rfl (Ev.lss rfl rfl rfl) ?_
      refine RG.done ?_
      refine QW.then_ ?_
      refine CW.condP rfl (fun hc6 => ?_) (fun hc6 => ?_)
      · refine CW.seq ?_
        refine CW.region ?_
        refine RG.vl rfl rfl rfl (Ev.move rfl rfl) ?_
        refine RG.vl rfl rfl rfl (Ev.addI rfl rfl rfl (by omega)) ?_
        refine RG.vl rfl rfl rfl (Ev.move rfl rfl) ?_
        refine RG.vl rfl rfl rfl (Ev.subI rfl rfl rfl (by omega)) ?_
        refine RG.vl rfl rfl rfl (Ev.remI rfl rfl rfl (by omega)) ?_
        refine RG.vl rfl rfl rfl (Ev.addI rfl rfl rfl (by omega)) ?_
        refine RG.vl rfl rfl rfl (Ev.assign rfl rfl) ?_
        refine RG.done ?_
        refine QW.sub (S' := [(0, _), (1, _), (4, _)]) ⟨rfl, rfl, rfl, trivial⟩ ?_
        refine QW.then_ ?_
        refine CW.ret ?_
        refine QW.thenRet ?_
        refine QW.ret1 rfl rfl ?_
        have hB := hB0
        have e := pr_c x (by omega) y (by omega) (by omega)
        exact ⟨congrArg (Value.int .i64) (by rw [← e]; omega), hB⟩
      · refine CW.skip ?_
        refine QW.then_ ?_
        refine CW.seq ?_
        refine CW.region ?_
        refine RG.vl rfl rfl rfl (Ev.move rfl rfl) ?_
        refine RG.vl rfl rfl rfl (Ev.addI rfl rfl rfl (by omega)) ?_
        refine RG.vl rfl rfl rfl (Ev.move rfl rfl) ?_
        refine RG.vl rfl rfl rfl (Ev.subI rfl rfl rfl (by omega)) ?_
        refine RG.vl rfl rfl rfl (Ev.remI rfl rfl rfl (by omega)) ?_
        refine RG.vl rfl rfl rfl (Ev.assign rfl rfl) ?_
        refine RG.done ?_
        refine QW.sub (S' := [(4, _)]) ⟨rfl, trivial⟩ ?_
        refine QW.then_ ?_
        refine CW.ret ?_
        refine QW.ret1 rfl rfl ?_
        have hB := hB0
        have e := pr_d x (by omega) y (by omega) (by omega) (by omega)
        exact ⟨congrArg (Value.int .i64) (by rw [← e]; omega), hB⟩

end Go.Proofs.YtnhkhpnkhkagaaaDoor
