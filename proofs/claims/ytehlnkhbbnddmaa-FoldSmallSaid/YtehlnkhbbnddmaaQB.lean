/- Walks (QB). Written by program. -/
import Derived.Test.YtehlnkhbbnddmaaT
import Derived.Test.YtehlnkhbbnddmaaQA
import Derived.Test.YtehlnkhbbnddmaaPB
namespace Go.Proofs.Ytehlnkhbbnddmaa
open Go.RowKit
set_option maxRecDepth 100000 in
set_option maxHeartbeats 4000000 in
theorem two_ret (l : List UInt8) (i : Nat) (c : UInt8) (w : World) (hc : l[i]? = some c) (hlen : l.length ≤ 100000) :
    Ret Try.prog 46 [.string ⟨l.toArray⟩, .int .i64 (i : Int)] w (fun v w' => v = .string ⟨(twoL c (l.drop (i + 1))).toArray⟩ ∧ Ex w w') := by
  have hi := (List.getElem?_eq_some_iff.1 hc).1
  have hsz := sbytes l
  have hc8 := c.toNat_lt
  have hB0 : Ex w w := Ex.rfl_ _
  refine Ret.of Try.func46 rfl Try.ntmps46 rfl ?_
  refine CW.seq ?_
  refine CW.region ?_
  refine RG.vl rfl rfl rfl (Ev.assign rfl rfl) ?_
  refine RG.done ?_
  refine QW.then_ ?_
  refine CW.seq ?_
  refine CW.seq ?_
  refine CW.region ?_
  refine RG.vl rfl rfl rfl (Ev.move rfl rfl) ?_
  refine RG.vl rfl rfl rfl (Ev.addI rfl rfl rfl (by omega)) ?_
  refine RG.vl rfl rfl rfl (Ev.move rfl rfl) ?_
  refine RG.vl rfl rfl rfl (Ev.lenStr rfl rfl rfl Try.underlying9) ?_
  refine RG.vl rfl rfl rfl (Ev.geq rfl rfl rfl) ?_
  refine RG.done ?_
  refine QW.then_ ?_
  refine CW.condP rfl (fun hc1 => ?_) (fun hc1 => ?_)
  · refine CW.seq ?_
    refine CW.region ?_
    refine RG.vl rfl rfl rfl (Ev.assign rfl rfl) ?_
    refine RG.done ?_
    refine QW.then_ ?_
    refine CW.ret ?_
    refine QW.thenRet ?_
    refine QW.ret1 rfl rfl ?_
    have hB := hB0
    exact ⟨by rw [twoL_none (List.drop_eq_nil_of_le (by omega))], hB⟩
  · refine CW.skip ?_
    refine QW.then_ ?_
    refine CW.seq ?_
    obtain ⟨d, hd⟩ : ∃ d, l[i + 1]? = some d := ⟨_, List.getElem?_eq_getElem (by omega)⟩
    have hd8 := d.toNat_lt
    refine CW.region ?_
    refine RG.vl rfl rfl rfl (Ev.move rfl rfl) ?_
    refine RG.vl rfl rfl rfl (Ev.move rfl rfl) ?_
    refine RG.vl rfl rfl rfl (Ev.addI rfl rfl rfl (by omega)) ?_
    refine RG.vl rfl rfl rfl (Ev.byteAt rfl rfl rfl Try.underlying9 (by omega) ((show _ = some d from by rw [show ((i : Int) + 1).toNat = i + 1 from by omega]; exact hd))) ?_
    refine RG.vl rfl rfl rfl (Ev.to64 rfl rfl Try.underlying5 Try.underlying3 (by omega)) ?_
    refine RG.vl rfl rfl rfl (Ev.assign rfl rfl) ?_
    refine RG.done ?_
    refine QW.then_ ?_
    refine CW.seq ?_
    refine CW.seq ?_
    refine CW.region ?_
    refine RG.vl rfl rfl rfl (Ev.move rfl rfl) ?_
    refine RG.vl rfl rfl rfl (Ev.move rfl rfl) ?_
    refine RG.vl rfl rfl rfl (Ev.byteAt rfl rfl rfl Try.underlying9 (by omega) (hc)) ?_
    refine RG.vl rfl rfl rfl (Ev.eqI rfl rfl rfl) ?_
    refine RG.done ?_
    refine QW.sub (S' := [(0, _), (1, _), (4, _), (5, _), (19, _)]) ⟨rfl, rfl, rfl, rfl, rfl, trivial⟩ ?_
    refine QW.then_ ?_
    refine CW.condP rfl (fun hc2 => ?_) (fun hc2 => ?_)
    · refine CW.seq ?_
      refine CW.seq ?_
      refine CW.region ?_
      refine RG.vl rfl rfl rfl (Ev.move rfl rfl) ?_
      refine RG.vl rfl rfl rfl (Ev.eqI rfl rfl rfl) ?_
      refine RG.vl rfl rfl rfl (Ev.move rfl rfl) ?_
      refine RG.split (d := 22) rfl (fun hg3 => ?_) (fun hg3 => ?_)
      · refine RG.pass rfl rfl rfl ?_
        refine RG.pass rfl rfl rfl ?_
        refine RG.vl rfl rfl rfl (Ev.pickT rfl rfl rfl) ?_
        refine RG.done ?_
        refine QW.then_ ?_
        refine CW.condT rfl ?_
        refine CW.seq ?_
        refine CW.region ?_
        refine RG.vl rfl rfl rfl (Ev.assign rfl rfl) ?_
        refine RG.done ?_
        refine QW.then_ ?_
        refine CW.ret ?_
        refine QW.thenRet ?_
        refine QW.thenRet ?_
        refine QW.ret1 rfl rfl ?_
        have hB := hB0
        refine ⟨congrArg (fun x : List UInt8 => Value.string ⟨x.toArray⟩) (show ([79, 69] : List UInt8) = twoL c (l.drop (i + 1)) from ?_), hB⟩
        rw [twoL_some (show (l.drop (i + 1))[0]? = some d by rw [List.getElem?_drop]; exact hd)]
        unfold lets
        repeat (first | rw [if_pos (by omega)] | rw [if_neg (by omega)])
      · refine RG.vl rfl rfl rfl (Ev.move rfl rfl) ?_
        refine RG.vl rfl rfl rfl (Ev.eqI rfl rfl rfl) ?_
        refine RG.vl rfl rfl rfl (Ev.pickF rfl rfl rfl) ?_
        refine RG.done ?_
        refine QW.then_ ?_
        refine CW.condP rfl (fun hc4 => ?_) (fun hc4 => ?_)
        · refine CW.seq ?_
          refine CW.region ?_
          refine RG.vl rfl rfl rfl (Ev.assign rfl rfl) ?_
          refine RG.done ?_
          refine QW.then_ ?_
          refine CW.ret ?_
          refine QW.thenRet ?_
          refine QW.thenRet ?_
          refine QW.ret1 rfl rfl ?_
          have hB := hB0
          refine ⟨congrArg (fun x : List UInt8 => Value.string ⟨x.toArray⟩) (show ([79, 69] : List UInt8) = twoL c (l.drop (i + 1)) from ?_), hB⟩
          rw [twoL_some (show (l.drop (i + 1))[0]? = some d by rw [List.getElem?_drop]; exact hd)]
          unfold lets
          repeat (first | rw [if_pos (by omega)] | rw [if_neg (by omega)])
        · refine CW.skip ?_
          refine QW.then_ ?_
          refine CW.seq ?_
          refine CW.seq ?_
          refine CW.region ?_
          refine RG.vl rfl rfl rfl (Ev.move rfl rfl) ?_
          refine RG.vl rfl rfl rfl (Ev.eqI rfl rfl rfl) ?_
          refine RG.vl rfl rfl rfl (Ev.move rfl rfl) ?_
          refine RG.split (d := 28) rfl (fun hg5 => ?_) (fun hg5 => ?_)
          · refine RG.pass rfl rfl rfl ?_
            refine RG.pass rfl rfl rfl ?_
            refine RG.vl rfl rfl rfl (Ev.pickT rfl rfl rfl) ?_
            refine RG.done ?_
            refine QW.then_ ?_
            refine CW.condT rfl ?_
            refine CW.seq ?_
            refine CW.region ?_
            refine RG.vl rfl rfl rfl (Ev.assign rfl rfl) ?_
            refine RG.done ?_
            refine QW.then_ ?_
            refine CW.ret ?_
            refine QW.thenRet ?_
            refine QW.thenRet ?_
            refine QW.ret1 rfl rfl ?_
            have hB := hB0
            refine ⟨congrArg (fun x : List UInt8 => Value.string ⟨x.toArray⟩) (show ([83] : List UInt8) = twoL c (l.drop (i + 1)) from ?_), hB⟩
            rw [twoL_some (show (l.drop (i + 1))[0]? = some d by rw [List.getElem?_drop]; exact hd)]
            unfold lets
            repeat (first | rw [if_pos (by omega)] | rw [if_neg (by omega)])
          · refine RG.vl rfl rfl rfl (Ev.move rfl rfl) ?_
            refine RG.vl rfl rfl rfl (Ev.eqI rfl rfl rfl) ?_
            refine RG.vl rfl rfl rfl (Ev.pickF rfl rfl rfl) ?_
            refine RG.done ?_
            refine QW.then_ ?_
            refine CW.condP rfl (fun hc6 => ?_) (fun hc6 => ?_)
            · refine CW.seq ?_
              refine CW.region ?_
              refine RG.vl rfl rfl rfl (Ev.assign rfl rfl) ?_
              refine RG.done ?_
              refine QW.then_ ?_
              refine CW.ret ?_
              refine QW.thenRet ?_
              refine QW.thenRet ?_
              refine QW.ret1 rfl rfl ?_
              have hB := hB0
              refine ⟨congrArg (fun x : List UInt8 => Value.string ⟨x.toArray⟩) (show ([83] : List UInt8) = twoL c (l.drop (i + 1)) from ?_), hB⟩
              rw [twoL_some (show (l.drop (i + 1))[0]? = some d by rw [List.getElem?_drop]; exact hd)]
              unfold lets
              repeat (first | rw [if_pos (by omega)] | rw [if_neg (by omega)])
            · refine CW.skip ?_
              refine QW.then_ ?_
              refine CW.seq ?_
              refine CW.seq ?_
              refine CW.region ?_
              refine RG.vl rfl rfl rfl (Ev.move rfl rfl) ?_
              refine RG.vl rfl rfl rfl (Ev.eqI rfl rfl rfl) ?_
              refine RG.vl rfl rfl rfl (Ev.move rfl rfl) ?_
              refine RG.split (d := 34) rfl (fun hg7 => ?_) (fun hg7 => ?_)
              · refine RG.pass rfl rfl rfl ?_
                refine RG.pass rfl rfl rfl ?_
                refine RG.vl rfl rfl rfl (Ev.pickT rfl rfl rfl) ?_
                refine RG.done ?_
                refine QW.sub (S' := [(0, _), (1, _), (4, _), (5, _), (37, _)]) ⟨rfl, rfl, rfl, rfl, rfl, trivial⟩ ?_
                refine QW.then_ ?_
                refine CW.condT rfl ?_
                refine CW.seq ?_
                refine CW.region ?_
                refine RG.vl rfl rfl rfl (Ev.assign rfl rfl) ?_
                refine RG.done ?_
                refine QW.then_ ?_
                refine CW.ret ?_
                refine QW.thenRet ?_
                refine QW.thenRet ?_
                refine QW.ret1 rfl rfl ?_
                have hB := hB0
                refine ⟨congrArg (fun x : List UInt8 => Value.string ⟨x.toArray⟩) (show ([90] : List UInt8) = twoL c (l.drop (i + 1)) from ?_), hB⟩
                rw [twoL_some (show (l.drop (i + 1))[0]? = some d by rw [List.getElem?_drop]; exact hd)]
                unfold lets
                repeat (first | rw [if_pos (by omega)] | rw [if_neg (by omega)])
              · refine RG.vl rfl rfl rfl (Ev.move rfl rfl) ?_
                refine RG.vl rfl rfl rfl (Ev.eqI rfl rfl rfl) ?_
                refine RG.vl rfl rfl rfl (Ev.pickF rfl rfl rfl) ?_
                refine RG.done ?_
                refine QW.sub (S' := [(0, _), (1, _), (4, _), (5, _), (37, _)]) ⟨rfl, rfl, rfl, rfl, rfl, trivial⟩ ?_
                refine QW.then_ ?_
                refine CW.condP rfl (fun hc8 => ?_) (fun hc8 => ?_)
                · refine CW.seq ?_
                  refine CW.region ?_
                  refine RG.vl rfl rfl rfl (Ev.assign rfl rfl) ?_
                  refine RG.done ?_
                  refine QW.then_ ?_
                  refine CW.ret ?_
                  refine QW.thenRet ?_
                  refine QW.thenRet ?_
                  refine QW.ret1 rfl rfl ?_
                  have hB := hB0
                  refine ⟨congrArg (fun x : List UInt8 => Value.string ⟨x.toArray⟩) (show ([90] : List UInt8) = twoL c (l.drop (i + 1)) from ?_), hB⟩
                  rw [twoL_some (show (l.drop (i + 1))[0]? = some d by rw [List.getElem?_drop]; exact hd)]
                  unfold lets
                  repeat (first | rw [if_pos (by omega)] | rw [if_neg (by omega)])
                · refine CW.skip ?_
                  refine QW.then_ ?_
                  refine CW.seq ?_
                  refine CW.region ?_
                  refine RG.vl rfl rfl rfl (Ev.assign rfl rfl) ?_
                  refine RG.done ?_
                  refine QW.then_ ?_
                  refine CW.ret ?_
                  refine QW.thenRet ?_
                  refine QW.ret1 rfl rfl ?_
                  have hB := hB0
                  refine ⟨congrArg (fun x : List UInt8 => Value.string ⟨x.toArray⟩) (show ([] : List UInt8) = twoL c (l.drop (i + 1)) from ?_), hB⟩
                  rw [twoL_some (show (l.drop (i + 1))[0]? = some d by rw [List.getElem?_drop]; exact hd)]
                  unfold lets
                  repeat (first | rw [if_pos (by omega)] | rw [if_neg (by omega)])
    · refine CW.skip ?_
      refine QW.then_ ?_
      refine CW.seq ?_
      refine CW.seq ?_
      refine CW.region ?_
      refine RG.vl rfl rfl rfl (Ev.move rfl rfl) ?_
      refine RG.vl rfl rfl rfl (Ev.move rfl rfl) ?_
      refine RG.vl rfl rfl rfl (Ev.byteAt rfl rfl rfl Try.underlying9 (by omega) (hc)) ?_
      refine RG.vl rfl rfl rfl (Ev.neI rfl rfl rfl) ?_
      refine RG.vl rfl rfl rfl (Ev.move rfl rfl) ?_
      refine RG.split (d := 42) rfl (fun hg9 => ?_) (fun hg9 => ?_)
      · refine RG.pass rfl rfl rfl ?_
        refine RG.pass rfl rfl rfl ?_
        refine RG.vl rfl rfl rfl (Ev.pickT rfl rfl rfl) ?_
        refine RG.vl rfl rfl rfl (Ev.move rfl rfl) ?_
        refine RG.pass rfl rfl rfl ?_
        refine RG.pass rfl rfl rfl ?_
        refine RG.vl rfl rfl rfl (Ev.pickT rfl rfl rfl) ?_
        refine RG.done ?_
        refine QW.then_ ?_
        refine CW.condT rfl ?_
        refine CW.seq ?_
        refine CW.region ?_
        refine RG.vl rfl rfl rfl (Ev.assign rfl rfl) ?_
        refine RG.done ?_
        refine QW.then_ ?_
        refine CW.ret ?_
        refine QW.thenRet ?_
        refine QW.ret1 rfl rfl ?_
        have hB := hB0
        refine ⟨congrArg (fun x : List UInt8 => Value.string ⟨x.toArray⟩) (show ([] : List UInt8) = twoL c (l.drop (i + 1)) from ?_), hB⟩
        rw [twoL_some (show (l.drop (i + 1))[0]? = some d by rw [List.getElem?_drop]; exact hd)]
        first
          | (exfalso; omega)
          | (unfold lets; rw [if_neg (by omega), if_neg (by omega)])
          | (rw [show lets c.toNat d.toNat = letsU (d.toNat) from by unfold lets; rw [if_neg (by omega), if_pos (by omega), if_neg (by omega), if_neg (by omega), if_neg (by omega)]]; unfold letsU; repeat (first | rw [if_pos (by omega)] | rw [if_neg (by omega)]))
      · refine RG.vl rfl rfl rfl (Ev.move rfl rfl) ?_
        refine RG.vl rfl rfl rfl (Ev.lss rfl rfl rfl) ?_
        refine RG.vl rfl rfl rfl (Ev.pickF rfl rfl rfl) ?_
        refine RG.vl rfl rfl rfl (Ev.move rfl rfl) ?_
        refine RG.split (d := 46) rfl (fun hg10 => ?_) (fun hg10 => ?_)
        · refine RG.pass rfl rfl rfl ?_
          refine RG.pass rfl rfl rfl ?_
          refine RG.vl rfl rfl rfl (Ev.pickT rfl rfl rfl) ?_
          refine RG.done ?_
          refine QW.then_ ?_
          refine CW.condT rfl ?_
          refine CW.seq ?_
          refine CW.region ?_
          refine RG.vl rfl rfl rfl (Ev.assign rfl rfl) ?_
          refine RG.done ?_
          refine QW.then_ ?_
          refine CW.ret ?_
          refine QW.thenRet ?_
          refine QW.ret1 rfl rfl ?_
          have hB := hB0
          refine ⟨congrArg (fun x : List UInt8 => Value.string ⟨x.toArray⟩) (show ([] : List UInt8) = twoL c (l.drop (i + 1)) from ?_), hB⟩
          rw [twoL_some (show (l.drop (i + 1))[0]? = some d by rw [List.getElem?_drop]; exact hd)]
          first
            | (exfalso; omega)
            | (unfold lets; rw [if_neg (by omega), if_neg (by omega)])
            | (rw [show lets c.toNat d.toNat = letsU (d.toNat) from by unfold lets; rw [if_neg (by omega), if_pos (by omega), if_neg (by omega), if_neg (by omega), if_neg (by omega)]]; unfold letsU; repeat (first | rw [if_pos (by omega)] | rw [if_neg (by omega)]))
        · refine RG.vl rfl rfl rfl (Ev.move rfl rfl) ?_
          refine RG.vl rfl rfl rfl (Ev.gtr rfl rfl rfl) ?_
          refine RG.vl rfl rfl rfl (Ev.pickF rfl rfl rfl) ?_
          refine RG.done ?_
          refine QW.then_ ?_
          refine CW.condP rfl (fun hc11 => ?_) (fun hc11 => ?_)
          · refine CW.seq ?_
            refine CW.region ?_
            refine RG.vl rfl rfl rfl (Ev.assign rfl rfl) ?_
            refine RG.done ?_
            refine QW.then_ ?_
            refine CW.ret ?_
            refine QW.thenRet ?_
            refine QW.ret1 rfl rfl ?_
            have hB := hB0
            refine ⟨congrArg (fun x : List UInt8 => Value.string ⟨x.toArray⟩) (show ([] : List UInt8) = twoL c (l.drop (i + 1)) from ?_), hB⟩
            rw [twoL_some (show (l.drop (i + 1))[0]? = some d by rw [List.getElem?_drop]; exact hd)]
            first
              | (exfalso; omega)
              | (unfold lets; rw [if_neg (by omega), if_neg (by omega)])
              | (rw [show lets c.toNat d.toNat = letsU (d.toNat) from by unfold lets; rw [if_neg (by omega), if_pos (by omega), if_neg (by omega), if_neg (by omega), if_neg (by omega)]]; unfold letsU; repeat (first | rw [if_pos (by omega)] | rw [if_neg (by omega)]))
          · refine CW.skip ?_
            refine QW.then_ ?_
            refine CW.seq ?_
            refine CW.seq ?_
            refine CW.region ?_
            refine RG.vl rfl rfl rfl (Ev.move rfl rfl) ?_
            refine RG.vl rfl rfl rfl (Ev.eqI rfl rfl rfl) ?_
            refine RG.done ?_
            refine QW.sub (S' := [(4, _), (5, _), (51, _)]) ⟨rfl, rfl, rfl, trivial⟩ ?_
            refine QW.then_ ?_
            refine CW.condP rfl (fun hc12 => ?_) (fun hc12 => ?_)
            · refine CW.seq ?_
              refine CW.region ?_
              refine RG.vl rfl rfl rfl (Ev.assign rfl rfl) ?_
              refine RG.done ?_
              refine QW.then_ ?_
              refine CW.ret ?_
              refine QW.thenRet ?_
              refine QW.ret1 rfl rfl ?_
              have hB := hB0
              refine ⟨congrArg (fun x : List UInt8 => Value.string ⟨x.toArray⟩) (show ([83, 83] : List UInt8) = twoL c (l.drop (i + 1)) from ?_), hB⟩
              rw [twoL_some (show (l.drop (i + 1))[0]? = some d by rw [List.getElem?_drop]; exact hd)]
              unfold lets
              repeat (first | rw [if_pos (by omega)] | rw [if_neg (by omega)])
            · refine CW.skip ?_
              refine QW.then_ ?_
              refine CW.seq ?_
              refine CW.seq ?_
              refine CW.region ?_
              refine RG.vl rfl rfl rfl (Ev.move rfl rfl) ?_
              refine RG.vl rfl rfl rfl (Ev.eqI rfl rfl rfl) ?_
              refine RG.done ?_
              refine QW.then_ ?_
              refine CW.condP rfl (fun hc13 => ?_) (fun hc13 => ?_)
              · refine CW.seq ?_
                refine CW.region ?_
                refine RG.vl rfl rfl rfl (Ev.assign rfl rfl) ?_
                refine RG.done ?_
                refine QW.then_ ?_
                refine CW.ret ?_
                refine QW.thenRet ?_
                refine QW.ret1 rfl rfl ?_
                have hB := hB0
                refine ⟨congrArg (fun x : List UInt8 => Value.string ⟨x.toArray⟩) (show ([89] : List UInt8) = twoL c (l.drop (i + 1)) from ?_), hB⟩
                rw [twoL_some (show (l.drop (i + 1))[0]? = some d by rw [List.getElem?_drop]; exact hd)]
                unfold lets
                repeat (first | rw [if_pos (by omega)] | rw [if_neg (by omega)])
              · refine CW.skip ?_
                refine QW.then_ ?_
                refine CW.seq ?_
                refine CW.seq ?_
                refine CW.region ?_
                refine RG.vl rfl rfl rfl (Ev.move rfl rfl) ?_
                refine RG.vl rfl rfl rfl (Ev.geq rfl rfl rfl) ?_
                refine RG.done ?_
                refine QW.then_ ?_
                refine CW.condP rfl (fun hc14 => ?_) (fun hc14 => ?_)
                · refine CW.region ?_
                  refine RG.vl rfl rfl rfl (Ev.move rfl rfl) ?_
                  refine RG.vl rfl rfl rfl (Ev.subI rfl rfl rfl (by omega)) ?_
                  refine RG.vl rfl rfl rfl (Ev.assign rfl rfl) ?_
                  refine RG.done ?_
                  refine QW.then_ ?_
                  refine CW.seq ?_
                  refine CW.seq ?_
                  refine CW.region ?_
                  refine RG.vl rfl rfl rfl (Ev.move rfl rfl) ?_
                  refine RG.vl rfl rfl rfl (Ev.leq rfl rfl rfl) ?_
                  refine RG.vl rfl rfl rfl (Ev.move rfl rfl) ?_
                  refine RG.split (d := 60) rfl (fun hg15 => ?_) (fun hg15 => ?_)
                  · refine RG.pass rfl rfl rfl ?_
                    refine RG.pass rfl rfl rfl ?_
                    refine RG.vl rfl rfl rfl (Ev.pickT rfl rfl rfl) ?_
                    refine RG.done ?_
                    refine QW.then_ ?_
                    refine CW.condT rfl ?_
                    refine CW.seq ?_
                    refine CW.region ?_
                    refine RG.vl rfl rfl rfl (Ev.assign rfl rfl) ?_
                    refine RG.done ?_
                    refine QW.sub (S' := [(4, _), (5, _)]) ⟨rfl, rfl, trivial⟩ ?_
                    refine QW.then_ ?_
                    refine CW.ret ?_
                    refine QW.thenRet ?_
                    refine QW.ret1 rfl rfl ?_
                    have hB := hB0
                    refine ⟨congrArg (fun x : List UInt8 => Value.string ⟨x.toArray⟩) (show ([65] : List UInt8) = twoL c (l.drop (i + 1)) from ?_), hB⟩
                    rw [twoL_some (show (l.drop (i + 1))[0]? = some d by rw [List.getElem?_drop]; exact hd)]
                    first
                      | (exfalso; omega)
                      | (rw [show lets c.toNat d.toNat = letsU (d.toNat - 32) from by unfold lets; rw [if_neg (by omega), if_pos (by omega), if_neg (by omega), if_neg (by omega), if_pos (by omega)]]; unfold letsU; repeat (first | rw [if_pos (by omega)] | rw [if_neg (by omega)]))
                  · refine RG.vl rfl rfl rfl (Ev.move rfl rfl) ?_
                    refine RG.vl rfl rfl rfl (Ev.eqI rfl rfl rfl) ?_
                    refine RG.vl rfl rfl rfl (Ev.pickF rfl rfl rfl) ?_
                    refine RG.done ?_
                    refine QW.then_ ?_
                    refine CW.condP rfl (fun hc16 => ?_) (fun hc16 => ?_)
                    · refine CW.seq ?_
                      refine CW.region ?_
                      refine RG.vl rfl rfl rfl (Ev.assign rfl rfl) ?_
                      refine RG.done ?_
                      refine QW.sub (S' := [(4, _), (5, _)]) ⟨rfl, rfl, trivial⟩ ?_
                      refine QW.then_ ?_
                      refine CW.ret ?_
                      refine QW.thenRet ?_
                      refine QW.ret1 rfl rfl ?_
                      have hB := hB0
                      refine ⟨congrArg (fun x : List UInt8 => Value.string ⟨x.toArray⟩) (show ([65] : List UInt8) = twoL c (l.drop (i + 1)) from ?_), hB⟩
                      rw [twoL_some (show (l.drop (i + 1))[0]? = some d by rw [List.getElem?_drop]; exact hd)]
                      first
                        | (exfalso; omega)
                        | (rw [show lets c.toNat d.toNat = letsU (d.toNat - 32) from by unfold lets; rw [if_neg (by omega), if_pos (by omega), if_neg (by omega), if_neg (by omega), if_pos (by omega)]]; unfold letsU; repeat (first | rw [if_pos (by omega)] | rw [if_neg (by omega)]))
                    · refine CW.skip ?_
                      refine QW.then_ ?_
                      refine CW.seq ?_
                      refine CW.seq ?_
                      refine CW.region ?_
                      refine RG.vl rfl rfl rfl (Ev.move rfl rfl) ?_
                      refine RG.vl rfl rfl rfl (Ev.eqI rfl rfl rfl) ?_
                      refine RG.vl rfl rfl rfl (Ev.move rfl rfl) ?_
                      refine RG.split (d := 66) rfl (fun hg17 => ?_) (fun hg17 => ?_)
                      · refine RG.pass rfl rfl rfl ?_
                        refine RG.pass rfl rfl rfl ?_
                        refine RG.vl rfl rfl rfl (Ev.pickT rfl rfl rfl) ?_
                        refine RG.done ?_
                        refine QW.sub (S' := [(4, _), (5, _), (69, _)]) ⟨rfl, rfl, rfl, trivial⟩ ?_
                        refine QW.then_ ?_
                        refine CW.condT rfl ?_
                        refine CW.seq ?_
                        refine CW.region ?_
                        refine RG.vl rfl rfl rfl (Ev.assign rfl rfl) ?_
                        refine RG.done ?_
                        refine QW.then_ ?_
                        refine CW.ret ?_
                        refine QW.thenRet ?_
                        refine QW.ret1 rfl rfl ?_
                        have hB := hB0
                        refine ⟨congrArg (fun x : List UInt8 => Value.string ⟨x.toArray⟩) (show ([65, 69] : List UInt8) = twoL c (l.drop (i + 1)) from ?_), hB⟩
                        rw [twoL_some (show (l.drop (i + 1))[0]? = some d by rw [List.getElem?_drop]; exact hd)]
                        first
                          | (exfalso; omega)
                          | (rw [show lets c.toNat d.toNat = letsU (d.toNat - 32) from by unfold lets; rw [if_neg (by omega), if_pos (by omega), if_neg (by omega), if_neg (by omega), if_pos (by omega)]]; unfold letsU; repeat (first | rw [if_pos (by omega)] | rw [if_neg (by omega)]))
                      · refine RG.vl rfl rfl rfl (Ev.move rfl rfl) ?_
                        refine RG.vl rfl rfl rfl (Ev.eqI rfl rfl rfl) ?_
                        refine RG.vl rfl rfl rfl (Ev.pickF rfl rfl rfl) ?_
                        refine RG.done ?_
                        refine QW.sub (S' := [(4, _), (5, _), (69, _)]) ⟨rfl, rfl, rfl, trivial⟩ ?_
                        refine QW.then_ ?_
                        refine CW.condP rfl (fun hc18 => ?_) (fun hc18 => ?_)
                        · refine CW.seq ?_
                          refine CW.region ?_
                          refine RG.vl rfl rfl rfl (Ev.assign rfl rfl) ?_
                          refine RG.done ?_
                          refine QW.then_ ?_
                          refine CW.ret ?_
                          refine QW.thenRet ?_
                          refine QW.ret1 rfl rfl ?_
                          have hB := hB0
                          refine ⟨congrArg (fun x : List UInt8 => Value.string ⟨x.toArray⟩) (show ([65, 69] : List UInt8) = twoL c (l.drop (i + 1)) from ?_), hB⟩
                          rw [twoL_some (show (l.drop (i + 1))[0]? = some d by rw [List.getElem?_drop]; exact hd)]
                          first
                            | (exfalso; omega)
                            | (rw [show lets c.toNat d.toNat = letsU (d.toNat - 32) from by unfold lets; rw [if_neg (by omega), if_pos (by omega), if_neg (by omega), if_neg (by omega), if_pos (by omega)]]; unfold letsU; repeat (first | rw [if_pos (by omega)] | rw [if_neg (by omega)]))
                        · refine CW.skip ?_
                          refine QW.then_ ?_
                          refine CW.seq ?_
                          refine CW.seq ?_
                          refine CW.region ?_
                          refine RG.vl rfl rfl rfl (Ev.move rfl rfl) ?_
                          refine RG.vl rfl rfl rfl (Ev.eqI rfl rfl rfl) ?_
                          refine RG.done ?_
                          refine QW.then_ ?_
                          refine CW.condP rfl (fun hc19 => ?_) (fun hc19 => ?_)
                          · refine CW.seq ?_
                            refine CW.region ?_
                            refine RG.vl rfl rfl rfl (Ev.assign rfl rfl) ?_
                            refine RG.done ?_
                            refine QW.then_ ?_
                            refine CW.ret ?_
                            refine QW.thenRet ?_
                            refine QW.ret1 rfl rfl ?_
                            have hB := hB0
                            refine ⟨congrArg (fun x : List UInt8 => Value.string ⟨x.toArray⟩) (show ([67] : List UInt8) = twoL c (l.drop (i + 1)) from ?_), hB⟩
                            rw [twoL_some (show (l.drop (i + 1))[0]? = some d by rw [List.getElem?_drop]; exact hd)]
                            first
                              | (exfalso; omega)
                              | (rw [show lets c.toNat d.toNat = letsU (d.toNat - 32) from by unfold lets; rw [if_neg (by omega), if_pos (by omega), if_neg (by omega), if_neg (by omega), if_pos (by omega)]]; unfold letsU; repeat (first | rw [if_pos (by omega)] | rw [if_neg (by omega)]))
                          · refine CW.skip ?_
                            refine QW.then_ ?_
                            refine CW.seq ?_
                            refine CW.seq ?_
                            refine CW.region ?_
                            refine RG.vl rfl rfl rfl (Ev.move rfl rfl) ?_
                            refine RG.vl rfl rfl rfl (Ev.leq rfl rfl rfl) ?_
                            refine RG.done ?_
                            refine QW.then_ ?_
                            refine CW.condP rfl (fun hc20 => ?_) (fun hc20 => ?_)
                            · refine CW.seq ?_
                              refine CW.region ?_
                              refine RG.vl rfl rfl rfl (Ev.assign rfl rfl) ?_
                              refine RG.done ?_
                              refine QW.then_ ?_
                              refine CW.ret ?_
                              refine QW.thenRet ?_
                              refine QW.ret1 rfl rfl ?_
                              have hB := hB0
                              refine ⟨congrArg (fun x : List UInt8 => Value.string ⟨x.toArray⟩) (show ([69] : List UInt8) = twoL c (l.drop (i + 1)) from ?_), hB⟩
                              rw [twoL_some (show (l.drop (i + 1))[0]? = some d by rw [List.getElem?_drop]; exact hd)]
                              first
                                | (exfalso; omega)
                                | (rw [show lets c.toNat d.toNat = letsU (d.toNat - 32) from by unfold lets; rw [if_neg (by omega), if_pos (by omega), if_neg (by omega), if_neg (by omega), if_pos (by omega)]]; unfold letsU; repeat (first | rw [if_pos (by omega)] | rw [if_neg (by omega)]))
                            · refine CW.skip ?_
                              refine QW.then_ ?_
                              refine CW.seq ?_
                              refine CW.seq ?_
                              refine CW.region ?_
                              refine RG.vl rfl rfl rfl (Ev.move rfl rfl) ?_
                              refine RG.vl rfl rfl rfl (Ev.leq rfl rfl rfl) ?_
                              refine RG.done ?_
                              refine QW.then_ ?_
                              refine CW.condP rfl (fun hc21 => ?_) (fun hc21 => ?_)
                              · refine CW.seq ?_
                                refine CW.region ?_
                                refine RG.vl rfl rfl rfl (Ev.assign rfl rfl) ?_
                                refine RG.done ?_
                                refine QW.then_ ?_
                                refine CW.ret ?_
                                refine QW.thenRet ?_
                                refine QW.ret1 rfl rfl ?_
                                have hB := hB0
                                refine ⟨congrArg (fun x : List UInt8 => Value.string ⟨x.toArray⟩) (show ([73] : List UInt8) = twoL c (l.drop (i + 1)) from ?_), hB⟩
                                rw [twoL_some (show (l.drop (i + 1))[0]? = some d by rw [List.getElem?_drop]; exact hd)]
                                first
                                  | (exfalso; omega)
                                  | (rw [show lets c.toNat d.toNat = letsU (d.toNat - 32) from by unfold lets; rw [if_neg (by omega), if_pos (by omega), if_neg (by omega), if_neg (by omega), if_pos (by omega)]]; unfold letsU; repeat (first | rw [if_pos (by omega)] | rw [if_neg (by omega)]))
                              · refine CW.skip ?_
                                refine QW.then_ ?_
                                refine CW.seq ?_
                                refine CW.seq ?_
                                refine CW.region ?_
                                refine RG.vl rfl rfl rfl (Ev.move rfl rfl) ?_
                                refine RG.vl rfl rfl rfl (Ev.eqI rfl rfl rfl) ?_
                                refine RG.done ?_
                                refine QW.then_ ?_
                                refine CW.condP rfl (fun hc22 => ?_) (fun hc22 => ?_)
                                · refine CW.seq ?_
                                  refine CW.region ?_
                                  refine RG.vl rfl rfl rfl (Ev.assign rfl rfl) ?_
                                  refine RG.done ?_
                                  refine QW.then_ ?_
                                  refine CW.ret ?_
                                  refine QW.thenRet ?_
                                  refine QW.ret1 rfl rfl ?_
                                  have hB := hB0
                                  refine ⟨congrArg (fun x : List UInt8 => Value.string ⟨x.toArray⟩) (show ([68] : List UInt8) = twoL c (l.drop (i + 1)) from ?_), hB⟩
                                  rw [twoL_some (show (l.drop (i + 1))[0]? = some d by rw [List.getElem?_drop]; exact hd)]
                                  first
                                    | (exfalso; omega)
                                    | (rw [show lets c.toNat d.toNat = letsU (d.toNat - 32) from by unfold lets; rw [if_neg (by omega), if_pos (by omega), if_neg (by omega), if_neg (by omega), if_pos (by omega)]]; unfold letsU; repeat (first | rw [if_pos (by omega)] | rw [if_neg (by omega)]))
                                · refine CW.skip ?_
                                  refine QW.then_ ?_
                                  refine CW.seq ?_
                                  refine CW.seq ?_
                                  refine CW.region ?_
                                  refine RG.vl rfl rfl rfl (Ev.move rfl rfl) ?_
                                  refine RG.vl rfl rfl rfl (Ev.eqI rfl rfl rfl) ?_
                                  refine RG.done ?_
                                  refine QW.then_ ?_
                                  refine CW.condP rfl (fun hc23 => ?_) (fun hc23 => ?_)
                                  · refine CW.seq ?_
                                    refine CW.region ?_
                                    refine RG.vl rfl rfl rfl (Ev.assign rfl rfl) ?_
                                    refine RG.done ?_
                                    refine QW.then_ ?_
                                    refine CW.ret ?_
                                    refine QW.thenRet ?_
                                    refine QW.ret1 rfl rfl ?_
                                    have hB := hB0
                                    refine ⟨congrArg (fun x : List UInt8 => Value.string ⟨x.toArray⟩) (show ([78] : List UInt8) = twoL c (l.drop (i + 1)) from ?_), hB⟩
                                    rw [twoL_some (show (l.drop (i + 1))[0]? = some d by rw [List.getElem?_drop]; exact hd)]
                                    first
                                      | (exfalso; omega)
                                      | (rw [show lets c.toNat d.toNat = letsU (d.toNat - 32) from by unfold lets; rw [if_neg (by omega), if_pos (by omega), if_neg (by omega), if_neg (by omega), if_pos (by omega)]]; unfold letsU; repeat (first | rw [if_pos (by omega)] | rw [if_neg (by omega)]))
                                  · refine CW.skip ?_
                                    refine QW.then_ ?_
                                    refine CW.seq ?_
                                    refine CW.seq ?_
                                    refine CW.region ?_
                                    refine RG.vl rfl rfl rfl (Ev.move rfl rfl) ?_
                                    refine RG.vl rfl rfl rfl (Ev.leq rfl rfl rfl) ?_
                                    refine RG.vl rfl rfl rfl (Ev.move rfl rfl) ?_
                                    refine RG.split (d := 82) rfl (fun hg24 => ?_) (fun hg24 => ?_)
                                    · refine RG.pass rfl rfl rfl ?_
                                      refine RG.pass rfl rfl rfl ?_
                                      refine RG.vl rfl rfl rfl (Ev.pickT rfl rfl rfl) ?_
                                      refine RG.done ?_
                                      refine QW.sub (S' := [(4, _), (5, _), (85, _)]) ⟨rfl, rfl, rfl, trivial⟩ ?_
                                      refine QW.then_ ?_
                                      refine CW.condT rfl ?_
                                      refine CW.seq ?_
                                      refine CW.region ?_
                                      refine RG.vl rfl rfl rfl (Ev.assign rfl rfl) ?_
                                      refine RG.done ?_
                                      refine QW.then_ ?_
                                      refine CW.ret ?_
                                      refine QW.thenRet ?_
                                      refine QW.ret1 rfl rfl ?_
                                      have hB := hB0
                                      refine ⟨congrArg (fun x : List UInt8 => Value.string ⟨x.toArray⟩) (show ([79] : List UInt8) = twoL c (l.drop (i + 1)) from ?_), hB⟩
                                      rw [twoL_some (show (l.drop (i + 1))[0]? = some d by rw [List.getElem?_drop]; exact hd)]
                                      first
                                        | (exfalso; omega)
                                        | (rw [show lets c.toNat d.toNat = letsU (d.toNat - 32) from by unfold lets; rw [if_neg (by omega), if_pos (by omega), if_neg (by omega), if_neg (by omega), if_pos (by omega)]]; unfold letsU; repeat (first | rw [if_pos (by omega)] | rw [if_neg (by omega)]))
                                    · refine RG.vl rfl rfl rfl (Ev.move rfl rfl) ?_
                                      refine RG.vl rfl rfl rfl (Ev.eqI rfl rfl rfl) ?_
                                      refine RG.vl rfl rfl rfl (Ev.pickF rfl rfl rfl) ?_
                                      refine RG.done ?_
                                      refine QW.sub (S' := [(4, _), (5, _), (85, _)]) ⟨rfl, rfl, rfl, trivial⟩ ?_
                                      refine QW.then_ ?_
                                      refine CW.condP rfl (fun hc25 => ?_) (fun hc25 => ?_)
                                      · refine CW.seq ?_
                                        refine CW.region ?_
                                        refine RG.vl rfl rfl rfl (Ev.assign rfl rfl) ?_
                                        refine RG.done ?_
                                        refine QW.then_ ?_
                                        refine CW.ret ?_
                                        refine QW.thenRet ?_
                                        refine QW.ret1 rfl rfl ?_
                                        have hB := hB0
                                        refine ⟨congrArg (fun x : List UInt8 => Value.string ⟨x.toArray⟩) (show ([79] : List UInt8) = twoL c (l.drop (i + 1)) from ?_), hB⟩
                                        rw [twoL_some (show (l.drop (i + 1))[0]? = some d by rw [List.getElem?_drop]; exact hd)]
                                        first
                                          | (exfalso; omega)
                                          | (rw [show lets c.toNat d.toNat = letsU (d.toNat - 32) from by unfold lets; rw [if_neg (by omega), if_pos (by omega), if_neg (by omega), if_neg (by omega), if_pos (by omega)]]; unfold letsU; repeat (first | rw [if_pos (by omega)] | rw [if_neg (by omega)]))
                                      · refine CW.skip ?_
                                        refine QW.then_ ?_
                                        refine CW.seq ?_
                                        refine CW.seq ?_
                                        refine CW.region ?_
                                        refine RG.vl rfl rfl rfl (Ev.move rfl rfl) ?_
                                        refine RG.vl rfl rfl rfl (Ev.eqI rfl rfl rfl) ?_
                                        refine RG.done ?_
                                        refine QW.then_ ?_
                                        refine CW.condP rfl (fun hc26 => ?_) (fun hc26 => ?_)
                                        · refine CW.seq ?_
                                          refine CW.region ?_
                                          refine RG.vl rfl rfl rfl (Ev.assign rfl rfl) ?_
                                          refine RG.done ?_
                                          refine QW.then_ ?_
                                          refine CW.ret ?_
                                          refine QW.thenRet ?_
                                          refine QW.ret1 rfl rfl ?_
                                          have hB := hB0
                                          refine ⟨congrArg (fun x : List UInt8 => Value.string ⟨x.toArray⟩) (show ([79, 69] : List UInt8) = twoL c (l.drop (i + 1)) from ?_), hB⟩
                                          rw [twoL_some (show (l.drop (i + 1))[0]? = some d by rw [List.getElem?_drop]; exact hd)]
                                          first
                                            | (exfalso; omega)
                                            | (rw [show lets c.toNat d.toNat = letsU (d.toNat - 32) from by unfold lets; rw [if_neg (by omega), if_pos (by omega), if_neg (by omega), if_neg (by omega), if_pos (by omega)]]; unfold letsU; repeat (first | rw [if_pos (by omega)] | rw [if_neg (by omega)]))
                                        · refine CW.skip ?_
                                          refine QW.then_ ?_
                                          refine CW.seq ?_
                                          refine CW.seq ?_
                                          refine CW.region ?_
                                          refine RG.vl rfl rfl rfl (Ev.move rfl rfl) ?_
                                          refine RG.vl rfl rfl rfl (Ev.eqI rfl rfl rfl) ?_
                                          refine RG.done ?_
                                          refine QW.then_ ?_
                                          refine CW.condP rfl (fun hc27 => ?_) (fun hc27 => ?_)
                                          · refine CW.seq ?_
                                            refine CW.region ?_
                                            refine RG.vl rfl rfl rfl (Ev.assign rfl rfl) ?_
                                            refine RG.done ?_
                                            refine QW.then_ ?_
                                            refine CW.ret ?_
                                            refine QW.thenRet ?_
                                            refine QW.ret1 rfl rfl ?_
                                            have hB := hB0
                                            refine ⟨congrArg (fun x : List UInt8 => Value.string ⟨x.toArray⟩) (show ([] : List UInt8) = twoL c (l.drop (i + 1)) from ?_), hB⟩
                                            rw [twoL_some (show (l.drop (i + 1))[0]? = some d by rw [List.getElem?_drop]; exact hd)]
                                            first
                                              | (exfalso; omega)
                                              | (rw [show lets c.toNat d.toNat = letsU (d.toNat - 32) from by unfold lets; rw [if_neg (by omega), if_pos (by omega), if_neg (by omega), if_neg (by omega), if_pos (by omega)]]; unfold letsU; repeat (first | rw [if_pos (by omega)] | rw [if_neg (by omega)]))
                                          · refine CW.skip ?_
                                            refine QW.then_ ?_
                                            refine CW.seq ?_
                                            refine CW.seq ?_
                                            refine CW.region ?_
                                            refine RG.vl rfl rfl rfl (Ev.move rfl rfl) ?_
                                            refine RG.vl rfl rfl rfl (Ev.leq rfl rfl rfl) ?_
                                            refine RG.done ?_
                                            refine QW.then_ ?_
                                            refine CW.condP rfl (fun hc28 => ?_) (fun hc28 => ?_)
                                            · refine CW.seq ?_
                                              refine CW.region ?_
                                              refine RG.vl rfl rfl rfl (Ev.assign rfl rfl) ?_
                                              refine RG.done ?_
                                              refine QW.then_ ?_
                                              refine CW.ret ?_
                                              refine QW.thenRet ?_
                                              refine QW.ret1 rfl rfl ?_
                                              have hB := hB0
                                              refine ⟨congrArg (fun x : List UInt8 => Value.string ⟨x.toArray⟩) (show ([85] : List UInt8) = twoL c (l.drop (i + 1)) from ?_), hB⟩
                                              rw [twoL_some (show (l.drop (i + 1))[0]? = some d by rw [List.getElem?_drop]; exact hd)]
                                              first
                                                | (exfalso; omega)
                                                | (rw [show lets c.toNat d.toNat = letsU (d.toNat - 32) from by unfold lets; rw [if_neg (by omega), if_pos (by omega), if_neg (by omega), if_neg (by omega), if_pos (by omega)]]; unfold letsU; repeat (first | rw [if_pos (by omega)] | rw [if_neg (by omega)]))
                                            · refine CW.skip ?_
                                              refine QW.then_ ?_
                                              refine CW.seq ?_
                                              refine CW.seq ?_
                                              refine CW.region ?_
                                              refine RG.vl rfl rfl rfl (Ev.move rfl rfl) ?_
                                              refine RG.vl rfl rfl rfl (Ev.eqI rfl rfl rfl) ?_
                                              refine RG.done ?_
                                              refine QW.then_ ?_
                                              refine CW.condP rfl (fun hc29 => ?_) (fun hc29 => ?_)
                                              · refine CW.seq ?_
                                                refine CW.region ?_
                                                refine RG.vl rfl rfl rfl (Ev.assign rfl rfl) ?_
                                                refine RG.done ?_
                                                refine QW.then_ ?_
                                                refine CW.ret ?_
                                                refine QW.thenRet ?_
                                                refine QW.ret1 rfl rfl ?_
                                                have hB := hB0
                                                refine ⟨congrArg (fun x : List UInt8 => Value.string ⟨x.toArray⟩) (show ([85, 69] : List UInt8) = twoL c (l.drop (i + 1)) from ?_), hB⟩
                                                rw [twoL_some (show (l.drop (i + 1))[0]? = some d by rw [List.getElem?_drop]; exact hd)]
                                                first
                                                  | (exfalso; omega)
                                                  | (rw [show lets c.toNat d.toNat = letsU (d.toNat - 32) from by unfold lets; rw [if_neg (by omega), if_pos (by omega), if_neg (by omega), if_neg (by omega), if_pos (by omega)]]; unfold letsU; repeat (first | rw [if_pos (by omega)] | rw [if_neg (by omega)]))
                                              · refine CW.skip ?_
                                                refine QW.then_ ?_
                                                refine CW.seq ?_
                                                refine CW.seq ?_
                                                refine CW.region ?_
                                                refine RG.vl rfl rfl rfl (Ev.move rfl rfl) ?_
                                                refine RG.vl rfl rfl rfl (Ev.eqI rfl rfl rfl) ?_
                                                refine RG.done ?_
                                                refine QW.then_ ?_
                                                refine CW.condP rfl (fun hc30 => ?_) (fun hc30 => ?_)
                                                · refine CW.seq ?_
                                                  refine CW.region ?_
                                                  refine RG.vl rfl rfl rfl (Ev.assign rfl rfl) ?_
                                                  refine RG.done ?_
                                                  refine QW.then_ ?_
                                                  refine CW.ret ?_
                                                  refine QW.thenRet ?_
                                                  refine QW.ret1 rfl rfl ?_
                                                  have hB := hB0
                                                  refine ⟨congrArg (fun x : List UInt8 => Value.string ⟨x.toArray⟩) (show ([89] : List UInt8) = twoL c (l.drop (i + 1)) from ?_), hB⟩
                                                  rw [twoL_some (show (l.drop (i + 1))[0]? = some d by rw [List.getElem?_drop]; exact hd)]
                                                  first
                                                    | (exfalso; omega)
                                                    | (rw [show lets c.toNat d.toNat = letsU (d.toNat - 32) from by unfold lets; rw [if_neg (by omega), if_pos (by omega), if_neg (by omega), if_neg (by omega), if_pos (by omega)]]; unfold letsU; repeat (first | rw [if_pos (by omega)] | rw [if_neg (by omega)]))
                                                · refine CW.skip ?_
                                                  refine QW.then_ ?_
                                                  refine CW.seq ?_
                                                  refine CW.region ?_
                                                  refine RG.vl rfl rfl rfl (Ev.assign rfl rfl) ?_
                                                  refine RG.done ?_
                                                  refine QW.then_ ?_
                                                  refine CW.ret ?_
                                                  refine QW.ret1 rfl rfl ?_
                                                  have hB := hB0
                                                  refine ⟨congrArg (fun x : List UInt8 => Value.string ⟨x.toArray⟩) (show ([84, 72] : List UInt8) = twoL c (l.drop (i + 1)) from ?_), hB⟩
                                                  rw [twoL_some (show (l.drop (i + 1))[0]? = some d by rw [List.getElem?_drop]; exact hd)]
                                                  first
                                                    | (exfalso; omega)
                                                    | (rw [show lets c.toNat d.toNat = letsU (d.toNat - 32) from by unfold lets; rw [if_neg (by omega), if_pos (by omega), if_neg (by omega), if_neg (by omega), if_pos (by omega)]]; unfold letsU; repeat (first | rw [if_pos (by omega)] | rw [if_neg (by omega)]))
                · refine CW.skip ?_
                  refine QW.then_ ?_
                  refine CW.seq ?_
                  refine CW.seq ?_
                  refine CW.region ?_
                  refine RG.vl rfl rfl rfl (Ev.move rfl rfl) ?_
                  refine RG.vl rfl rfl rfl (Ev.leq rfl rfl rfl) ?_
                  refine RG.vl rfl rfl rfl (Ev.move rfl rfl) ?_
                  refine RG.split (d := 60) rfl (fun hg31 => ?_) (fun hg31 => ?_)
                  · refine RG.pass rfl rfl rfl ?_
                    refine RG.pass rfl rfl rfl ?_
                    refine RG.vl rfl rfl rfl (Ev.pickT rfl rfl rfl) ?_
                    refine RG.done ?_
                    refine QW.then_ ?_
                    refine CW.condT rfl ?_
                    refine CW.seq ?_
                    refine CW.region ?_
                    refine RG.vl rfl rfl rfl (Ev.assign rfl rfl) ?_
                    refine RG.done ?_
                    refine QW.then_ ?_
                    refine CW.ret ?_
                    refine QW.thenRet ?_
                    refine QW.ret1 rfl rfl ?_
                    have hB := hB0
                    refine ⟨congrArg (fun x : List UInt8 => Value.string ⟨x.toArray⟩) (show ([65] : List UInt8) = twoL c (l.drop (i + 1)) from ?_), hB⟩
                    rw [twoL_some (show (l.drop (i + 1))[0]? = some d by rw [List.getElem?_drop]; exact hd)]
                    first
                      | (exfalso; omega)
                      | (rw [show lets c.toNat d.toNat = letsU (d.toNat) from by unfold lets; rw [if_neg (by omega), if_pos (by omega), if_neg (by omega), if_neg (by omega), if_neg (by omega)]]; unfold letsU; repeat (first | rw [if_pos (by omega)] | rw [if_neg (by omega)]))
                  · refine RG.vl rfl rfl rfl (Ev.move rfl rfl) ?_
                    refine RG.vl rfl rfl rfl (Ev.eqI rfl rfl rfl) ?_
                    refine RG.vl rfl rfl rfl (Ev.pickF rfl rfl rfl) ?_
                    refine RG.done ?_
                    refine QW.then_ ?_
                    refine CW.condP rfl (fun hc32 => ?_) (fun hc32 => ?_)
                    · refine CW.seq ?_
                      refine CW.region ?_
                      refine RG.vl rfl rfl rfl (Ev.assign rfl rfl) ?_
                      refine RG.done ?_
                      refine QW.then_ ?_
                      refine CW.ret ?_
                      refine QW.thenRet ?_
                      refine QW.ret1 rfl rfl ?_
                      have hB := hB0
                      refine ⟨congrArg (fun x : List UInt8 => Value.string ⟨x.toArray⟩) (show ([65] : List UInt8) = twoL c (l.drop (i + 1)) from ?_), hB⟩
                      rw [twoL_some (show (l.drop (i + 1))[0]? = some d by rw [List.getElem?_drop]; exact hd)]
                      first
                        | (exfalso; omega)
                        | (rw [show lets c.toNat d.toNat = letsU (d.toNat) from by unfold lets; rw [if_neg (by omega), if_pos (by omega), if_neg (by omega), if_neg (by omega), if_neg (by omega)]]; unfold letsU; repeat (first | rw [if_pos (by omega)] | rw [if_neg (by omega)]))
                    · refine CW.skip ?_
                      refine QW.then_ ?_
                      refine CW.seq ?_
                      refine CW.seq ?_
                      refine CW.region ?_
                      refine RG.vl rfl rfl rfl (Ev.move rfl rfl) ?_
                      refine RG.vl rfl rfl rfl (Ev.eqI rfl rfl rfl) ?_
                      refine RG.vl rfl rfl rfl (Ev.move rfl rfl) ?_
                      refine RG.split (d := 66) rfl (fun hg33 => ?_) (fun hg33 => ?_)
                      · refine RG.pass rfl rfl rfl ?_
                        refine RG.pass rfl rfl rfl ?_
                        refine RG.vl rfl rfl rfl (Ev.pickT rfl rfl rfl) ?_
                        refine RG.done ?_
                        refine QW.sub (S' := [(4, _), (5, _), (69, _)]) ⟨rfl, rfl, rfl, trivial⟩ ?_
                        refine QW.then_ ?_
                        refine CW.condT rfl ?_
                        refine CW.seq ?_
                        refine CW.region ?_
                        refine RG.vl rfl rfl rfl (Ev.assign rfl rfl) ?_
                        refine RG.done ?_
                        refine QW.then_ ?_
                        refine CW.ret ?_
                        refine QW.thenRet ?_
                        refine QW.ret1 rfl rfl ?_
                        have hB := hB0
                        refine ⟨congrArg (fun x : List UInt8 => Value.string ⟨x.toArray⟩) (show ([65, 69] : List UInt8) = twoL c (l.drop (i + 1)) from ?_), hB⟩
                        rw [twoL_some (show (l.drop (i + 1))[0]? = some d by rw [List.getElem?_drop]; exact hd)]
                        first
                          | (exfalso; omega)
                          | (rw [show lets c.toNat d.toNat = letsU (d.toNat) from by unfold lets; rw [if_neg (by omega), if_pos (by omega), if_neg (by omega), if_neg (by omega), if_neg (by omega)]]; unfold letsU; repeat (first | rw [if_pos (by omega)] | rw [if_neg (by omega)]))
                      · refine RG.vl rfl rfl rfl (Ev.move rfl rfl) ?_
                        refine RG.vl rfl rfl rfl (Ev.eqI rfl rfl rfl) ?_
                        refine RG.vl rfl rfl rfl (Ev.pickF rfl rfl rfl) ?_
                        refine RG.done ?_
                        refine QW.sub (S' := [(4, _), (5, _), (69, _)]) ⟨rfl, rfl, rfl, trivial⟩ ?_
                        refine QW.then_ ?_
                        refine CW.condP rfl (fun hc34 => ?_) (fun hc34 => ?_)
                        · refine CW.seq ?_
                          refine CW.region ?_
                          refine RG.vl rfl rfl rfl (Ev.assign rfl rfl) ?_
                          refine RG.done ?_
                          refine QW.then_ ?_
                          refine CW.ret ?_
                          refine QW.thenRet ?_
                          refine QW.ret1 rfl rfl ?_
                          have hB := hB0
                          refine ⟨congrArg (fun x : List UInt8 => Value.string ⟨x.toArray⟩) (show ([65, 69] : List UInt8) = twoL c (l.drop (i + 1)) from ?_), hB⟩
                          rw [twoL_some (show (l.drop (i + 1))[0]? = some d by rw [List.getElem?_drop]; exact hd)]
                          first
                            | (exfalso; omega)
                            | (rw [show lets c.toNat d.toNat = letsU (d.toNat) from by unfold lets; rw [if_neg (by omega), if_pos (by omega), if_neg (by omega), if_neg (by omega), if_neg (by omega)]]; unfold letsU; repeat (first | rw [if_pos (by omega)] | rw [if_neg (by omega)]))
                        · refine CW.skip ?_
                          refine QW.then_ ?_
                          refine CW.seq ?_
                          refine CW.seq ?_
                          refine CW.region ?_
                          refine RG.vl rfl rfl rfl (Ev.move rfl rfl) ?_
                          refine RG.vl rfl rfl rfl (Ev.eqI rfl rfl rfl) ?_
                          refine RG.done ?_
                          refine QW.then_ ?_
                          refine CW.condP rfl (fun hc35 => ?_) (fun hc35 => ?_)
                          · refine CW.seq ?_
                            refine CW.region ?_
                            refine RG.vl rfl rfl rfl (Ev.assign rfl rfl) ?_
                            refine RG.done ?_
                            refine QW.then_ ?_
                            refine CW.ret ?_
                            refine QW.thenRet ?_
                            refine QW.ret1 rfl rfl ?_
                            have hB := hB0
                            refine ⟨congrArg (fun x : List UInt8 => Value.string ⟨x.toArray⟩) (show ([67] : List UInt8) = twoL c (l.drop (i + 1)) from ?_), hB⟩
                            rw [twoL_some (show (l.drop (i + 1))[0]? = some d by rw [List.getElem?_drop]; exact hd)]
                            first
                              | (exfalso; omega)
                              | (rw [show lets c.toNat d.toNat = letsU (d.toNat) from by unfold lets; rw [if_neg (by omega), if_pos (by omega), if_neg (by omega), if_neg (by omega), if_neg (by omega)]]; unfold letsU; repeat (first | rw [if_pos (by omega)] | rw [if_neg (by omega)]))
                          · refine CW.skip ?_
                            refine QW.then_ ?_
                            refine CW.seq ?_
                            refine CW.seq ?_
                            refine CW.region ?_
                            refine RG.vl rfl rfl rfl (Ev.move rfl rfl) ?_
                            refine RG.vl rfl rfl rfl (Ev.leq rfl rfl rfl) ?_
                            refine RG.done ?_
                            refine QW.then_ ?_
                            refine CW.condP rfl (fun hc36 => ?_) (fun hc36 => ?_)
                            · refine CW.seq ?_
                              refine CW.region ?_
                              refine RG.vl rfl rfl rfl (Ev.assign rfl rfl) ?_
                              refine RG.done ?_
                              refine QW.then_ ?_
                              refine CW.ret ?_
                              refine QW.thenRet ?_
                              refine QW.ret1 rfl rfl ?_
                              have hB := hB0
                              refine ⟨congrArg (fun x : List UInt8 => Value.string ⟨x.toArray⟩) (show ([69] : List UInt8) = twoL c (l.drop (i + 1)) from ?_), hB⟩
                              rw [twoL_some (show (l.drop (i + 1))[0]? = some d by rw [List.getElem?_drop]; exact hd)]
                              first
                                | (exfalso; omega)
                                | (rw [show lets c.toNat d.toNat = letsU (d.toNat) from by unfold lets; rw [if_neg (by omega), if_pos (by omega), if_neg (by omega), if_neg (by omega), if_neg (by omega)]]; unfold letsU; repeat (first | rw [if_pos (by omega)] | rw [if_neg (by omega)]))
                            · refine CW.skip ?_
                              refine QW.then_ ?_
                              refine CW.seq ?_
                              refine CW.seq ?_
                              refine CW.region ?_
                              refine RG.vl rfl rfl rfl (Ev.move rfl rfl) ?_
                              refine RG.vl rfl rfl rfl (Ev.leq rfl rfl rfl) ?_
                              refine RG.done ?_
                              refine QW.then_ ?_
                              refine CW.condP rfl (fun hc37 => ?_) (fun hc37 => ?_)
                              · refine CW.seq ?_
                                refine CW.region ?_
                                refine RG.vl rfl rfl rfl (Ev.assign rfl rfl) ?_
                                refine RG.done ?_
                                refine QW.then_ ?_
                                refine CW.ret ?_
                                refine QW.thenRet ?_
                                refine QW.ret1 rfl rfl ?_
                                have hB := hB0
                                refine ⟨congrArg (fun x : List UInt8 => Value.string ⟨x.toArray⟩) (show ([73] : List UInt8) = twoL c (l.drop (i + 1)) from ?_), hB⟩
                                rw [twoL_some (show (l.drop (i + 1))[0]? = some d by rw [List.getElem?_drop]; exact hd)]
                                first
                                  | (exfalso; omega)
                                  | (rw [show lets c.toNat d.toNat = letsU (d.toNat) from by unfold lets; rw [if_neg (by omega), if_pos (by omega), if_neg (by omega), if_neg (by omega), if_neg (by omega)]]; unfold letsU; repeat (first | rw [if_pos (by omega)] | rw [if_neg (by omega)]))
                              · refine CW.skip ?_
                                refine QW.then_ ?_
                                refine CW.seq ?_
                                refine CW.seq ?_
                                refine CW.region ?_
                                refine RG.vl rfl rfl rfl (Ev.move rfl rfl) ?_
                                refine RG.vl rfl rfl rfl (Ev.eqI rfl rfl rfl) ?_
                                refine RG.done ?_
                                refine QW.then_ ?_
                                refine CW.condP rfl (fun hc38 => ?_) (fun hc38 => ?_)
                                · refine CW.seq ?_
                                  refine CW.region ?_
                                  refine RG.vl rfl rfl rfl (Ev.assign rfl rfl) ?_
                                  refine RG.done ?_
                                  refine QW.then_ ?_
                                  refine CW.ret ?_
                                  refine QW.thenRet ?_
                                  refine QW.ret1 rfl rfl ?_
                                  have hB := hB0
                                  refine ⟨congrArg (fun x : List UInt8 => Value.string ⟨x.toArray⟩) (show ([68] : List UInt8) = twoL c (l.drop (i + 1)) from ?_), hB⟩
                                  rw [twoL_some (show (l.drop (i + 1))[0]? = some d by rw [List.getElem?_drop]; exact hd)]
                                  first
                                    | (exfalso; omega)
                                    | (rw [show lets c.toNat d.toNat = letsU (d.toNat) from by unfold lets; rw [if_neg (by omega), if_pos (by omega), if_neg (by omega), if_neg (by omega), if_neg (by omega)]]; unfold letsU; repeat (first | rw [if_pos (by omega)] | rw [if_neg (by omega)]))
                                · refine CW.skip ?_
                                  refine QW.then_ ?_
                                  refine CW.seq ?_
                                  refine CW.seq ?_
                                  refine CW.region ?_
                                  refine RG.vl rfl rfl rfl (Ev.move rfl rfl) ?_
                                  refine RG.vl rfl rfl rfl (Ev.eqI rfl rfl rfl) ?_
                                  refine RG.done ?_
                                  refine QW.then_ ?_
                                  refine CW.condP rfl (fun hc39 => ?_) (fun hc39 => ?_)
                                  · refine CW.seq ?_
                                    refine CW.region ?_
                                    refine RG.vl rfl rfl rfl (Ev.assign rfl rfl) ?_
                                    refine RG.done ?_
                                    refine QW.then_ ?_
                                    refine CW.ret ?_
                                    refine QW.thenRet ?_
                                    refine QW.ret1 rfl rfl ?_
                                    have hB := hB0
                                    refine ⟨congrArg (fun x : List UInt8 => Value.string ⟨x.toArray⟩) (show ([78] : List UInt8) = twoL c (l.drop (i + 1)) from ?_), hB⟩
                                    rw [twoL_some (show (l.drop (i + 1))[0]? = some d by rw [List.getElem?_drop]; exact hd)]
                                    first
                                      | (exfalso; omega)
                                      | (rw [show lets c.toNat d.toNat = letsU (d.toNat) from by unfold lets; rw [if_neg (by omega), if_pos (by omega), if_neg (by omega), if_neg (by omega), if_neg (by omega)]]; unfold letsU; repeat (first | rw [if_pos (by omega)] | rw [if_neg (by omega)]))
                                  · refine CW.skip ?_
                                    refine QW.then_ ?_
                                    refine CW.seq ?_
                                    refine CW.seq ?_
                                    refine CW.region ?_
                                    refine RG.vl rfl rfl rfl (Ev.move rfl rfl) ?_
                                    refine RG.vl rfl rfl rfl (Ev.leq rfl rfl rfl) ?_
                                    refine RG.vl rfl rfl rfl (Ev.move rfl rfl) ?_
                                    refine RG.split (d := 82) rfl (fun hg40 => ?_) (fun hg40 => ?_)
                                    · refine RG.pass rfl rfl rfl ?_
                                      refine RG.pass rfl rfl rfl ?_
                                      refine RG.vl rfl rfl rfl (Ev.pickT rfl rfl rfl) ?_
                                      refine RG.done ?_
                                      refine QW.sub (S' := [(4, _), (5, _), (85, _)]) ⟨rfl, rfl, rfl, trivial⟩ ?_
                                      refine QW.then_ ?_
                                      refine CW.condT rfl ?_
                                      refine CW.seq ?_
                                      refine CW.region ?_
                                      refine RG.vl rfl rfl rfl (Ev.assign rfl rfl) ?_
                                      refine RG.done ?_
                                      refine QW.then_ ?_
                                      refine CW.ret ?_
                                      refine QW.thenRet ?_
                                      refine QW.ret1 rfl rfl ?_
                                      have hB := hB0
                                      refine ⟨congrArg (fun x : List UInt8 => Value.string ⟨x.toArray⟩) (show ([79] : List UInt8) = twoL c (l.drop (i + 1)) from ?_), hB⟩
                                      rw [twoL_some (show (l.drop (i + 1))[0]? = some d by rw [List.getElem?_drop]; exact hd)]
                                      first
                                        | (exfalso; omega)
                                        | (rw [show lets c.toNat d.toNat = letsU (d.toNat) from by unfold lets; rw [if_neg (by omega), if_pos (by omega), if_neg (by omega), if_neg (by omega), if_neg (by omega)]]; unfold letsU; repeat (first | rw [if_pos (by omega)] | rw [if_neg (by omega)]))
                                    · refine RG.vl rfl rfl rfl (Ev.move rfl rfl) ?_
                                      refine RG.vl rfl rfl rfl (Ev.eqI rfl rfl rfl) ?_
                                      refine RG.vl rfl rfl rfl (Ev.pickF rfl rfl rfl) ?_
                                      refine RG.done ?_
                                      refine QW.sub (S' := [(4, _), (5, _), (85, _)]) ⟨rfl, rfl, rfl, trivial⟩ ?_
                                      refine QW.then_ ?_
                                      refine CW.condP rfl (fun hc41 => ?_) (fun hc41 => ?_)
                                      · refine CW.seq ?_
                                        refine CW.region ?_
                                        refine RG.vl rfl rfl rfl (Ev.assign rfl rfl) ?_
                                        refine RG.done ?_
                                        refine QW.then_ ?_
                                        refine CW.ret ?_
                                        refine QW.thenRet ?_
                                        refine QW.ret1 rfl rfl ?_
                                        have hB := hB0
                                        refine ⟨congrArg (fun x : List UInt8 => Value.string ⟨x.toArray⟩) (show ([79] : List UInt8) = twoL c (l.drop (i + 1)) from ?_), hB⟩
                                        rw [twoL_some (show (l.drop (i + 1))[0]? = some d by rw [List.getElem?_drop]; exact hd)]
                                        first
                                          | (exfalso; omega)
                                          | (rw [show lets c.toNat d.toNat = letsU (d.toNat) from by unfold lets; rw [if_neg (by omega), if_pos (by omega), if_neg (by omega), if_neg (by omega), if_neg (by omega)]]; unfold letsU; repeat (first | rw [if_pos (by omega)] | rw [if_neg (by omega)]))
                                      · refine CW.skip ?_
                                        refine QW.then_ ?_
                                        refine CW.seq ?_
                                        refine CW.seq ?_
                                        refine CW.region ?_
                                        refine RG.vl rfl rfl rfl (Ev.move rfl rfl) ?_
                                        refine RG.vl rfl rfl rfl (Ev.eqI rfl rfl rfl) ?_
                                        refine RG.done ?_
                                        refine QW.then_ ?_
                                        refine CW.condP rfl (fun hc42 => ?_) (fun hc42 => ?_)
                                        · refine CW.seq ?_
                                          refine CW.region ?_
                                          refine RG.vl rfl rfl rfl (Ev.assign rfl rfl) ?_
                                          refine RG.done ?_
                                          refine QW.then_ ?_
                                          refine CW.ret ?_
                                          refine QW.thenRet ?_
                                          refine QW.ret1 rfl rfl ?_
                                          have hB := hB0
                                          refine ⟨congrArg (fun x : List UInt8 => Value.string ⟨x.toArray⟩) (show ([79, 69] : List UInt8) = twoL c (l.drop (i + 1)) from ?_), hB⟩
                                          rw [twoL_some (show (l.drop (i + 1))[0]? = some d by rw [List.getElem?_drop]; exact hd)]
                                          first
                                            | (exfalso; omega)
                                            | (rw [show lets c.toNat d.toNat = letsU (d.toNat) from by unfold lets; rw [if_neg (by omega), if_pos (by omega), if_neg (by omega), if_neg (by omega), if_neg (by omega)]]; unfold letsU; repeat (first | rw [if_pos (by omega)] | rw [if_neg (by omega)]))
                                        · refine CW.skip ?_
                                          refine QW.then_ ?_
                                          refine CW.seq ?_
                                          refine CW.seq ?_
                                          refine CW.region ?_
                                          refine RG.vl rfl rfl rfl (Ev.move rfl rfl) ?_
                                          refine RG.vl rfl rfl rfl (Ev.eqI rfl rfl rfl) ?_
                                          refine RG.done ?_
                                          refine QW.then_ ?_
                                          refine CW.condP rfl (fun hc43 => ?_) (fun hc43 => ?_)
                                          · refine CW.seq ?_
                                            refine CW.region ?_
                                            refine RG.vl rfl rfl rfl (Ev.assign rfl rfl) ?_
                                            refine RG.done ?_
                                            refine QW.then_ ?_
                                            refine CW.ret ?_
                                            refine QW.thenRet ?_
                                            refine QW.ret1 rfl rfl ?_
                                            have hB := hB0
                                            refine ⟨congrArg (fun x : List UInt8 => Value.string ⟨x.toArray⟩) (show ([] : List UInt8) = twoL c (l.drop (i + 1)) from ?_), hB⟩
                                            rw [twoL_some (show (l.drop (i + 1))[0]? = some d by rw [List.getElem?_drop]; exact hd)]
                                            first
                                              | (exfalso; omega)
                                              | (rw [show lets c.toNat d.toNat = letsU (d.toNat) from by unfold lets; rw [if_neg (by omega), if_pos (by omega), if_neg (by omega), if_neg (by omega), if_neg (by omega)]]; unfold letsU; repeat (first | rw [if_pos (by omega)] | rw [if_neg (by omega)]))
                                          · refine CW.skip ?_
                                            refine QW.then_ ?_
                                            refine CW.seq ?_
                                            refine CW.seq ?_
                                            refine CW.region ?_
                                            refine RG.vl rfl rfl rfl (Ev.move rfl rfl) ?_
                                            refine RG.vl rfl rfl rfl (Ev.leq rfl rfl rfl) ?_
                                            refine RG.done ?_
                                            refine QW.then_ ?_
                                            refine CW.condP rfl (fun hc44 => ?_) (fun hc44 => ?_)
                                            · refine CW.seq ?_
                                              refine CW.region ?_
                                              refine RG.vl rfl rfl rfl (Ev.assign rfl rfl) ?_
                                              refine RG.done ?_
                                              refine QW.then_ ?_
                                              refine CW.ret ?_
                                              refine QW.thenRet ?_
                                              refine QW.ret1 rfl rfl ?_
                                              have hB := hB0
                                              refine ⟨congrArg (fun x : List UInt8 => Value.string ⟨x.toArray⟩) (show ([85] : List UInt8) = twoL c (l.drop (i + 1)) from ?_), hB⟩
                                              rw [twoL_some (show (l.drop (i + 1))[0]? = some d by rw [List.getElem?_drop]; exact hd)]
                                              first
                                                | (exfalso; omega)
                                                | (rw [show lets c.toNat d.toNat = letsU (d.toNat) from by unfold lets; rw [if_neg (by omega), if_pos (by omega), if_neg (by omega), if_neg (by omega), if_neg (by omega)]]; unfold letsU; repeat (first | rw [if_pos (by omega)] | rw [if_neg (by omega)]))
                                            · refine CW.skip ?_
                                              refine QW.then_ ?_
                                              refine CW.seq ?_
                                              refine CW.seq ?_
                                              refine CW.region ?_
                                              refine RG.vl rfl rfl rfl (Ev.move rfl rfl) ?_
                                              refine RG.vl rfl rfl rfl (Ev.eqI rfl rfl rfl) ?_
                                              refine RG.done ?_
                                              refine QW.then_ ?_
                                              refine CW.condP rfl (fun hc45 => ?_) (fun hc45 => ?_)
                                              · refine CW.seq ?_
                                                refine CW.region ?_
                                                refine RG.vl rfl rfl rfl (Ev.assign rfl rfl) ?_
                                                refine RG.done ?_
                                                refine QW.then_ ?_
                                                refine CW.ret ?_
                                                refine QW.thenRet ?_
                                                refine QW.ret1 rfl rfl ?_
                                                have hB := hB0
                                                refine ⟨congrArg (fun x : List UInt8 => Value.string ⟨x.toArray⟩) (show ([85, 69] : List UInt8) = twoL c (l.drop (i + 1)) from ?_), hB⟩
                                                rw [twoL_some (show (l.drop (i + 1))[0]? = some d by rw [List.getElem?_drop]; exact hd)]
                                                first
                                                  | (exfalso; omega)
                                                  | (rw [show lets c.toNat d.toNat = letsU (d.toNat) from by unfold lets; rw [if_neg (by omega), if_pos (by omega), if_neg (by omega), if_neg (by omega), if_neg (by omega)]]; unfold letsU; repeat (first | rw [if_pos (by omega)] | rw [if_neg (by omega)]))
                                              · refine CW.skip ?_
                                                refine QW.then_ ?_
                                                refine CW.seq ?_
                                                refine CW.seq ?_
                                                refine CW.region ?_
                                                refine RG.vl rfl rfl rfl (Ev.move rfl rfl) ?_
                                                refine RG.vl rfl rfl rfl (Ev.eqI rfl rfl rfl) ?_
                                                refine RG.done ?_
                                                refine QW.then_ ?_
                                                refine CW.condP rfl (fun hc46 => ?_) (fun hc46 => ?_)
                                                · refine CW.seq ?_
                                                  refine CW.region ?_
                                                  refine RG.vl rfl rfl rfl (Ev.assign rfl rfl) ?_
                                                  refine RG.done ?_
                                                  refine QW.then_ ?_
                                                  refine CW.ret ?_
                                                  refine QW.thenRet ?_
                                                  refine QW.ret1 rfl rfl ?_
                                                  have hB := hB0
                                                  refine ⟨congrArg (fun x : List UInt8 => Value.string ⟨x.toArray⟩) (show ([89] : List UInt8) = twoL c (l.drop (i + 1)) from ?_), hB⟩
                                                  rw [twoL_some (show (l.drop (i + 1))[0]? = some d by rw [List.getElem?_drop]; exact hd)]
                                                  first
                                                    | (exfalso; omega)
                                                    | (rw [show lets c.toNat d.toNat = letsU (d.toNat) from by unfold lets; rw [if_neg (by omega), if_pos (by omega), if_neg (by omega), if_neg (by omega), if_neg (by omega)]]; unfold letsU; repeat (first | rw [if_pos (by omega)] | rw [if_neg (by omega)]))
                                                · refine CW.skip ?_
                                                  refine QW.then_ ?_
                                                  refine CW.seq ?_
                                                  refine CW.region ?_
                                                  refine RG.vl rfl rfl rfl (Ev.assign rfl rfl) ?_
                                                  refine RG.done ?_
                                                  refine QW.then_ ?_
                                                  refine CW.ret ?_
                                                  refine QW.ret1 rfl rfl ?_
                                                  have hB := hB0
                                                  refine ⟨congrArg (fun x : List UInt8 => Value.string ⟨x.toArray⟩) (show ([84, 72] : List UInt8) = twoL c (l.drop (i + 1)) from ?_), hB⟩
                                                  rw [twoL_some (show (l.drop (i + 1))[0]? = some d by rw [List.getElem?_drop]; exact hd)]
                                                  first
                                                    | (exfalso; omega)
                                                    | (rw [show lets c.toNat d.toNat = letsU (d.toNat) from by unfold lets; rw [if_neg (by omega), if_pos (by omega), if_neg (by omega), if_neg (by omega), if_neg (by omega)]]; unfold letsU; repeat (first | rw [if_pos (by omega)] | rw [if_neg (by omega)]))

set_option maxRecDepth 100000 in
set_option maxHeartbeats 1000000 in
theorem kept_ret (c : UInt8) (w : World)  :
    Ret Try.prog 47 [.int .u8 (c.toNat : Int)] w (fun v w' => v = .bool (isPlain c.toNat) ∧ Ex w w') := by
  have hB0 : Ex w w := Ex.rfl_ _
  refine Ret.of Try.func47 rfl Try.ntmps47 rfl ?_
  refine CW.seq ?_
  refine CW.region ?_
  refine RG.vl rfl rfl rfl (Ev.assign rfl rfl) ?_
  refine RG.done ?_
  refine QW.then_ ?_
  refine CW.seq ?_
  refine CW.region ?_
  refine RG.vl rfl rfl rfl (Ev.move rfl rfl) ?_
  refine RG.vl rfl rfl rfl (Ev.geq rfl rfl rfl) ?_
  refine RG.vl rfl rfl rfl (Ev.move rfl rfl) ?_
  refine RG.split (d := 5) rfl (fun hg1 => ?_) (fun hg1 => ?_)
  · refine RG.vl rfl rfl rfl (Ev.move rfl rfl) ?_
    refine RG.vl rfl rfl rfl (Ev.leq rfl rfl rfl) ?_
    refine RG.vl rfl rfl rfl (Ev.pickT rfl rfl rfl) ?_
    refine RG.vl rfl rfl rfl (Ev.move rfl rfl) ?_
    refine RG.split (d := 9) rfl (fun hg2 => ?_) (fun hg2 => ?_)
    · refine RG.pass rfl rfl rfl ?_
      refine RG.pass rfl rfl rfl ?_
      refine RG.pass rfl rfl rfl ?_
      refine RG.pass rfl rfl rfl ?_
      refine RG.pass rfl rfl rfl ?_
      refine RG.pass rfl rfl rfl ?_
      refine RG.vl rfl rfl rfl (Ev.pickT rfl rfl rfl) ?_
      refine RG.vl rfl rfl rfl (Ev.move rfl rfl) ?_
      refine RG.pass rfl rfl rfl ?_
      refine RG.pass rfl rfl rfl ?_
      refine RG.vl rfl rfl rfl (Ev.pickT rfl rfl rfl) ?_
      refine RG.vl rfl rfl rfl (Ev.move rfl rfl) ?_
      refine RG.pass rfl rfl rfl ?_
      refine RG.pass rfl rfl rfl ?_
      refine RG.vl rfl rfl rfl (Ev.pickT rfl rfl rfl) ?_
      refine RG.vl rfl rfl rfl (Ev.assign rfl rfl) ?_
      refine RG.done ?_
      refine QW.sub (S' := [(2, _)]) ⟨rfl, trivial⟩ ?_
      refine QW.then_ ?_
      refine CW.ret ?_
      refine QW.ret1 rfl rfl ?_
      have hB := hB0
      refine ⟨congrArg Value.bool ?_, hB⟩
      rw [Bool.eq_iff_iff, isPlain_iff]
      first
        | (rw [decide_eq_true_iff]; omega)
        | exact ⟨fun _ => by omega, fun _ => rfl⟩
        | exact ⟨fun h => (by cases h), fun h => by omega⟩
    · refine RG.vl rfl rfl rfl (Ev.move rfl rfl) ?_
      refine RG.vl rfl rfl rfl (Ev.geq rfl rfl rfl) ?_
      refine RG.vl rfl rfl rfl (Ev.move rfl rfl) ?_
      refine RG.split (d := 12) rfl (fun hg3 => ?_) (fun hg3 => ?_)
      · refine RG.vl rfl rfl rfl (Ev.move rfl rfl) ?_
        refine RG.vl rfl rfl rfl (Ev.leq rfl rfl rfl) ?_
        refine RG.vl rfl rfl rfl (Ev.pickT rfl rfl rfl) ?_
        refine RG.vl rfl rfl rfl (Ev.pickF rfl rfl rfl) ?_
        refine RG.vl rfl rfl rfl (Ev.move rfl rfl) ?_
        refine RG.split (d := 17) rfl (fun hg4 => ?_) (fun hg4 => ?_)
        · refine RG.pass rfl rfl rfl ?_
          refine RG.pass rfl rfl rfl ?_
          refine RG.vl rfl rfl rfl (Ev.pickT rfl rfl rfl) ?_
          refine RG.vl rfl rfl rfl (Ev.move rfl rfl) ?_
          refine RG.pass rfl rfl rfl ?_
          refine RG.pass rfl rfl rfl ?_
          refine RG.vl rfl rfl rfl (Ev.pickT rfl rfl rfl) ?_
          refine RG.vl rfl rfl rfl (Ev.assign rfl rfl) ?_
          refine RG.done ?_
          refine QW.sub (S' := [(2, _)]) ⟨rfl, trivial⟩ ?_
          refine QW.then_ ?_
          refine CW.ret ?_
          refine QW.ret1 rfl rfl ?_
          have hB := hB0
          refine ⟨congrArg Value.bool ?_, hB⟩
          rw [Bool.eq_iff_iff, isPlain_iff]
          first
            | (rw [decide_eq_true_iff]; omega)
            | exact ⟨fun _ => by omega, fun _ => rfl⟩
            | exact ⟨fun h => (by cases h), fun h => by omega⟩
        · refine RG.vl rfl rfl rfl (Ev.move rfl rfl) ?_
          refine RG.vl rfl rfl rfl (Ev.eqI rfl rfl rfl) ?_
          refine RG.vl rfl rfl rfl (Ev.pickF rfl rfl rfl) ?_
          refine RG.vl rfl rfl rfl (Ev.move rfl rfl) ?_
          refine RG.split (d := 21) rfl (fun hg5 => ?_) (fun hg5 => ?_)
          · refine RG.pass rfl rfl rfl ?_
            refine RG.pass rfl rfl rfl ?_
            refine RG.vl rfl rfl rfl (Ev.pickT rfl rfl rfl) ?_
            refine RG.vl rfl rfl rfl (Ev.assign rfl rfl) ?_
            refine RG.done ?_
            refine QW.sub (S' := [(2, _)]) ⟨rfl, trivial⟩ ?_
            refine QW.then_ ?_
            refine CW.ret ?_
            refine QW.ret1 rfl rfl ?_
            have hB := hB0
            refine ⟨congrArg Value.bool ?_, hB⟩
            rw [Bool.eq_iff_iff, isPlain_iff]
            first
              | (rw [decide_eq_true_iff]; omega)
              | exact ⟨fun _ => by omega, fun _ => rfl⟩
              | exact ⟨fun h => (by cases h), fun h => by omega⟩
          · refine RG.vl rfl rfl rfl (Ev.move rfl rfl) ?_
            refine RG.vl rfl rfl rfl (Ev.eqI rfl rfl rfl) ?_
            refine RG.vl rfl rfl rfl (Ev.pickF rfl rfl rfl) ?_
            refine RG.vl rfl rfl rfl (Ev.assign rfl rfl) ?_
            refine RG.done ?_
            refine QW.sub (S' := [(2, _)]) ⟨rfl, trivial⟩ ?_
            refine QW.then_ ?_
            refine CW.ret ?_
            refine QW.ret1 rfl rfl ?_
            have hB := hB0
            refine ⟨congrArg Value.bool ?_, hB⟩
            rw [Bool.eq_iff_iff, isPlain_iff]
            first
              | (rw [decide_eq_true_iff]; omega)
              | exact ⟨fun _ => by omega, fun _ => rfl⟩
              | exact ⟨fun h => (by cases h), fun h => by omega⟩
      · refine RG.pass rfl rfl rfl ?_
        refine RG.pass rfl rfl rfl ?_
        refine RG.vl rfl rfl rfl (Ev.pickF rfl rfl rfl) ?_
        refine RG.vl rfl rfl rfl (Ev.pickF rfl rfl rfl) ?_
        refine RG.vl rfl rfl rfl (Ev.move rfl rfl) ?_
        refine RG.vl rfl rfl rfl (Ev.move rfl rfl) ?_
        refine RG.vl rfl rfl rfl (Ev.eqI rfl rfl rfl) ?_
        refine RG.vl rfl rfl rfl (Ev.pickF rfl rfl rfl) ?_
        refine RG.vl rfl rfl rfl (Ev.move rfl rfl) ?_
        refine RG.split (d := 21) rfl (fun hg6 => ?_) (fun hg6 => ?_)
        · refine RG.pass rfl rfl rfl ?_
          refine RG.pass rfl rfl rfl ?_
          refine RG.vl rfl rfl rfl (Ev.pickT rfl rfl rfl) ?_
          refine RG.vl rfl rfl rfl (Ev.assign rfl rfl) ?_
          refine RG.done ?_
          refine QW.sub (S' := [(2, _)]) ⟨rfl, trivial⟩ ?_
          refine QW.then_ ?_
          refine CW.ret ?_
          refine QW.ret1 rfl rfl ?_
          have hB := hB0
          refine ⟨congrArg Value.bool ?_, hB⟩
          rw [Bool.eq_iff_iff, isPlain_iff]
          first
            | (rw [decide_eq_true_iff]; omega)
            | exact ⟨fun _ => by omega, fun _ => rfl⟩
            | exact ⟨fun h => (by cases h), fun h => by omega⟩
        · refine RG.vl rfl rfl rfl (Ev.move rfl rfl) ?_
          refine RG.vl rfl rfl rfl (Ev.eqI rfl rfl rfl) ?_
          refine RG.vl rfl rfl rfl (Ev.pickF rfl rfl rfl) ?_
          refine RG.vl rfl rfl rfl (Ev.assign rfl rfl) ?_
          refine RG.done ?_
          refine QW.sub (S' := [(2, _)]) ⟨rfl, trivial⟩ ?_
          refine QW.then_ ?_
          refine CW.ret ?_
          refine QW.ret1 rfl rfl ?_
          have hB := hB0
          refine ⟨congrArg Value.bool ?_, hB⟩
          rw [Bool.eq_iff_iff, isPlain_iff]
          first
            | (rw [decide_eq_true_iff]; omega)
            | exact ⟨fun _ => by omega, fun _ => rfl⟩
            | exact ⟨fun h => (by cases h), fun h => by omega⟩
  · refine RG.pass rfl rfl rfl ?_
    refine RG.pass rfl rfl rfl ?_
    refine RG.vl rfl rfl rfl (Ev.pickF rfl rfl rfl) ?_
    refine RG.vl rfl rfl rfl (Ev.move rfl rfl) ?_
    refine RG.vl rfl rfl rfl (Ev.move rfl rfl) ?_
    refine RG.vl rfl rfl rfl (Ev.geq rfl rfl rfl) ?_
    refine RG.vl rfl rfl rfl (Ev.move rfl rfl) ?_
    refine RG.split (d := 12) rfl (fun hg7 => ?_) (fun hg7 => ?_)
    · refine RG.vl rfl rfl rfl (Ev.move rfl rfl) ?_
      refine RG.vl rfl rfl rfl (Ev.leq rfl rfl rfl) ?_
      refine RG.vl rfl rfl rfl (Ev.pickT rfl rfl rfl) ?_
      refine RG.vl rfl rfl rfl (Ev.pickF rfl rfl rfl) ?_
      refine RG.vl rfl rfl rfl (Ev.move rfl rfl) ?_
      refine RG.split (d := 17) rfl (fun hg8 => ?_) (fun hg8 => ?_)
      · refine RG.pass rfl rfl rfl ?_
        refine RG.pass rfl rfl rfl ?_
        refine RG.vl rfl rfl rfl (Ev.pickT rfl rfl rfl) ?_
        refine RG.vl rfl rfl rfl (Ev.move rfl rfl) ?_
        refine RG.pass rfl rfl rfl ?_
        refine RG.pass rfl rfl rfl ?_
        refine RG.vl rfl rfl rfl (Ev.pickT rfl rfl rfl) ?_
        refine RG.vl rfl rfl rfl (Ev.assign rfl rfl) ?_
        refine RG.done ?_
        refine QW.sub (S' := [(2, _)]) ⟨rfl, trivial⟩ ?_
        refine QW.then_ ?_
        refine CW.ret ?_
        refine QW.ret1 rfl rfl ?_
        have hB := hB0
        refine ⟨congrArg Value.bool ?_, hB⟩
        rw [Bool.eq_iff_iff, isPlain_iff]
        first
          | (rw [decide_eq_true_iff]; omega)
          | exact ⟨fun _ => by omega, fun _ => rfl⟩
          | exact ⟨fun h => (by cases h), fun h => by omega⟩
      · refine RG.vl rfl rfl rfl (Ev.move rfl rfl) ?_
        refine RG.vl rfl rfl rfl (Ev.eqI rfl rfl rfl) ?_
        refine RG.vl rfl rfl rfl (Ev.pickF rfl rfl rfl) ?_
        refine RG.vl rfl rfl rfl (Ev.move rfl rfl) ?_
        refine RG.split (d := 21) rfl (fun hg9 => ?_) (fun hg9 => ?_)
        · refine RG.pass rfl rfl rfl ?_
          refine RG.pass rfl rfl rfl ?_
          refine RG.vl rfl rfl rfl (Ev.pickT rfl rfl rfl) ?_
          refine RG.vl rfl rfl rfl (Ev.assign rfl rfl) ?_
          refine RG.done ?_
          refine QW.sub (S' := [(2, _)]) ⟨rfl, trivial⟩ ?_
          refine QW.then_ ?_
          refine CW.ret ?_
          refine QW.ret1 rfl rfl ?_
          have hB := hB0
          refine ⟨congrArg Value.bool ?_, hB⟩
          rw [Bool.eq_iff_iff, isPlain_iff]
          first
            | (rw [decide_eq_true_iff]; omega)
            | exact ⟨fun _ => by omega, fun _ => rfl⟩
            | exact ⟨fun h => (by cases h), fun h => by omega⟩
        · refine RG.vl rfl rfl rfl (Ev.move rfl rfl) ?_
          refine RG.vl rfl rfl rfl (Ev.eqI rfl rfl rfl) ?_
          refine RG.vl rfl rfl rfl (Ev.pickF rfl rfl rfl) ?_
          refine RG.vl rfl rfl rfl (Ev.assign rfl rfl) ?_
          refine RG.done ?_
          refine QW.sub (S' := [(2, _)]) ⟨rfl, trivial⟩ ?_
          refine QW.then_ ?_
          refine CW.ret ?_
          refine QW.ret1 rfl rfl ?_
          have hB := hB0
          refine ⟨congrArg Value.bool ?_, hB⟩
          rw [Bool.eq_iff_iff, isPlain_iff]
          first
            | (rw [decide_eq_true_iff]; omega)
            | exact ⟨fun _ => by omega, fun _ => rfl⟩
            | exact ⟨fun h => (by cases h), fun h => by omega⟩
    · refine RG.pass rfl rfl rfl ?_
      refine RG.pass rfl rfl rfl ?_
      refine RG.vl rfl rfl rfl (Ev.pickF rfl rfl rfl) ?_
      refine RG.vl rfl rfl rfl (Ev.pickF rfl rfl rfl) ?_
      refine RG.vl rfl rfl rfl (Ev.move rfl rfl) ?_
      refine RG.vl rfl rfl rfl (Ev.move rfl rfl) ?_
      refine RG.vl rfl rfl rfl (Ev.eqI rfl rfl rfl) ?_
      refine RG.vl rfl rfl rfl (Ev.pickF rfl rfl rfl) ?_
      refine RG.vl rfl rfl rfl (Ev.move rfl rfl) ?_
      refine RG.split (d := 21) rfl (fun hg10 => ?_) (fun hg10 => ?_)
      · refine RG.pass rfl rfl rfl ?_
        refine RG.pass rfl rfl rfl ?_
        refine RG.vl rfl rfl rfl (Ev.pickT rfl rfl rfl) ?_
        refine RG.vl rfl rfl rfl (Ev.assign rfl rfl) ?_
        refine RG.done ?_
        refine QW.sub (S' := [(2, _)]) ⟨rfl, trivial⟩ ?_
        refine QW.then_ ?_
        refine CW.ret ?_
        refine QW.ret1 rfl rfl ?_
        have hB := hB0
        refine ⟨congrArg Value.bool ?_, hB⟩
        rw [Bool.eq_iff_iff, isPlain_iff]
        first
          | (rw [decide_eq_true_iff]; omega)
          | exact ⟨fun _ => by omega, fun _ => rfl⟩
          | exact ⟨fun h => (by cases h), fun h => by omega⟩
      · refine RG.vl rfl rfl rfl (Ev.move rfl rfl) ?_
        refine RG.vl rfl rfl rfl (Ev.eqI rfl rfl rfl) ?_
        refine RG.vl rfl rfl rfl (Ev.pickF rfl rfl rfl) ?_
        refine RG.vl rfl rfl rfl (Ev.assign rfl rfl) ?_
        refine RG.done ?_
        refine QW.sub (S' := [(2, _)]) ⟨rfl, trivial⟩ ?_
        refine QW.then_ ?_
        refine CW.ret ?_
        refine QW.ret1 rfl rfl ?_
        have hB := hB0
        refine ⟨congrArg Value.bool ?_, hB⟩
        rw [Bool.eq_iff_iff, isPlain_iff]
        first
          | (rw [decide_eq_true_iff]; omega)
          | exact ⟨fun _ => by omega, fun _ => rfl⟩
          | exact ⟨fun h => (by cases h), fun h => by omega⟩

set_option maxRecDepth 100000 in
set_option maxHeartbeats 4000000 in
theorem rfold_ret (l : List UInt8) (w : World) (hlen : l.length ≤ 10000) :
    Ret Try.prog 35 [.string ⟨l.toArray⟩] w (fun v w' => v = .string ⟨(foldL l).toArray⟩ ∧ Ex w w') := by
  have hsz := sbytes l
  have hwl := wordsL_len (cvL l) []
  have hjl := jn_len l
  have hB0 : Ex w w := Ex.rfl_ _
  refine Ret.of Try.func35 rfl Try.ntmps35 rfl ?_
  refine CW.seq ?_
  refine CW.region ?_
  refine RG.vl rfl rfl rfl (Ev.assign rfl rfl) ?_
  refine RG.done ?_
  refine QW.then_ ?_
  refine CW.seq ?_
  refine CW.region ?_
  refine RG.vl rfl rfl rfl (Ev.assign rfl rfl) ?_
  refine RG.done ?_
  refine QW.then_ ?_
  refine CW.seq ?_
  refine CW.region ?_
  refine RG.vl rfl rfl rfl (Ev.assign rfl rfl) ?_
  refine RG.done ?_
  refine QW.then_ ?_
  refine CW.seq ?_
  refine CW.block ?_
  refine CW.loop2 [(0, _), (2, _)] ⟨rfl, rfl, trivial⟩ (fun (i : Nat) (long : List UInt8) => [(4, .int .i64 (i : Int)), (3, .string ⟨long.toArray⟩)]) (fun i long w' => (i ≤ l.length ∧ cv l.length (l.drop i) long = cvL l ∧ long.length ≤ 2 * i) ∧ Ex w w') (fun i long => l.length - i) (0) ([]) ⟨rfl, rfl, trivial⟩ ⟨⟨Nat.zero_le _, rfl, by simp⟩, hB0⟩ ?_
  rintro i long wl1 ⟨⟨hi, hcv, hol⟩, hxwl1⟩
  refine CW.sub (S' := [(4, _), (3, _), (0, _), (2, _)]) ⟨rfl, rfl, rfl, rfl, trivial⟩ ?_
  refine CW.seq ?_
  refine CW.seq ?_
  refine CW.region ?_
  refine RG.vl rfl rfl rfl (Ev.move rfl rfl) ?_
  refine RG.vl rfl rfl rfl (Ev.move rfl rfl) ?_
  refine RG.vl rfl rfl rfl (Ev.lenStr rfl rfl rfl Try.underlying9) ?_
  refine RG.vl rfl rfl rfl (Ev.lss rfl rfl rfl) ?_
  refine RG.done ?_
  refine QW.then_ ?_
  refine CW.condP rfl (fun hc2 => ?_) (fun hc2 => ?_)
  · refine CW.skip ?_
    refine QW.then_ ?_
    refine CW.block ?_
    refine CW.seq ?_
    obtain ⟨c, hc⟩ : ∃ c, l[i]? = some c := ⟨_, List.getElem?_eq_getElem (by omega)⟩
    have hn1 := one1_n c (l.drop (i + 1))
    have ha := one1_at hc
    have hT := cvt_len c (l.drop (i + 1))
    have hc8 := c.toNat_lt
    have hll := sbytes long
    have htw := twoL_len c (l.drop (i + 1))
    refine CW.region ?_
    refine RG.vl rfl rfl rfl (Ev.move rfl rfl) ?_
    refine RG.vl rfl rfl rfl (Ev.move rfl rfl) ?_
    refine RG.call rfl rfl rfl rfl rfl rfl rfl en_46 (two_ret l i c _ hc (by omega)) ?_
    rintro _ w3 ⟨rfl, hx3⟩
    replace hxwl1 := Ex.tr hxwl1 hx3
    have hE4 := hx3
    refine RG.vl rfl rfl rfl (Ev.assign rfl rfl) ?_
    refine RG.done ?_
    refine QW.then_ ?_
    refine CW.seq ?_
    refine CW.seq ?_
    refine CW.region ?_
    refine RG.vl rfl rfl rfl (Ev.move rfl rfl) ?_
    refine RG.vl rfl rfl rfl (Ev.move rfl rfl) ?_
    refine RG.vl rfl rfl rfl (Ev.byteAt rfl rfl rfl Try.underlying9 (by omega) (hc)) ?_
    refine RG.call rfl rfl rfl rfl rfl rfl rfl en_47 (kept_ret c _) ?_
    rintro _ w5 ⟨rfl, hx5⟩
    replace hxwl1 := Ex.tr hxwl1 hx5
    replace hE4 := Ex.tr hE4 hx5
    have hE6 := hx5
    refine RG.done ?_
    refine QW.then_ ?_
    refine CW.cond rfl (fun hc7 => ?_) (fun hc7 => ?_)
    · have h1 := one1_plain (r := l.drop (i + 1)) ((isPlain_iff _).1 (show isPlain c.toNat = true by assumption))
      refine CW.region ?_
      refine RG.vl rfl rfl rfl (Ev.move rfl rfl) ?_
      refine RG.vl rfl rfl rfl (Ev.move rfl rfl) ?_
      refine RG.vl rfl rfl rfl (Ev.move rfl rfl) ?_
      refine RG.vl rfl rfl rfl (Ev.move rfl rfl) ?_
      refine RG.vl rfl rfl rfl (Ev.addI rfl rfl rfl (by omega)) ?_
      refine RG.vl rfl rfl rfl ((Ev.cutStr (i := i) (j := i + 1) rfl rfl Try.underlying9 rfl rfl (by omega) (by rw [sbytes]; omega)).conv (congrArg Value.string (bext hc))) ?_
      refine RG.vl rfl rfl rfl ((Ev.cat rfl rfl rfl (by rw [sbytes, sbytes]; show _ + 1 ≤ _; omega)).conv (congrArg Value.string (bx_cat long [c]))) ?_
      refine RG.vl rfl rfl rfl (Ev.assign rfl rfl) ?_
      refine RG.done ?_
      refine QW.sub (S' := [(0, _), (2, _), (3, _), (4, _)]) ⟨rfl, rfl, rfl, rfl, trivial⟩ ?_
      refine QW.then_ ?_
      refine CW.region ?_
      refine RG.vl rfl rfl rfl (Ev.move rfl rfl) ?_
      refine RG.vl rfl rfl rfl (Ev.addI rfl rfl rfl (by omega)) ?_
      refine RG.vl rfl rfl rfl (Ev.assign rfl rfl) ?_
      refine RG.done ?_
      refine QW.blockN ?_
      refine QW.round2 (i + (one1 c (l.drop (i + 1))).2) (long ++ cvt (one1 c (l.drop (i + 1))).1) ⟨congrArg (fun x => some (Value.int .i64 x)) (by rw [h1]; show _ = ((i + 1 : Nat) : Int); omega), by rw [h1]; rfl, trivial⟩ ⟨rfl, rfl, trivial⟩ ⟨⟨by omega, cv_at hc hcv, by rw [List.length_append]; omega⟩, (Ex.tr hB0 hxwl1)⟩ (by omega)
    · refine CW.seq ?_
      refine CW.region ?_
      refine RG.vl rfl rfl rfl (Ev.move rfl rfl) ?_
      refine RG.vl rfl rfl rfl (Ev.move rfl rfl) ?_
      refine RG.vl rfl rfl rfl (Ev.byteAt rfl rfl rfl Try.underlying9 (by omega) (hc)) ?_
      refine RG.vl rfl rfl rfl (Ev.geq rfl rfl rfl) ?_
      refine RG.vl rfl rfl rfl (Ev.move rfl rfl) ?_
      refine RG.split (d := 31) rfl (fun hg8 => ?_) (fun hg8 => ?_)
      · refine RG.vl rfl rfl rfl (Ev.move rfl rfl) ?_
        refine RG.vl rfl rfl rfl (Ev.move rfl rfl) ?_
        refine RG.vl rfl rfl rfl (Ev.byteAt rfl rfl rfl Try.underlying9 (by omega) (hc)) ?_
        refine RG.vl rfl rfl rfl (Ev.leq rfl rfl rfl) ?_
        refine RG.vl rfl rfl rfl (Ev.pickT rfl rfl rfl) ?_
        refine RG.done ?_
        refine QW.sub (S' := [(0, _), (2, _), (3, _), (4, _), (5, _), (36, _)]) ⟨rfl, rfl, rfl, rfl, rfl, rfl, trivial⟩ ?_
        refine QW.then_ ?_
        refine CW.condP rfl (fun hc9 => ?_) (fun hc9 => ?_)
        · have h1 := one1_small (c := c) (r := l.drop (i + 1)) (by omega)
          refine CW.region ?_
          refine RG.vl rfl rfl rfl (Ev.move rfl rfl) ?_
          refine RG.vl rfl rfl rfl (Ev.move rfl rfl) ?_
          refine RG.vl rfl rfl rfl (Ev.move rfl rfl) ?_
          refine RG.vl rfl rfl rfl (Ev.byteAt rfl rfl rfl Try.underlying9 (by omega) (hc)) ?_
          refine RG.vl rfl rfl rfl ((Ev.sub8 rfl rfl rfl (by omega)).conv (congrArg (Value.int .u8) (show (c.toNat : Int) - 32 = ((UInt8.ofNat (c.toNat - 32)).toNat : Int) by rw [UInt8.toNat_ofNat_of_lt' (show c.toNat - 32 < 256 by omega)]; omega))) ?_
          refine RG.litO (os := [.tmp 41]) (enc := encB) ([UInt8.ofNat (c.toNat - 32)]) rfl rfl rfl rfl rfl rfl rfl Try.underlying23 inf_5 rfl rfl rfl rfl rfl encB_len rfl rfl (fun v10 wk11 hxwk11 hown12 hnew13 => ?_)
          replace hxwl1 := Ex.tr hxwl1 hxwk11
          replace hE4 := Ex.tr hE4 hxwk11
          replace hE6 := Ex.tr hE6 hxwk11
          have hE14 := hxwk11
          refine RG.vl rfl rfl rfl (Ev.toStr rfl rfl Try.underlying23 Try.underlying5 Try.underlying9 ((Own.rdl hown12 encB_len))) ?_
          refine RG.vl rfl rfl rfl ((Ev.cat rfl rfl rfl (by rw [sbytes, sbytes]; show _ + 1 ≤ _; omega)).conv (congrArg Value.string (bx_cat long [UInt8.ofNat (c.toNat - 32)]))) ?_
          refine RG.vl rfl rfl rfl (Ev.assign rfl rfl) ?_
          refine RG.done ?_
          refine QW.then_ ?_
          refine CW.region ?_
          refine RG.vl rfl rfl rfl (Ev.move rfl rfl) ?_
          refine RG.vl rfl rfl rfl (Ev.addI rfl rfl rfl (by omega)) ?_
          refine RG.vl rfl rfl rfl (Ev.assign rfl rfl) ?_
          refine RG.done ?_
          refine QW.blockN ?_
          refine QW.round2 (i + (one1 c (l.drop (i + 1))).2) (long ++ cvt (one1 c (l.drop (i + 1))).1) ⟨congrArg (fun x => some (Value.int .i64 x)) (by rw [h1]; show _ = ((i + 1 : Nat) : Int); omega), by rw [h1]; rfl, trivial⟩ ⟨rfl, rfl, trivial⟩ ⟨⟨by omega, cv_at hc hcv, by rw [List.length_append]; omega⟩, (Ex.tr hB0 hxwl1)⟩ (by omega)
        · refine CW.seq ?_
          refine CW.region ?_
          refine RG.vl rfl rfl rfl (Ev.move rfl rfl) ?_
          refine RG.vl rfl rfl rfl (Ev.neS rfl rfl rfl) ?_
          refine RG.done ?_
          refine QW.then_ ?_
          refine CW.condP rfl (fun hc15 => ?_) (fun hc15 => ?_)
          · refine CW.seq ?_
            have hne : twoL c (l.drop (i + 1)) ≠ [] := fun e => absurd (binj.2 e) (by assumption)
            have h1 := one1_tw (r := l.drop (i + 1)) (show isPlain c.toNat = false by assumption) (by omega)
            rw [if_neg hne] at h1
            refine CW.region ?_
            refine RG.vl rfl rfl rfl (Ev.move rfl rfl) ?_
            refine RG.vl rfl rfl rfl (Ev.move rfl rfl) ?_
            refine RG.vl rfl rfl rfl ((Ev.cat rfl rfl rfl (by rw [sbytes, sbytes]; omega)).conv (congrArg Value.string (bx_cat long (twoL c (l.drop (i + 1)))))) ?_
            refine RG.vl rfl rfl rfl (Ev.assign rfl rfl) ?_
            refine RG.done ?_
            refine QW.then_ ?_
            refine CW.region ?_
            refine RG.vl rfl rfl rfl (Ev.move rfl rfl) ?_
            refine RG.vl rfl rfl rfl (Ev.addI rfl rfl rfl (by omega)) ?_
            refine RG.vl rfl rfl rfl (Ev.assign rfl rfl) ?_
            refine RG.done ?_
            refine QW.then_ ?_
            refine CW.region ?_
            refine RG.vl rfl rfl rfl (Ev.move rfl rfl) ?_
            refine RG.vl rfl rfl rfl (Ev.addI rfl rfl rfl (by omega)) ?_
            refine RG.vl rfl rfl rfl (Ev.assign rfl rfl) ?_
            refine RG.done ?_
            refine QW.blockN ?_
            refine QW.round2 (i + (one1 c (l.drop (i + 1))).2) (long ++ cvt (one1 c (l.drop (i + 1))).1) ⟨congrArg (fun x => some (Value.int .i64 x)) (by rw [h1]; show _ = ((i + 2 : Nat) : Int); omega), by rw [h1]; show _ = some (Value.string ⟨(long ++ cvt (twoL c (l.drop (i + 1)))).toArray⟩); unfold cvt; rw [if_neg hne]; rfl, trivial⟩ ⟨rfl, rfl, trivial⟩ ⟨⟨by omega, cv_at hc hcv, by rw [List.length_append]; omega⟩, (Ex.tr hB0 hxwl1)⟩ (by omega)
          · have hne : twoL c (l.drop (i + 1)) = [] := (binj (b := [])).1 (Decidable.not_not.1 (by assumption))
            have h1 := one1_tw (r := l.drop (i + 1)) (show isPlain c.toNat = false by assumption) (by omega)
            rw [if_pos hne] at h1
            refine CW.region ?_
            refine RG.vl rfl rfl rfl (Ev.move rfl rfl) ?_
            refine RG.vl rfl rfl rfl ((Ev.cat rfl rfl rfl (by rw [sbytes, sbytes]; show _ + 1 ≤ _; omega)).conv (congrArg Value.string (bx_cat long [32]))) ?_
            refine RG.vl rfl rfl rfl (Ev.assign rfl rfl) ?_
            refine RG.done ?_
            refine QW.then_ ?_
            refine CW.region ?_
            refine RG.vl rfl rfl rfl (Ev.move rfl rfl) ?_
            refine RG.vl rfl rfl rfl (Ev.addI rfl rfl rfl (by omega)) ?_
            refine RG.vl rfl rfl rfl (Ev.assign rfl rfl) ?_
            refine RG.done ?_
            refine QW.blockN ?_
            refine QW.round2 (i + (one1 c (l.drop (i + 1))).2) (long ++ cvt (one1 c (l.drop (i + 1))).1) ⟨congrArg (fun x => some (Value.int .i64 x)) (by rw [h1]; show _ = ((i + 1 : Nat) : Int); omega), by rw [h1]; rfl, trivial⟩ ⟨rfl, rfl, trivial⟩ ⟨⟨by omega, cv_at hc hcv, by rw [List.length_append]; omega⟩, (Ex.tr hB0 hxwl1)⟩ (by omega)
      · refine RG.pass rfl rfl rfl ?_
        refine RG.pass rfl rfl rfl ?_
        refine RG.pass rfl rfl rfl ?_
        refine RG.pass rfl rfl rfl ?_
        refine RG.vl rfl rfl rfl (Ev.pickF rfl rfl rfl) ?_
        refine RG.done ?_
        refine QW.sub (S' := [(0, _), (2, _), (3, _), (4, _), (5, _), (36, _)]) ⟨rfl, rfl, rfl, rfl, rfl, rfl, trivial⟩ ?_
        refine QW.then_ ?_
        refine CW.condF rfl ?_
        refine CW.seq ?_
        refine CW.region ?_
        refine RG.vl rfl rfl rfl (Ev.move rfl rfl) ?_
        refine RG.vl rfl rfl rfl (Ev.neS rfl rfl rfl) ?_
        refine RG.done ?_
        refine QW.then_ ?_
        refine CW.condP rfl (fun hc16 => ?_) (fun hc16 => ?_)
        · refine CW.seq ?_
          have hne : twoL c (l.drop (i + 1)) ≠ [] := fun e => absurd (binj.2 e) (by assumption)
          have h1 := one1_tw (r := l.drop (i + 1)) (show isPlain c.toNat = false by assumption) (by omega)
          rw [if_neg hne] at h1
          refine CW.region ?_
          refine RG.vl rfl rfl rfl (Ev.move rfl rfl) ?_
          refine RG.vl rfl rfl rfl (Ev.move rfl rfl) ?_
          refine RG.vl rfl rfl rfl ((Ev.cat rfl rfl rfl (by rw [sbytes, sbytes]; omega)).conv (congrArg Value.string (bx_cat long (twoL c (l.drop (i + 1)))))) ?_
          refine RG.vl rfl rfl rfl (Ev.assign rfl rfl) ?_
          refine RG.done ?_
          refine QW.then_ ?_
          refine CW.region ?_
          refine RG.vl rfl rfl rfl (Ev.move rfl rfl) ?_
          refine RG.vl rfl rfl rfl (Ev.addI rfl rfl rfl (by omega)) ?_
          refine RG.vl rfl rfl rfl (Ev.assign rfl rfl) ?_
          refine RG.done ?_
          refine QW.then_ ?_
          refine CW.region ?_
          refine RG.vl rfl rfl rfl (Ev.move rfl rfl) ?_
          refine RG.vl rfl rfl rfl (Ev.addI rfl rfl rfl (by omega)) ?_
          refine RG.vl rfl rfl rfl (Ev.assign rfl rfl) ?_
          refine RG.done ?_
          refine QW.blockN ?_
          refine QW.round2 (i + (one1 c (l.drop (i + 1))).2) (long ++ cvt (one1 c (l.drop (i + 1))).1) ⟨congrArg (fun x => some (Value.int .i64 x)) (by rw [h1]; show _ = ((i + 2 : Nat) : Int); omega), by rw [h1]; show _ = some (Value.string ⟨(long ++ cvt (twoL c (l.drop (i + 1)))).toArray⟩); unfold cvt; rw [if_neg hne]; rfl, trivial⟩ ⟨rfl, rfl, trivial⟩ ⟨⟨by omega, cv_at hc hcv, by rw [List.length_append]; omega⟩, (Ex.tr hB0 hxwl1)⟩ (by omega)
        · have hne : twoL c (l.drop (i + 1)) = [] := (binj (b := [])).1 (Decidable.not_not.1 (by assumption))
          have h1 := one1_tw (r := l.drop (i + 1)) (show isPlain c.toNat = false by assumption) (by omega)
          rw [if_pos hne] at h1
          refine CW.region ?_
          refine RG.vl rfl rfl rfl (Ev.move rfl rfl) ?_
          refine RG.vl rfl rfl rfl ((Ev.cat rfl rfl rfl (by rw [sbytes, sbytes]; show _ + 1 ≤ _; omega)).conv (congrArg Value.string (bx_cat long [32]))) ?_
          refine RG.vl rfl rfl rfl (Ev.assign rfl rfl) ?_
          refine RG.done ?_
          refine QW.then_ ?_
          refine CW.region ?_
          refine RG.vl rfl rfl rfl (Ev.move rfl rfl) ?_
          refine RG.vl rfl rfl rfl (Ev.addI rfl rfl rfl (by omega)) ?_
          refine RG.vl rfl rfl rfl (Ev.assign rfl rfl) ?_
          refine RG.done ?_
          refine QW.blockN ?_
          refine QW.round2 (i + (one1 c (l.drop (i + 1))).2) (long ++ cvt (one1 c (l.drop (i + 1))).1) ⟨congrArg (fun x => some (Value.int .i64 x)) (by rw [h1]; show _ = ((i + 1 : Nat) : Int); omega), by rw [h1]; rfl, trivial⟩ ⟨rfl, rfl, trivial⟩ ⟨⟨by omega, cv_at hc hcv, by rw [List.length_append]; omega⟩, (Ex.tr hB0 hxwl1)⟩ (by omega)
  · refine CW.exit ?_
    refine QW.thenExit ?_
    refine QW.thenExit ?_
    refine QW.blockHit ?_
    refine QW.then_ ?_
    refine CW.seq ?_
    obtain rfl : i = l.length := by omega
    rw [List.drop_length, cv_nil] at hcv
    subst hcv
    have hwl3 : (wordsL (cvL l)).length ≤ (cvL l).length + 1 := wordsL_len (cvL l) []
    refine CW.region ?_
    refine RG.vl rfl rfl rfl (Ev.move rfl rfl) ?_
    refine RG.call rfl rfl rfl rfl rfl rfl rfl en_36 (rwords_ret (cvL l) _ (by omega)) ?_
    have hpre17 := (Ex.tr hB0 hxwl1)
    rintro wv w17 ⟨hwv, hx17⟩
    replace hxwl1 := Ex.tr hxwl1 hx17
    have hE18 := hx17
    refine RG.vl rfl rfl rfl (Ev.assign rfl rfl) ?_
    refine RG.done ?_
    refine QW.then_ ?_
    refine CW.seq ?_
    refine CW.region ?_
    refine RG.vl rfl rfl rfl (Ev.assign rfl rfl) ?_
    refine RG.done ?_
    refine QW.then_ ?_
    refine CW.seq ?_
    refine CW.seq ?_
    refine CW.region ?_
    refine RG.vl rfl rfl rfl (Ev.assign rfl rfl) ?_
    refine RG.done ?_
    refine QW.then_ ?_
    refine CW.block ?_
    have hR19 := (Ex.tr hB0 hxwl1)
    have hR20 := hE18
    refine CW.loop1 [(2, _), (6, _)] ⟨rfl, rfl, trivial⟩ (fun (j : Nat) => [(8, .int .i64 (j : Int)), (7, .string ⟨(jn ((wordsL (cvL l)).take j)).toArray⟩)]) (fun j w' => (j ≤ (wordsL (cvL l)).length) ∧ Ex w17 w') (fun j => (wordsL (cvL l)).length - j) (0) ⟨rfl, rfl, trivial⟩ ⟨Nat.zero_le _, (Ex.rfl_ _)⟩ ?_
    rintro j wl21 ⟨hj, hxwl21⟩
    refine CW.sub (S' := [(8, _), (7, _), (2, _), (6, _)]) ⟨rfl, rfl, rfl, rfl, trivial⟩ ?_
    refine CW.seq ?_
    refine CW.seq ?_
    refine CW.region ?_
    refine RG.vl rfl rfl rfl (Ev.move rfl rfl) ?_
    refine RG.vl rfl rfl rfl (Ev.move rfl rfl) ?_
    refine RG.vl rfl rfl rfl (Ev.lenL rfl rfl rfl Try.underlying32 (((Own.ext hwv hxwl21).rdl encT_len))) ?_
    refine RG.vl rfl rfl rfl (Ev.lss rfl rfl rfl) ?_
    refine RG.done ?_
    refine QW.then_ ?_
    refine CW.condP rfl (fun hc22 => ?_) (fun hc22 => ?_)
    · refine CW.skip ?_
      refine QW.then_ ?_
      refine CW.seq ?_
      refine CW.block ?_
      refine CW.seq ?_
      refine CW.seq ?_
      obtain ⟨x, hx⟩ : ∃ x, (wordsL (cvL l))[j]? = some x := ⟨_, List.getElem?_eq_getElem (by omega)⟩
      have hjm := jn_more hx
      have hj1 := jn_take (wordsL (cvL l)) j
      have hxw := jn_word hx
      refine CW.region ?_
      refine RG.vl rfl rfl rfl (Ev.move rfl rfl) ?_
      refine RG.vl rfl rfl rfl (Ev.gtr rfl rfl rfl) ?_
      refine RG.done ?_
      refine QW.then_ ?_
      refine CW.condP rfl (fun hc23 => ?_) (fun hc23 => ?_)
      · refine CW.region ?_
        refine RG.vl rfl rfl rfl (Ev.move rfl rfl) ?_
        refine RG.vl rfl rfl rfl ((Ev.cat rfl rfl rfl (by rw [sbytes, sbytes]; show _ + 1 ≤ _; omega)).conv (congrArg Value.string (bx_cat _ [32]))) ?_
        refine RG.vl rfl rfl rfl (Ev.assign rfl rfl) ?_
        refine RG.done ?_
        refine QW.then_ ?_
        refine CW.region ?_
        refine RG.vl rfl rfl rfl (Ev.move rfl rfl) ?_
        refine RG.vl rfl rfl rfl (Ev.move rfl rfl) ?_
        refine RG.vl rfl rfl rfl (Ev.move rfl rfl) ?_
        refine RG.idxO rfl rfl rfl rfl rfl rfl Try.underlying32 sz_9 encT_len ((Own.ext hwv hxwl21)) (hx) (fun g25 hg25 hBg25 hp24b hp24 => ?_)
        refine RG.vl rfl rfl rfl (Ev.ld0 rfl rfl Try.underlying9 rfl (hp24) (rfl)) ?_
        refine RG.vl rfl rfl rfl ((Ev.cat rfl rfl rfl (by first | (rw [sbytes, sbytes, List.length_append]; show _ + 1 + _ ≤ _; omega) | (rw [sbytes, sbytes]; omega))).conv (congrArg Value.string (bx_cat _ x))) ?_
        refine RG.vl rfl rfl rfl (Ev.assign rfl rfl) ?_
        refine RG.done ?_
        refine QW.sub (S' := [(2, _), (6, _), (7, _), (8, _)]) ⟨rfl, rfl, rfl, rfl, trivial⟩ ?_
        refine QW.blockN ?_
        refine QW.then_ ?_
        refine CW.region ?_
        refine RG.vl rfl rfl rfl (Ev.move rfl rfl) ?_
        refine RG.vl rfl rfl rfl (Ev.addI rfl rfl rfl (by omega)) ?_
        refine RG.vl rfl rfl rfl (Ev.assign rfl rfl) ?_
        refine RG.done ?_
        refine QW.round1 (j + 1) ⟨rfl, by rw [hjm, if_neg (by omega)]; rfl, trivial⟩ ⟨rfl, rfl, trivial⟩ ⟨by omega, hxwl21⟩ (by omega)
      · refine CW.skip ?_
        refine QW.then_ ?_
        refine CW.region ?_
        refine RG.vl rfl rfl rfl (Ev.move rfl rfl) ?_
        refine RG.vl rfl rfl rfl (Ev.move rfl rfl) ?_
        refine RG.vl rfl rfl rfl (Ev.move rfl rfl) ?_
        refine RG.idxO rfl rfl rfl rfl rfl rfl Try.underlying32 sz_9 encT_len ((Own.ext hwv hxwl21)) (hx) (fun g27 hg27 hBg27 hp26b hp26 => ?_)
        refine RG.vl rfl rfl rfl (Ev.ld0 rfl rfl Try.underlying9 rfl (hp26) (rfl)) ?_
        refine RG.vl rfl rfl rfl ((Ev.cat rfl rfl rfl (by first | (rw [sbytes, sbytes, List.length_append]; show _ + 1 + _ ≤ _; omega) | (rw [sbytes, sbytes]; omega))).conv (congrArg Value.string (bx_cat _ x))) ?_
        refine RG.vl rfl rfl rfl (Ev.assign rfl rfl) ?_
        refine RG.done ?_
        refine QW.blockN ?_
        refine QW.then_ ?_
        refine CW.region ?_
        refine RG.vl rfl rfl rfl (Ev.move rfl rfl) ?_
        refine RG.vl rfl rfl rfl (Ev.addI rfl rfl rfl (by omega)) ?_
        refine RG.vl rfl rfl rfl (Ev.assign rfl rfl) ?_
        refine RG.done ?_
        refine QW.sub (S' := [(2, _), (6, _), (7, _), (8, _)]) ⟨rfl, rfl, rfl, rfl, trivial⟩ ?_
        refine QW.round1 (j + 1) ⟨rfl, by rw [hjm, if_pos (by omega)]; rfl, trivial⟩ ⟨rfl, rfl, trivial⟩ ⟨by omega, hxwl21⟩ (by omega)
    · refine CW.exit ?_
      refine QW.thenExit ?_
      refine QW.thenExit ?_
      refine QW.blockHit ?_
      refine QW.then_ ?_
      refine CW.seq ?_
      refine CW.region ?_
      refine RG.vl rfl rfl rfl (Ev.move rfl rfl) ?_
      refine RG.vl rfl rfl rfl (Ev.assign rfl rfl) ?_
      refine RG.done ?_
      refine QW.then_ ?_
      refine CW.ret ?_
      refine QW.ret1 rfl rfl ?_
      have hB := (Ex.tr hR19 hxwl21)
      obtain rfl : j = (wordsL (cvL l)).length := by omega
      rw [List.take_length, fold_words]
      exact ⟨rfl, hB⟩

end Go.Proofs.Ytehlnkhbbnddmaa
