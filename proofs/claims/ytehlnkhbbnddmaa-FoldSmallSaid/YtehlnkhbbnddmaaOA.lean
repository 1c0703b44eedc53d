/- Walks (OA). Written by program. -/
import Derived.Test.YtehlnkhbbnddmaaT
import Derived.Test.YtehlnkhbbnddmaaOP
namespace Go.Proofs.Ytehlnkhbbnddmaa
open Go.RowKit
set_option maxRecDepth 100000 in
set_option maxHeartbeats 4000000 in
theorem letters_ret (a b : Nat) (w : World) (hb : b < 256) :
    Ret Try.prog 27 [.int .u8 (a : Int), .int .u8 (b : Int)] w (fun v w' => v = .string ⟨(lets a b).toArray⟩ ∧ Ex w w') := by
  have hB0 : Ex w w := Ex.rfl_ _
  refine Ret.of Try.func27 rfl Try.ntmps27 rfl ?_
  refine CW.seq ?_
  refine CW.region ?_
  refine RG.vl rfl rfl rfl (Ev.assign rfl rfl) ?_
  refine RG.done ?_
  refine QW.then_ ?_
  refine CW.seq ?_
  refine CW.seq ?_
  refine CW.region ?_
  refine RG.vl rfl rfl rfl (Ev.move rfl rfl) ?_
  refine RG.vl rfl rfl rfl (Ev.eqI rfl rfl rfl) ?_
  refine RG.done ?_
  refine QW.then_ ?_
  refine CW.condP rfl (fun hc1 => ?_) (fun hc1 => ?_)
  · refine CW.seq ?_
    refine CW.seq ?_
    refine CW.region ?_
    refine RG.vl rfl rfl rfl (Ev.move rfl rfl) ?_
    refine RG.done ?_
    refine QW.then_ ?_
    refine CW.block ?_
    refine CW.seq ?_
    refine CW.seq ?_
    refine CW.region ?_
    refine RG.vl rfl rfl rfl (Ev.eqI rfl rfl rfl) ?_
    refine RG.vl rfl rfl rfl (Ev.assign rfl rfl) ?_
    refine RG.done ?_
    refine QW.then_ ?_
    refine CW.condP rfl (fun hc2 => ?_) (fun hc2 => ?_)
    · refine CW.skip ?_
      refine QW.then_ ?_
      refine CW.condP rfl (fun hc3 => ?_) (fun hc3 => absurd hc2 hc3)
      refine CW.seq ?_
      refine CW.region ?_
      refine RG.vl rfl rfl rfl (Ev.assign rfl rfl) ?_
      refine RG.done ?_
      refine QW.then_ ?_
      refine CW.ret ?_
      refine QW.blockR ?_
      refine QW.thenRet ?_
      refine QW.thenRet ?_
      refine QW.ret1 rfl rfl ?_
      have hB := hB0
      refine ⟨congrArg (fun x : List UInt8 => Value.string ⟨x.toArray⟩) (show ([79, 69] : List UInt8) = lets a b from ?_), hB⟩
      unfold lets
      repeat (first | rw [if_pos (by omega)] | rw [if_neg (by omega)])
    · refine CW.region ?_
      refine RG.vl rfl rfl rfl (Ev.eqI rfl rfl rfl) ?_
      refine RG.vl rfl rfl rfl (Ev.assign rfl rfl) ?_
      refine RG.done ?_
      refine QW.then_ ?_
      refine CW.condP rfl (fun hc4 => ?_) (fun hc4 => ?_)
      · refine CW.seq ?_
        refine CW.region ?_
        refine RG.vl rfl rfl rfl (Ev.assign rfl rfl) ?_
        refine RG.done ?_
        refine QW.then_ ?_
        refine CW.ret ?_
        refine QW.blockR ?_
        refine QW.thenRet ?_
        refine QW.thenRet ?_
        refine QW.ret1 rfl rfl ?_
        have hB := hB0
        refine ⟨congrArg (fun x : List UInt8 => Value.string ⟨x.toArray⟩) (show ([79, 69] : List UInt8) = lets a b from ?_), hB⟩
        unfold lets
        repeat (first | rw [if_pos (by omega)] | rw [if_neg (by omega)])
      · refine CW.seq ?_
        refine CW.seq ?_
        refine CW.region ?_
        refine RG.vl rfl rfl rfl (Ev.eqI rfl rfl rfl) ?_
        refine RG.vl rfl rfl rfl (Ev.assign rfl rfl) ?_
        refine RG.done ?_
        refine QW.then_ ?_
        refine CW.condP rfl (fun hc5 => ?_) (fun hc5 => ?_)
        · refine CW.skip ?_
          refine QW.then_ ?_
          refine CW.condP rfl (fun hc6 => ?_) (fun hc6 => absurd hc5 hc6)
          refine CW.seq ?_
          refine CW.region ?_
          refine RG.vl rfl rfl rfl (Ev.assign rfl rfl) ?_
          refine RG.done ?_
          refine QW.then_ ?_
          refine CW.ret ?_
          refine QW.blockR ?_
          refine QW.thenRet ?_
          refine QW.thenRet ?_
          refine QW.ret1 rfl rfl ?_
          have hB := hB0
          refine ⟨congrArg (fun x : List UInt8 => Value.string ⟨x.toArray⟩) (show ([83] : List UInt8) = lets a b from ?_), hB⟩
          unfold lets
          repeat (first | rw [if_pos (by omega)] | rw [if_neg (by omega)])
        · refine CW.region ?_
          refine RG.vl rfl rfl rfl (Ev.eqI rfl rfl rfl) ?_
          refine RG.vl rfl rfl rfl (Ev.assign rfl rfl) ?_
          refine RG.done ?_
          refine QW.then_ ?_
          refine CW.condP rfl (fun hc7 => ?_) (fun hc7 => ?_)
          · refine CW.seq ?_
            refine CW.region ?_
            refine RG.vl rfl rfl rfl (Ev.assign rfl rfl) ?_
            refine RG.done ?_
            refine QW.then_ ?_
            refine CW.ret ?_
            refine QW.blockR ?_
            refine QW.thenRet ?_
            refine QW.thenRet ?_
            refine QW.ret1 rfl rfl ?_
            have hB := hB0
            refine ⟨congrArg (fun x : List UInt8 => Value.string ⟨x.toArray⟩) (show ([83] : List UInt8) = lets a b from ?_), hB⟩
            unfold lets
            repeat (first | rw [if_pos (by omega)] | rw [if_neg (by omega)])
          · refine CW.seq ?_
            refine CW.seq ?_
            refine CW.region ?_
            refine RG.vl rfl rfl rfl (Ev.eqI rfl rfl rfl) ?_
            refine RG.vl rfl rfl rfl (Ev.assign rfl rfl) ?_
            refine RG.done ?_
            refine QW.sub (S' := [(0, _), (1, _), (4, _), (7, _), (14, _)]) ⟨rfl, rfl, rfl, rfl, rfl, trivial⟩ ?_
            refine QW.then_ ?_
            refine CW.condP rfl (fun hc8 => ?_) (fun hc8 => ?_)
            · refine CW.skip ?_
              refine QW.then_ ?_
              refine CW.condP rfl (fun hc9 => ?_) (fun hc9 => absurd hc8 hc9)
              refine CW.seq ?_
              refine CW.region ?_
              refine RG.vl rfl rfl rfl (Ev.assign rfl rfl) ?_
              refine RG.done ?_
              refine QW.then_ ?_
              refine CW.ret ?_
              refine QW.blockR ?_
              refine QW.thenRet ?_
              refine QW.thenRet ?_
              refine QW.ret1 rfl rfl ?_
              have hB := hB0
              refine ⟨congrArg (fun x : List UInt8 => Value.string ⟨x.toArray⟩) (show ([90] : List UInt8) = lets a b from ?_), hB⟩
              unfold lets
              repeat (first | rw [if_pos (by omega)] | rw [if_neg (by omega)])
            · refine CW.region ?_
              refine RG.vl rfl rfl rfl (Ev.eqI rfl rfl rfl) ?_
              refine RG.vl rfl rfl rfl (Ev.assign rfl rfl) ?_
              refine RG.done ?_
              refine QW.then_ ?_
              refine CW.condP rfl (fun hc10 => ?_) (fun hc10 => ?_)
              · refine CW.seq ?_
                refine CW.region ?_
                refine RG.vl rfl rfl rfl (Ev.assign rfl rfl) ?_
                refine RG.done ?_
                refine QW.then_ ?_
                refine CW.ret ?_
                refine QW.blockR ?_
                refine QW.thenRet ?_
                refine QW.thenRet ?_
                refine QW.ret1 rfl rfl ?_
                have hB := hB0
                refine ⟨congrArg (fun x : List UInt8 => Value.string ⟨x.toArray⟩) (show ([90] : List UInt8) = lets a b from ?_), hB⟩
                unfold lets
                repeat (first | rw [if_pos (by omega)] | rw [if_neg (by omega)])
              · refine CW.skip ?_
                refine QW.blockN ?_
                refine QW.then_ ?_
                refine CW.seq ?_
                refine CW.region ?_
                refine RG.vl rfl rfl rfl (Ev.assign rfl rfl) ?_
                refine RG.done ?_
                refine QW.then_ ?_
                refine CW.ret ?_
                refine QW.thenRet ?_
                refine QW.ret1 rfl rfl ?_
                have hB := hB0
                refine ⟨congrArg (fun x : List UInt8 => Value.string ⟨x.toArray⟩) (show ([] : List UInt8) = lets a b from ?_), hB⟩
                unfold lets
                repeat (first | rw [if_pos (by omega)] | rw [if_neg (by omega)])
  · refine CW.skip ?_
    refine QW.then_ ?_
    refine CW.seq ?_
    refine CW.seq ?_
    refine CW.region ?_
    refine RG.vl rfl rfl rfl (Ev.move rfl rfl) ?_
    refine RG.vl rfl rfl rfl (Ev.neI rfl rfl rfl) ?_
    refine RG.done ?_
    refine QW.then_ ?_
    refine CW.condP rfl (fun hc11 => ?_) (fun hc11 => ?_)
    · refine CW.seq ?_
      refine CW.region ?_
      refine RG.vl rfl rfl rfl (Ev.assign rfl rfl) ?_
      refine RG.done ?_
      refine QW.then_ ?_
      refine CW.ret ?_
      refine QW.thenRet ?_
      refine QW.ret1 rfl rfl ?_
      have hB := hB0
      refine ⟨congrArg (fun x : List UInt8 => Value.string ⟨x.toArray⟩) (show ([] : List UInt8) = lets a b from ?_), hB⟩
      unfold lets
      repeat (first | rw [if_pos (by omega)] | rw [if_neg (by omega)])
    · refine CW.skip ?_
      refine QW.then_ ?_
      refine CW.seq ?_
      refine CW.block ?_
      refine CW.seq ?_
      refine CW.region ?_
      refine RG.vl rfl rfl rfl (Ev.move rfl rfl) ?_
      refine RG.vl rfl rfl rfl (Ev.eqI rfl rfl rfl) ?_
      refine RG.vl rfl rfl rfl (Ev.assign rfl rfl) ?_
      refine RG.done ?_
      refine QW.then_ ?_
      refine CW.condP rfl (fun hc12 => ?_) (fun hc12 => ?_)
      · refine CW.seq ?_
        refine CW.region ?_
        refine RG.vl rfl rfl rfl (Ev.assign rfl rfl) ?_
        refine RG.done ?_
        refine QW.then_ ?_
        refine CW.ret ?_
        refine QW.blockR ?_
        refine QW.thenRet ?_
        refine QW.ret1 rfl rfl ?_
        have hB := hB0
        refine ⟨congrArg (fun x : List UInt8 => Value.string ⟨x.toArray⟩) (show ([83, 83] : List UInt8) = lets a b from ?_), hB⟩
        unfold lets
        repeat (first | rw [if_pos (by omega)] | rw [if_neg (by omega)])
      · refine CW.seq ?_
        refine CW.region ?_
        refine RG.vl rfl rfl rfl (Ev.move rfl rfl) ?_
        refine RG.vl rfl rfl rfl (Ev.eqI rfl rfl rfl) ?_
        refine RG.vl rfl rfl rfl (Ev.assign rfl rfl) ?_
        refine RG.done ?_
        refine QW.then_ ?_
        refine CW.condP rfl (fun hc13 => ?_) (fun hc13 => ?_)
        · refine CW.seq ?_
          refine CW.region ?_
          refine RG.vl rfl rfl rfl (Ev.assign rfl rfl) ?_
          refine RG.done ?_
          refine QW.then_ ?_
          refine CW.ret ?_
          refine QW.blockR ?_
          refine QW.thenRet ?_
          refine QW.ret1 rfl rfl ?_
          have hB := hB0
          refine ⟨congrArg (fun x : List UInt8 => Value.string ⟨x.toArray⟩) (show ([89] : List UInt8) = lets a b from ?_), hB⟩
          unfold lets
          repeat (first | rw [if_pos (by omega)] | rw [if_neg (by omega)])
        · refine CW.seq ?_
          refine CW.region ?_
          refine RG.vl rfl rfl rfl (Ev.move rfl rfl) ?_
          refine RG.vl rfl rfl rfl (Ev.geq rfl rfl rfl) ?_
          refine RG.vl rfl rfl rfl (Ev.move rfl rfl) ?_
          refine RG.split (d := 28) rfl (fun hg14 => ?_) (fun hg14 => ?_)
          · refine RG.vl rfl rfl rfl (Ev.move rfl rfl) ?_
            refine RG.vl rfl rfl rfl (Ev.leq rfl rfl rfl) ?_
            refine RG.vl rfl rfl rfl (Ev.pickT rfl rfl rfl) ?_
            refine RG.vl rfl rfl rfl (Ev.assign rfl rfl) ?_
            refine RG.done ?_
            refine QW.sub (S' := [(1, _), (4, _), (25, _)]) ⟨rfl, rfl, rfl, trivial⟩ ?_
            refine QW.then_ ?_
            refine CW.condP rfl (fun hc15 => ?_) (fun hc15 => ?_)
            · refine CW.region ?_
              refine RG.vl rfl rfl rfl (Ev.move rfl rfl) ?_
              refine RG.vl rfl rfl rfl (Ev.sub8 rfl rfl rfl (by omega)) ?_
              refine RG.vl rfl rfl rfl (Ev.assign rfl rfl) ?_
              refine RG.done ?_
              refine QW.blockN ?_
              refine QW.then_ ?_
              refine CW.seq ?_
              refine CW.seq ?_
              refine CW.region ?_
              refine RG.vl rfl rfl rfl (Ev.move rfl rfl) ?_
              refine RG.done ?_
              refine QW.then_ ?_
              refine CW.block ?_
              refine CW.seq ?_
              refine CW.seq ?_
              refine CW.region ?_
              refine RG.vl rfl rfl rfl (Ev.eqI rfl rfl rfl) ?_
              refine RG.vl rfl rfl rfl (Ev.assign rfl rfl) ?_
              refine RG.done ?_
              refine QW.then_ ?_
              refine CW.condP rfl (fun hc16 => ?_) (fun hc16 => ?_)
              · refine CW.skip ?_
                refine QW.then_ ?_
                refine CW.condP rfl (fun hc17 => ?_) (fun hc17 => absurd hc16 hc17)
                refine CW.seq ?_
                refine CW.region ?_
                refine RG.vl rfl rfl rfl (Ev.assign rfl rfl) ?_
                refine RG.done ?_
                refine QW.then_ ?_
                refine CW.ret ?_
                refine QW.blockR ?_
                refine QW.thenRet ?_
                refine QW.ret1 rfl rfl ?_
                have hB := hB0
                refine ⟨congrArg (fun x : List UInt8 => Value.string ⟨x.toArray⟩) (show ([65] : List UInt8) = lets a b from ?_), hB⟩
                first
                  | (exfalso; omega)
                  | (rw [show lets a b = letsU (b - 32) from by unfold lets; rw [if_neg (by omega), if_pos (by omega), if_neg (by omega), if_neg (by omega), if_pos (by omega)]]; unfold letsU; repeat (first | rw [if_pos (by omega)] | rw [if_neg (by omega)]))
              · refine CW.seq ?_
                refine CW.region ?_
                refine RG.vl rfl rfl rfl (Ev.eqI rfl rfl rfl) ?_
                refine RG.vl rfl rfl rfl (Ev.assign rfl rfl) ?_
                refine RG.done ?_
                refine QW.then_ ?_
                refine CW.condP rfl (fun hc18 => ?_) (fun hc18 => ?_)
                · refine CW.skip ?_
                  refine QW.then_ ?_
                  refine CW.condP rfl (fun hc19 => ?_) (fun hc19 => absurd hc18 hc19)
                  refine CW.seq ?_
                  refine CW.region ?_
                  refine RG.vl rfl rfl rfl (Ev.assign rfl rfl) ?_
                  refine RG.done ?_
                  refine QW.then_ ?_
                  refine CW.ret ?_
                  refine QW.blockR ?_
                  refine QW.thenRet ?_
                  refine QW.ret1 rfl rfl ?_
                  have hB := hB0
                  refine ⟨congrArg (fun x : List UInt8 => Value.string ⟨x.toArray⟩) (show ([65] : List UInt8) = lets a b from ?_), hB⟩
                  first
                    | (exfalso; omega)
                    | (rw [show lets a b = letsU (b - 32) from by unfold lets; rw [if_neg (by omega), if_pos (by omega), if_neg (by omega), if_neg (by omega), if_pos (by omega)]]; unfold letsU; repeat (first | rw [if_pos (by omega)] | rw [if_neg (by omega)]))
                · refine CW.seq ?_
                  refine CW.region ?_
                  refine RG.vl rfl rfl rfl (Ev.eqI rfl rfl rfl) ?_
                  refine RG.vl rfl rfl rfl (Ev.assign rfl rfl) ?_
                  refine RG.done ?_
                  refine QW.then_ ?_
                  refine CW.condP rfl (fun hc20 => ?_) (fun hc20 => ?_)
                  · refine CW.skip ?_
                    refine QW.then_ ?_
                    refine CW.condP rfl (fun hc21 => ?_) (fun hc21 => absurd hc20 hc21)
                    refine CW.seq ?_
                    refine CW.region ?_
                    refine RG.vl rfl rfl rfl (Ev.assign rfl rfl) ?_
                    refine RG.done ?_
                    refine QW.then_ ?_
                    refine CW.ret ?_
                    refine QW.blockR ?_
                    refine QW.thenRet ?_
                    refine QW.ret1 rfl rfl ?_
                    have hB := hB0
                    refine ⟨congrArg (fun x : List UInt8 => Value.string ⟨x.toArray⟩) (show ([65] : List UInt8) = lets a b from ?_), hB⟩
                    first
                      | (exfalso; omega)
                      | (rw [show lets a b = letsU (b - 32) from by unfold lets; rw [if_neg (by omega), if_pos (by omega), if_neg (by omega), if_neg (by omega), if_pos (by omega)]]; unfold letsU; repeat (first | rw [if_pos (by omega)] | rw [if_neg (by omega)]))
                  · refine CW.seq ?_
                    refine CW.region ?_
                    refine RG.vl rfl rfl rfl (Ev.eqI rfl rfl rfl) ?_
                    refine RG.vl rfl rfl rfl (Ev.assign rfl rfl) ?_
                    refine RG.done ?_
                    refine QW.then_ ?_
                    refine CW.condP rfl (fun hc22 => ?_) (fun hc22 => ?_)
                    · refine CW.skip ?_
                      refine QW.then_ ?_
                      refine CW.condP rfl (fun hc23 => ?_) (fun hc23 => absurd hc22 hc23)
                      refine CW.seq ?_
                      refine CW.region ?_
                      refine RG.vl rfl rfl rfl (Ev.assign rfl rfl) ?_
                      refine RG.done ?_
                      refine QW.then_ ?_
                      refine CW.ret ?_
                      refine QW.blockR ?_
                      refine QW.thenRet ?_
                      refine QW.ret1 rfl rfl ?_
                      have hB := hB0
                      refine ⟨congrArg (fun x : List UInt8 => Value.string ⟨x.toArray⟩) (show ([65] : List UInt8) = lets a b from ?_), hB⟩
                      first
                        | (exfalso; omega)
                        | (rw [show lets a b = letsU (b - 32) from by unfold lets; rw [if_neg (by omega), if_pos (by omega), if_neg (by omega), if_neg (by omega), if_pos (by omega)]]; unfold letsU; repeat (first | rw [if_pos (by omega)] | rw [if_neg (by omega)]))
                    · refine CW.region ?_
                      refine RG.vl rfl rfl rfl (Ev.eqI rfl rfl rfl) ?_
                      refine RG.vl rfl rfl rfl (Ev.assign rfl rfl) ?_
                      refine RG.done ?_
                      refine QW.sub (S' := [(4, _), (34, _), (35, _)]) ⟨rfl, rfl, rfl, trivial⟩ ?_
                      refine QW.then_ ?_
                      refine CW.condP rfl (fun hc24 => ?_) (fun hc24 => ?_)
                      · refine CW.seq ?_
                        refine CW.region ?_
                        refine RG.vl rfl rfl rfl (Ev.assign rfl rfl) ?_
                        refine RG.done ?_
                        refine QW.then_ ?_
                        refine CW.ret ?_
                        refine QW.blockR ?_
                        refine QW.thenRet ?_
                        refine QW.ret1 rfl rfl ?_
                        have hB := hB0
                        refine ⟨congrArg (fun x : List UInt8 => Value.string ⟨x.toArray⟩) (show ([65] : List UInt8) = lets a b from ?_), hB⟩
                        first
                          | (exfalso; omega)
                          | (rw [show lets a b = letsU (b - 32) from by unfold lets; rw [if_neg (by omega), if_pos (by omega), if_neg (by omega), if_neg (by omega), if_pos (by omega)]]; unfold letsU; repeat (first | rw [if_pos (by omega)] | rw [if_neg (by omega)]))
                      · refine CW.seq ?_
                        refine CW.seq ?_
                        refine CW.region ?_
                        refine RG.vl rfl rfl rfl (Ev.eqI rfl rfl rfl) ?_
                        refine RG.vl rfl rfl rfl (Ev.assign rfl rfl) ?_
                        refine RG.done ?_
                        refine QW.then_ ?_
                        refine CW.condP rfl (fun hc25 => ?_) (fun hc25 => ?_)
                        · refine CW.skip ?_
                          refine QW.then_ ?_
                          refine CW.condP rfl (fun hc26 => ?_) (fun hc26 => absurd hc25 hc26)
                          refine CW.seq ?_
                          refine CW.region ?_
                          refine RG.vl rfl rfl rfl (Ev.assign rfl rfl) ?_
                          refine RG.done ?_
                          refine QW.then_ ?_
                          refine CW.ret ?_
                          refine QW.blockR ?_
                          refine QW.thenRet ?_
                          refine QW.ret1 rfl rfl ?_
                          have hB := hB0
                          refine ⟨congrArg (fun x : List UInt8 => Value.string ⟨x.toArray⟩) (show ([65, 69] : List UInt8) = lets a b from ?_), hB⟩
                          first
                            | (exfalso; omega)
                            | (rw [show lets a b = letsU (b - 32) from by unfold lets; rw [if_neg (by omega), if_pos (by omega), if_neg (by omega), if_neg (by omega), if_pos (by omega)]]; unfold letsU; repeat (first | rw [if_pos (by omega)] | rw [if_neg (by omega)]))
                        · refine CW.region ?_
                          refine RG.vl rfl rfl rfl (Ev.eqI rfl rfl rfl) ?_
                          refine RG.vl rfl rfl rfl (Ev.assign rfl rfl) ?_
                          refine RG.done ?_
                          refine QW.then_ ?_
                          refine CW.condP rfl (fun hc27 => ?_) (fun hc27 => ?_)
                          · refine CW.seq ?_
                            refine CW.region ?_
                            refine RG.vl rfl rfl rfl (Ev.assign rfl rfl) ?_
                            refine RG.done ?_
                            refine QW.then_ ?_
                            refine CW.ret ?_
                            refine QW.blockR ?_
                            refine QW.thenRet ?_
                            refine QW.ret1 rfl rfl ?_
                            have hB := hB0
                            refine ⟨congrArg (fun x : List UInt8 => Value.string ⟨x.toArray⟩) (show ([65, 69] : List UInt8) = lets a b from ?_), hB⟩
                            first
                              | (exfalso; omega)
                              | (rw [show lets a b = letsU (b - 32) from by unfold lets; rw [if_neg (by omega), if_pos (by omega), if_neg (by omega), if_neg (by omega), if_pos (by omega)]]; unfold letsU; repeat (first | rw [if_pos (by omega)] | rw [if_neg (by omega)]))
                          · refine CW.seq ?_
                            refine CW.region ?_
                            refine RG.vl rfl rfl rfl (Ev.eqI rfl rfl rfl) ?_
                            refine RG.vl rfl rfl rfl (Ev.assign rfl rfl) ?_
                            refine RG.done ?_
                            refine QW.then_ ?_
                            refine CW.condP rfl (fun hc28 => ?_) (fun hc28 => ?_)
                            · refine CW.seq ?_
                              refine CW.region ?_
                              refine RG.vl rfl rfl rfl (Ev.assign rfl rfl) ?_
                              refine RG.done ?_
                              refine QW.then_ ?_
                              refine CW.ret ?_
                              refine QW.blockR ?_
                              refine QW.thenRet ?_
                              refine QW.ret1 rfl rfl ?_
                              have hB := hB0
                              refine ⟨congrArg (fun x : List UInt8 => Value.string ⟨x.toArray⟩) (show ([67] : List UInt8) = lets a b from ?_), hB⟩
                              first
                                | (exfalso; omega)
                                | (rw [show lets a b = letsU (b - 32) from by unfold lets; rw [if_neg (by omega), if_pos (by omega), if_neg (by omega), if_neg (by omega), if_pos (by omega)]]; unfold letsU; repeat (first | rw [if_pos (by omega)] | rw [if_neg (by omega)]))
                            · refine CW.seq ?_
                              refine CW.seq ?_
                              refine CW.region ?_
                              refine RG.vl rfl rfl rfl (Ev.eqI rfl rfl rfl) ?_
                              refine RG.vl rfl rfl rfl (Ev.assign rfl rfl) ?_
                              refine RG.done ?_
                              refine QW.then_ ?_
                              refine CW.condP rfl (fun hc29 => ?_) (fun hc29 => ?_)
                              · refine CW.skip ?_
                                refine QW.then_ ?_
                                refine CW.condP rfl (fun hc30 => ?_) (fun hc30 => absurd hc29 hc30)
                                refine CW.seq ?_
                                refine CW.region ?_
                                refine RG.vl rfl rfl rfl (Ev.assign rfl rfl) ?_
                                refine RG.done ?_
                                refine QW.then_ ?_
                                refine CW.ret ?_
                                refine QW.blockR ?_
                                refine QW.thenRet ?_
                                refine QW.ret1 rfl rfl ?_
                                have hB := hB0
                                refine ⟨congrArg (fun x : List UInt8 => Value.string ⟨x.toArray⟩) (show ([69] : List UInt8) = lets a b from ?_), hB⟩
                                first
                                  | (exfalso; omega)
                                  | (rw [show lets a b = letsU (b - 32) from by unfold lets; rw [if_neg (by omega), if_pos (by omega), if_neg (by omega), if_neg (by omega), if_pos (by omega)]]; unfold letsU; repeat (first | rw [if_pos (by omega)] | rw [if_neg (by omega)]))
                              · refine CW.seq ?_
                                refine CW.region ?_
                                refine RG.vl rfl rfl rfl (Ev.eqI rfl rfl rfl) ?_
                                refine RG.vl rfl rfl rfl (Ev.assign rfl rfl) ?_
                                refine RG.done ?_
                                refine QW.then_ ?_
                                refine CW.condP rfl (fun hc31 => ?_) (fun hc31 => ?_)
                                · refine CW.skip ?_
                                  refine QW.then_ ?_
                                  refine CW.condP rfl (fun hc32 => ?_) (fun hc32 => absurd hc31 hc32)
                                  refine CW.seq ?_
                                  refine CW.region ?_
                                  refine RG.vl rfl rfl rfl (Ev.assign rfl rfl) ?_
                                  refine RG.done ?_
                                  refine QW.then_ ?_
                                  refine CW.ret ?_
                                  refine QW.blockR ?_
                                  refine QW.thenRet ?_
                                  refine QW.ret1 rfl rfl ?_
                                  have hB := hB0
                                  refine ⟨congrArg (fun x : List UInt8 => Value.string ⟨x.toArray⟩) (show ([69] : List UInt8) = lets a b from ?_), hB⟩
                                  first
                                    | (exfalso; omega)
                                    | (rw [show lets a b = letsU (b - 32) from by unfold lets; rw [if_neg (by omega), if_pos (by omega), if_neg (by omega), if_neg (by omega), if_pos (by omega)]]; unfold letsU; repeat (first | rw [if_pos (by omega)] | rw [if_neg (by omega)]))
                                · refine CW.seq ?_
                                  refine CW.region ?_
                                  refine RG.vl rfl rfl rfl (Ev.eqI rfl rfl rfl) ?_
                                  refine RG.vl rfl rfl rfl (Ev.assign rfl rfl) ?_
                                  refine RG.done ?_
                                  refine QW.then_ ?_
                                  refine CW.condP rfl (fun hc33 => ?_) (fun hc33 => ?_)
                                  · refine CW.skip ?_
                                    refine QW.then_ ?_
                                    refine CW.condP rfl (fun hc34 => ?_) (fun hc34 => absurd hc33 hc34)
                                    refine CW.seq ?_
                                    refine CW.region ?_
                                    refine RG.vl rfl rfl rfl (Ev.assign rfl rfl) ?_
                                    refine RG.done ?_
                                    refine QW.then_ ?_
                                    refine CW.ret ?_
                                    refine QW.blockR ?_
                                    refine QW.thenRet ?_
                                    refine QW.ret1 rfl rfl ?_
                                    have hB := hB0
                                    refine ⟨congrArg (fun x : List UInt8 => Value.string ⟨x.toArray⟩) (show ([69] : List UInt8) = lets a b from ?_), hB⟩
                                    first
                                      | (exfalso; omega)
                                      | (rw [show lets a b = letsU (b - 32) from by unfold lets; rw [if_neg (by omega), if_pos (by omega), if_neg (by omega), if_neg (by omega), if_pos (by omega)]]; unfold letsU; repeat (first | rw [if_pos (by omega)] | rw [if_neg (by omega)]))
                                  · refine CW.region ?_
                                    refine RG.vl rfl rfl rfl (Ev.eqI rfl rfl rfl) ?_
                                    refine RG.vl rfl rfl rfl (Ev.assign rfl rfl) ?_
                                    refine RG.done ?_
                                    refine QW.sub (S' := [(4, _), (34, _), (46, _)]) ⟨rfl, rfl, rfl, trivial⟩ ?_
                                    refine QW.then_ ?_
                                    refine CW.condP rfl (fun hc35 => ?_) (fun hc35 => ?_)
                                    · refine CW.seq ?_
                                      refine CW.region ?_
                                      refine RG.vl rfl rfl rfl (Ev.assign rfl rfl) ?_
                                      refine RG.done ?_
                                      refine QW.then_ ?_
                                      refine CW.ret ?_
                                      refine QW.blockR ?_
                                      refine QW.thenRet ?_
                                      refine QW.ret1 rfl rfl ?_
                                      have hB := hB0
                                      refine ⟨congrArg (fun x : List UInt8 => Value.string ⟨x.toArray⟩) (show ([69] : List UInt8) = lets a b from ?_), hB⟩
                                      first
                                        | (exfalso; omega)
                                        | (rw [show lets a b = letsU (b - 32) from by unfold lets; rw [if_neg (by omega), if_pos (by omega), if_neg (by omega), if_neg (by omega), if_pos (by omega)]]; unfold letsU; repeat (first | rw [if_pos (by omega)] | rw [if_neg (by omega)]))
                                    · refine CW.seq ?_
                                      refine CW.seq ?_
                                      refine CW.region ?_
                                      refine RG.vl rfl rfl rfl (Ev.eqI rfl rfl rfl) ?_
                                      refine RG.vl rfl rfl rfl (Ev.assign rfl rfl) ?_
                                      refine RG.done ?_
                                      refine QW.then_ ?_
                                      refine CW.condP rfl (fun hc36 => ?_) (fun hc36 => ?_)
                                      · refine CW.skip ?_
                                        refine QW.then_ ?_
                                        refine CW.condP rfl (fun hc37 => ?_) (fun hc37 => absurd hc36 hc37)
                                        refine CW.seq ?_
                                        refine CW.region ?_
                                        refine RG.vl rfl rfl rfl (Ev.assign rfl rfl) ?_
                                        refine RG.done ?_
                                        refine QW.then_ ?_
                                        refine CW.ret ?_
                                        refine QW.blockR ?_
                                        refine QW.thenRet ?_
                                        refine QW.ret1 rfl rfl ?_
                                        have hB := hB0
                                        refine ⟨congrArg (fun x : List UInt8 => Value.string ⟨x.toArray⟩) (show ([73] : List UInt8) = lets a b from ?_), hB⟩
                                        first
                                          | (exfalso; omega)
                                          | (rw [show lets a b = letsU (b - 32) from by unfold lets; rw [if_neg (by omega), if_pos (by omega), if_neg (by omega), if_neg (by omega), if_pos (by omega)]]; unfold letsU; repeat (first | rw [if_pos (by omega)] | rw [if_neg (by omega)]))
                                      · refine CW.seq ?_
                                        refine CW.region ?_
                                        refine RG.vl rfl rfl rfl (Ev.eqI rfl rfl rfl) ?_
                                        refine RG.vl rfl rfl rfl (Ev.assign rfl rfl) ?_
                                        refine RG.done ?_
                                        refine QW.then_ ?_
                                        refine CW.condP rfl (fun hc38 => ?_) (fun hc38 => ?_)
                                        · refine CW.skip ?_
                                          refine QW.then_ ?_
                                          refine CW.condP rfl (fun hc39 => ?_) (fun hc39 => absurd hc38 hc39)
                                          refine CW.seq ?_
                                          refine CW.region ?_
                                          refine RG.vl rfl rfl rfl (Ev.assign rfl rfl) ?_
                                          refine RG.done ?_
                                          refine QW.then_ ?_
                                          refine CW.ret ?_
                                          refine QW.blockR ?_
                                          refine QW.thenRet ?_
                                          refine QW.ret1 rfl rfl ?_
                                          have hB := hB0
                                          refine ⟨congrArg (fun x : List UInt8 => Value.string ⟨x.toArray⟩) (show ([73] : List UInt8) = lets a b from ?_), hB⟩
                                          first
                                            | (exfalso; omega)
                                            | (rw [show lets a b = letsU (b - 32) from by unfold lets; rw [if_neg (by omega), if_pos (by omega), if_neg (by omega), if_neg (by omega), if_pos (by omega)]]; unfold letsU; repeat (first | rw [if_pos (by omega)] | rw [if_neg (by omega)]))
                                        · refine CW.seq ?_
                                          refine CW.region ?_
                                          refine RG.vl rfl rfl rfl (Ev.eqI rfl rfl rfl) ?_
                                          refine RG.vl rfl rfl rfl (Ev.assign rfl rfl) ?_
                                          refine RG.done ?_
                                          refine QW.then_ ?_
                                          refine CW.condP rfl (fun hc40 => ?_) (fun hc40 => ?_)
                                          · refine CW.skip ?_
                                            refine QW.then_ ?_
                                            refine CW.condP rfl (fun hc41 => ?_) (fun hc41 => absurd hc40 hc41)
                                            refine CW.seq ?_
                                            refine CW.region ?_
                                            refine RG.vl rfl rfl rfl (Ev.assign rfl rfl) ?_
                                            refine RG.done ?_
                                            refine QW.then_ ?_
                                            refine CW.ret ?_
                                            refine QW.blockR ?_
                                            refine QW.thenRet ?_
                                            refine QW.ret1 rfl rfl ?_
                                            have hB := hB0
                                            refine ⟨congrArg (fun x : List UInt8 => Value.string ⟨x.toArray⟩) (show ([73] : List UInt8) = lets a b from ?_), hB⟩
                                            first
                                              | (exfalso; omega)
                                              | (rw [show lets a b = letsU (b - 32) from by unfold lets; rw [if_neg (by omega), if_pos (by omega), if_neg (by omega), if_neg (by omega), if_pos (by omega)]]; unfold letsU; repeat (first | rw [if_pos (by omega)] | rw [if_neg (by omega)]))
                                          · refine CW.region ?_
                                            refine RG.vl rfl rfl rfl (Ev.eqI rfl rfl rfl) ?_
                                            refine RG.vl rfl rfl rfl (Ev.assign rfl rfl) ?_
                                            refine RG.done ?_
                                            refine QW.then_ ?_
                                            refine CW.condP rfl (fun hc42 => ?_) (fun hc42 => ?_)
                                            · refine CW.seq ?_
                                              refine CW.region ?_
                                              refine RG.vl rfl rfl rfl (Ev.assign rfl rfl) ?_
                                              refine RG.done ?_
                                              refine QW.then_ ?_
                                              refine CW.ret ?_
                                              refine QW.blockR ?_
                                              refine QW.thenRet ?_
                                              refine QW.ret1 rfl rfl ?_
                                              have hB := hB0
                                              refine ⟨congrArg (fun x : List UInt8 => Value.string ⟨x.toArray⟩) (show ([73] : List UInt8) = lets a b from ?_), hB⟩
                                              first
                                                | (exfalso; omega)
                                                | (rw [show lets a b = letsU (b - 32) from by unfold lets; rw [if_neg (by omega), if_pos (by omega), if_neg (by omega), if_neg (by omega), if_pos (by omega)]]; unfold letsU; repeat (first | rw [if_pos (by omega)] | rw [if_neg (by omega)]))
                                            · refine CW.seq ?_
                                              refine CW.region ?_
                                              refine RG.vl rfl rfl rfl (Ev.eqI rfl rfl rfl) ?_
                                              refine RG.vl rfl rfl rfl (Ev.assign rfl rfl) ?_
                                              refine RG.done ?_
                                              refine QW.then_ ?_
                                              refine CW.condP rfl (fun hc43 => ?_) (fun hc43 => ?_)
                                              · refine CW.seq ?_
                                                refine CW.region ?_
                                                refine RG.vl rfl rfl rfl (Ev.assign rfl rfl) ?_
                                                refine RG.done ?_
                                                refine QW.then_ ?_
                                                refine CW.ret ?_
                                                refine QW.blockR ?_
                                                refine QW.thenRet ?_
                                                refine QW.ret1 rfl rfl ?_
                                                have hB := hB0
                                                refine ⟨congrArg (fun x : List UInt8 => Value.string ⟨x.toArray⟩) (show ([68] : List UInt8) = lets a b from ?_), hB⟩
                                                first
                                                  | (exfalso; omega)
                                                  | (rw [show lets a b = letsU (b - 32) from by unfold lets; rw [if_neg (by omega), if_pos (by omega), if_neg (by omega), if_neg (by omega), if_pos (by omega)]]; unfold letsU; repeat (first | rw [if_pos (by omega)] | rw [if_neg (by omega)]))
                                              · refine CW.seq ?_
                                                refine CW.region ?_
                                                refine RG.vl rfl rfl rfl (Ev.eqI rfl rfl rfl) ?_
                                                refine RG.vl rfl rfl rfl (Ev.assign rfl rfl) ?_
                                                refine RG.done ?_
                                                refine QW.then_ ?_
                                                refine CW.condP rfl (fun hc44 => ?_) (fun hc44 => ?_)
                                                · refine CW.seq ?_
                                                  refine CW.region ?_
                                                  refine RG.vl rfl rfl rfl (Ev.assign rfl rfl) ?_
                                                  refine RG.done ?_
                                                  refine QW.then_ ?_
                                                  refine CW.ret ?_
                                                  refine QW.blockR ?_
                                                  refine QW.thenRet ?_
                                                  refine QW.ret1 rfl rfl ?_
                                                  have hB := hB0
                                                  refine ⟨congrArg (fun x : List UInt8 => Value.string ⟨x.toArray⟩) (show ([78] : List UInt8) = lets a b from ?_), hB⟩
                                                  first
                                                    | (exfalso; omega)
                                                    | (rw [show lets a b = letsU (b - 32) from by unfold lets; rw [if_neg (by omega), if_pos (by omega), if_neg (by omega), if_neg (by omega), if_pos (by omega)]]; unfold letsU; repeat (first | rw [if_pos (by omega)] | rw [if_neg (by omega)]))
                                                · refine CW.seq ?_
                                                  refine CW.seq ?_
                                                  refine CW.region ?_
                                                  refine RG.vl rfl rfl rfl (Ev.eqI rfl rfl rfl) ?_
                                                  refine RG.vl rfl rfl rfl (Ev.assign rfl rfl) ?_
                                                  refine RG.done ?_
                                                  refine QW.sub (S' := [(4, _), (34, _), (60, _)]) ⟨rfl, rfl, rfl, trivial⟩ ?_
                                                  refine QW.then_ ?_
                                                  refine CW.condP rfl (fun hc45 => ?_) (fun hc45 => ?_)
                                                  · refine CW.skip ?_
                                                    refine QW.then_ ?_
                                                    refine CW.condP rfl (fun hc46 => ?_) (fun hc46 => absurd hc45 hc46)
                                                    refine CW.seq ?_
                                                    refine CW.region ?_
                                                    refine RG.vl rfl rfl rfl (Ev.assign rfl rfl) ?_
                                                    refine RG.done ?_
                                                    refine QW.then_ ?_
                                                    refine CW.ret ?_
                                                    refine QW.blockR ?_
                                                    refine QW.thenRet ?_
                                                    refine QW.ret1 rfl rfl ?_
                                                    have hB := hB0
                                                    refine ⟨congrArg (fun x : List UInt8 => Value.string ⟨x.toArray⟩) (show ([79] : List UInt8) = lets a b from ?_), hB⟩
                                                    first
                                                      | (exfalso; omega)
                                                      | (rw [show lets a b = letsU (b - 32) from by unfold lets; rw [if_neg (by omega), if_pos (by omega), if_neg (by omega), if_neg (by omega), if_pos (by omega)]]; unfold letsU; repeat (first | rw [if_pos (by omega)] | rw [if_neg (by omega)]))
                                                  · refine CW.seq ?_
                                                    refine CW.region ?_
                                                    refine RG.vl rfl rfl rfl (Ev.eqI rfl rfl rfl) ?_
                                                    refine RG.vl rfl rfl rfl (Ev.assign rfl rfl) ?_
                                                    refine RG.done ?_
                                                    refine QW.then_ ?_
                                                    refine CW.condP rfl (fun hc47 => ?_) (fun hc47 => ?_)
                                                    · refine CW.skip ?_
                                                      refine QW.then_ ?_
                                                      refine CW.condP rfl (fun hc48 => ?_) (fun hc48 => absurd hc47 hc48)
                                                      refine CW.seq ?_
                                                      refine CW.region ?_
                                                      refine RG.vl rfl rfl rfl (Ev.assign rfl rfl) ?_
                                                      refine RG.done ?_
                                                      refine QW.then_ ?_
                                                      refine CW.ret ?_
                                                      refine QW.blockR ?_
                                                      refine QW.thenRet ?_
                                                      refine QW.ret1 rfl rfl ?_
                                                      have hB := hB0
                                                      refine ⟨congrArg (fun x : List UInt8 => Value.string ⟨x.toArray⟩) (show ([79] : List UInt8) = lets a b from ?_), hB⟩
                                                      first
                                                        | (exfalso; omega)
                                                        | (rw [show lets a b = letsU (b - 32) from by unfold lets; rw [if_neg (by omega), if_pos (by omega), if_neg (by omega), if_neg (by omega), if_pos (by omega)]]; unfold letsU; repeat (first | rw [if_pos (by omega)] | rw [if_neg (by omega)]))
                                                    · refine CW.seq ?_
                                                      refine CW.region ?_
                                                      refine RG.vl rfl rfl rfl (Ev.eqI rfl rfl rfl) ?_
                                                      refine RG.vl rfl rfl rfl (Ev.assign rfl rfl) ?_
                                                      refine RG.done ?_
                                                      refine QW.then_ ?_
                                                      refine CW.condP rfl (fun hc49 => ?_) (fun hc49 => ?_)
                                                      · refine CW.skip ?_
                                                        refine QW.then_ ?_
                                                        refine CW.condP rfl (fun hc50 => ?_) (fun hc50 => absurd hc49 hc50)
                                                        refine CW.seq ?_
                                                        refine CW.region ?_
                                                        refine RG.vl rfl rfl rfl (Ev.assign rfl rfl) ?_
                                                        refine RG.done ?_
                                                        refine QW.then_ ?_
                                                        refine CW.ret ?_
                                                        refine QW.blockR ?_
                                                        refine QW.thenRet ?_
                                                        refine QW.ret1 rfl rfl ?_
                                                        have hB := hB0
                                                        refine ⟨congrArg (fun x : List UInt8 => Value.string ⟨x.toArray⟩) (show ([79] : List UInt8) = lets a b from ?_), hB⟩
                                                        first
                                                          | (exfalso; omega)
                                                          | (rw [show lets a b = letsU (b - 32) from by unfold lets; rw [if_neg (by omega), if_pos (by omega), if_neg (by omega), if_neg (by omega), if_pos (by omega)]]; unfold letsU; repeat (first | rw [if_pos (by omega)] | rw [if_neg (by omega)]))
                                                      · refine CW.seq ?_
                                                        refine CW.region ?_
                                                        refine RG.vl rfl rfl rfl (Ev.eqI rfl rfl rfl) ?_
                                                        refine RG.vl rfl rfl rfl (Ev.assign rfl rfl) ?_
                                                        refine RG.done ?_
                                                        refine QW.then_ ?_
                                                        refine CW.condP rfl (fun hc51 => ?_) (fun hc51 => ?_)
                                                        · refine CW.skip ?_
                                                          refine QW.then_ ?_
                                                          refine CW.condP rfl (fun hc52 => ?_) (fun hc52 => absurd hc51 hc52)
                                                          refine CW.seq ?_
                                                          refine CW.region ?_
                                                          refine RG.vl rfl rfl rfl (Ev.assign rfl rfl) ?_
                                                          refine RG.done ?_
                                                          refine QW.then_ ?_
                                                          refine CW.ret ?_
                                                          refine QW.blockR ?_
                                                          refine QW.thenRet ?_
                                                          refine QW.ret1 rfl rfl ?_
                                                          have hB := hB0
                                                          refine ⟨congrArg (fun x : List UInt8 => Value.string ⟨x.toArray⟩) (show ([79] : List UInt8) = lets a b from ?_), hB⟩
                                                          first
                                                            | (exfalso; omega)
                                                            | (rw [show lets a b = letsU (b - 32) from by unfold lets; rw [if_neg (by omega), if_pos (by omega), if_neg (by omega), if_neg (by omega), if_pos (by omega)]]; unfold letsU; repeat (first | rw [if_pos (by omega)] | rw [if_neg (by omega)]))
                                                        · refine CW.region ?_
                                                          refine RG.vl rfl rfl rfl (Ev.eqI rfl rfl rfl) ?_
                                                          refine RG.vl rfl rfl rfl (Ev.assign rfl rfl) ?_
                                                          refine RG.done ?_
                                                          refine QW.then_ ?_
                                                          refine CW.condP rfl (fun hc53 => ?_) (fun hc53 => ?_)
                                                          · refine CW.seq ?_
                                                            refine CW.region ?_
                                                            refine RG.vl rfl rfl rfl (Ev.assign rfl rfl) ?_
                                                            refine RG.done ?_
                                                            refine QW.then_ ?_
                                                            refine CW.ret ?_
                                                            refine QW.blockR ?_
                                                            refine QW.thenRet ?_
                                                            refine QW.ret1 rfl rfl ?_
                                                            have hB := hB0
                                                            refine ⟨congrArg (fun x : List UInt8 => Value.string ⟨x.toArray⟩) (show ([79] : List UInt8) = lets a b from ?_), hB⟩
                                                            first
                                                              | (exfalso; omega)
                                                              | (rw [show lets a b = letsU (b - 32) from by unfold lets; rw [if_neg (by omega), if_pos (by omega), if_neg (by omega), if_neg (by omega), if_pos (by omega)]]; unfold letsU; repeat (first | rw [if_pos (by omega)] | rw [if_neg (by omega)]))
                                                          · refine CW.seq ?_
                                                            refine CW.region ?_
                                                            refine RG.vl rfl rfl rfl (Ev.eqI rfl rfl rfl) ?_
                                                            refine RG.vl rfl rfl rfl (Ev.assign rfl rfl) ?_
                                                            refine RG.done ?_
                                                            refine QW.then_ ?_
                                                            refine CW.condP rfl (fun hc54 => ?_) (fun hc54 => ?_)
                                                            · refine CW.seq ?_
                                                              refine CW.region ?_
                                                              refine RG.vl rfl rfl rfl (Ev.assign rfl rfl) ?_
                                                              refine RG.done ?_
                                                              refine QW.then_ ?_
                                                              refine CW.ret ?_
                                                              refine QW.blockR ?_
                                                              refine QW.thenRet ?_
                                                              refine QW.ret1 rfl rfl ?_
                                                              have hB := hB0
                                                              refine ⟨congrArg (fun x : List UInt8 => Value.string ⟨x.toArray⟩) (show ([79, 69] : List UInt8) = lets a b from ?_), hB⟩
                                                              first
                                                                | (exfalso; omega)
                                                                | (rw [show lets a b = letsU (b - 32) from by unfold lets; rw [if_neg (by omega), if_pos (by omega), if_neg (by omega), if_neg (by omega), if_pos (by omega)]]; unfold letsU; repeat (first | rw [if_pos (by omega)] | rw [if_neg (by omega)]))
                                                            · refine CW.seq ?_
                                                              refine CW.seq ?_
                                                              refine CW.region ?_
                                                              refine RG.vl rfl rfl rfl (Ev.eqI rfl rfl rfl) ?_
                                                              refine RG.vl rfl rfl rfl (Ev.assign rfl rfl) ?_
                                                              refine RG.done ?_
                                                              refine QW.then_ ?_
                                                              refine CW.condP rfl (fun hc55 => ?_) (fun hc55 => ?_)
                                                              · refine CW.skip ?_
                                                                refine QW.then_ ?_
                                                                refine CW.condP rfl (fun hc56 => ?_) (fun hc56 => absurd hc55 hc56)
                                                                refine CW.seq ?_
                                                                refine CW.region ?_
                                                                refine RG.vl rfl rfl rfl (Ev.assign rfl rfl) ?_
                                                                refine RG.done ?_
                                                                refine QW.then_ ?_
                                                                refine CW.ret ?_
                                                                refine QW.blockR ?_
                                                                refine QW.thenRet ?_
                                                                refine QW.ret1 rfl rfl ?_
                                                                have hB := hB0
                                                                refine ⟨congrArg (fun x : List UInt8 => Value.string ⟨x.toArray⟩) (show ([85] : List UInt8) = lets a b from ?_), hB⟩
                                                                first
                                                                  | (exfalso; omega)
                                                                  | (rw [show lets a b = letsU (b - 32) from by unfold lets; rw [if_neg (by omega), if_pos (by omega), if_neg (by omega), if_neg (by omega), if_pos (by omega)]]; unfold letsU; repeat (first | rw [if_pos (by omega)] | rw [if_neg (by omega)]))
                                                              · refine CW.seq ?_
                                                                refine CW.region ?_
                                                                refine RG.vl rfl rfl rfl (Ev.eqI rfl rfl rfl) ?_
                                                                refine RG.vl rfl rfl rfl (Ev.assign rfl rfl) ?_
                                                                refine RG.done ?_
                                                                refine QW.sub (S' := [(4, _), (34, _), (68, _)]) ⟨rfl, rfl, rfl, trivial⟩ ?_
                                                                refine QW.then_ ?_
                                                                refine CW.condP rfl (fun hc57 => ?_) (fun hc57 => ?_)
                                                                · refine CW.skip ?_
                                                                  refine QW.then_ ?_
                                                                  refine CW.condP rfl (fun hc58 => ?_) (fun hc58 => absurd hc57 hc58)
                                                                  refine CW.seq ?_
                                                                  refine CW.region ?_
                                                                  refine RG.vl rfl rfl rfl (Ev.assign rfl rfl) ?_
                                                                  refine RG.done ?_
                                                                  refine QW.then_ ?_
                                                                  refine CW.ret ?_
                                                                  refine QW.blockR ?_
                                                                  refine QW.thenRet ?_
                                                                  refine QW.ret1 rfl rfl ?_
                                                                  have hB := hB0
                                                                  refine ⟨congrArg (fun x : List UInt8 => Value.string ⟨x.toArray⟩) (show ([85] : List UInt8) = lets a b from ?_), hB⟩
                                                                  first
                                                                    | (exfalso; omega)
                                                                    | (rw [show lets a b = letsU (b - 32) from by unfold lets; rw [if_neg (by omega), if_pos (by omega), if_neg (by omega), if_neg (by omega), if_pos (by omega)]]; unfold letsU; repeat (first | rw [if_pos (by omega)] | rw [if_neg (by omega)]))
                                                                · refine CW.region ?_
                                                                  refine RG.vl rfl rfl rfl (Ev.eqI rfl rfl rfl) ?_
                                                                  refine RG.vl rfl rfl rfl (Ev.assign rfl rfl) ?_
                                                                  refine RG.done ?_
                                                                  refine QW.then_ ?_
                                                                  refine CW.condP rfl (fun hc59 => ?_) (fun hc59 => ?_)
                                                                  · refine CW.seq ?_
                                                                    refine CW.region ?_
                                                                    refine RG.vl rfl rfl rfl (Ev.assign rfl rfl) ?_
                                                                    refine RG.done ?_
                                                                    refine QW.then_ ?_
                                                                    refine CW.ret ?_
                                                                    refine QW.blockR ?_
                                                                    refine QW.thenRet ?_
                                                                    refine QW.ret1 rfl rfl ?_
                                                                    have hB := hB0
                                                                    refine ⟨congrArg (fun x : List UInt8 => Value.string ⟨x.toArray⟩) (show ([85] : List UInt8) = lets a b from ?_), hB⟩
                                                                    first
                                                                      | (exfalso; omega)
                                                                      | (rw [show lets a b = letsU (b - 32) from by unfold lets; rw [if_neg (by omega), if_pos (by omega), if_neg (by omega), if_neg (by omega), if_pos (by omega)]]; unfold letsU; repeat (first | rw [if_pos (by omega)] | rw [if_neg (by omega)]))
                                                                  · refine CW.seq ?_
                                                                    refine CW.region ?_
                                                                    refine RG.vl rfl rfl rfl (Ev.eqI rfl rfl rfl) ?_
                                                                    refine RG.vl rfl rfl rfl (Ev.assign rfl rfl) ?_
                                                                    refine RG.done ?_
                                                                    refine QW.then_ ?_
                                                                    refine CW.condP rfl (fun hc60 => ?_) (fun hc60 => ?_)
                                                                    · refine CW.seq ?_
                                                                      refine CW.region ?_
                                                                      refine RG.vl rfl rfl rfl (Ev.assign rfl rfl) ?_
                                                                      refine RG.done ?_
                                                                      refine QW.then_ ?_
                                                                      refine CW.ret ?_
                                                                      refine QW.blockR ?_
                                                                      refine QW.thenRet ?_
                                                                      refine QW.ret1 rfl rfl ?_
                                                                      have hB := hB0
                                                                      refine ⟨congrArg (fun x : List UInt8 => Value.string ⟨x.toArray⟩) (show ([85, 69] : List UInt8) = lets a b from ?_), hB⟩
                                                                      first
                                                                        | (exfalso; omega)
                                                                        | (rw [show lets a b = letsU (b - 32) from by unfold lets; rw [if_neg (by omega), if_pos (by omega), if_neg (by omega), if_neg (by omega), if_pos (by omega)]]; unfold letsU; repeat (first | rw [if_pos (by omega)] | rw [if_neg (by omega)]))
                                                                    · refine CW.seq ?_
                                                                      refine CW.region ?_
                                                                      refine RG.vl rfl rfl rfl (Ev.eqI rfl rfl rfl) ?_
                                                                      refine RG.vl rfl rfl rfl (Ev.assign rfl rfl) ?_
                                                                      refine RG.done ?_
                                                                      refine QW.then_ ?_
                                                                      refine CW.condP rfl (fun hc61 => ?_) (fun hc61 => ?_)
                                                                      · refine CW.seq ?_
                                                                        refine CW.region ?_
                                                                        refine RG.vl rfl rfl rfl (Ev.assign rfl rfl) ?_
                                                                        refine RG.done ?_
                                                                        refine QW.then_ ?_
                                                                        refine CW.ret ?_
                                                                        refine QW.blockR ?_
                                                                        refine QW.thenRet ?_
                                                                        refine QW.ret1 rfl rfl ?_
                                                                        have hB := hB0
                                                                        refine ⟨congrArg (fun x : List UInt8 => Value.string ⟨x.toArray⟩) (show ([89] : List UInt8) = lets a b from ?_), hB⟩
                                                                        first
                                                                          | (exfalso; omega)
                                                                          | (rw [show lets a b = letsU (b - 32) from by unfold lets; rw [if_neg (by omega), if_pos (by omega), if_neg (by omega), if_neg (by omega), if_pos (by omega)]]; unfold letsU; repeat (first | rw [if_pos (by omega)] | rw [if_neg (by omega)]))
                                                                      · refine CW.seq ?_
                                                                        refine CW.region ?_
                                                                        refine RG.vl rfl rfl rfl (Ev.eqI rfl rfl rfl) ?_
                                                                        refine RG.vl rfl rfl rfl (Ev.assign rfl rfl) ?_
                                                                        refine RG.done ?_
                                                                        refine QW.then_ ?_
                                                                        refine CW.condP rfl (fun hc62 => ?_) (fun hc62 => ?_)
                                                                        · refine CW.seq ?_
                                                                          refine CW.region ?_
                                                                          refine RG.vl rfl rfl rfl (Ev.assign rfl rfl) ?_
                                                                          refine RG.done ?_
                                                                          refine QW.then_ ?_
                                                                          refine CW.ret ?_
                                                                          refine QW.blockR ?_
                                                                          refine QW.thenRet ?_
                                                                          refine QW.ret1 rfl rfl ?_
                                                                          have hB := hB0
                                                                          refine ⟨congrArg (fun x : List UInt8 => Value.string ⟨x.toArray⟩) (show ([84, 72] : List UInt8) = lets a b from ?_), hB⟩
                                                                          first
                                                                            | (exfalso; omega)
                                                                            | (rw [show lets a b = letsU (b - 32) from by unfold lets; rw [if_neg (by omega), if_pos (by omega), if_neg (by omega), if_neg (by omega), if_pos (by omega)]]; unfold letsU; repeat (first | rw [if_pos (by omega)] | rw [if_neg (by omega)]))
                                                                        · refine CW.skip ?_
                                                                          refine QW.blockN ?_
                                                                          refine QW.then_ ?_
                                                                          refine CW.seq ?_
                                                                          refine CW.region ?_
                                                                          refine RG.vl rfl rfl rfl (Ev.assign rfl rfl) ?_
                                                                          refine RG.done ?_
                                                                          refine QW.then_ ?_
                                                                          refine CW.ret ?_
                                                                          refine QW.ret1 rfl rfl ?_
                                                                          have hB := hB0
                                                                          refine ⟨congrArg (fun x : List UInt8 => Value.string ⟨x.toArray⟩) (show ([] : List UInt8) = lets a b from ?_), hB⟩
                                                                          first
                                                                            | (exfalso; omega)
                                                                            | (rw [show lets a b = letsU (b - 32) from by unfold lets; rw [if_neg (by omega), if_pos (by omega), if_neg (by omega), if_neg (by omega), if_pos (by omega)]]; unfold letsU; repeat (first | rw [if_pos (by omega)] | rw [if_neg (by omega)]))
            · refine CW.skip ?_
              refine QW.blockN ?_
              refine QW.then_ ?_
              refine CW.seq ?_
              refine CW.seq ?_
              refine CW.region ?_
              refine RG.vl rfl rfl rfl (Ev.move rfl rfl) ?_
              refine RG.done ?_
              refine QW.then_ ?_
              refine CW.block ?_
              refine CW.seq ?_
              refine CW.seq ?_
              refine CW.region ?_
              refine RG.vl rfl rfl rfl (Ev.eqI rfl rfl rfl) ?_
              refine RG.vl rfl rfl rfl (Ev.assign rfl rfl) ?_
              refine RG.done ?_
              refine QW.then_ ?_
              refine CW.condP rfl (fun hc63 => ?_) (fun hc63 => ?_)
              · refine CW.skip ?_
                refine QW.then_ ?_
                refine CW.condP rfl (fun hc64 => ?_) (fun hc64 => absurd hc63 hc64)
                refine CW.seq ?_
                refine CW.region ?_
                refine RG.vl rfl rfl rfl (Ev.assign rfl rfl) ?_
                refine RG.done ?_
                refine QW.then_ ?_
                refine CW.ret ?_
                refine QW.blockR ?_
                refine QW.thenRet ?_
                refine QW.ret1 rfl rfl ?_
                have hB := hB0
                refine ⟨congrArg (fun x : List UInt8 => Value.string ⟨x.toArray⟩) (show ([65] : List UInt8) = lets a b from ?_), hB⟩
                first
                  | (exfalso; omega)
                  | (rw [show lets a b = letsU (b) from by unfold lets; rw [if_neg (by omega), if_pos (by omega), if_neg (by omega), if_neg (by omega), if_neg (by omega)]]; unfold letsU; repeat (first | rw [if_pos (by omega)] | rw [if_neg (by omega)]))
              · refine CW.seq ?_
                refine CW.region ?_
                refine RG.vl rfl rfl rfl (Ev.eqI rfl rfl rfl) ?_
                refine RG.vl rfl rfl rfl (Ev.assign rfl rfl) ?_
                refine RG.done ?_
                refine QW.then_ ?_
                refine CW.condP rfl (fun hc65 => ?_) (fun hc65 => ?_)
                · refine CW.skip ?_
                  refine QW.then_ ?_
                  refine CW.condP rfl (fun hc66 => ?_) (fun hc66 => absurd hc65 hc66)
                  refine CW.seq ?_
                  refine CW.region ?_
                  refine RG.vl rfl rfl rfl (Ev.assign rfl rfl) ?_
                  refine RG.done ?_
                  refine QW.then_ ?_
                  refine CW.ret ?_
                  refine QW.blockR ?_
                  refine QW.thenRet ?_
                  refine QW.ret1 rfl rfl ?_
                  have hB := hB0
                  refine ⟨congrArg (fun x : List UInt8 => Value.string ⟨x.toArray⟩) (show ([65] : List UInt8) = lets a b from ?_), hB⟩
                  first
                    | (exfalso; omega)
                    | (rw [show lets a b = letsU (b) from by unfold lets; rw [if_neg (by omega), if_pos (by omega), if_neg (by omega), if_neg (by omega), if_neg (by omega)]]; unfold letsU; repeat (first | rw [if_pos (by omega)] | rw [if_neg (by omega)]))
                · refine CW.seq ?_
                  refine CW.region ?_
                  refine RG.vl rfl rfl rfl (Ev.eqI rfl rfl rfl) ?_
                  refine RG.vl rfl rfl rfl (Ev.assign rfl rfl) ?_
                  refine RG.done ?_
                  refine QW.then_ ?_
                  refine CW.condP rfl (fun hc67 => ?_) (fun hc67 => ?_)
                  · refine CW.skip ?_
                    refine QW.then_ ?_
                    refine CW.condP rfl (fun hc68 => ?_) (fun hc68 => absurd hc67 hc68)
                    refine CW.seq ?_
                    refine CW.region ?_
                    refine RG.vl rfl rfl rfl (Ev.assign rfl rfl) ?_
                    refine RG.done ?_
                    refine QW.then_ ?_
                    refine CW.ret ?_
                    refine QW.blockR ?_
                    refine QW.thenRet ?_
                    refine QW.ret1 rfl rfl ?_
                    have hB := hB0
                    refine ⟨congrArg (fun x : List UInt8 => Value.string ⟨x.toArray⟩) (show ([65] : List UInt8) = lets a b from ?_), hB⟩
                    first
                      | (exfalso; omega)
                      | (rw [show lets a b = letsU (b) from by unfold lets; rw [if_neg (by omega), if_pos (by omega), if_neg (by omega), if_neg (by omega), if_neg (by omega)]]; unfold letsU; repeat (first | rw [if_pos (by omega)] | rw [if_neg (by omega)]))
                  · refine CW.seq ?_
                    refine CW.region ?_
                    refine RG.vl rfl rfl rfl (Ev.eqI rfl rfl rfl) ?_
                    refine RG.vl rfl rfl rfl (Ev.assign rfl rfl) ?_
                    refine RG.done ?_
                    refine QW.then_ ?_
                    refine CW.condP rfl (fun hc69 => ?_) (fun hc69 => ?_)
                    · refine CW.skip ?_
                      refine QW.then_ ?_
                      refine CW.condP rfl (fun hc70 => ?_) (fun hc70 => absurd hc69 hc70)
                      refine CW.seq ?_
                      refine CW.region ?_
                      refine RG.vl rfl rfl rfl (Ev.assign rfl rfl) ?_
                      refine RG.done ?_
                      refine QW.then_ ?_
                      refine CW.ret ?_
                      refine QW.blockR ?_
                      refine QW.thenRet ?_
                      refine QW.ret1 rfl rfl ?_
                      have hB := hB0
                      refine ⟨congrArg (fun x : List UInt8 => Value.string ⟨x.toArray⟩) (show ([65] : List UInt8) = lets a b from ?_), hB⟩
                      first
                        | (exfalso; omega)
                        | (rw [show lets a b = letsU (b) from by unfold lets; rw [if_neg (by omega), if_pos (by omega), if_neg (by omega), if_neg (by omega), if_neg (by omega)]]; unfold letsU; repeat (first | rw [if_pos (by omega)] | rw [if_neg (by omega)]))
                    · refine CW.region ?_
                      refine RG.vl rfl rfl rfl (Ev.eqI rfl rfl rfl) ?_
                      refine RG.vl rfl rfl rfl (Ev.assign rfl rfl) ?_
                      refine RG.done ?_
                      refine QW.then_ ?_
                      refine CW.condP rfl (fun hc71 => ?_) (fun hc71 => ?_)
                      · refine CW.seq ?_
                        refine CW.region ?_
                        refine RG.vl rfl rfl rfl (Ev.assign rfl rfl) ?_
                        refine RG.done ?_
                        refine QW.then_ ?_
                        refine CW.ret ?_
                        refine QW.blockR ?_
                        refine QW.thenRet ?_
                        refine QW.ret1 rfl rfl ?_
                        have hB := hB0
                        refine ⟨congrArg (fun x : List UInt8 => Value.string ⟨x.toArray⟩) (show ([65] : List UInt8) = lets a b from ?_), hB⟩
                        first
                          | (exfalso; omega)
                          | (rw [show lets a b = letsU (b) from by unfold lets; rw [if_neg (by omega), if_pos (by omega), if_neg (by omega), if_neg (by omega), if_neg (by omega)]]; unfold letsU; repeat (first | rw [if_pos (by omega)] | rw [if_neg (by omega)]))
                      · refine CW.seq ?_
                        refine CW.seq ?_
                        refine CW.region ?_
                        refine RG.vl rfl rfl rfl (Ev.eqI rfl rfl rfl) ?_
                        refine RG.vl rfl rfl rfl (Ev.assign rfl rfl) ?_
                        refine RG.done ?_
                        refine QW.then_ ?_
                        refine CW.condP rfl (fun hc72 => ?_) (fun hc72 => ?_)
                        · refine CW.skip ?_
                          refine QW.then_ ?_
                          refine CW.condP rfl (fun hc73 => ?_) (fun hc73 => absurd hc72 hc73)
                          refine CW.seq ?_
                          refine CW.region ?_
                          refine RG.vl rfl rfl rfl (Ev.assign rfl rfl) ?_
                          refine RG.done ?_
                          refine QW.sub (S' := [(4, _)]) ⟨rfl, trivial⟩ ?_
                          refine QW.then_ ?_
                          refine CW.ret ?_
                          refine QW.blockR ?_
                          refine QW.thenRet ?_
                          refine QW.ret1 rfl rfl ?_
                          have hB := hB0
                          refine ⟨congrArg (fun x : List UInt8 => Value.string ⟨x.toArray⟩) (show ([65, 69] : List UInt8) = lets a b from ?_), hB⟩
                          first
                            | (exfalso; omega)
                            | (rw [show lets a b = letsU (b) from by unfold lets; rw [if_neg (by omega), if_pos (by omega), if_neg (by omega), if_neg (by omega), if_neg (by omega)]]; unfold letsU; repeat (first | rw [if_pos (by omega)] | rw [if_neg (by omega)]))
                        · refine CW.region ?_
                          refine RG.vl rfl rfl rfl (Ev.eqI rfl rfl rfl) ?_
                          refine RG.vl rfl rfl rfl (Ev.assign rfl rfl) ?_
                          refine RG.done ?_
                          refine QW.sub (S' := [(4, _), (34, _), (41, _)]) ⟨rfl, rfl, rfl, trivial⟩ ?_
                          refine QW.then_ ?_
                          refine CW.condP rfl (fun hc74 => ?_) (fun hc74 => ?_)
                          · refine CW.seq ?_
                            refine CW.region ?_
                            refine RG.vl rfl rfl rfl (Ev.assign rfl rfl) ?_
                            refine RG.done ?_
                            refine QW.then_ ?_
                            refine CW.ret ?_
                            refine QW.blockR ?_
                            refine QW.thenRet ?_
                            refine QW.ret1 rfl rfl ?_
                            have hB := hB0
                            refine ⟨congrArg (fun x : List UInt8 => Value.string ⟨x.toArray⟩) (show ([65, 69] : List UInt8) = lets a b from ?_), hB⟩
                            first
                              | (exfalso; omega)
                              | (rw [show lets a b = letsU (b) from by unfold lets; rw [if_neg (by omega), if_pos (by omega), if_neg (by omega), if_neg (by omega), if_neg (by omega)]]; unfold letsU; repeat (first | rw [if_pos (by omega)] | rw [if_neg (by omega)]))
                          · refine CW.seq ?_
                            refine CW.region ?_
                            refine RG.vl rfl rfl rfl (Ev.eqI rfl rfl rfl) ?_
                            refine RG.vl rfl rfl rfl (Ev.assign rfl rfl) ?_
                            refine RG.done ?_
                            refine QW.then_ ?_
                            refine CW.condP rfl (fun hc75 => ?_) (fun hc75 => ?_)
                            · refine CW.seq ?_
                              refine CW.region ?_
                              refine RG.vl rfl rfl rfl (Ev.assign rfl rfl) ?_
                              refine RG.done ?_
                              refine QW.then_ ?_
                              refine CW.ret ?_
                              refine QW.blockR ?_
                              refine QW.thenRet ?_
                              refine QW.ret1 rfl rfl ?_
                              have hB := hB0
                              refine ⟨congrArg (fun x : List UInt8 => Value.string ⟨x.toArray⟩) (show ([67] : List UInt8) = lets a b from ?_), hB⟩
                              first
                                | (exfalso; omega)
                                | (rw [show lets a b = letsU (b) from by unfold lets; rw [if_neg (by omega), if_pos (by omega), if_neg (by omega), if_neg (by omega), if_neg (by omega)]]; unfold letsU; repeat (first | rw [if_pos (by omega)] | rw [if_neg (by omega)]))
                            · refine CW.seq ?_
                              refine CW.seq ?_
                              refine CW.region ?_
                              refine RG.vl rfl rfl rfl (Ev.eqI rfl rfl rfl) ?_
                              refine RG.vl rfl rfl rfl (Ev.assign rfl rfl) ?_
                              refine RG.done ?_
                              refine QW.then_ ?_
                              refine CW.condP rfl (fun hc76 => ?_) (fun hc76 => ?_)
                              · refine CW.skip ?_
                                refine QW.then_ ?_
                                refine CW.condP rfl (fun hc77 => ?_) (fun hc77 => absurd hc76 hc77)
                                refine CW.seq ?_
                                refine CW.region ?_
                                refine RG.vl rfl rfl rfl (Ev.assign rfl rfl) ?_
                                refine RG.done ?_
                                refine QW.then_ ?_
                                refine CW.ret ?_
                                refine QW.blockR ?_
                                refine QW.thenRet ?_
                                refine QW.ret1 rfl rfl ?_
                                have hB := hB0
                                refine ⟨congrArg (fun x : List UInt8 => Value.string ⟨x.toArray⟩) (show ([69] : List UInt8) = lets a b from ?_), hB⟩
                                first
                                  | (exfalso; omega)
                                  | (rw [show lets a b = letsU (b) from by unfold lets; rw [if_neg (by omega), if_pos (by omega), if_neg (by omega), if_neg (by omega), if_neg (by omega)]]; unfold letsU; repeat (first | rw [if_pos (by omega)] | rw [if_neg (by omega)]))
                              · refine CW.seq ?_
                                refine CW.region ?_
                                refine RG.vl rfl rfl rfl (Ev.eqI rfl rfl rfl) ?_
                                refine RG.vl rfl rfl rfl (Ev.assign rfl rfl) ?_
                                refine RG.done ?_
                                refine QW.then_ ?_
                                refine CW.condP rfl (fun hc78 => ?_) (fun hc78 => ?_)
                                · refine CW.skip ?_
                                  refine QW.then_ ?_
                                  refine CW.condP rfl (fun hc79 => ?_) (fun hc79 => absurd hc78 hc79)
                                  refine CW.seq ?_
                                  refine CW.region ?_
                                  refine RG.vl rfl rfl rfl (Ev.assign rfl rfl) ?_
                                  refine RG.done ?_
                                  refine QW.then_ ?_
                                  refine CW.ret ?_
                                  refine QW.blockR ?_
                                  refine QW.thenRet ?_
                                  refine QW.ret1 rfl rfl ?_
                                  have hB := hB0
                                  refine ⟨congrArg (fun x : List UInt8 => Value.string ⟨x.toArray⟩) (show ([69] : List UInt8) = lets a b from ?_), hB⟩
                                  first
                                    | (exfalso; omega)
                                    | (rw [show lets a b = letsU (b) from by unfold lets; rw [if_neg (by omega), if_pos (by omega), if_neg (by omega), if_neg (by omega), if_neg (by omega)]]; unfold letsU; repeat (first | rw [if_pos (by omega)] | rw [if_neg (by omega)]))
                                · refine CW.seq ?_
                                  refine CW.region ?_
                                  refine RG.vl rfl rfl rfl (Ev.eqI rfl rfl rfl) ?_
                                  refine RG.vl rfl rfl rfl (Ev.assign rfl rfl) ?_
                                  refine RG.done ?_
                                  refine QW.then_ ?_
                                  refine CW.condP rfl (fun hc80 => ?_) (fun hc80 => ?_)
                                  · refine CW.skip ?_
                                    refine QW.then_ ?_
                                    refine CW.condP rfl (fun hc81 => ?_) (fun hc81 => absurd hc80 hc81)
                                    refine CW.seq ?_
                                    refine CW.region ?_
                                    refine RG.vl rfl rfl rfl (Ev.assign rfl rfl) ?_
                                    refine RG.done ?_
                                    refine QW.then_ ?_
                                    refine CW.ret ?_
                                    refine QW.blockR ?_
                                    refine QW.thenRet ?_
                                    refine QW.ret1 rfl rfl ?_
                                    have hB := hB0
                                    refine ⟨congrArg (fun x : List UInt8 => Value.string ⟨x.toArray⟩) (show ([69] : List UInt8) = lets a b from ?_), hB⟩
                                    first
                                      | (exfalso; omega)
                                      | (rw [show lets a b = letsU (b) from by unfold lets; rw [if_neg (by omega), if_pos (by omega), if_neg (by omega), if_neg (by omega), if_neg (by omega)]]; unfold letsU; repeat (first | rw [if_pos (by omega)] | rw [if_neg (by omega)]))
                                  · refine CW.region ?_
                                    refine RG.vl rfl rfl rfl (Ev.eqI rfl rfl rfl) ?_
                                    refine RG.vl rfl rfl rfl (Ev.assign rfl rfl) ?_
                                    refine RG.done ?_
                                    refine QW.then_ ?_
                                    refine CW.condP rfl (fun hc82 => ?_) (fun hc82 => ?_)
                                    · refine CW.seq ?_
                                      refine CW.region ?_
                                      refine RG.vl rfl rfl rfl (Ev.assign rfl rfl) ?_
                                      refine RG.done ?_
                                      refine QW.then_ ?_
                                      refine CW.ret ?_
                                      refine QW.blockR ?_
                                      refine QW.thenRet ?_
                                      refine QW.ret1 rfl rfl ?_
                                      have hB := hB0
                                      refine ⟨congrArg (fun x : List UInt8 => Value.string ⟨x.toArray⟩) (show ([69] : List UInt8) = lets a b from ?_), hB⟩
                                      first
                                        | (exfalso; omega)
                                        | (rw [show lets a b = letsU (b) from by unfold lets; rw [if_neg (by omega), if_pos (by omega), if_neg (by omega), if_neg (by omega), if_neg (by omega)]]; unfold letsU; repeat (first | rw [if_pos (by omega)] | rw [if_neg (by omega)]))
                                    · refine CW.seq ?_
                                      refine CW.seq ?_
                                      refine CW.region ?_
                                      refine RG.vl rfl rfl rfl (Ev.eqI rfl rfl rfl) ?_
                                      refine RG.vl rfl rfl rfl (Ev.assign rfl rfl) ?_
                                      refine RG.done ?_
                                      refine QW.then_ ?_
                                      refine CW.condP rfl (fun hc83 => ?_) (fun hc83 => ?_)
                                      · refine CW.skip ?_
                                        refine QW.then_ ?_
                                        refine CW.condP rfl (fun hc84 => ?_) (fun hc84 => absurd hc83 hc84)
                                        refine CW.seq ?_
                                        refine CW.region ?_
                                        refine RG.vl rfl rfl rfl (Ev.assign rfl rfl) ?_
                                        refine RG.done ?_
                                        refine QW.then_ ?_
                                        refine CW.ret ?_
                                        refine QW.blockR ?_
                                        refine QW.thenRet ?_
                                        refine QW.ret1 rfl rfl ?_
                                        have hB := hB0
                                        refine ⟨congrArg (fun x : List UInt8 => Value.string ⟨x.toArray⟩) (show ([73] : List UInt8) = lets a b from ?_), hB⟩
                                        first
                                          | (exfalso; omega)
                                          | (rw [show lets a b = letsU (b) from by unfold lets; rw [if_neg (by omega), if_pos (by omega), if_neg (by omega), if_neg (by omega), if_neg (by omega)]]; unfold letsU; repeat (first | rw [if_pos (by omega)] | rw [if_neg (by omega)]))
                                      · refine CW.seq ?_
                                        refine CW.region ?_
                                        refine RG.vl rfl rfl rfl (Ev.eqI rfl rfl rfl) ?_
                                        refine RG.vl rfl rfl rfl (Ev.assign rfl rfl) ?_
                                        refine RG.done ?_
                                        refine QW.sub (S' := [(4, _), (34, _), (51, _)]) ⟨rfl, rfl, rfl, trivial⟩ ?_
                                        refine QW.then_ ?_
                                        refine CW.condP rfl (fun hc85 => ?_) (fun hc85 => ?_)
                                        · refine CW.skip ?_
                                          refine QW.then_ ?_
                                          refine CW.condP rfl (fun hc86 => ?_) (fun hc86 => absurd hc85 hc86)
                                          refine CW.seq ?_
                                          refine CW.region ?_
                                          refine RG.vl rfl rfl rfl (Ev.assign rfl rfl) ?_
                                          refine RG.done ?_
                                          refine QW.then_ ?_
                                          refine CW.ret ?_
                                          refine QW.blockR ?_
                                          refine QW.thenRet ?_
                                          refine QW.ret1 rfl rfl ?_
                                          have hB := hB0
                                          refine ⟨congrArg (fun x : List UInt8 => Value.string ⟨x.toArray⟩) (show ([73] : List UInt8) = lets a b from ?_), hB⟩
                                          first
                                            | (exfalso; omega)
                                            | (rw [show lets a b = letsU (b) from by unfold lets; rw [if_neg (by omega), if_pos (by omega), if_neg (by omega), if_neg (by omega), if_neg (by omega)]]; unfold letsU; repeat (first | rw [if_pos (by omega)] | rw [if_neg (by omega)]))
                                        · refine CW.seq ?_
                                          refine CW.region ?_
                                          refine RG.vl rfl rfl rfl (Ev.eqI rfl rfl rfl) ?_
                                          refine RG.vl rfl rfl rfl (Ev.assign rfl rfl) ?_
                                          refine RG.done ?_
                                          refine QW.then_ ?_
                                          refine CW.condP rfl (fun hc87 => ?_) (fun hc87 => ?_)
                                          · refine CW.skip ?_
                                            refine QW.then_ ?_
                                            refine CW.condP rfl (fun hc88 => ?_) (fun hc88 => absurd hc87 hc88)
                                            refine CW.seq ?_
                                            refine CW.region ?_
                                            refine RG.vl rfl rfl rfl (Ev.assign rfl rfl) ?_
                                            refine RG.done ?_
                                            refine QW.then_ ?_
                                            refine CW.ret ?_
                                            refine QW.blockR ?_
                                            refine QW.thenRet ?_
                                            refine QW.ret1 rfl rfl ?_
                                            have hB := hB0
                                            refine ⟨congrArg (fun x : List UInt8 => Value.string ⟨x.toArray⟩) (show ([73] : List UInt8) = lets a b from ?_), hB⟩
                                            first
                                              | (exfalso; omega)
                                              | (rw [show lets a b = letsU (b) from by unfold lets; rw [if_neg (by omega), if_pos (by omega), if_neg (by omega), if_neg (by omega), if_neg (by omega)]]; unfold letsU; repeat (first | rw [if_pos (by omega)] | rw [if_neg (by omega)]))
                                          · refine CW.region ?_
                                            refine RG.vl rfl rfl rfl (Ev.eqI rfl rfl rfl) ?_
                                            refine RG.vl rfl rfl rfl (Ev.assign rfl rfl) ?_
                                            refine RG.done ?_
                                            refine QW.then_ ?_
                                            refine CW.condP rfl (fun hc89 => ?_) (fun hc89 => ?_)
                                            · refine CW.seq ?_
                                              refine CW.region ?_
                                              refine RG.vl rfl rfl rfl (Ev.assign rfl rfl) ?_
                                              refine RG.done ?_
                                              refine QW.then_ ?_
                                              refine CW.ret ?_
                                              refine QW.blockR ?_
                                              refine QW.thenRet ?_
                                              refine QW.ret1 rfl rfl ?_
                                              have hB := hB0
                                              refine ⟨congrArg (fun x : List UInt8 => Value.string ⟨x.toArray⟩) (show ([73] : List UInt8) = lets a b from ?_), hB⟩
                                              first
                                                | (exfalso; omega)
                                                | (rw [show lets a b = letsU (b) from by unfold lets; rw [if_neg (by omega), if_pos (by omega), if_neg (by omega), if_neg (by omega), if_neg (by omega)]]; unfold letsU; repeat (first | rw [if_pos (by omega)] | rw [if_neg (by omega)]))
                                            · refine CW.seq ?_
                                              refine CW.region ?_
                                              refine RG.vl rfl rfl rfl (Ev.eqI rfl rfl rfl) ?_
                                              refine RG.vl rfl rfl rfl (Ev.assign rfl rfl) ?_
                                              refine RG.done ?_
                                              refine QW.then_ ?_
                                              refine CW.condP rfl (fun hc90 => ?_) (fun hc90 => ?_)
                                              · refine CW.seq ?_
                                                refine CW.region ?_
                                                refine RG.vl rfl rfl rfl (Ev.assign rfl rfl) ?_
                                                refine RG.done ?_
                                                refine QW.then_ ?_
                                                refine CW.ret ?_
                                                refine QW.blockR ?_
                                                refine QW.thenRet ?_
                                                refine QW.ret1 rfl rfl ?_
                                                have hB := hB0
                                                refine ⟨congrArg (fun x : List UInt8 => Value.string ⟨x.toArray⟩) (show ([68] : List UInt8) = lets a b from ?_), hB⟩
                                                first
                                                  | (exfalso; omega)
                                                  | (rw [show lets a b = letsU (b) from by unfold lets; rw [if_neg (by omega), if_pos (by omega), if_neg (by omega), if_neg (by omega), if_neg (by omega)]]; unfold letsU; repeat (first | rw [if_pos (by omega)] | rw [if_neg (by omega)]))
                                              · refine CW.seq ?_
                                                refine CW.region ?_
                                                refine RG.vl rfl rfl rfl (Ev.eqI rfl rfl rfl) ?_
                                                refine RG.vl rfl rfl rfl (Ev.assign rfl rfl) ?_
                                                refine RG.done ?_
                                                refine QW.then_ ?_
                                                refine CW.condP rfl (fun hc91 => ?_) (fun hc91 => ?_)
                                                · refine CW.seq ?_
                                                  refine CW.region ?_
                                                  refine RG.vl rfl rfl rfl (Ev.assign rfl rfl) ?_
                                                  refine RG.done ?_
                                                  refine QW.then_ ?_
                                                  refine CW.ret ?_
                                                  refine QW.blockR ?_
                                                  refine QW.thenRet ?_
                                                  refine QW.ret1 rfl rfl ?_
                                                  have hB := hB0
                                                  refine ⟨congrArg (fun x : List UInt8 => Value.string ⟨x.toArray⟩) (show ([78] : List UInt8) = lets a b from ?_), hB⟩
                                                  first
                                                    | (exfalso; omega)
                                                    | (rw [show lets a b = letsU (b) from by unfold lets; rw [if_neg (by omega), if_pos (by omega), if_neg (by omega), if_neg (by omega), if_neg (by omega)]]; unfold letsU; repeat (first | rw [if_pos (by omega)] | rw [if_neg (by omega)]))
                                                · refine CW.seq ?_
                                                  refine CW.seq ?_
                                                  refine CW.region ?_
                                                  refine RG.vl rfl rfl rfl (Ev.eqI rfl rfl rfl) ?_
                                                  refine RG.vl rfl rfl rfl (Ev.assign rfl rfl) ?_
                                                  refine RG.done ?_
                                                  refine QW.then_ ?_
                                                  refine CW.condP rfl (fun hc92 => ?_) (fun hc92 => ?_)
                                                  · refine CW.skip ?_
                                                    refine QW.then_ ?_
                                                    refine CW.condP rfl (fun hc93 => ?_) (fun hc93 => absurd hc92 hc93)
                                                    refine CW.seq ?_
                                                    refine CW.region ?_
                                                    refine RG.vl rfl rfl rfl (Ev.assign rfl rfl) ?_
                                                    refine RG.done ?_
                                                    refine QW.then_ ?_
                                                    refine CW.ret ?_
                                                    refine QW.blockR ?_
                                                    refine QW.thenRet ?_
                                                    refine QW.ret1 rfl rfl ?_
                                                    have hB := hB0
                                                    refine ⟨congrArg (fun x : List UInt8 => Value.string ⟨x.toArray⟩) (show ([79] : List UInt8) = lets a b from ?_), hB⟩
                                                    first
                                                      | (exfalso; omega)
                                                      | (rw [show lets a b = letsU (b) from by unfold lets; rw [if_neg (by omega), if_pos (by omega), if_neg (by omega), if_neg (by omega), if_neg (by omega)]]; unfold letsU; repeat (first | rw [if_pos (by omega)] | rw [if_neg (by omega)]))
                                                  · refine CW.seq ?_
                                                    refine CW.region ?_
                                                    refine RG.vl rfl rfl rfl (Ev.eqI rfl rfl rfl) ?_
                                                    refine RG.vl rfl rfl rfl (Ev.assign rfl rfl) ?_
                                                    refine RG.done ?_
                                                    refine QW.then_ ?_
                                                    refine CW.condP rfl (fun hc94 => ?_) (fun hc94 => ?_)
                                                    · refine CW.skip ?_
                                                      refine QW.then_ ?_
                                                      refine CW.condP rfl (fun hc95 => ?_) (fun hc95 => absurd hc94 hc95)
                                                      refine CW.seq ?_
                                                      refine CW.region ?_
                                                      refine RG.vl rfl rfl rfl (Ev.assign rfl rfl) ?_
                                                      refine RG.done ?_
                                                      refine QW.then_ ?_
                                                      refine CW.ret ?_
                                                      refine QW.blockR ?_
                                                      refine QW.thenRet ?_
                                                      refine QW.ret1 rfl rfl ?_
                                                      have hB := hB0
                                                      refine ⟨congrArg (fun x : List UInt8 => Value.string ⟨x.toArray⟩) (show ([79] : List UInt8) = lets a b from ?_), hB⟩
                                                      first
                                                        | (exfalso; omega)
                                                        | (rw [show lets a b = letsU (b) from by unfold lets; rw [if_neg (by omega), if_pos (by omega), if_neg (by omega), if_neg (by omega), if_neg (by omega)]]; unfold letsU; repeat (first | rw [if_pos (by omega)] | rw [if_neg (by omega)]))
                                                    · refine CW.seq ?_
                                                      refine CW.region ?_
                                                      refine RG.vl rfl rfl rfl (Ev.eqI rfl rfl rfl) ?_
                                                      refine RG.vl rfl rfl rfl (Ev.assign rfl rfl) ?_
                                                      refine RG.done ?_
                                                      refine QW.sub (S' := [(4, _), (34, _), (60, _)]) ⟨rfl, rfl, rfl, trivial⟩ ?_
                                                      refine QW.then_ ?_
                                                      refine CW.condP rfl (fun hc96 => ?_) (fun hc96 => ?_)
                                                      · refine CW.skip ?_
                                                        refine QW.then_ ?_
                                                        refine CW.condP rfl (fun hc97 => ?_) (fun hc97 => absurd hc96 hc97)
                                                        refine CW.seq ?_
                                                        refine CW.region ?_
                                                        refine RG.vl rfl rfl rfl (Ev.assign rfl rfl) ?_
                                                        refine RG.done ?_
                                                        refine QW.then_ ?_
                                                        refine CW.ret ?_
                                                        refine QW.blockR ?_
                                                        refine QW.thenRet ?_
                                                        refine QW.ret1 rfl rfl ?_
                                                        have hB := hB0
                                                        refine ⟨congrArg (fun x : List UInt8 => Value.string ⟨x.toArray⟩) (show ([79] : List UInt8) = lets a b from ?_), hB⟩
                                                        first
                                                          | (exfalso; omega)
                                                          | (rw [show lets a b = letsU (b) from by unfold lets; rw [if_neg (by omega), if_pos (by omega), if_neg (by omega), if_neg (by omega), if_neg (by omega)]]; unfold letsU; repeat (first | rw [if_pos (by omega)] | rw [if_neg (by omega)]))
                                                      · refine CW.seq ?_
                                                        refine CW.region ?_
                                                        refine RG.vl rfl rfl rfl (Ev.eqI rfl rfl rfl) ?_
                                                        refine RG.vl rfl rfl rfl (Ev.assign rfl rfl) ?_
                                                        refine RG.done ?_
                                                        refine QW.then_ ?_
                                                        refine CW.condP rfl (fun hc98 => ?_) (fun hc98 => ?_)
                                                        · refine CW.skip ?_
                                                          refine QW.then_ ?_
                                                          refine CW.condP rfl (fun hc99 => ?_) (fun hc99 => absurd hc98 hc99)
                                                          refine CW.seq ?_
                                                          refine CW.region ?_
                                                          refine RG.vl rfl rfl rfl (Ev.assign rfl rfl) ?_
                                                          refine RG.done ?_
                                                          refine QW.then_ ?_
                                                          refine CW.ret ?_
                                                          refine QW.blockR ?_
                                                          refine QW.thenRet ?_
                                                          refine QW.ret1 rfl rfl ?_
                                                          have hB := hB0
                                                          refine ⟨congrArg (fun x : List UInt8 => Value.string ⟨x.toArray⟩) (show ([79] : List UInt8) = lets a b from ?_), hB⟩
                                                          first
                                                            | (exfalso; omega)
                                                            | (rw [show lets a b = letsU (b) from by unfold lets; rw [if_neg (by omega), if_pos (by omega), if_neg (by omega), if_neg (by omega), if_neg (by omega)]]; unfold letsU; repeat (first | rw [if_pos (by omega)] | rw [if_neg (by omega)]))
                                                        · refine CW.region ?_
                                                          refine RG.vl rfl rfl rfl (Ev.eqI rfl rfl rfl) ?_
                                                          refine RG.vl rfl rfl rfl (Ev.assign rfl rfl) ?_
                                                          refine RG.done ?_
                                                          refine QW.then_ ?_
                                                          refine CW.condP rfl (fun hc100 => ?_) (fun hc100 => ?_)
                                                          · refine CW.seq ?_
                                                            refine CW.region ?_
                                                            refine RG.vl rfl rfl rfl (Ev.assign rfl rfl) ?_
                                                            refine RG.done ?_
                                                            refine QW.then_ ?_
                                                            refine CW.ret ?_
                                                            refine QW.blockR ?_
                                                            refine QW.thenRet ?_
                                                            refine QW.ret1 rfl rfl ?_
                                                            have hB := hB0
                                                            refine ⟨congrArg (fun x : List UInt8 => Value.string ⟨x.toArray⟩) (show ([79] : List UInt8) = lets a b from ?_), hB⟩
                                                            first
                                                              | (exfalso; omega)
                                                              | (rw [show lets a b = letsU (b) from by unfold lets; rw [if_neg (by omega), if_pos (by omega), if_neg (by omega), if_neg (by omega), if_neg (by omega)]]; unfold letsU; repeat (first | rw [if_pos (by omega)] | rw [if_neg (by omega)]))
                                                          · refine CW.seq ?_
                                                            refine CW.region ?_
                                                            refine RG.vl rfl rfl rfl (Ev.eqI rfl rfl rfl) ?_
                                                            refine RG.vl rfl rfl rfl (Ev.assign rfl rfl) ?_
                                                            refine RG.done ?_
                                                            refine QW.then_ ?_
                                                            refine CW.condP rfl (fun hc101 => ?_) (fun hc101 => ?_)
                                                            · refine CW.seq ?_
                                                              refine CW.region ?_
                                                              refine RG.vl rfl rfl rfl (Ev.assign rfl rfl) ?_
                                                              refine RG.done ?_
                                                              refine QW.then_ ?_
                                                              refine CW.ret ?_
                                                              refine QW.blockR ?_
                                                              refine QW.thenRet ?_
                                                              refine QW.ret1 rfl rfl ?_
                                                              have hB := hB0
                                                              refine ⟨congrArg (fun x : List UInt8 => Value.string ⟨x.toArray⟩) (show ([79, 69] : List UInt8) = lets a b from ?_), hB⟩
                                                              first
                                                                | (exfalso; omega)
                                                                | (rw [show lets a b = letsU (b) from by unfold lets; rw [if_neg (by omega), if_pos (by omega), if_neg (by omega), if_neg (by omega), if_neg (by omega)]]; unfold letsU; repeat (first | rw [if_pos (by omega)] | rw [if_neg (by omega)]))
                                                            · refine CW.seq ?_
                                                              refine CW.seq ?_
                                                              refine CW.region ?_
                                                              refine RG.vl rfl rfl rfl (Ev.eqI rfl rfl rfl) ?_
                                                              refine RG.vl rfl rfl rfl (Ev.assign rfl rfl) ?_
                                                              refine RG.done ?_
                                                              refine QW.then_ ?_
                                                              refine CW.condP rfl (fun hc102 => ?_) (fun hc102 => ?_)
                                                              · refine CW.skip ?_
                                                                refine QW.then_ ?_
                                                                refine CW.condP rfl (fun hc103 => ?_) (fun hc103 => absurd hc102 hc103)
                                                                refine CW.seq ?_
                                                                refine CW.region ?_
                                                                refine RG.vl rfl rfl rfl (Ev.assign rfl rfl) ?_
                                                                refine RG.done ?_
                                                                refine QW.then_ ?_
                                                                refine CW.ret ?_
                                                                refine QW.blockR ?_
                                                                refine QW.thenRet ?_
                                                                refine QW.ret1 rfl rfl ?_
                                                                have hB := hB0
                                                                refine ⟨congrArg (fun x : List UInt8 => Value.string ⟨x.toArray⟩) (show ([85] : List UInt8) = lets a b from ?_), hB⟩
                                                                first
                                                                  | (exfalso; omega)
                                                                  | (rw [show lets a b = letsU (b) from by unfold lets; rw [if_neg (by omega), if_pos (by omega), if_neg (by omega), if_neg (by omega), if_neg (by omega)]]; unfold letsU; repeat (first | rw [if_pos (by omega)] | rw [if_neg (by omega)]))
                                                              · refine CW.seq ?_
                                                                refine CW.region ?_
                                                                refine RG.vl rfl rfl rfl (Ev.eqI rfl rfl rfl) ?_
                                                                refine RG.vl rfl rfl rfl (Ev.assign rfl rfl) ?_
                                                                refine RG.done ?_
                                                                refine QW.then_ ?_
                                                                refine CW.condP rfl (fun hc104 => ?_) (fun hc104 => ?_)
                                                                · refine CW.skip ?_
                                                                  refine QW.then_ ?_
                                                                  refine CW.condP rfl (fun hc105 => ?_) (fun hc105 => absurd hc104 hc105)
                                                                  refine CW.seq ?_
                                                                  refine CW.region ?_
                                                                  refine RG.vl rfl rfl rfl (Ev.assign rfl rfl) ?_
                                                                  refine RG.done ?_
                                                                  refine QW.then_ ?_
                                                                  refine CW.ret ?_
                                                                  refine QW.blockR ?_
                                                                  refine QW.thenRet ?_
                                                                  refine QW.ret1 rfl rfl ?_
                                                                  have hB := hB0
                                                                  refine ⟨congrArg (fun x : List UInt8 => Value.string ⟨x.toArray⟩) (show ([85] : List UInt8) = lets a b from ?_), hB⟩
                                                                  first
                                                                    | (exfalso; omega)
                                                                    | (rw [show lets a b = letsU (b) from by unfold lets; rw [if_neg (by omega), if_pos (by omega), if_neg (by omega), if_neg (by omega), if_neg (by omega)]]; unfold letsU; repeat (first | rw [if_pos (by omega)] | rw [if_neg (by omega)]))
                                                                · refine CW.region ?_
                                                                  refine RG.vl rfl rfl rfl (Ev.eqI rfl rfl rfl) ?_
                                                                  refine RG.vl rfl rfl rfl (Ev.assign rfl rfl) ?_
                                                                  refine RG.done ?_
                                                                  refine QW.then_ ?_
                                                                  refine CW.condP rfl (fun hc106 => ?_) (fun hc106 => ?_)
                                                                  · refine CW.seq ?_
                                                                    refine CW.region ?_
                                                                    refine RG.vl rfl rfl rfl (Ev.assign rfl rfl) ?_
                                                                    refine RG.done ?_
                                                                    refine QW.then_ ?_
                                                                    refine CW.ret ?_
                                                                    refine QW.blockR ?_
                                                                    refine QW.thenRet ?_
                                                                    refine QW.ret1 rfl rfl ?_
                                                                    have hB := hB0
                                                                    refine ⟨congrArg (fun x : List UInt8 => Value.string ⟨x.toArray⟩) (show ([85] : List UInt8) = lets a b from ?_), hB⟩
                                                                    first
                                                                      | (exfalso; omega)
                                                                      | (rw [show lets a b = letsU (b) from by unfold lets; rw [if_neg (by omega), if_pos (by omega), if_neg (by omega), if_neg (by omega), if_neg (by omega)]]; unfold letsU; repeat (first | rw [if_pos (by omega)] | rw [if_neg (by omega)]))
                                                                  · refine CW.seq ?_
                                                                    refine CW.region ?_
                                                                    refine RG.vl rfl rfl rfl (Ev.eqI rfl rfl rfl) ?_
                                                                    refine RG.vl rfl rfl rfl (Ev.assign rfl rfl) ?_
                                                                    refine RG.done ?_
                                                                    refine QW.sub (S' := [(4, _), (34, _), (72, _)]) ⟨rfl, rfl, rfl, trivial⟩ ?_
                                                                    refine QW.then_ ?_
                                                                    refine CW.condP rfl (fun hc107 => ?_) (fun hc107 => ?_)
                                                                    · refine CW.seq ?_
                                                                      refine CW.region ?_
                                                                      refine RG.vl rfl rfl rfl (Ev.assign rfl rfl) ?_
                                                                      refine RG.done ?_
                                                                      refine QW.then_ ?_
                                                                      refine CW.ret ?_
                                                                      refine QW.blockR ?_
                                                                      refine QW.thenRet ?_
                                                                      refine QW.ret1 rfl rfl ?_
                                                                      have hB := hB0
                                                                      refine ⟨congrArg (fun x : List UInt8 => Value.string ⟨x.toArray⟩) (show ([85, 69] : List UInt8) = lets a b from ?_), hB⟩
                                                                      first
                                                                        | (exfalso; omega)
                                                                        | (rw [show lets a b = letsU (b) from by unfold lets; rw [if_neg (by omega), if_pos (by omega), if_neg (by omega), if_neg (by omega), if_neg (by omega)]]; unfold letsU; repeat (first | rw [if_pos (by omega)] | rw [if_neg (by omega)]))
                                                                    · refine CW.seq ?_
                                                                      refine CW.region ?_
                                                                      refine RG.vl rfl rfl rfl (Ev.eqI rfl rfl rfl) ?_
                                                                      refine RG.vl rfl rfl rfl (Ev.assign rfl rfl) ?_
                                                                      refine RG.done ?_
                                                                      refine QW.then_ ?_
                                                                      refine CW.condP rfl (fun hc108 => ?_) (fun hc108 => ?_)
                                                                      · refine CW.seq ?_
                                                                        refine CW.region ?_
                                                                        refine RG.vl rfl rfl rfl (Ev.assign rfl rfl) ?_
                                                                        refine RG.done ?_
                                                                        refine QW.then_ ?_
                                                                        refine CW.ret ?_
                                                                        refine QW.blockR ?_
                                                                        refine QW.thenRet ?_
                                                                        refine QW.ret1 rfl rfl ?_
                                                                        have hB := hB0
                                                                        refine ⟨congrArg (fun x : List UInt8 => Value.string ⟨x.toArray⟩) (show ([89] : List UInt8) = lets a b from ?_), hB⟩
                                                                        first
                                                                          | (exfalso; omega)
                                                                          | (rw [show lets a b = letsU (b) from by unfold lets; rw [if_neg (by omega), if_pos (by omega), if_neg (by omega), if_neg (by omega), if_neg (by omega)]]; unfold letsU; repeat (first | rw [if_pos (by omega)] | rw [if_neg (by omega)]))
                                                                      · refine CW.seq ?_
                                                                        refine CW.region ?_
                                                                        refine RG.vl rfl rfl rfl (Ev.eqI rfl rfl rfl) ?_
                                                                        refine RG.vl rfl rfl rfl (Ev.assign rfl rfl) ?_
                                                                        refine RG.done ?_
                                                                        refine QW.then_ ?_
                                                                        refine CW.condP rfl (fun hc109 => ?_) (fun hc109 => ?_)
                                                                        · refine CW.seq ?_
                                                                          refine CW.region ?_
                                                                          refine RG.vl rfl rfl rfl (Ev.assign rfl rfl) ?_
                                                                          refine RG.done ?_
                                                                          refine QW.then_ ?_
                                                                          refine CW.ret ?_
                                                                          refine QW.blockR ?_
                                                                          refine QW.thenRet ?_
                                                                          refine QW.ret1 rfl rfl ?_
                                                                          have hB := hB0
                                                                          refine ⟨congrArg (fun x : List UInt8 => Value.string ⟨x.toArray⟩) (show ([84, 72] : List UInt8) = lets a b from ?_), hB⟩
                                                                          first
                                                                            | (exfalso; omega)
                                                                            | (rw [show lets a b = letsU (b) from by unfold lets; rw [if_neg (by omega), if_pos (by omega), if_neg (by omega), if_neg (by omega), if_neg (by omega)]]; unfold letsU; repeat (first | rw [if_pos (by omega)] | rw [if_neg (by omega)]))
                                                                        · refine CW.skip ?_
                                                                          refine QW.blockN ?_
                                                                          refine QW.then_ ?_
                                                                          refine CW.seq ?_
                                                                          refine CW.region ?_
                                                                          refine RG.vl rfl rfl rfl (Ev.assign rfl rfl) ?_
                                                                          refine RG.done ?_
                                                                          refine QW.then_ ?_
                                                                          refine CW.ret ?_
                                                                          refine QW.ret1 rfl rfl ?_
                                                                          have hB := hB0
                                                                          refine ⟨congrArg (fun x : List UInt8 => Value.string ⟨x.toArray⟩) (show ([] : List UInt8) = lets a b from ?_), hB⟩
                                                                          first
                                                                            | (exfalso; omega)
                                                                            | (rw [show lets a b = letsU (b) from by unfold lets; rw [if_neg (by omega), if_pos (by omega), if_neg (by omega), if_neg (by omega), if_neg (by omega)]]; unfold letsU; repeat (first | rw [if_pos (by omega)] | rw [if_neg (by omega)]))
          · refine RG.pass rfl rfl rfl ?_
            refine RG.pass rfl rfl rfl ?_
            refine RG.vl rfl rfl rfl (Ev.pickF rfl rfl rfl) ?_
            refine RG.vl rfl rfl rfl (Ev.assign rfl rfl) ?_
            refine RG.done ?_
            refine QW.sub (S' := [(1, _), (4, _), (25, _)]) ⟨rfl, rfl, rfl, trivial⟩ ?_
            refine QW.then_ ?_
            refine CW.condF rfl ?_
            refine CW.skip ?_
            refine QW.blockN ?_
            refine QW.then_ ?_
            refine CW.seq ?_
            refine CW.seq ?_
            refine CW.region ?_
            refine RG.vl rfl rfl rfl (Ev.move rfl rfl) ?_
            refine RG.done ?_
            refine QW.then_ ?_
            refine CW.block ?_
            refine CW.seq ?_
            refine CW.seq ?_
            refine CW.region ?_
            refine RG.vl rfl rfl rfl (Ev.eqI rfl rfl rfl) ?_
            refine RG.vl rfl rfl rfl (Ev.assign rfl rfl) ?_
            refine RG.done ?_
            refine QW.then_ ?_
            refine CW.condP rfl (fun hc110 => ?_) (fun hc110 => ?_)
            · refine CW.skip ?_
              refine QW.then_ ?_
              refine CW.condP rfl (fun hc111 => ?_) (fun hc111 => absurd hc110 hc111)
              refine CW.seq ?_
              refine CW.region ?_
              refine RG.vl rfl rfl rfl (Ev.assign rfl rfl) ?_
              refine RG.done ?_
              refine QW.then_ ?_
              refine CW.ret ?_
              refine QW.blockR ?_
              refine QW.thenRet ?_
              refine QW.ret1 rfl rfl ?_
              have hB := hB0
              refine ⟨congrArg (fun x : List UInt8 => Value.string ⟨x.toArray⟩) (show ([65] : List UInt8) = lets a b from ?_), hB⟩
              first
                | (exfalso; omega)
                | (rw [show lets a b = letsU (b) from by unfold lets; rw [if_neg (by omega), if_pos (by omega), if_neg (by omega), if_neg (by omega), if_neg (by omega)]]; unfold letsU; repeat (first | rw [if_pos (by omega)] | rw [if_neg (by omega)]))
            · refine CW.seq ?_
              refine CW.region ?_
              refine RG.vl rfl rfl rfl (Ev.eqI rfl rfl rfl) ?_
              refine RG.vl rfl rfl rfl (Ev.assign rfl rfl) ?_
              refine RG.done ?_
              refine QW.then_ ?_
              refine CW.condP rfl (fun hc112 => ?_) (fun hc112 => ?_)
              · refine CW.skip ?_
                refine QW.then_ ?_
                refine CW.condP rfl (fun hc113 => ?_) (fun hc113 => absurd hc112 hc113)
                refine CW.seq ?_
                refine CW.region ?_
                refine RG.vl rfl rfl rfl (Ev.assign rfl rfl) ?_
                refine RG.done ?_
                refine QW.then_ ?_
                refine CW.ret ?_
                refine QW.blockR ?_
                refine QW.thenRet ?_
                refine QW.ret1 rfl rfl ?_
                have hB := hB0
                refine ⟨congrArg (fun x : List UInt8 => Value.string ⟨x.toArray⟩) (show ([65] : List UInt8) = lets a b from ?_), hB⟩
                first
                  | (exfalso; omega)
                  | (rw [show lets a b = letsU (b) from by unfold lets; rw [if_neg (by omega), if_pos (by omega), if_neg (by omega), if_neg (by omega), if_neg (by omega)]]; unfold letsU; repeat (first | rw [if_pos (by omega)] | rw [if_neg (by omega)]))
              · refine CW.seq ?_
                refine CW.region ?_
                refine RG.vl rfl rfl rfl (Ev.eqI rfl rfl rfl) ?_
                refine RG.vl rfl rfl rfl (Ev.assign rfl rfl) ?_
                refine RG.done ?_
                refine QW.then_ ?_
                refine CW.condP rfl (fun hc114 => ?_) (fun hc114 => ?_)
                · refine CW.skip ?_
                  refine QW.then_ ?_
                  refine CW.condP rfl (fun hc115 => ?_) (fun hc115 => absurd hc114 hc115)
                  refine CW.seq ?_
                  refine CW.region ?_
                  refine RG.vl rfl rfl rfl (Ev.assign rfl rfl) ?_
                  refine RG.done ?_
                  refine QW.then_ ?_
                  refine CW.ret ?_
                  refine QW.blockR ?_
                  refine QW.thenRet ?_
                  refine QW.ret1 rfl rfl ?_
                  have hB := hB0
                  refine ⟨congrArg (fun x : List UInt8 => Value.string ⟨x.toArray⟩) (show ([65] : List UInt8) = lets a b from ?_), hB⟩
                  first
                    | (exfalso; omega)
                    | (rw [show lets a b = letsU (b) from by unfold lets; rw [if_neg (by omega), if_pos (by omega), if_neg (by omega), if_neg (by omega), if_neg (by omega)]]; unfold letsU; repeat (first | rw [if_pos (by omega)] | rw [if_neg (by omega)]))
                · refine CW.seq ?_
                  refine CW.region ?_
                  refine RG.vl rfl rfl rfl (Ev.eqI rfl rfl rfl) ?_
                  refine RG.vl rfl rfl rfl (Ev.assign rfl rfl) ?_
                  refine RG.done ?_
                  refine QW.then_ ?_
                  refine CW.condP rfl (fun hc116 => ?_) (fun hc116 => ?_)
                  · refine CW.skip ?_
                    refine QW.then_ ?_
                    refine CW.condP rfl (fun hc117 => ?_) (fun hc117 => absurd hc116 hc117)
                    refine CW.seq ?_
                    refine CW.region ?_
                    refine RG.vl rfl rfl rfl (Ev.assign rfl rfl) ?_
                    refine RG.done ?_
                    refine QW.then_ ?_
                    refine CW.ret ?_
                    refine QW.blockR ?_
                    refine QW.thenRet ?_
                    refine QW.ret1 rfl rfl ?_
                    have hB := hB0
                    refine ⟨congrArg (fun x : List UInt8 => Value.string ⟨x.toArray⟩) (show ([65] : List UInt8) = lets a b from ?_), hB⟩
                    first
                      | (exfalso; omega)
                      | (rw [show lets a b = letsU (b) from by unfold lets; rw [if_neg (by omega), if_pos (by omega), if_neg (by omega), if_neg (by omega), if_neg (by omega)]]; unfold letsU; repeat (first | rw [if_pos (by omega)] | rw [if_neg (by omega)]))
                  · refine CW.region ?_
                    refine RG.vl rfl rfl rfl (Ev.eqI rfl rfl rfl) ?_
                    refine RG.vl rfl rfl rfl (Ev.assign rfl rfl) ?_
                    refine RG.done ?_
                    refine QW.then_ ?_
                    refine CW.condP rfl (fun hc118 => ?_) (fun hc118 => ?_)
                    · refine CW.seq ?_
                      refine CW.region ?_
                      refine RG.vl rfl rfl rfl (Ev.assign rfl rfl) ?_
                      refine RG.done ?_
                      refine QW.then_ ?_
                      refine CW.ret ?_
                      refine QW.blockR ?_
                      refine QW.thenRet ?_
                      refine QW.ret1 rfl rfl ?_
                      have hB := hB0
                      refine ⟨congrArg (fun x : List UInt8 => Value.string ⟨x.toArray⟩) (show ([65] : List UInt8) = lets a b from ?_), hB⟩
                      first
                        | (exfalso; omega)
                        | (rw [show lets a b = letsU (b) from by unfold lets; rw [if_neg (by omega), if_pos (by omega), if_neg (by omega), if_neg (by omega), if_neg (by omega)]]; unfold letsU; repeat (first | rw [if_pos (by omega)] | rw [if_neg (by omega)]))
                    · refine CW.seq ?_
                      refine CW.seq ?_
                      refine CW.region ?_
                      refine RG.vl rfl rfl rfl (Ev.eqI rfl rfl rfl) ?_
                      refine RG.vl rfl rfl rfl (Ev.assign rfl rfl) ?_
                      refine RG.done ?_
                      refine QW.then_ ?_
                      refine CW.condP rfl (fun hc119 => ?_) (fun hc119 => ?_)
                      · refine CW.skip ?_
                        refine QW.then_ ?_
                        refine CW.condP rfl (fun hc120 => ?_) (fun hc120 => absurd hc119 hc120)
                        refine CW.seq ?_
                        refine CW.region ?_
                        refine RG.vl rfl rfl rfl (Ev.assign rfl rfl) ?_
                        refine RG.done ?_
                        refine QW.sub (S' := [(4, _)]) ⟨rfl, trivial⟩ ?_
                        refine QW.then_ ?_
                        refine CW.ret ?_
                        refine QW.blockR ?_
                        refine QW.thenRet ?_
                        refine QW.ret1 rfl rfl ?_
                        have hB := hB0
                        refine ⟨congrArg (fun x : List UInt8 => Value.string ⟨x.toArray⟩) (show ([65, 69] : List UInt8) = lets a b from ?_), hB⟩
                        first
                          | (exfalso; omega)
                          | (rw [show lets a b = letsU (b) from by unfold lets; rw [if_neg (by omega), if_pos (by omega), if_neg (by omega), if_neg (by omega), if_neg (by omega)]]; unfold letsU; repeat (first | rw [if_pos (by omega)] | rw [if_neg (by omega)]))
                      · refine CW.region ?_
                        refine RG.vl rfl rfl rfl (Ev.eqI rfl rfl rfl) ?_
                        refine RG.vl rfl rfl rfl (Ev.assign rfl rfl) ?_
                        refine RG.done ?_
                        refine QW.sub (S' := [(4, _), (34, _), (41, _)]) ⟨rfl, rfl, rfl, trivial⟩ ?_
                        refine QW.then_ ?_
                        refine CW.condP rfl (fun hc121 => ?_) (fun hc121 => ?_)
                        · refine CW.seq ?_
                          refine CW.region ?_
                          refine RG.vl rfl rfl rfl (Ev.assign rfl rfl) ?_
                          refine RG.done ?_
                          refine QW.then_ ?_
                          refine CW.ret ?_
                          refine QW.blockR ?_
                          refine QW.thenRet ?_
                          refine QW.ret1 rfl rfl ?_
                          have hB := hB0
                          refine ⟨congrArg (fun x : List UInt8 => Value.string ⟨x.toArray⟩) (show ([65, 69] : List UInt8) = lets a b from ?_), hB⟩
                          first
                            | (exfalso; omega)
                            | (rw [show lets a b = letsU (b) from by unfold lets; rw [if_neg (by omega), if_pos (by omega), if_neg (by omega), if_neg (by omega), if_neg (by omega)]]; unfold letsU; repeat (first | rw [if_pos (by omega)] | rw [if_neg (by omega)]))
                        · refine CW.seq ?_
                          refine CW.region ?_
                          refine RG.vl rfl rfl rfl (Ev.eqI rfl rfl rfl) ?_
                          refine RG.vl rfl rfl rfl (Ev.assign rfl rfl) ?_
                          refine RG.done ?_
                          refine QW.then_ ?_
                          refine CW.condP rfl (fun hc122 => ?_) (fun hc122 => ?_)
                          · refine CW.seq ?_
                            refine CW.region ?_
                            refine RG.vl rfl rfl rfl (Ev.assign rfl rfl) ?_
                            refine RG.done ?_
                            refine QW.then_ ?_
                            refine CW.ret ?_
                            refine QW.blockR ?_
                            refine QW.thenRet ?_
                            refine QW.ret1 rfl rfl ?_
                            have hB := hB0
                            refine ⟨congrArg (fun x : List UInt8 => Value.string ⟨x.toArray⟩) (show ([67] : List UInt8) = lets a b from ?_), hB⟩
                            first
                              | (exfalso; omega)
                              | (rw [show lets a b = letsU (b) from by unfold lets; rw [if_neg (by omega), if_pos (by omega), if_neg (by omega), if_neg (by omega), if_neg (by omega)]]; unfold letsU; repeat (first | rw [if_pos (by omega)] | rw [if_neg (by omega)]))
                          · refine CW.seq ?_
                            refine CW.seq ?_
                            refine CW.region ?_
                            refine RG.vl rfl rfl rfl (Ev.eqI rfl rfl rfl) ?_
                            refine RG.vl rfl rfl rfl (Ev.assign rfl rfl) ?_
                            refine RG.done ?_
                            refine QW.then_ ?_
                            refine CW.condP rfl (fun hc123 => ?_) (fun hc123 => ?_)
                            · refine CW.skip ?_
                              refine QW.then_ ?_
                              refine CW.condP rfl (fun hc124 => ?_) (fun hc124 => absurd hc123 hc124)
                              refine CW.seq ?_
                              refine CW.region ?_
                              refine RG.vl rfl rfl rfl (Ev.assign rfl rfl) ?_
                              refine RG.done ?_
                              refine QW.then_ ?_
                              refine CW.ret ?_
                              refine QW.blockR ?_
                              refine QW.thenRet ?_
                              refine QW.ret1 rfl rfl ?_
                              have hB := hB0
                              refine ⟨congrArg (fun x : List UInt8 => Value.string ⟨x.toArray⟩) (show ([69] : List UInt8) = lets a b from ?_), hB⟩
                              first
                                | (exfalso; omega)
                                | (rw [show lets a b = letsU (b) from by unfold lets; rw [if_neg (by omega), if_pos (by omega), if_neg (by omega), if_neg (by omega), if_neg (by omega)]]; unfold letsU; repeat (first | rw [if_pos (by omega)] | rw [if_neg (by omega)]))
                            · refine CW.seq ?_
                              refine CW.region ?_
                              refine RG.vl rfl rfl rfl (Ev.eqI rfl rfl rfl) ?_
                              refine RG.vl rfl rfl rfl (Ev.assign rfl rfl) ?_
                              refine RG.done ?_
                              refine QW.then_ ?_
                              refine CW.condP rfl (fun hc125 => ?_) (fun hc125 => ?_)
                              · refine CW.skip ?_
                                refine QW.then_ ?_
                                refine CW.condP rfl (fun hc126 => ?_) (fun hc126 => absurd hc125 hc126)
                                refine CW.seq ?_
                                refine CW.region ?_
                                refine RG.vl rfl rfl rfl (Ev.assign rfl rfl) ?_
                                refine RG.done ?_
                                refine QW.then_ ?_
                                refine CW.ret ?_
                                refine QW.blockR ?_
                                refine QW.thenRet ?_
                                refine QW.ret1 rfl rfl ?_
                                have hB := hB0
                                refine ⟨congrArg (fun x : List UInt8 => Value.string ⟨x.toArray⟩) (show ([69] : List UInt8) = lets a b from ?_), hB⟩
                                first
                                  | (exfalso; omega)
                                  | (rw [show lets a b = letsU (b) from by unfold lets; rw [if_neg (by omega), if_pos (by omega), if_neg (by omega), if_neg (by omega), if_neg (by omega)]]; unfold letsU; repeat (first | rw [if_pos (by omega)] | rw [if_neg (by omega)]))
                              · refine CW.seq ?_
                                refine CW.region ?_
                                refine RG.vl rfl rfl rfl (Ev.eqI rfl rfl rfl) ?_
                                refine RG.vl rfl rfl rfl (Ev.assign rfl rfl) ?_
                                refine RG.done ?_
                                refine QW.then_ ?_
                                refine CW.condP rfl (fun hc127 => ?_) (fun hc127 => ?_)
                                · refine CW.skip ?_
                                  refine QW.then_ ?_
                                  refine CW.condP rfl (fun hc128 => ?_) (fun hc128 => absurd hc127 hc128)
                                  refine CW.seq ?_
                                  refine CW.region ?_
                                  refine RG.vl rfl rfl rfl (Ev.assign rfl rfl) ?_
                                  refine RG.done ?_
                                  refine QW.then_ ?_
                                  refine CW.ret ?_
                                  refine QW.blockR ?_
                                  refine QW.thenRet ?_
                                  refine QW.ret1 rfl rfl ?_
                                  have hB := hB0
                                  refine ⟨congrArg (fun x : List UInt8 => Value.string ⟨x.toArray⟩) (show ([69] : List UInt8) = lets a b from ?_), hB⟩
                                  first
                                    | (exfalso; omega)
                                    | (rw [show lets a b = letsU (b) from by unfold lets; rw [if_neg (by omega), if_pos (by omega), if_neg (by omega), if_neg (by omega), if_neg (by omega)]]; unfold letsU; repeat (first | rw [if_pos (by omega)] | rw [if_neg (by omega)]))
                                · refine CW.region ?_
                                  refine RG.vl rfl rfl rfl (Ev.eqI rfl rfl rfl) ?_
                                  refine RG.vl rfl rfl rfl (Ev.assign rfl rfl) ?_
                                  refine RG.done ?_
                                  refine QW.then_ ?_
                                  refine CW.condP rfl (fun hc129 => ?_) (fun hc129 => ?_)
                                  · refine CW.seq ?_
                                    refine CW.region ?_
                                    refine RG.vl rfl rfl rfl (Ev.assign rfl rfl) ?_
                                    refine RG.done ?_
                                    refine QW.then_ ?_
                                    refine CW.ret ?_
                                    refine QW.blockR ?_
                                    refine QW.thenRet ?_
                                    refine QW.ret1 rfl rfl ?_
                                    have hB := hB0
                                    refine ⟨congrArg (fun x : List UInt8 => Value.string ⟨x.toArray⟩) (show ([69] : List UInt8) = lets a b from ?_), hB⟩
                                    first
                                      | (exfalso; omega)
                                      | (rw [show lets a b = letsU (b) from by unfold lets; rw [if_neg (by omega), if_pos (by omega), if_neg (by omega), if_neg (by omega), if_neg (by omega)]]; unfold letsU; repeat (first | rw [if_pos (by omega)] | rw [if_neg (by omega)]))
                                  · refine CW.seq ?_
                                    refine CW.seq ?_
                                    refine CW.region ?_
                                    refine RG.vl rfl rfl rfl (Ev.eqI rfl rfl rfl) ?_
                                    refine RG.vl rfl rfl rfl (Ev.assign rfl rfl) ?_
                                    refine RG.done ?_
                                    refine QW.then_ ?_
                                    refine CW.condP rfl (fun hc130 => ?_) (fun hc130 => ?_)
                                    · refine CW.skip ?_
                                      refine QW.then_ ?_
                                      refine CW.condP rfl (fun hc131 => ?_) (fun hc131 => absurd hc130 hc131)
                                      refine CW.seq ?_
                                      refine CW.region ?_
                                      refine RG.vl rfl rfl rfl (Ev.assign rfl rfl) ?_
                                      refine RG.done ?_
                                      refine QW.then_ ?_
                                      refine CW.ret ?_
                                      refine QW.blockR ?_
                                      refine QW.thenRet ?_
                                      refine QW.ret1 rfl rfl ?_
                                      have hB := hB0
                                      refine ⟨congrArg (fun x : List UInt8 => Value.string ⟨x.toArray⟩) (show ([73] : List UInt8) = lets a b from ?_), hB⟩
                                      first
                                        | (exfalso; omega)
                                        | (rw [show lets a b = letsU (b) from by unfold lets; rw [if_neg (by omega), if_pos (by omega), if_neg (by omega), if_neg (by omega), if_neg (by omega)]]; unfold letsU; repeat (first | rw [if_pos (by omega)] | rw [if_neg (by omega)]))
                                    · refine CW.seq ?_
                                      refine CW.region ?_
                                      refine RG.vl rfl rfl rfl (Ev.eqI rfl rfl rfl) ?_
                                      refine RG.vl rfl rfl rfl (Ev.assign rfl rfl) ?_
                                      refine RG.done ?_
                                      refine QW.sub (S' := [(4, _), (34, _), (51, _)]) ⟨rfl, rfl, rfl, trivial⟩ ?_
                                      refine QW.then_ ?_
                                      refine CW.condP rfl (fun hc132 => ?_) (fun hc132 => ?_)
                                      · refine CW.skip ?_
                                        refine QW.then_ ?_
                                        refine CW.condP rfl (fun hc133 => ?_) (fun hc133 => absurd hc132 hc133)
                                        refine CW.seq ?_
                                        refine CW.region ?_
                                        refine RG.vl rfl rfl rfl (Ev.assign rfl rfl) ?_
                                        refine RG.done ?_
                                        refine QW.then_ ?_
                                        refine CW.ret ?_
                                        refine QW.blockR ?_
                                        refine QW.thenRet ?_
                                        refine QW.ret1 rfl rfl ?_
                                        have hB := hB0
                                        refine ⟨congrArg (fun x : List UInt8 => Value.string ⟨x.toArray⟩) (show ([73] : List UInt8) = lets a b from ?_), hB⟩
                                        first
                                          | (exfalso; omega)
                                          | (rw [show lets a b = letsU (b) from by unfold lets; rw [if_neg (by omega), if_pos (by omega), if_neg (by omega), if_neg (by omega), if_neg (by omega)]]; unfold letsU; repeat (first | rw [if_pos (by omega)] | rw [if_neg (by omega)]))
                                      · refine CW.seq ?_
                                        refine CW.region ?_
                                        refine RG.vl rfl rfl rfl (Ev.eqI rfl rfl rfl) ?_
                                        refine RG.vl rfl rfl rfl (Ev.assign rfl rfl) ?_
                                        refine RG.done ?_
                                        refine QW.then_ ?_
                                        refine CW.condP rfl (fun hc134 => ?_) (fun hc134 => ?_)
                                        · refine CW.skip ?_
                                          refine QW.then_ ?_
                                          refine CW.condP rfl (fun hc135 => ?_) (fun hc135 => absurd hc134 hc135)
                                          refine CW.seq ?_
                                          refine CW.region ?_
                                          refine RG.vl rfl rfl rfl (Ev.assign rfl rfl) ?_
                                          refine RG.done ?_
                                          refine QW.then_ ?_
                                          refine CW.ret ?_
                                          refine QW.blockR ?_
                                          refine QW.thenRet ?_
                                          refine QW.ret1 rfl rfl ?_
                                          have hB := hB0
                                          refine ⟨congrArg (fun x : List UInt8 => Value.string ⟨x.toArray⟩) (show ([73] : List UInt8) = lets a b from ?_), hB⟩
                                          first
                                            | (exfalso; omega)
                                            | (rw [show lets a b = letsU (b) from by unfold lets; rw [if_neg (by omega), if_pos (by omega), if_neg (by omega), if_neg (by omega), if_neg (by omega)]]; unfold letsU; repeat (first | rw [if_pos (by omega)] | rw [if_neg (by omega)]))
                                        · refine CW.region ?_
                                          refine RG.vl rfl rfl rfl (Ev.eqI rfl rfl rfl) ?_
                                          refine RG.vl rfl rfl rfl (Ev.assign rfl rfl) ?_
                                          refine RG.done ?_
                                          refine QW.then_ ?_
                                          refine CW.condP rfl (fun hc136 => ?_) (fun hc136 => ?_)
                                          · refine CW.seq ?_
                                            refine CW.region ?_
                                            refine RG.vl rfl rfl rfl (Ev.assign rfl rfl) ?_
                                            refine RG.done ?_
                                            refine QW.then_ ?_
                                            refine CW.ret ?_
                                            refine QW.blockR ?_
                                            refine QW.thenRet ?_
                                            refine QW.ret1 rfl rfl ?_
                                            have hB := hB0
                                            refine ⟨congrArg (fun x : List UInt8 => Value.string ⟨x.toArray⟩) (show ([73] : List UInt8) = lets a b from ?_), hB⟩
                                            first
                                              | (exfalso; omega)
                                              | (rw [show lets a b = letsU (b) from by unfold lets; rw [if_neg (by omega), if_pos (by omega), if_neg (by omega), if_neg (by omega), if_neg (by omega)]]; unfold letsU; repeat (first | rw [if_pos (by omega)] | rw [if_neg (by omega)]))
                                          · refine CW.seq ?_
                                            refine CW.region ?_
                                            refine RG.vl rfl rfl rfl (Ev.eqI rfl rfl rfl) ?_
                                            refine RG.vl rfl rfl rfl (Ev.assign rfl rfl) ?_
                                            refine RG.done ?_
                                            refine QW.then_ ?_
                                            refine CW.condP rfl (fun hc137 => ?_) (fun hc137 => ?_)
                                            · refine CW.seq ?_
                                              refine CW.region ?_
                                              refine RG.vl rfl rfl rfl (Ev.assign rfl rfl) ?_
                                              refine RG.done ?_
                                              refine QW.then_ ?_
                                              refine CW.ret ?_
                                              refine QW.blockR ?_
                                              refine QW.thenRet ?_
                                              refine QW.ret1 rfl rfl ?_
                                              have hB := hB0
                                              refine ⟨congrArg (fun x : List UInt8 => Value.string ⟨x.toArray⟩) (show ([68] : List UInt8) = lets a b from ?_), hB⟩
                                              first
                                                | (exfalso; omega)
                                                | (rw [show lets a b = letsU (b) from by unfold lets; rw [if_neg (by omega), if_pos (by omega), if_neg (by omega), if_neg (by omega), if_neg (by omega)]]; unfold letsU; repeat (first | rw [if_pos (by omega)] | rw [if_neg (by omega)]))
                                            · refine CW.seq ?_
                                              refine CW.region ?_
                                              refine RG.vl rfl rfl rfl (Ev.eqI rfl rfl rfl) ?_
                                              refine RG.vl rfl rfl rfl (Ev.assign rfl rfl) ?_
                                              refine RG.done ?_
                                              refine QW.then_ ?_
                                              refine CW.condP rfl (fun hc138 => ?_) (fun hc138 => ?_)
                                              · refine CW.seq ?_
                                                refine CW.region ?_
                                                refine RG.vl rfl rfl rfl (Ev.assign rfl rfl) ?_
                                                refine RG.done ?_
                                                refine QW.then_ ?_
                                                refine CW.ret ?_
                                                refine QW.blockR ?_
                                                refine QW.thenRet ?_
                                                refine QW.ret1 rfl rfl ?_
                                                have hB := hB0
                                                refine ⟨congrArg (fun x : List UInt8 => Value.string ⟨x.toArray⟩) (show ([78] : List UInt8) = lets a b from ?_), hB⟩
                                                first
                                                  | (exfalso; omega)
                                                  | (rw [show lets a b = letsU (b) from by unfold lets; rw [if_neg (by omega), if_pos (by omega), if_neg (by omega), if_neg (by omega), if_neg (by omega)]]; unfold letsU; repeat (first | rw [if_pos (by omega)] | rw [if_neg (by omega)]))
                                              · refine CW.seq ?_
                                                refine CW.seq ?_
                                                refine CW.region ?_
                                                refine RG.vl rfl rfl rfl (Ev.eqI rfl rfl rfl) ?_
                                                refine RG.vl rfl rfl rfl (Ev.assign rfl rfl) ?_
                                                refine RG.done ?_
                                                refine QW.then_ ?_
                                                refine CW.condP rfl (fun hc139 => ?_) (fun hc139 => ?_)
                                                · refine CW.skip ?_
                                                  refine QW.then_ ?_
                                                  refine CW.condP rfl (fun hc140 => ?_) (fun hc140 => absurd hc139 hc140)
                                                  refine CW.seq ?_
                                                  refine CW.region ?_
                                                  refine RG.vl rfl rfl rfl (Ev.assign rfl rfl) ?_
                                                  refine RG.done ?_
                                                  refine QW.then_ ?_
                                                  refine CW.ret ?_
                                                  refine QW.blockR ?_
                                                  refine QW.thenRet ?_
                                                  refine QW.ret1 rfl rfl ?_
                                                  have hB := hB0
                                                  refine ⟨congrArg (fun x : List UInt8 => Value.string ⟨x.toArray⟩) (show ([79] : List UInt8) = lets a b from ?_), hB⟩
                                                  first
                                                    | (exfalso; omega)
                                                    | (rw [show lets a b = letsU (b) from by unfold lets; rw [if_neg (by omega), if_pos (by omega), if_neg (by omega), if_neg (by omega), if_neg (by omega)]]; unfold letsU; repeat (first | rw [if_pos (by omega)] | rw [if_neg (by omega)]))
                                                · refine CW.seq ?_
                                                  refine CW.region ?_
                                                  refine RG.vl rfl rfl rfl (Ev.eqI rfl rfl rfl) ?_
                                                  refine RG.vl rfl rfl rfl (Ev.assign rfl rfl) ?_
                                                  refine RG.done ?_
                                                  refine QW.then_ ?_
                                                  refine CW.condP rfl (fun hc141 => ?_) (fun hc141 => ?_)
                                                  · refine CW.skip ?_
                                                    refine QW.then_ ?_
                                                    refine CW.condP rfl (fun hc142 => ?_) (fun hc142 => absurd hc141 hc142)
                                                    refine CW.seq ?_
                                                    refine CW.region ?_
                                                    refine RG.vl rfl rfl rfl (Ev.assign rfl rfl) ?_
                                                    refine RG.done ?_
                                                    refine QW.then_ ?_
                                                    refine CW.ret ?_
                                                    refine QW.blockR ?_
                                                    refine QW.thenRet ?_
                                                    refine QW.ret1 rfl rfl ?_
                                                    have hB := hB0
                                                    refine ⟨congrArg (fun x : List UInt8 => Value.string ⟨x.toArray⟩) (show ([79] : List UInt8) = lets a b from ?_), hB⟩
                                                    first
                                                      | (exfalso; omega)
                                                      | (rw [show lets a b = letsU (b) from by unfold lets; rw [if_neg (by omega), if_pos (by omega), if_neg (by omega), if_neg (by omega), if_neg (by omega)]]; unfold letsU; repeat (first | rw [if_pos (by omega)] | rw [if_neg (by omega)]))
                                                  · refine CW.seq ?_
                                                    refine CW.region ?_
                                                    refine RG.vl rfl rfl rfl (Ev.eqI rfl rfl rfl) ?_
                                                    refine RG.vl rfl rfl rfl (Ev.assign rfl rfl) ?_
                                                    refine RG.done ?_
                                                    refine QW.sub (S' := [(4, _), (34, _), (60, _)]) ⟨rfl, rfl, rfl, trivial⟩ ?_
                                                    refine QW.then_ ?_
                                                    refine CW.condP rfl (fun hc143 => ?_) (fun hc143 => ?_)
                                                    · refine CW.skip ?_
                                                      refine QW.then_ ?_
                                                      refine CW.condP rfl (fun hc144 => ?_) (fun hc144 => absurd hc143 hc144)
                                                      refine CW.seq ?_
                                                      refine CW.region ?_
                                                      refine RG.vl rfl rfl rfl (Ev.assign rfl rfl) ?_
                                                      refine RG.done ?_
                                                      refine QW.then_ ?_
                                                      refine CW.ret ?_
                                                      refine QW.blockR ?_
                                                      refine QW.thenRet ?_
                                                      refine QW.ret1 rfl rfl ?_
                                                      have hB := hB0
                                                      refine ⟨congrArg (fun x : List UInt8 => Value.string ⟨x.toArray⟩) (show ([79] : List UInt8) = lets a b from ?_), hB⟩
                                                      first
                                                        | (exfalso; omega)
                                                        | (rw [show lets a b = letsU (b) from by unfold lets; rw [if_neg (by omega), if_pos (by omega), if_neg (by omega), if_neg (by omega), if_neg (by omega)]]; unfold letsU; repeat (first | rw [if_pos (by omega)] | rw [if_neg (by omega)]))
                                                    · refine CW.seq ?_
                                                      refine CW.region ?_
                                                      refine RG.vl rfl rfl rfl (Ev.eqI rfl rfl rfl) ?_
                                                      refine RG.vl rfl rfl rfl (Ev.assign rfl rfl) ?_
                                                      refine RG.done ?_
                                                      refine QW.then_ ?_
                                                      refine CW.condP rfl (fun hc145 => ?_) (fun hc145 => ?_)
                                                      · refine CW.skip ?_
                                                        refine QW.then_ ?_
                                                        refine CW.condP rfl (fun hc146 => ?_) (fun hc146 => absurd hc145 hc146)
                                                        refine CW.seq ?_
                                                        refine CW.region ?_
                                                        refine RG.vl rfl rfl rfl (Ev.assign rfl rfl) ?_
                                                        refine RG.done ?_
                                                        refine QW.then_ ?_
                                                        refine CW.ret ?_
                                                        refine QW.blockR ?_
                                                        refine QW.thenRet ?_
                                                        refine QW.ret1 rfl rfl ?_
                                                        have hB := hB0
                                                        refine ⟨congrArg (fun x : List UInt8 => Value.string ⟨x.toArray⟩) (show ([79] : List UInt8) = lets a b from ?_), hB⟩
                                                        first
                                                          | (exfalso; omega)
                                                          | (rw [show lets a b = letsU (b) from by unfold lets; rw [if_neg (by omega), if_pos (by omega), if_neg (by omega), if_neg (by omega), if_neg (by omega)]]; unfold letsU; repeat (first | rw [if_pos (by omega)] | rw [if_neg (by omega)]))
                                                      · refine CW.region ?_
                                                        refine RG.vl rfl rfl rfl (Ev.eqI rfl rfl rfl) ?_
                                                        refine RG.vl rfl rfl rfl (Ev.assign rfl rfl) ?_
                                                        refine RG.done ?_
                                                        refine QW.then_ ?_
                                                        refine CW.condP rfl (fun hc147 => ?_) (fun hc147 => ?_)
                                                        · refine CW.seq ?_
                                                          refine CW.region ?_
                                                          refine RG.vl rfl rfl rfl (Ev.assign rfl rfl) ?_
                                                          refine RG.done ?_
                                                          refine QW.then_ ?_
                                                          refine CW.ret ?_
                                                          refine QW.blockR ?_
                                                          refine QW.thenRet ?_
                                                          refine QW.ret1 rfl rfl ?_
                                                          have hB := hB0
                                                          refine ⟨congrArg (fun x : List UInt8 => Value.string ⟨x.toArray⟩) (show ([79] : List UInt8) = lets a b from ?_), hB⟩
                                                          first
                                                            | (exfalso; omega)
                                                            | (rw [show lets a b = letsU (b) from by unfold lets; rw [if_neg (by omega), if_pos (by omega), if_neg (by omega), if_neg (by omega), if_neg (by omega)]]; unfold letsU; repeat (first | rw [if_pos (by omega)] | rw [if_neg (by omega)]))
                                                        · refine CW.seq ?_
                                                          refine CW.region ?_
                                                          refine RG.vl rfl rfl rfl (Ev.eqI rfl rfl rfl) ?_
                                                          refine RG.vl rfl rfl rfl (Ev.assign rfl rfl) ?_
                                                          refine RG.done ?_
                                                          refine QW.then_ ?_
                                                          refine CW.condP rfl (fun hc148 => ?_) (fun hc148 => ?_)
                                                          · refine CW.seq ?_
                                                            refine CW.region ?_
                                                            refine RG.vl rfl rfl rfl (Ev.assign rfl rfl) ?_
                                                            refine RG.done ?_
                                                            refine QW.then_ ?_
                                                            refine CW.ret ?_
                                                            refine QW.blockR ?_
                                                            refine QW.thenRet ?_
                                                            refine QW.ret1 rfl rfl ?_
                                                            have hB := hB0
                                                            refine ⟨congrArg (fun x : List UInt8 => Value.string ⟨x.toArray⟩) (show ([79, 69] : List UInt8) = lets a b from ?_), hB⟩
                                                            first
                                                              | (exfalso; omega)
                                                              | (rw [show lets a b = letsU (b) from by unfold lets; rw [if_neg (by omega), if_pos (by omega), if_neg (by omega), if_neg (by omega), if_neg (by omega)]]; unfold letsU; repeat (first | rw [if_pos (by omega)] | rw [if_neg (by omega)]))
                                                          · refine CW.seq ?_
                                                            refine CW.seq ?_
                                                            refine CW.region ?_
                                                            refine RG.vl rfl rfl rfl (Ev.eqI rfl rfl rfl) ?_
                                                            refine RG.vl rfl rfl rfl (Ev.assign rfl rfl) ?_
                                                            refine RG.done ?_
                                                            refine QW.then_ ?_
                                                            refine CW.condP rfl (fun hc149 => ?_) (fun hc149 => ?_)
                                                            · refine CW.skip ?_
                                                              refine QW.then_ ?_
                                                              refine CW.condP rfl (fun hc150 => ?_) (fun hc150 => absurd hc149 hc150)
                                                              refine CW.seq ?_
                                                              refine CW.region ?_
                                                              refine RG.vl rfl rfl rfl (Ev.assign rfl rfl) ?_
                                                              refine RG.done ?_
                                                              refine QW.then_ ?_
                                                              refine CW.ret ?_
                                                              refine QW.blockR ?_
                                                              refine QW.thenRet ?_
                                                              refine QW.ret1 rfl rfl ?_
                                                              have hB := hB0
                                                              refine ⟨congrArg (fun x : List UInt8 => Value.string ⟨x.toArray⟩) (show ([85] : List UInt8) = lets a b from ?_), hB⟩
                                                              first
                                                                | (exfalso; omega)
                                                                | (rw [show lets a b = letsU (b) from by unfold lets; rw [if_neg (by omega), if_pos (by omega), if_neg (by omega), if_neg (by omega), if_neg (by omega)]]; unfold letsU; repeat (first | rw [if_pos (by omega)] | rw [if_neg (by omega)]))
                                                            · refine CW.seq ?_
                                                              refine CW.region ?_
                                                              refine RG.vl rfl rfl rfl (Ev.eqI rfl rfl rfl) ?_
                                                              refine RG.vl rfl rfl rfl (Ev.assign rfl rfl) ?_
                                                              refine RG.done ?_
                                                              refine QW.then_ ?_
                                                              refine CW.condP rfl (fun hc151 => ?_) (fun hc151 => ?_)
                                                              · refine CW.skip ?_
                                                                refine QW.then_ ?_
                                                                refine CW.condP rfl (fun hc152 => ?_) (fun hc152 => absurd hc151 hc152)
                                                                refine CW.seq ?_
                                                                refine CW.region ?_
                                                                refine RG.vl rfl rfl rfl (Ev.assign rfl rfl) ?_
                                                                refine RG.done ?_
                                                                refine QW.then_ ?_
                                                                refine CW.ret ?_
                                                                refine QW.blockR ?_
                                                                refine QW.thenRet ?_
                                                                refine QW.ret1 rfl rfl ?_
                                                                have hB := hB0
                                                                refine ⟨congrArg (fun x : List UInt8 => Value.string ⟨x.toArray⟩) (show ([85] : List UInt8) = lets a b from ?_), hB⟩
                                                                first
                                                                  | (exfalso; omega)
                                                                  | (rw [show lets a b = letsU (b) from by unfold lets; rw [if_neg (by omega), if_pos (by omega), if_neg (by omega), if_neg (by omega), if_neg (by omega)]]; unfold letsU; repeat (first | rw [if_pos (by omega)] | rw [if_neg (by omega)]))
                                                              · refine CW.region ?_
                                                                refine RG.vl rfl rfl rfl (Ev.eqI rfl rfl rfl) ?_
                                                                refine RG.vl rfl rfl rfl (Ev.assign rfl rfl) ?_
                                                                refine RG.done ?_
                                                                refine QW.then_ ?_
                                                                refine CW.condP rfl (fun hc153 => ?_) (fun hc153 => ?_)
                                                                · refine CW.seq ?_
                                                                  refine CW.region ?_
                                                                  refine RG.vl rfl rfl rfl (Ev.assign rfl rfl) ?_
                                                                  refine RG.done ?_
                                                                  refine QW.then_ ?_
                                                                  refine CW.ret ?_
                                                                  refine QW.blockR ?_
                                                                  refine QW.thenRet ?_
                                                                  refine QW.ret1 rfl rfl ?_
                                                                  have hB := hB0
                                                                  refine ⟨congrArg (fun x : List UInt8 => Value.string ⟨x.toArray⟩) (show ([85] : List UInt8) = lets a b from ?_), hB⟩
                                                                  first
                                                                    | (exfalso; omega)
                                                                    | (rw [show lets a b = letsU (b) from by unfold lets; rw [if_neg (by omega), if_pos (by omega), if_neg (by omega), if_neg (by omega), if_neg (by omega)]]; unfold letsU; repeat (first | rw [if_pos (by omega)] | rw [if_neg (by omega)]))
                                                                · refine CW.seq ?_
                                                                  refine CW.region ?_
                                                                  refine RG.vl rfl rfl rfl (Ev.eqI rfl rfl rfl) ?_
                                                                  refine RG.vl rfl rfl rfl (Ev.assign rfl rfl) ?_
                                                                  refine RG.done ?_
                                                                  refine QW.sub (S' := [(4, _), (34, _), (72, _)]) ⟨rfl, rfl, rfl, trivial⟩ ?_
                                                                  refine QW.then_ ?_
                                                                  refine CW.condP rfl (fun hc154 => ?_) (fun hc154 => ?_)
                                                                  · refine CW.seq ?_
                                                                    refine CW.region ?_
                                                                    refine RG.vl rfl rfl rfl (Ev.assign rfl rfl) ?_
                                                                    refine RG.done ?_
                                                                    refine QW.then_ ?_
                                                                    refine CW.ret ?_
                                                                    refine QW.blockR ?_
                                                                    refine QW.thenRet ?_
                                                                    refine QW.ret1 rfl rfl ?_
                                                                    have hB := hB0
                                                                    refine ⟨congrArg (fun x : List UInt8 => Value.string ⟨x.toArray⟩) (show ([85, 69] : List UInt8) = lets a b from ?_), hB⟩
                                                                    first
                                                                      | (exfalso; omega)
                                                                      | (rw [show lets a b = letsU (b) from by unfold lets; rw [if_neg (by omega), if_pos (by omega), if_neg (by omega), if_neg (by omega), if_neg (by omega)]]; unfold letsU; repeat (first | rw [if_pos (by omega)] | rw [if_neg (by omega)]))
                                                                  · refine CW.seq ?_
                                                                    refine CW.region ?_
                                                                    refine RG.vl rfl rfl rfl (Ev.eqI rfl rfl rfl) ?_
                                                                    refine RG.vl rfl rfl rfl (Ev.assign rfl rfl) ?_
                                                                    refine RG.done ?_
                                                                    refine QW.then_ ?_
                                                                    refine CW.condP rfl (fun hc155 => ?_) (fun hc155 => ?_)
                                                                    · refine CW.seq ?_
                                                                      refine CW.region ?_
                                                                      refine RG.vl rfl rfl rfl (Ev.assign rfl rfl) ?_
                                                                      refine RG.done ?_
                                                                      refine QW.then_ ?_
                                                                      refine CW.ret ?_
                                                                      refine QW.blockR ?_
                                                                      refine QW.thenRet ?_
                                                                      refine QW.ret1 rfl rfl ?_
                                                                      have hB := hB0
                                                                      refine ⟨congrArg (fun x : List UInt8 => Value.string ⟨x.toArray⟩) (show ([89] : List UInt8) = lets a b from ?_), hB⟩
                                                                      first
                                                                        | (exfalso; omega)
                                                                        | (rw [show lets a b = letsU (b) from by unfold lets; rw [if_neg (by omega), if_pos (by omega), if_neg (by omega), if_neg (by omega), if_neg (by omega)]]; unfold letsU; repeat (first | rw [if_pos (by omega)] | rw [if_neg (by omega)]))
                                                                    · refine CW.seq ?_
                                                                      refine CW.region ?_
                                                                      refine RG.vl rfl rfl rfl (Ev.eqI rfl rfl rfl) ?_
                                                                      refine RG.vl rfl rfl rfl (Ev.assign rfl rfl) ?_
                                                                      refine RG.done ?_
                                                                      refine QW.then_ ?_
                                                                      refine CW.condP rfl (fun hc156 => ?_) (fun hc156 => ?_)
                                                                      · refine CW.seq ?_
                                                                        refine CW.region ?_
                                                                        refine RG.vl rfl rfl rfl (Ev.assign rfl rfl) ?_
                                                                        refine RG.done ?_
                                                                        refine QW.then_ ?_
                                                                        refine CW.ret ?_
                                                                        refine QW.blockR ?_
                                                                        refine QW.thenRet ?_
                                                                        refine QW.ret1 rfl rfl ?_
                                                                        have hB := hB0
                                                                        refine ⟨congrArg (fun x : List UInt8 => Value.string ⟨x.toArray⟩) (show ([84, 72] : List UInt8) = lets a b from ?_), hB⟩
                                                                        first
                                                                          | (exfalso; omega)
                                                                          | (rw [show lets a b = letsU (b) from by unfold lets; rw [if_neg (by omega), if_pos (by omega), if_neg (by omega), if_neg (by omega), if_neg (by omega)]]; unfold letsU; repeat (first | rw [if_pos (by omega)] | rw [if_neg (by omega)]))
                                                                      · refine CW.skip ?_
                                                                        refine QW.blockN ?_
                                                                        refine QW.then_ ?_
                                                                        refine CW.seq ?_
                                                                        refine CW.region ?_
                                                                        refine RG.vl rfl rfl rfl (Ev.assign rfl rfl) ?_
                                                                        refine RG.done ?_
                                                                        refine QW.then_ ?_
                                                                        refine CW.ret ?_
                                                                        refine QW.ret1 rfl rfl ?_
                                                                        have hB := hB0
                                                                        refine ⟨congrArg (fun x : List UInt8 => Value.string ⟨x.toArray⟩) (show ([] : List UInt8) = lets a b from ?_), hB⟩
                                                                        first
                                                                          | (exfalso; omega)
                                                                          | (rw [show lets a b = letsU (b) from by unfold lets; rw [if_neg (by omega), if_pos (by omega), if_neg (by omega), if_neg (by omega), if_neg (by omega)]]; unfold letsU; repeat (first | rw [if_pos (by omega)] | rw [if_neg (by omega)]))

end Go.Proofs.Ytehlnkhbbnddmaa
