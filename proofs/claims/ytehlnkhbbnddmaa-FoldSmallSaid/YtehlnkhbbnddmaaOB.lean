/- Walks (OB). Written by program. -/
import Derived.Test.YtehlnkhbbnddmaaT
import Derived.Test.YtehlnkhbbnddmaaOA
namespace Go.Proofs.Ytehlnkhbbnddmaa
open Go.RowKit
set_option maxRecDepth 100000 in
set_option maxHeartbeats 4000000 in
theorem fold1_ret (l : List UInt8) (i g : Nat) (c : UInt8) (w : World) (hb : Blk w g 9 [.string ⟨l.toArray⟩]) (hc : l[i]? = some c) (hlen : l.length ≤ 100000) :
    Ret Try.prog 26 [.int .i64 (i : Int), .pointer (some ⟨g, 0, none⟩)] w (fun v w' => v = .tuple #[.string ⟨(one1 c (l.drop (i + 1))).1.toArray⟩, .int .i64 ((one1 c (l.drop (i + 1))).2 : Nat)] ∧ Ex w w') := by
  have hi := (List.getElem?_eq_some_iff.1 hc).1
  have hsz := sbytes l
  have hc8 := c.toNat_lt
  have hB0 : Ex w w := Ex.rfl_ _
  refine Ret.of Try.func26 rfl Try.ntmps26 rfl ?_
  refine CW.seq ?_
  refine CW.region ?_
  refine RG.vl rfl rfl rfl (Ev.assign rfl rfl) ?_
  refine RG.vl rfl rfl rfl (Ev.assign rfl rfl) ?_
  refine RG.done ?_
  refine QW.then_ ?_
  refine CW.seq ?_
  refine CW.region ?_
  refine RG.vl rfl rfl rfl (Ev.ld0 rfl rfl Try.underlying9 rfl (hb.cells) (rfl)) ?_
  refine RG.vl rfl rfl rfl (Ev.move rfl rfl) ?_
  refine RG.vl rfl rfl rfl (Ev.byteAt rfl rfl rfl Try.underlying9 (by omega) (hc)) ?_
  refine RG.vl rfl rfl rfl (Ev.assign rfl rfl) ?_
  refine RG.done ?_
  refine QW.then_ ?_
  refine CW.seq ?_
  refine CW.block ?_
  refine CW.seq ?_
  refine CW.seq ?_
  refine CW.region ?_
  refine RG.vl rfl rfl rfl (Ev.move rfl rfl) ?_
  refine RG.vl rfl rfl rfl (Ev.geq rfl rfl rfl) ?_
  refine RG.vl rfl rfl rfl (Ev.move rfl rfl) ?_
  refine RG.split (d := 13) rfl (fun hg1 => ?_) (fun hg1 => ?_)
  · refine RG.vl rfl rfl rfl (Ev.move rfl rfl) ?_
    refine RG.vl rfl rfl rfl (Ev.leq rfl rfl rfl) ?_
    refine RG.vl rfl rfl rfl (Ev.pickT rfl rfl rfl) ?_
    refine RG.vl rfl rfl rfl (Ev.assign rfl rfl) ?_
    refine RG.done ?_
    refine QW.then_ ?_
    refine CW.condP rfl (fun hc2 => ?_) (fun hc2 => ?_)
    · refine CW.skip ?_
      refine QW.then_ ?_
      refine CW.condP rfl (fun hc3 => ?_) (fun hc3 => absurd hc2 hc3)
      refine CW.seq ?_
      refine CW.region ?_
      refine RG.vl rfl rfl rfl (Ev.ld0 rfl rfl Try.underlying9 rfl (hb.cells) (rfl)) ?_
      refine RG.vl rfl rfl rfl (Ev.move rfl rfl) ?_
      refine RG.vl rfl rfl rfl (Ev.move rfl rfl) ?_
      refine RG.vl rfl rfl rfl (Ev.addI rfl rfl rfl (by omega)) ?_
      refine RG.vl rfl rfl rfl ((Ev.cutStr (i := i) (j := i + 1) rfl rfl Try.underlying9 rfl rfl (by omega) (by rw [sbytes]; omega)).conv (congrArg Value.string (bext hc))) ?_
      refine RG.vl rfl rfl rfl (Ev.assign rfl rfl) ?_
      refine RG.vl rfl rfl rfl (Ev.assign rfl rfl) ?_
      refine RG.done ?_
      refine QW.sub (S' := [(3, _), (4, _)]) ⟨rfl, rfl, trivial⟩ ?_
      refine QW.then_ ?_
      refine CW.ret ?_
      refine QW.blockR ?_
      refine QW.thenRet ?_
      refine QW.ret2 rfl rfl rfl ?_
      have hB := hB0
      exact ⟨(by rw [one1_plain (by omega)]; first | done | rfl), hB⟩
    · refine CW.seq ?_
      refine CW.region ?_
      refine RG.vl rfl rfl rfl (Ev.move rfl rfl) ?_
      refine RG.vl rfl rfl rfl (Ev.geq rfl rfl rfl) ?_
      refine RG.vl rfl rfl rfl (Ev.move rfl rfl) ?_
      refine RG.split (d := 19) rfl (fun hg4 => ?_) (fun hg4 => ?_)
      · refine RG.vl rfl rfl rfl (Ev.move rfl rfl) ?_
        refine RG.vl rfl rfl rfl (Ev.leq rfl rfl rfl) ?_
        refine RG.vl rfl rfl rfl (Ev.pickT rfl rfl rfl) ?_
        refine RG.vl rfl rfl rfl (Ev.assign rfl rfl) ?_
        refine RG.done ?_
        refine QW.sub (S' := [(0, _), (1, _), (3, _), (4, _), (5, _), (10, _)]) ⟨rfl, rfl, rfl, rfl, rfl, rfl, trivial⟩ ?_
        refine QW.then_ ?_
        refine CW.condP rfl (fun hc5 => ?_) (fun hc5 => ?_)
        · refine CW.skip ?_
          refine QW.then_ ?_
          refine CW.condP rfl (fun hc6 => ?_) (fun hc6 => absurd hc5 hc6)
          refine CW.seq ?_
          refine CW.region ?_
          refine RG.vl rfl rfl rfl (Ev.ld0 rfl rfl Try.underlying9 rfl (hb.cells) (rfl)) ?_
          refine RG.vl rfl rfl rfl (Ev.move rfl rfl) ?_
          refine RG.vl rfl rfl rfl (Ev.move rfl rfl) ?_
          refine RG.vl rfl rfl rfl (Ev.addI rfl rfl rfl (by omega)) ?_
          refine RG.vl rfl rfl rfl ((Ev.cutStr (i := i) (j := i + 1) rfl rfl Try.underlying9 rfl rfl (by omega) (by rw [sbytes]; omega)).conv (congrArg Value.string (bext hc))) ?_
          refine RG.vl rfl rfl rfl (Ev.assign rfl rfl) ?_
          refine RG.vl rfl rfl rfl (Ev.assign rfl rfl) ?_
          refine RG.done ?_
          refine QW.then_ ?_
          refine CW.ret ?_
          refine QW.blockR ?_
          refine QW.thenRet ?_
          refine QW.ret2 rfl rfl rfl ?_
          have hB := hB0
          exact ⟨(by rw [one1_plain (by omega)]; first | done | rfl), hB⟩
        · refine CW.seq ?_
          refine CW.region ?_
          refine RG.vl rfl rfl rfl (Ev.move rfl rfl) ?_
          refine RG.vl rfl rfl rfl (Ev.eqI rfl rfl rfl) ?_
          refine RG.vl rfl rfl rfl (Ev.assign rfl rfl) ?_
          refine RG.done ?_
          refine QW.then_ ?_
          refine CW.condP rfl (fun hc7 => ?_) (fun hc7 => ?_)
          · refine CW.skip ?_
            refine QW.then_ ?_
            refine CW.condP rfl (fun hc8 => ?_) (fun hc8 => absurd hc7 hc8)
            refine CW.seq ?_
            refine CW.region ?_
            refine RG.vl rfl rfl rfl (Ev.ld0 rfl rfl Try.underlying9 rfl (hb.cells) (rfl)) ?_
            refine RG.vl rfl rfl rfl (Ev.move rfl rfl) ?_
            refine RG.vl rfl rfl rfl (Ev.move rfl rfl) ?_
            refine RG.vl rfl rfl rfl (Ev.addI rfl rfl rfl (by omega)) ?_
            refine RG.vl rfl rfl rfl ((Ev.cutStr (i := i) (j := i + 1) rfl rfl Try.underlying9 rfl rfl (by omega) (by rw [sbytes]; omega)).conv (congrArg Value.string (bext hc))) ?_
            refine RG.vl rfl rfl rfl (Ev.assign rfl rfl) ?_
            refine RG.vl rfl rfl rfl (Ev.assign rfl rfl) ?_
            refine RG.done ?_
            refine QW.then_ ?_
            refine CW.ret ?_
            refine QW.blockR ?_
            refine QW.thenRet ?_
            refine QW.ret2 rfl rfl rfl ?_
            have hB := hB0
            exact ⟨(by rw [one1_plain (by omega)]; first | done | rfl), hB⟩
          · refine CW.region ?_
            refine RG.vl rfl rfl rfl (Ev.move rfl rfl) ?_
            refine RG.vl rfl rfl rfl (Ev.eqI rfl rfl rfl) ?_
            refine RG.vl rfl rfl rfl (Ev.assign rfl rfl) ?_
            refine RG.done ?_
            refine QW.then_ ?_
            refine CW.condP rfl (fun hc9 => ?_) (fun hc9 => ?_)
            · refine CW.seq ?_
              refine CW.region ?_
              refine RG.vl rfl rfl rfl (Ev.ld0 rfl rfl Try.underlying9 rfl (hb.cells) (rfl)) ?_
              refine RG.vl rfl rfl rfl (Ev.move rfl rfl) ?_
              refine RG.vl rfl rfl rfl (Ev.move rfl rfl) ?_
              refine RG.vl rfl rfl rfl (Ev.addI rfl rfl rfl (by omega)) ?_
              refine RG.vl rfl rfl rfl ((Ev.cutStr (i := i) (j := i + 1) rfl rfl Try.underlying9 rfl rfl (by omega) (by rw [sbytes]; omega)).conv (congrArg Value.string (bext hc))) ?_
              refine RG.vl rfl rfl rfl (Ev.assign rfl rfl) ?_
              refine RG.vl rfl rfl rfl (Ev.assign rfl rfl) ?_
              refine RG.done ?_
              refine QW.then_ ?_
              refine CW.ret ?_
              refine QW.blockR ?_
              refine QW.thenRet ?_
              refine QW.ret2 rfl rfl rfl ?_
              have hB := hB0
              exact ⟨(by rw [one1_plain (by omega)]; first | done | rfl), hB⟩
            · refine CW.seq ?_
              refine CW.region ?_
              refine RG.vl rfl rfl rfl (Ev.move rfl rfl) ?_
              refine RG.vl rfl rfl rfl (Ev.geq rfl rfl rfl) ?_
              refine RG.vl rfl rfl rfl (Ev.move rfl rfl) ?_
              refine RG.split (d := 35) rfl (fun hg10 => ?_) (fun hg10 => ?_)
              · refine RG.vl rfl rfl rfl (Ev.move rfl rfl) ?_
                refine RG.vl rfl rfl rfl (Ev.leq rfl rfl rfl) ?_
                refine RG.vl rfl rfl rfl (Ev.pickT rfl rfl rfl) ?_
                refine RG.vl rfl rfl rfl (Ev.assign rfl rfl) ?_
                refine RG.done ?_
                refine QW.then_ ?_
                refine CW.condP rfl (fun hc11 => ?_) (fun hc11 => ?_)
                · refine CW.seq ?_
                  refine CW.region ?_
                  refine RG.vl rfl rfl rfl (Ev.move rfl rfl) ?_
                  refine RG.vl rfl rfl rfl (Ev.sub8 rfl rfl rfl (by omega)) ?_
                  refine RG.vl rfl rfl rfl ((Ev.add8 rfl rfl rfl (by omega)).conv (congrArg (Value.int .u8) (show (c.toNat : Int) - 97 + 65 = ((c.toNat - 32 : Nat) : Int) by omega))) ?_
                  refine RG.vl rfl rfl rfl (Ev.to32 rfl rfl Try.underlying5 Try.underlying21 (by omega)) ?_
                  refine RG.vl rfl rfl rfl (Ev.runeStr rfl rfl Try.underlying21 Try.underlying9 (by omega)) ?_
                  refine RG.vl rfl rfl rfl (Ev.assign rfl rfl) ?_
                  refine RG.vl rfl rfl rfl (Ev.assign rfl rfl) ?_
                  refine RG.done ?_
                  refine QW.sub (S' := [(3, _), (4, _)]) ⟨rfl, rfl, trivial⟩ ?_
                  refine QW.then_ ?_
                  refine CW.ret ?_
                  refine QW.blockR ?_
                  refine QW.thenRet ?_
                  refine QW.ret2 rfl rfl rfl ?_
                  have hB := hB0
                  exact ⟨(by rw [one1_small (by omega)]; first | done | rfl), hB⟩
                · refine CW.seq ?_
                  refine CW.region ?_
                  refine RG.vl rfl rfl rfl (Ev.move rfl rfl) ?_
                  refine RG.vl rfl rfl rfl (Ev.addI rfl rfl rfl (by omega)) ?_
                  refine RG.vl rfl rfl rfl (Ev.ld0 rfl rfl Try.underlying9 rfl (hb.cells) (rfl)) ?_
                  refine RG.vl rfl rfl rfl (Ev.lenStr rfl rfl rfl Try.underlying9) ?_
                  refine RG.vl rfl rfl rfl (Ev.lss rfl rfl rfl) ?_
                  refine RG.vl rfl rfl rfl (Ev.assign rfl rfl) ?_
                  refine RG.done ?_
                  refine QW.sub (S' := [(0, _), (1, _), (3, _), (4, _), (5, _), (44, _)]) ⟨rfl, rfl, rfl, rfl, rfl, rfl, trivial⟩ ?_
                  refine QW.then_ ?_
                  refine CW.condP rfl (fun hc12 => ?_) (fun hc12 => ?_)
                  · refine CW.seq ?_
                    obtain ⟨d, hd⟩ : ∃ d, l[i + 1]? = some d := ⟨_, List.getElem?_eq_getElem (by omega)⟩
                    have hd8 := d.toNat_lt
                    refine CW.region ?_
                    refine RG.vl rfl rfl rfl (Ev.move rfl rfl) ?_
                    refine RG.vl rfl rfl rfl (Ev.ld0 rfl rfl Try.underlying9 rfl (hb.cells) (rfl)) ?_
                    refine RG.vl rfl rfl rfl (Ev.move rfl rfl) ?_
                    refine RG.vl rfl rfl rfl (Ev.addI rfl rfl rfl (by omega)) ?_
                    refine RG.vl rfl rfl rfl (Ev.byteAt rfl rfl rfl Try.underlying9 (by omega) ((show _ = some d from by rw [show ((i : Int) + 1).toNat = i + 1 from by omega]; exact hd))) ?_
                    refine RG.call rfl rfl rfl rfl rfl rfl rfl en_27 (letters_ret c.toNat d.toNat _ (by omega)) ?_
                    rintro _ w13 ⟨rfl, hx13⟩
                    have hE14 := hx13
                    refine RG.vl rfl rfl rfl (Ev.assign rfl rfl) ?_
                    refine RG.done ?_
                    refine QW.then_ ?_
                    refine CW.seq ?_
                    refine CW.region ?_
                    refine RG.vl rfl rfl rfl (Ev.move rfl rfl) ?_
                    refine RG.vl rfl rfl rfl (Ev.neS rfl rfl rfl) ?_
                    refine RG.done ?_
                    refine QW.then_ ?_
                    refine CW.condP rfl (fun hc15 => ?_) (fun hc15 => ?_)
                    · refine CW.seq ?_
                      refine CW.region ?_
                      refine RG.vl rfl rfl rfl (Ev.move rfl rfl) ?_
                      refine RG.vl rfl rfl rfl (Ev.assign rfl rfl) ?_
                      refine RG.vl rfl rfl rfl (Ev.assign rfl rfl) ?_
                      refine RG.done ?_
                      refine QW.then_ ?_
                      refine CW.ret ?_
                      refine QW.blockR ?_
                      refine QW.thenRet ?_
                      refine QW.ret2 rfl rfl rfl ?_
                      have hB := (Ex.tr hB0 hE14)
                      exact ⟨(by rw [one1_two (by omega) (by omega) (by rw [List.getElem?_drop]; exact hd) (fun e => absurd (binj.2 e) (by assumption))]; first | done | rfl), hB⟩
                    · refine CW.skip ?_
                      refine QW.blockN ?_
                      refine QW.then_ ?_
                      refine CW.seq ?_
                      refine CW.region ?_
                      refine RG.vl rfl rfl rfl (Ev.assign rfl rfl) ?_
                      refine RG.vl rfl rfl rfl (Ev.assign rfl rfl) ?_
                      refine RG.done ?_
                      refine QW.then_ ?_
                      refine CW.ret ?_
                      refine QW.ret2 rfl rfl rfl ?_
                      have hB := (Ex.tr hB0 hE14)
                      exact ⟨(by rw [one1_none (by omega) (by omega) (by rw [List.getElem?_drop]; exact hd) ((binj (b := [])).1 (Decidable.not_not.1 (by assumption)))]; first | done | rfl), hB⟩
                  · refine CW.skip ?_
                    refine QW.blockN ?_
                    refine QW.then_ ?_
                    refine CW.seq ?_
                    refine CW.region ?_
                    refine RG.vl rfl rfl rfl (Ev.assign rfl rfl) ?_
                    refine RG.vl rfl rfl rfl (Ev.assign rfl rfl) ?_
                    refine RG.done ?_
                    refine QW.then_ ?_
                    refine CW.ret ?_
                    refine QW.ret2 rfl rfl rfl ?_
                    have hB := hB0
                    exact ⟨(by rw [one1_end (by omega) (by omega) (List.drop_eq_nil_of_le (by omega))]; first | done | rfl), hB⟩
              · refine RG.pass rfl rfl rfl ?_
                refine RG.pass rfl rfl rfl ?_
                refine RG.vl rfl rfl rfl (Ev.pickF rfl rfl rfl) ?_
                refine RG.vl rfl rfl rfl (Ev.assign rfl rfl) ?_
                refine RG.done ?_
                refine QW.then_ ?_
                refine CW.condF rfl ?_
                refine CW.seq ?_
                refine CW.region ?_
                refine RG.vl rfl rfl rfl (Ev.move rfl rfl) ?_
                refine RG.vl rfl rfl rfl (Ev.addI rfl rfl rfl (by omega)) ?_
                refine RG.vl rfl rfl rfl (Ev.ld0 rfl rfl Try.underlying9 rfl (hb.cells) (rfl)) ?_
                refine RG.vl rfl rfl rfl (Ev.lenStr rfl rfl rfl Try.underlying9) ?_
                refine RG.vl rfl rfl rfl (Ev.lss rfl rfl rfl) ?_
                refine RG.vl rfl rfl rfl (Ev.assign rfl rfl) ?_
                refine RG.done ?_
                refine QW.sub (S' := [(0, _), (1, _), (3, _), (4, _), (5, _), (44, _)]) ⟨rfl, rfl, rfl, rfl, rfl, rfl, trivial⟩ ?_
                refine QW.then_ ?_
                refine CW.condP rfl (fun hc16 => ?_) (fun hc16 => ?_)
                · refine CW.seq ?_
                  obtain ⟨d, hd⟩ : ∃ d, l[i + 1]? = some d := ⟨_, List.getElem?_eq_getElem (by omega)⟩
                  have hd8 := d.toNat_lt
                  refine CW.region ?_
                  refine RG.vl rfl rfl rfl (Ev.move rfl rfl) ?_
                  refine RG.vl rfl rfl rfl (Ev.ld0 rfl rfl Try.underlying9 rfl (hb.cells) (rfl)) ?_
                  refine RG.vl rfl rfl rfl (Ev.move rfl rfl) ?_
                  refine RG.vl rfl rfl rfl (Ev.addI rfl rfl rfl (by omega)) ?_
                  refine RG.vl rfl rfl rfl (Ev.byteAt rfl rfl rfl Try.underlying9 (by omega) ((show _ = some d from by rw [show ((i : Int) + 1).toNat = i + 1 from by omega]; exact hd))) ?_
                  refine RG.call rfl rfl rfl rfl rfl rfl rfl en_27 (letters_ret c.toNat d.toNat _ (by omega)) ?_
                  rintro _ w17 ⟨rfl, hx17⟩
                  have hE18 := hx17
                  refine RG.vl rfl rfl rfl (Ev.assign rfl rfl) ?_
                  refine RG.done ?_
                  refine QW.then_ ?_
                  refine CW.seq ?_
                  refine CW.region ?_
                  refine RG.vl rfl rfl rfl (Ev.move rfl rfl) ?_
                  refine RG.vl rfl rfl rfl (Ev.neS rfl rfl rfl) ?_
                  refine RG.done ?_
                  refine QW.then_ ?_
                  refine CW.condP rfl (fun hc19 => ?_) (fun hc19 => ?_)
                  · refine CW.seq ?_
                    refine CW.region ?_
                    refine RG.vl rfl rfl rfl (Ev.move rfl rfl) ?_
                    refine RG.vl rfl rfl rfl (Ev.assign rfl rfl) ?_
                    refine RG.vl rfl rfl rfl (Ev.assign rfl rfl) ?_
                    refine RG.done ?_
                    refine QW.then_ ?_
                    refine CW.ret ?_
                    refine QW.blockR ?_
                    refine QW.thenRet ?_
                    refine QW.ret2 rfl rfl rfl ?_
                    have hB := (Ex.tr hB0 hE18)
                    exact ⟨(by rw [one1_two (by omega) (by omega) (by rw [List.getElem?_drop]; exact hd) (fun e => absurd (binj.2 e) (by assumption))]; first | done | rfl), hB⟩
                  · refine CW.skip ?_
                    refine QW.blockN ?_
                    refine QW.then_ ?_
                    refine CW.seq ?_
                    refine CW.region ?_
                    refine RG.vl rfl rfl rfl (Ev.assign rfl rfl) ?_
                    refine RG.vl rfl rfl rfl (Ev.assign rfl rfl) ?_
                    refine RG.done ?_
                    refine QW.then_ ?_
                    refine CW.ret ?_
                    refine QW.ret2 rfl rfl rfl ?_
                    have hB := (Ex.tr hB0 hE18)
                    exact ⟨(by rw [one1_none (by omega) (by omega) (by rw [List.getElem?_drop]; exact hd) ((binj (b := [])).1 (Decidable.not_not.1 (by assumption)))]; first | done | rfl), hB⟩
                · refine CW.skip ?_
                  refine QW.blockN ?_
                  refine QW.then_ ?_
                  refine CW.seq ?_
                  refine CW.region ?_
                  refine RG.vl rfl rfl rfl (Ev.assign rfl rfl) ?_
                  refine RG.vl rfl rfl rfl (Ev.assign rfl rfl) ?_
                  refine RG.done ?_
                  refine QW.then_ ?_
                  refine CW.ret ?_
                  refine QW.ret2 rfl rfl rfl ?_
                  have hB := hB0
                  exact ⟨(by rw [one1_end (by omega) (by omega) (List.drop_eq_nil_of_le (by omega))]; first | done | rfl), hB⟩
      · refine RG.pass rfl rfl rfl ?_
        refine RG.pass rfl rfl rfl ?_
        refine RG.vl rfl rfl rfl (Ev.pickF rfl rfl rfl) ?_
        refine RG.vl rfl rfl rfl (Ev.assign rfl rfl) ?_
        refine RG.done ?_
        refine QW.sub (S' := [(0, _), (1, _), (3, _), (4, _), (5, _), (10, _)]) ⟨rfl, rfl, rfl, rfl, rfl, rfl, trivial⟩ ?_
        refine QW.then_ ?_
        refine CW.condF rfl ?_
        refine CW.seq ?_
        refine CW.region ?_
        refine RG.vl rfl rfl rfl (Ev.move rfl rfl) ?_
        refine RG.vl rfl rfl rfl (Ev.eqI rfl rfl rfl) ?_
        refine RG.vl rfl rfl rfl (Ev.assign rfl rfl) ?_
        refine RG.done ?_
        refine QW.then_ ?_
        refine CW.condP rfl (fun hc20 => ?_) (fun hc20 => ?_)
        · refine CW.skip ?_
          refine QW.then_ ?_
          refine CW.condP rfl (fun hc21 => ?_) (fun hc21 => absurd hc20 hc21)
          refine CW.seq ?_
          refine CW.region ?_
          refine RG.vl rfl rfl rfl (Ev.ld0 rfl rfl Try.underlying9 rfl (hb.cells) (rfl)) ?_
          refine RG.vl rfl rfl rfl (Ev.move rfl rfl) ?_
          refine RG.vl rfl rfl rfl (Ev.move rfl rfl) ?_
          refine RG.vl rfl rfl rfl (Ev.addI rfl rfl rfl (by omega)) ?_
          refine RG.vl rfl rfl rfl ((Ev.cutStr (i := i) (j := i + 1) rfl rfl Try.underlying9 rfl rfl (by omega) (by rw [sbytes]; omega)).conv (congrArg Value.string (bext hc))) ?_
          refine RG.vl rfl rfl rfl (Ev.assign rfl rfl) ?_
          refine RG.vl rfl rfl rfl (Ev.assign rfl rfl) ?_
          refine RG.done ?_
          refine QW.then_ ?_
          refine CW.ret ?_
          refine QW.blockR ?_
          refine QW.thenRet ?_
          refine QW.ret2 rfl rfl rfl ?_
          have hB := hB0
          exact ⟨(by rw [one1_plain (by omega)]; first | done | rfl), hB⟩
        · refine CW.region ?_
          refine RG.vl rfl rfl rfl (Ev.move rfl rfl) ?_
          refine RG.vl rfl rfl rfl (Ev.eqI rfl rfl rfl) ?_
          refine RG.vl rfl rfl rfl (Ev.assign rfl rfl) ?_
          refine RG.done ?_
          refine QW.then_ ?_
          refine CW.condP rfl (fun hc22 => ?_) (fun hc22 => ?_)
          · refine CW.seq ?_
            refine CW.region ?_
            refine RG.vl rfl rfl rfl (Ev.ld0 rfl rfl Try.underlying9 rfl (hb.cells) (rfl)) ?_
            refine RG.vl rfl rfl rfl (Ev.move rfl rfl) ?_
            refine RG.vl rfl rfl rfl (Ev.move rfl rfl) ?_
            refine RG.vl rfl rfl rfl (Ev.addI rfl rfl rfl (by omega)) ?_
            refine RG.vl rfl rfl rfl ((Ev.cutStr (i := i) (j := i + 1) rfl rfl Try.underlying9 rfl rfl (by omega) (by rw [sbytes]; omega)).conv (congrArg Value.string (bext hc))) ?_
            refine RG.vl rfl rfl rfl (Ev.assign rfl rfl) ?_
            refine RG.vl rfl rfl rfl (Ev.assign rfl rfl) ?_
            refine RG.done ?_
            refine QW.then_ ?_
            refine CW.ret ?_
            refine QW.blockR ?_
            refine QW.thenRet ?_
            refine QW.ret2 rfl rfl rfl ?_
            have hB := hB0
            exact ⟨(by rw [one1_plain (by omega)]; first | done | rfl), hB⟩
          · refine CW.seq ?_
            refine CW.region ?_
            refine RG.vl rfl rfl rfl (Ev.move rfl rfl) ?_
            refine RG.vl rfl rfl rfl (Ev.geq rfl rfl rfl) ?_
            refine RG.vl rfl rfl rfl (Ev.move rfl rfl) ?_
            refine RG.split (d := 35) rfl (fun hg23 => ?_) (fun hg23 => ?_)
            · refine RG.vl rfl rfl rfl (Ev.move rfl rfl) ?_
              refine RG.vl rfl rfl rfl (Ev.leq rfl rfl rfl) ?_
              refine RG.vl rfl rfl rfl (Ev.pickT rfl rfl rfl) ?_
              refine RG.vl rfl rfl rfl (Ev.assign rfl rfl) ?_
              refine RG.done ?_
              refine QW.then_ ?_
              refine CW.condP rfl (fun hc24 => ?_) (fun hc24 => ?_)
              · refine CW.seq ?_
                refine CW.region ?_
                refine RG.vl rfl rfl rfl (Ev.move rfl rfl) ?_
                refine RG.vl rfl rfl rfl (Ev.sub8 rfl rfl rfl (by omega)) ?_
                refine RG.vl rfl rfl rfl ((Ev.add8 rfl rfl rfl (by omega)).conv (congrArg (Value.int .u8) (show (c.toNat : Int) - 97 + 65 = ((c.toNat - 32 : Nat) : Int) by omega))) ?_
                refine RG.vl rfl rfl rfl (Ev.to32 rfl rfl Try.underlying5 Try.underlying21 (by omega)) ?_
                refine RG.vl rfl rfl rfl (Ev.runeStr rfl rfl Try.underlying21 Try.underlying9 (by omega)) ?_
                refine RG.vl rfl rfl rfl (Ev.assign rfl rfl) ?_
                refine RG.vl rfl rfl rfl (Ev.assign rfl rfl) ?_
                refine RG.done ?_
                refine QW.sub (S' := [(3, _), (4, _)]) ⟨rfl, rfl, trivial⟩ ?_
                refine QW.then_ ?_
                refine CW.ret ?_
                refine QW.blockR ?_
                refine QW.thenRet ?_
                refine QW.ret2 rfl rfl rfl ?_
                have hB := hB0
                exact ⟨(by rw [one1_small (by omega)]; first | done | rfl), hB⟩
              · refine CW.seq ?_
                refine CW.region ?_
                refine RG.vl rfl rfl rfl (Ev.move rfl rfl) ?_
                refine RG.vl rfl rfl rfl (Ev.addI rfl rfl rfl (by omega)) ?_
                refine RG.vl rfl rfl rfl (Ev.ld0 rfl rfl Try.underlying9 rfl (hb.cells) (rfl)) ?_
                refine RG.vl rfl rfl rfl (Ev.lenStr rfl rfl rfl Try.underlying9) ?_
                refine RG.vl rfl rfl rfl (Ev.lss rfl rfl rfl) ?_
                refine RG.vl rfl rfl rfl (Ev.assign rfl rfl) ?_
                refine RG.done ?_
                refine QW.sub (S' := [(0, _), (1, _), (3, _), (4, _), (5, _), (44, _)]) ⟨rfl, rfl, rfl, rfl, rfl, rfl, trivial⟩ ?_
                refine QW.then_ ?_
                refine CW.condP rfl (fun hc25 => ?_) (fun hc25 => ?_)
                · refine CW.seq ?_
                  obtain ⟨d, hd⟩ : ∃ d, l[i + 1]? = some d := ⟨_, List.getElem?_eq_getElem (by omega)⟩
                  have hd8 := d.toNat_lt
                  refine CW.region ?_
                  refine RG.vl rfl rfl rfl (Ev.move rfl rfl) ?_
                  refine RG.vl rfl rfl rfl (Ev.ld0 rfl rfl Try.underlying9 rfl (hb.cells) (rfl)) ?_
                  refine RG.vl rfl rfl rfl (Ev.move rfl rfl) ?_
                  refine RG.vl rfl rfl rfl (Ev.addI rfl rfl rfl (by omega)) ?_
                  refine RG.vl rfl rfl rfl (Ev.byteAt rfl rfl rfl Try.underlying9 (by omega) ((show _ = some d from by rw [show ((i : Int) + 1).toNat = i + 1 from by omega]; exact hd))) ?_
                  refine RG.call rfl rfl rfl rfl rfl rfl rfl en_27 (letters_ret c.toNat d.toNat _ (by omega)) ?_
                  rintro _ w26 ⟨rfl, hx26⟩
                  have hE27 := hx26
                  refine RG.vl rfl rfl rfl (Ev.assign rfl rfl) ?_
                  refine RG.done ?_
                  refine QW.then_ ?_
                  refine CW.seq ?_
                  refine CW.region ?_
                  refine RG.vl rfl rfl rfl (Ev.move rfl rfl) ?_
                  refine RG.vl rfl rfl rfl (Ev.neS rfl rfl rfl) ?_
                  refine RG.done ?_
                  refine QW.then_ ?_
                  refine CW.condP rfl (fun hc28 => ?_) (fun hc28 => ?_)
                  · refine CW.seq ?_
                    refine CW.region ?_
                    refine RG.vl rfl rfl rfl (Ev.move rfl rfl) ?_
                    refine RG.vl rfl rfl rfl (Ev.assign rfl rfl) ?_
                    refine RG.vl rfl rfl rfl (Ev.assign rfl rfl) ?_
                    refine RG.done ?_
                    refine QW.then_ ?_
                    refine CW.ret ?_
                    refine QW.blockR ?_
                    refine QW.thenRet ?_
                    refine QW.ret2 rfl rfl rfl ?_
                    have hB := (Ex.tr hB0 hE27)
                    exact ⟨(by rw [one1_two (by omega) (by omega) (by rw [List.getElem?_drop]; exact hd) (fun e => absurd (binj.2 e) (by assumption))]; first | done | rfl), hB⟩
                  · refine CW.skip ?_
                    refine QW.blockN ?_
                    refine QW.then_ ?_
                    refine CW.seq ?_
                    refine CW.region ?_
                    refine RG.vl rfl rfl rfl (Ev.assign rfl rfl) ?_
                    refine RG.vl rfl rfl rfl (Ev.assign rfl rfl) ?_
                    refine RG.done ?_
                    refine QW.then_ ?_
                    refine CW.ret ?_
                    refine QW.ret2 rfl rfl rfl ?_
                    have hB := (Ex.tr hB0 hE27)
                    exact ⟨(by rw [one1_none (by omega) (by omega) (by rw [List.getElem?_drop]; exact hd) ((binj (b := [])).1 (Decidable.not_not.1 (by assumption)))]; first | done | rfl), hB⟩
                · refine CW.skip ?_
                  refine QW.blockN ?_
                  refine QW.then_ ?_
                  refine CW.seq ?_
                  refine CW.region ?_
                  refine RG.vl rfl rfl rfl (Ev.assign rfl rfl) ?_
                  refine RG.vl rfl rfl rfl (Ev.assign rfl rfl) ?_
                  refine RG.done ?_
                  refine QW.then_ ?_
                  refine CW.ret ?_
                  refine QW.ret2 rfl rfl rfl ?_
                  have hB := hB0
                  exact ⟨(by rw [one1_end (by omega) (by omega) (List.drop_eq_nil_of_le (by omega))]; first | done | rfl), hB⟩
            · refine RG.pass rfl rfl rfl ?_
              refine RG.pass rfl rfl rfl ?_
              refine RG.vl rfl rfl rfl (Ev.pickF rfl rfl rfl) ?_
              refine RG.vl rfl rfl rfl (Ev.assign rfl rfl) ?_
              refine RG.done ?_
              refine QW.then_ ?_
              refine CW.condF rfl ?_
              refine CW.seq ?_
              refine CW.region ?_
              refine RG.vl rfl rfl rfl (Ev.move rfl rfl) ?_
              refine RG.vl rfl rfl rfl (Ev.addI rfl rfl rfl (by omega)) ?_
              refine RG.vl rfl rfl rfl (Ev.ld0 rfl rfl Try.underlying9 rfl (hb.cells) (rfl)) ?_
              refine RG.vl rfl rfl rfl (Ev.lenStr rfl rfl rfl Try.underlying9) ?_
              refine RG.vl rfl rfl rfl (Ev.lss rfl rfl rfl) ?_
              refine RG.vl rfl rfl rfl (Ev.assign rfl rfl) ?_
              refine RG.done ?_
              refine QW.sub (S' := [(0, _), (1, _), (3, _), (4, _), (5, _), (44, _)]) ⟨rfl, rfl, rfl, rfl, rfl, rfl, trivial⟩ ?_
              refine QW.then_ ?_
              refine CW.condP rfl (fun hc29 => ?_) (fun hc29 => ?_)
              · refine CW.seq ?_
                obtain ⟨d, hd⟩ : ∃ d, l[i + 1]? = some d := ⟨_, List.getElem?_eq_getElem (by omega)⟩
                have hd8 := d.toNat_lt
                refine CW.region ?_
                refine RG.vl rfl rfl rfl (Ev.move rfl rfl) ?_
                refine RG.vl rfl rfl rfl (Ev.ld0 rfl rfl Try.underlying9 rfl (hb.cells) (rfl)) ?_
                refine RG.vl rfl rfl rfl (Ev.move rfl rfl) ?_
                refine RG.vl rfl rfl rfl (Ev.addI rfl rfl rfl (by omega)) ?_
                refine RG.vl rfl rfl rfl (Ev.byteAt rfl rfl rfl Try.underlying9 (by omega) ((show _ = some d from by rw [show ((i : Int) + 1).toNat = i + 1 from by omega]; exact hd))) ?_
                refine RG.call rfl rfl rfl rfl rfl rfl rfl en_27 (letters_ret c.toNat d.toNat _ (by omega)) ?_
                rintro _ w30 ⟨rfl, hx30⟩
                have hE31 := hx30
                refine RG.vl rfl rfl rfl (Ev.assign rfl rfl) ?_
                refine RG.done ?_
                refine QW.then_ ?_
                refine CW.seq ?_
                refine CW.region ?_
                refine RG.vl rfl rfl rfl (Ev.move rfl rfl) ?_
                refine RG.vl rfl rfl rfl (Ev.neS rfl rfl rfl) ?_
                refine RG.done ?_
                refine QW.then_ ?_
                refine CW.condP rfl (fun hc32 => ?_) (fun hc32 => ?_)
                · refine CW.seq ?_
                  refine CW.region ?_
                  refine RG.vl rfl rfl rfl (Ev.move rfl rfl) ?_
                  refine RG.vl rfl rfl rfl (Ev.assign rfl rfl) ?_
                  refine RG.vl rfl rfl rfl (Ev.assign rfl rfl) ?_
                  refine RG.done ?_
                  refine QW.then_ ?_
                  refine CW.ret ?_
                  refine QW.blockR ?_
                  refine QW.thenRet ?_
                  refine QW.ret2 rfl rfl rfl ?_
                  have hB := (Ex.tr hB0 hE31)
                  exact ⟨(by rw [one1_two (by omega) (by omega) (by rw [List.getElem?_drop]; exact hd) (fun e => absurd (binj.2 e) (by assumption))]; first | done | rfl), hB⟩
                · refine CW.skip ?_
                  refine QW.blockN ?_
                  refine QW.then_ ?_
                  refine CW.seq ?_
                  refine CW.region ?_
                  refine RG.vl rfl rfl rfl (Ev.assign rfl rfl) ?_
                  refine RG.vl rfl rfl rfl (Ev.assign rfl rfl) ?_
                  refine RG.done ?_
                  refine QW.then_ ?_
                  refine CW.ret ?_
                  refine QW.ret2 rfl rfl rfl ?_
                  have hB := (Ex.tr hB0 hE31)
                  exact ⟨(by rw [one1_none (by omega) (by omega) (by rw [List.getElem?_drop]; exact hd) ((binj (b := [])).1 (Decidable.not_not.1 (by assumption)))]; first | done | rfl), hB⟩
              · refine CW.skip ?_
                refine QW.blockN ?_
                refine QW.then_ ?_
                refine CW.seq ?_
                refine CW.region ?_
                refine RG.vl rfl rfl rfl (Ev.assign rfl rfl) ?_
                refine RG.vl rfl rfl rfl (Ev.assign rfl rfl) ?_
                refine RG.done ?_
                refine QW.then_ ?_
                refine CW.ret ?_
                refine QW.ret2 rfl rfl rfl ?_
                have hB := hB0
                exact ⟨(by rw [one1_end (by omega) (by omega) (List.drop_eq_nil_of_le (by omega))]; first | done | rfl), hB⟩
  · refine RG.pass rfl rfl rfl ?_
    refine RG.pass rfl rfl rfl ?_
    refine RG.vl rfl rfl rfl (Ev.pickF rfl rfl rfl) ?_
    refine RG.vl rfl rfl rfl (Ev.assign rfl rfl) ?_
    refine RG.done ?_
    refine QW.then_ ?_
    refine CW.condF rfl ?_
    refine CW.seq ?_
    refine CW.region ?_
    refine RG.vl rfl rfl rfl (Ev.move rfl rfl) ?_
    refine RG.vl rfl rfl rfl (Ev.geq rfl rfl rfl) ?_
    refine RG.vl rfl rfl rfl (Ev.move rfl rfl) ?_
    refine RG.split (d := 19) rfl (fun hg33 => ?_) (fun hg33 => ?_)
    · refine RG.vl rfl rfl rfl (Ev.move rfl rfl) ?_
      refine RG.vl rfl rfl rfl (Ev.leq rfl rfl rfl) ?_
      refine RG.vl rfl rfl rfl (Ev.pickT rfl rfl rfl) ?_
      refine RG.vl rfl rfl rfl (Ev.assign rfl rfl) ?_
      refine RG.done ?_
      refine QW.sub (S' := [(0, _), (1, _), (3, _), (4, _), (5, _), (10, _)]) ⟨rfl, rfl, rfl, rfl, rfl, rfl, trivial⟩ ?_
      refine QW.then_ ?_
      refine CW.condP rfl (fun hc34 => ?_) (fun hc34 => ?_)
      · refine CW.skip ?_
        refine QW.then_ ?_
        refine CW.condP rfl (fun hc35 => ?_) (fun hc35 => absurd hc34 hc35)
        refine CW.seq ?_
        refine CW.region ?_
        refine RG.vl rfl rfl rfl (Ev.ld0 rfl rfl Try.underlying9 rfl (hb.cells) (rfl)) ?_
        refine RG.vl rfl rfl rfl (Ev.move rfl rfl) ?_
        refine RG.vl rfl rfl rfl (Ev.move rfl rfl) ?_
        refine RG.vl rfl rfl rfl (Ev.addI rfl rfl rfl (by omega)) ?_
        refine RG.vl rfl rfl rfl ((Ev.cutStr (i := i) (j := i + 1) rfl rfl Try.underlying9 rfl rfl (by omega) (by rw [sbytes]; omega)).conv (congrArg Value.string (bext hc))) ?_
        refine RG.vl rfl rfl rfl (Ev.assign rfl rfl) ?_
        refine RG.vl rfl rfl rfl (Ev.assign rfl rfl) ?_
        refine RG.done ?_
        refine QW.then_ ?_
        refine CW.ret ?_
        refine QW.blockR ?_
        refine QW.thenRet ?_
        refine QW.ret2 rfl rfl rfl ?_
        have hB := hB0
        exact ⟨(by rw [one1_plain (by omega)]; first | done | rfl), hB⟩
      · refine CW.seq ?_
        refine CW.region ?_
        refine RG.vl rfl rfl rfl (Ev.move rfl rfl) ?_
        refine RG.vl rfl rfl rfl (Ev.eqI rfl rfl rfl) ?_
        refine RG.vl rfl rfl rfl (Ev.assign rfl rfl) ?_
        refine RG.done ?_
        refine QW.then_ ?_
        refine CW.condP rfl (fun hc36 => ?_) (fun hc36 => ?_)
        · refine CW.skip ?_
          refine QW.then_ ?_
          refine CW.condP rfl (fun hc37 => ?_) (fun hc37 => absurd hc36 hc37)
          refine CW.seq ?_
          refine CW.region ?_
          refine RG.vl rfl rfl rfl (Ev.ld0 rfl rfl Try.underlying9 rfl (hb.cells) (rfl)) ?_
          refine RG.vl rfl rfl rfl (Ev.move rfl rfl) ?_
          refine RG.vl rfl rfl rfl (Ev.move rfl rfl) ?_
          refine RG.vl rfl rfl rfl (Ev.addI rfl rfl rfl (by omega)) ?_
          refine RG.vl rfl rfl rfl ((Ev.cutStr (i := i) (j := i + 1) rfl rfl Try.underlying9 rfl rfl (by omega) (by rw [sbytes]; omega)).conv (congrArg Value.string (bext hc))) ?_
          refine RG.vl rfl rfl rfl (Ev.assign rfl rfl) ?_
          refine RG.vl rfl rfl rfl (Ev.assign rfl rfl) ?_
          refine RG.done ?_
          refine QW.then_ ?_
          refine CW.ret ?_
          refine QW.blockR ?_
          refine QW.thenRet ?_
          refine QW.ret2 rfl rfl rfl ?_
          have hB := hB0
          exact ⟨(by rw [one1_plain (by omega)]; first | done | rfl), hB⟩
        · refine CW.region ?_
          refine RG.vl rfl rfl rfl (Ev.move rfl rfl) ?_
          refine RG.vl rfl rfl rfl (Ev.eqI rfl rfl rfl) ?_
          refine RG.vl rfl rfl rfl (Ev.assign rfl rfl) ?_
          refine RG.done ?_
          refine QW.then_ ?_
          refine CW.condP rfl (fun hc38 => ?_) (fun hc38 => ?_)
          · refine CW.seq ?_
            refine CW.region ?_
            refine RG.vl rfl rfl rfl (Ev.ld0 rfl rfl Try.underlying9 rfl (hb.cells) (rfl)) ?_
            refine RG.vl rfl rfl rfl (Ev.move rfl rfl) ?_
            refine RG.vl rfl rfl rfl (Ev.move rfl rfl) ?_
            refine RG.vl rfl rfl rfl (Ev.addI rfl rfl rfl (by omega)) ?_
            refine RG.vl rfl rfl rfl ((Ev.cutStr (i := i) (j := i + 1) rfl rfl Try.underlying9 rfl rfl (by omega) (by rw [sbytes]; omega)).conv (congrArg Value.string (bext hc))) ?_
            refine RG.vl rfl rfl rfl (Ev.assign rfl rfl) ?_
            refine RG.vl rfl rfl rfl (Ev.assign rfl rfl) ?_
            refine RG.done ?_
            refine QW.then_ ?_
            refine CW.ret ?_
            refine QW.blockR ?_
            refine QW.thenRet ?_
            refine QW.ret2 rfl rfl rfl ?_
            have hB := hB0
            exact ⟨(by rw [one1_plain (by omega)]; first | done | rfl), hB⟩
          · refine CW.seq ?_
            refine CW.region ?_
            refine RG.vl rfl rfl rfl (Ev.move rfl rfl) ?_
            refine RG.vl rfl rfl rfl (Ev.geq rfl rfl rfl) ?_
            refine RG.vl rfl rfl rfl (Ev.move rfl rfl) ?_
            refine RG.split (d := 35) rfl (fun hg39 => ?_) (fun hg39 => ?_)
            · refine RG.vl rfl rfl rfl (Ev.move rfl rfl) ?_
              refine RG.vl rfl rfl rfl (Ev.leq rfl rfl rfl) ?_
              refine RG.vl rfl rfl rfl (Ev.pickT rfl rfl rfl) ?_
              refine RG.vl rfl rfl rfl (Ev.assign rfl rfl) ?_
              refine RG.done ?_
              refine QW.then_ ?_
              refine CW.condP rfl (fun hc40 => ?_) (fun hc40 => ?_)
              · refine CW.seq ?_
                refine CW.region ?_
                refine RG.vl rfl rfl rfl (Ev.move rfl rfl) ?_
                refine RG.vl rfl rfl rfl (Ev.sub8 rfl rfl rfl (by omega)) ?_
                refine RG.vl rfl rfl rfl ((Ev.add8 rfl rfl rfl (by omega)).conv (congrArg (Value.int .u8) (show (c.toNat : Int) - 97 + 65 = ((c.toNat - 32 : Nat) : Int) by omega))) ?_
                refine RG.vl rfl rfl rfl (Ev.to32 rfl rfl Try.underlying5 Try.underlying21 (by omega)) ?_
                refine RG.vl rfl rfl rfl (Ev.runeStr rfl rfl Try.underlying21 Try.underlying9 (by omega)) ?_
                refine RG.vl rfl rfl rfl (Ev.assign rfl rfl) ?_
                refine RG.vl rfl rfl rfl (Ev.assign rfl rfl) ?_
                refine RG.done ?_
                refine QW.sub (S' := [(3, _), (4, _)]) ⟨rfl, rfl, trivial⟩ ?_
                refine QW.then_ ?_
                refine CW.ret ?_
                refine QW.blockR ?_
                refine QW.thenRet ?_
                refine QW.ret2 rfl rfl rfl ?_
                have hB := hB0
                exact ⟨(by rw [one1_small (by omega)]; first | done | rfl), hB⟩
              · refine CW.seq ?_
                refine CW.region ?_
                refine RG.vl rfl rfl rfl (Ev.move rfl rfl) ?_
                refine RG.vl rfl rfl rfl (Ev.addI rfl rfl rfl (by omega)) ?_
                refine RG.vl rfl rfl rfl (Ev.ld0 rfl rfl Try.underlying9 rfl (hb.cells) (rfl)) ?_
                refine RG.vl rfl rfl rfl (Ev.lenStr rfl rfl rfl Try.underlying9) ?_
                refine RG.vl rfl rfl rfl (Ev.lss rfl rfl rfl) ?_
                refine RG.vl rfl rfl rfl (Ev.assign rfl rfl) ?_
                refine RG.done ?_
                refine QW.sub (S' := [(0, _), (1, _), (3, _), (4, _), (5, _), (44, _)]) ⟨rfl, rfl, rfl, rfl, rfl, rfl, trivial⟩ ?_
                refine QW.then_ ?_
                refine CW.condP rfl (fun hc41 => ?_) (fun hc41 => ?_)
                · refine CW.seq ?_
                  obtain ⟨d, hd⟩ : ∃ d, l[i + 1]? = some d := ⟨_, List.getElem?_eq_getElem (by omega)⟩
                  have hd8 := d.toNat_lt
                  refine CW.region ?_
                  refine RG.vl rfl rfl rfl (Ev.move rfl rfl) ?_
                  refine RG.vl rfl rfl rfl (Ev.ld0 rfl rfl Try.underlying9 rfl (hb.cells) (rfl)) ?_
                  refine RG.vl rfl rfl rfl (Ev.move rfl rfl) ?_
                  refine RG.vl rfl rfl rfl (Ev.addI rfl rfl rfl (by omega)) ?_
                  refine RG.vl rfl rfl rfl (Ev.byteAt rfl rfl rfl Try.underlying9 (by omega) ((show _ = some d from by rw [show ((i : Int) + 1).toNat = i + 1 from by omega]; exact hd))) ?_
                  refine RG.call rfl rfl rfl rfl rfl rfl rfl en_27 (letters_ret c.toNat d.toNat _ (by omega)) ?_
                  rintro _ w42 ⟨rfl, hx42⟩
                  have hE43 := hx42
                  refine RG.vl rfl rfl rfl (Ev.assign rfl rfl) ?_
                  refine RG.done ?_
                  refine QW.then_ ?_
                  refine CW.seq ?_
                  refine CW.region ?_
                  refine RG.vl rfl rfl rfl (Ev.move rfl rfl) ?_
                  refine RG.vl rfl rfl rfl (Ev.neS rfl rfl rfl) ?_
                  refine RG.done ?_
                  refine QW.then_ ?_
                  refine CW.condP rfl (fun hc44 => ?_) (fun hc44 => ?_)
                  · refine CW.seq ?_
                    refine CW.region ?_
                    refine RG.vl rfl rfl rfl (Ev.move rfl rfl) ?_
                    refine RG.vl rfl rfl rfl (Ev.assign rfl rfl) ?_
                    refine RG.vl rfl rfl rfl (Ev.assign rfl rfl) ?_
                    refine RG.done ?_
                    refine QW.then_ ?_
                    refine CW.ret ?_
                    refine QW.blockR ?_
                    refine QW.thenRet ?_
                    refine QW.ret2 rfl rfl rfl ?_
                    have hB := (Ex.tr hB0 hE43)
                    exact ⟨(by rw [one1_two (by omega) (by omega) (by rw [List.getElem?_drop]; exact hd) (fun e => absurd (binj.2 e) (by assumption))]; first | done | rfl), hB⟩
                  · refine CW.skip ?_
                    refine QW.blockN ?_
                    refine QW.then_ ?_
                    refine CW.seq ?_
                    refine CW.region ?_
                    refine RG.vl rfl rfl rfl (Ev.assign rfl rfl) ?_
                    refine RG.vl rfl rfl rfl (Ev.assign rfl rfl) ?_
                    refine RG.done ?_
                    refine QW.then_ ?_
                    refine CW.ret ?_
                    refine QW.ret2 rfl rfl rfl ?_
                    have hB := (Ex.tr hB0 hE43)
                    exact ⟨(by rw [one1_none (by omega) (by omega) (by rw [List.getElem?_drop]; exact hd) ((binj (b := [])).1 (Decidable.not_not.1 (by assumption)))]; first | done | rfl), hB⟩
                · refine CW.skip ?_
                  refine QW.blockN ?_
                  refine QW.then_ ?_
                  refine CW.seq ?_
                  refine CW.region ?_
                  refine RG.vl rfl rfl rfl (Ev.assign rfl rfl) ?_
                  refine RG.vl rfl rfl rfl (Ev.assign rfl rfl) ?_
                  refine RG.done ?_
                  refine QW.then_ ?_
                  refine CW.ret ?_
                  refine QW.ret2 rfl rfl rfl ?_
                  have hB := hB0
                  exact ⟨(by rw [one1_end (by omega) (by omega) (List.drop_eq_nil_of_le (by omega))]; first | done | rfl), hB⟩
            · refine RG.pass rfl rfl rfl ?_
              refine RG.pass rfl rfl rfl ?_
              refine RG.vl rfl rfl rfl (Ev.pickF rfl rfl rfl) ?_
              refine RG.vl rfl rfl rfl (Ev.assign rfl rfl) ?_
              refine RG.done ?_
              refine QW.then_ ?_
              refine CW.condF rfl ?_
              refine CW.seq ?_
              refine CW.region ?_
              refine RG.vl rfl rfl rfl (Ev.move rfl rfl) ?_
              refine RG.vl rfl rfl rfl (Ev.addI rfl rfl rfl (by omega)) ?_
              refine RG.vl rfl rfl rfl (Ev.ld0 rfl rfl Try.underlying9 rfl (hb.cells) (rfl)) ?_
              refine RG.vl rfl rfl rfl (Ev.lenStr rfl rfl rfl Try.underlying9) ?_
              refine RG.vl rfl rfl rfl (Ev.lss rfl rfl rfl) ?_
              refine RG.vl rfl rfl rfl (Ev.assign rfl rfl) ?_
              refine RG.done ?_
              refine QW.sub (S' := [(0, _), (1, _), (3, _), (4, _), (5, _), (44, _)]) ⟨rfl, rfl, rfl, rfl, rfl, rfl, trivial⟩ ?_
              refine QW.then_ ?_
              refine CW.condP rfl (fun hc45 => ?_) (fun hc45 => ?_)
              · refine CW.seq ?_
                obtain ⟨d, hd⟩ : ∃ d, l[i + 1]? = some d := ⟨_, List.getElem?_eq_getElem (by omega)⟩
                have hd8 := d.toNat_lt
                refine CW.region ?_
                refine RG.vl rfl rfl rfl (Ev.move rfl rfl) ?_
                refine RG.vl rfl rfl rfl (Ev.ld0 rfl rfl Try.underlying9 rfl (hb.cells) (rfl)) ?_
                refine RG.vl rfl rfl rfl (Ev.move rfl rfl) ?_
                refine RG.vl rfl rfl rfl (Ev.addI rfl rfl rfl (by omega)) ?_
                refine RG.vl rfl rfl rfl (Ev.byteAt rfl rfl rfl Try.underlying9 (by omega) ((show _ = some d from by rw [show ((i : Int) + 1).toNat = i + 1 from by omega]; exact hd))) ?_
                refine RG.call rfl rfl rfl rfl rfl rfl rfl en_27 (letters_ret c.toNat d.toNat _ (by omega)) ?_
                rintro _ w46 ⟨rfl, hx46⟩
                have hE47 := hx46
                refine RG.vl rfl rfl rfl (Ev.assign rfl rfl) ?_
                refine RG.done ?_
                refine QW.then_ ?_
                refine CW.seq ?_
                refine CW.region ?_
                refine RG.vl rfl rfl rfl (Ev.move rfl rfl) ?_
                refine RG.vl rfl rfl rfl (Ev.neS rfl rfl rfl) ?_
                refine RG.done ?_
                refine QW.then_ ?_
                refine CW.condP rfl (fun hc48 => ?_) (fun hc48 => ?_)
                · refine CW.seq ?_
                  refine CW.region ?_
                  refine RG.vl rfl rfl rfl (Ev.move rfl rfl) ?_
                  refine RG.vl rfl rfl rfl (Ev.assign rfl rfl) ?_
                  refine RG.vl rfl rfl rfl (Ev.assign rfl rfl) ?_
                  refine RG.done ?_
                  refine QW.then_ ?_
                  refine CW.ret ?_
                  refine QW.blockR ?_
                  refine QW.thenRet ?_
                  refine QW.ret2 rfl rfl rfl ?_
                  have hB := (Ex.tr hB0 hE47)
                  exact ⟨(by rw [one1_two (by omega) (by omega) (by rw [List.getElem?_drop]; exact hd) (fun e => absurd (binj.2 e) (by assumption))]; first | done | rfl), hB⟩
                · refine CW.skip ?_
                  refine QW.blockN ?_
                  refine QW.then_ ?_
                  refine CW.seq ?_
                  refine CW.region ?_
                  refine RG.vl rfl rfl rfl (Ev.assign rfl rfl) ?_
                  refine RG.vl rfl rfl rfl (Ev.assign rfl rfl) ?_
                  refine RG.done ?_
                  refine QW.then_ ?_
                  refine CW.ret ?_
                  refine QW.ret2 rfl rfl rfl ?_
                  have hB := (Ex.tr hB0 hE47)
                  exact ⟨(by rw [one1_none (by omega) (by omega) (by rw [List.getElem?_drop]; exact hd) ((binj (b := [])).1 (Decidable.not_not.1 (by assumption)))]; first | done | rfl), hB⟩
              · refine CW.skip ?_
                refine QW.blockN ?_
                refine QW.then_ ?_
                refine CW.seq ?_
                refine CW.region ?_
                refine RG.vl rfl rfl rfl (Ev.assign rfl rfl) ?_
                refine RG.vl rfl rfl rfl (Ev.assign rfl rfl) ?_
                refine RG.done ?_
                refine QW.then_ ?_
                refine CW.ret ?_
                refine QW.ret2 rfl rfl rfl ?_
                have hB := hB0
                exact ⟨(by rw [one1_end (by omega) (by omega) (List.drop_eq_nil_of_le (by omega))]; first | done | rfl), hB⟩
    · refine RG.pass rfl rfl rfl ?_
      refine RG.pass rfl rfl rfl ?_
      refine RG.vl rfl rfl rfl (Ev.pickF rfl rfl rfl) ?_
      refine RG.vl rfl rfl rfl (Ev.assign rfl rfl) ?_
      refine RG.done ?_
      refine QW.sub (S' := [(0, _), (1, _), (3, _), (4, _), (5, _), (10, _)]) ⟨rfl, rfl, rfl, rfl, rfl, rfl, trivial⟩ ?_
      refine QW.then_ ?_
      refine CW.condF rfl ?_
      refine CW.seq ?_
      refine CW.region ?_
      refine RG.vl rfl rfl rfl (Ev.move rfl rfl) ?_
      refine RG.vl rfl rfl rfl (Ev.eqI rfl rfl rfl) ?_
      refine RG.vl rfl rfl rfl (Ev.assign rfl rfl) ?_
      refine RG.done ?_
      refine QW.then_ ?_
      refine CW.condP rfl (fun hc49 => ?_) (fun hc49 => ?_)
      · refine CW.skip ?_
        refine QW.then_ ?_
        refine CW.condP rfl (fun hc50 => ?_) (fun hc50 => absurd hc49 hc50)
        refine CW.seq ?_
        refine CW.region ?_
        refine RG.vl rfl rfl rfl (Ev.ld0 rfl rfl Try.underlying9 rfl (hb.cells) (rfl)) ?_
        refine RG.vl rfl rfl rfl (Ev.move rfl rfl) ?_
        refine RG.vl rfl rfl rfl (Ev.move rfl rfl) ?_
        refine RG.vl rfl rfl rfl (Ev.addI rfl rfl rfl (by omega)) ?_
        refine RG.vl rfl rfl rfl ((Ev.cutStr (i := i) (j := i + 1) rfl rfl Try.underlying9 rfl rfl (by omega) (by rw [sbytes]; omega)).conv (congrArg Value.string (bext hc))) ?_
        refine RG.vl rfl rfl rfl (Ev.assign rfl rfl) ?_
        refine RG.vl rfl rfl rfl (Ev.assign rfl rfl) ?_
        refine RG.done ?_
        refine QW.then_ ?_
        refine CW.ret ?_
        refine QW.blockR ?_
        refine QW.thenRet ?_
        refine QW.ret2 rfl rfl rfl ?_
        have hB := hB0
        exact ⟨(by rw [one1_plain (by omega)]; first | done | rfl), hB⟩
      · refine CW.region ?_
        refine RG.vl rfl rfl rfl (Ev.move rfl rfl) ?_
        refine RG.vl rfl rfl rfl (Ev.eqI rfl rfl rfl) ?_
        refine RG.vl rfl rfl rfl (Ev.assign rfl rfl) ?_
        refine RG.done ?_
        refine QW.then_ ?_
        refine CW.condP rfl (fun hc51 => ?_) (fun hc51 => ?_)
        · refine CW.seq ?_
          refine CW.region ?_
          refine RG.vl rfl rfl rfl (Ev.ld0 rfl rfl Try.underlying9 rfl (hb.cells) (rfl)) ?_
          refine RG.vl rfl rfl rfl (Ev.move rfl rfl) ?_
          refine RG.vl rfl rfl rfl (Ev.move rfl rfl) ?_
          refine RG.vl rfl rfl rfl (Ev.addI rfl rfl rfl (by omega)) ?_
          refine RG.vl rfl rfl rfl ((Ev.cutStr (i := i) (j := i + 1) rfl rfl Try.underlying9 rfl rfl (by omega) (by rw [sbytes]; omega)).conv (congrArg Value.string (bext hc))) ?_
          refine RG.vl rfl rfl rfl (Ev.assign rfl rfl) ?_
          refine RG.vl rfl rfl rfl (Ev.assign rfl rfl) ?_
          refine RG.done ?_
          refine QW.then_ ?_
          refine CW.ret ?_
          refine QW.blockR ?_
          refine QW.thenRet ?_
          refine QW.ret2 rfl rfl rfl ?_
          have hB := hB0
          exact ⟨(by rw [one1_plain (by omega)]; first | done | rfl), hB⟩
        · refine CW.seq ?_
          refine CW.region ?_
          refine RG.vl rfl rfl rfl (Ev.move rfl rfl) ?_
          refine RG.vl rfl rfl rfl (Ev.geq rfl rfl rfl) ?_
          refine RG.vl rfl rfl rfl (Ev.move rfl rfl) ?_
          refine RG.split (d := 35) rfl (fun hg52 => ?_) (fun hg52 => ?_)
          · refine RG.vl rfl rfl rfl (Ev.move rfl rfl) ?_
            refine RG.vl rfl rfl rfl (Ev.leq rfl rfl rfl) ?_
            refine RG.vl rfl rfl rfl (Ev.pickT rfl rfl rfl) ?_
            refine RG.vl rfl rfl rfl (Ev.assign rfl rfl) ?_
            refine RG.done ?_
            refine QW.then_ ?_
            refine CW.condP rfl (fun hc53 => ?_) (fun hc53 => ?_)
            · refine CW.seq ?_
              refine CW.region ?_
              refine RG.vl rfl rfl rfl (Ev.move rfl rfl) ?_
              refine RG.vl rfl rfl rfl (Ev.sub8 rfl rfl rfl (by omega)) ?_
              refine RG.vl rfl rfl rfl ((Ev.add8 rfl rfl rfl (by omega)).conv (congrArg (Value.int .u8) (show (c.toNat : Int) - 97 + 65 = ((c.toNat - 32 : Nat) : Int) by omega))) ?_
              refine RG.vl rfl rfl rfl (Ev.to32 rfl rfl Try.underlying5 Try.underlying21 (by omega)) ?_
              refine RG.vl rfl rfl rfl (Ev.runeStr rfl rfl Try.underlying21 Try.underlying9 (by omega)) ?_
              refine RG.vl rfl rfl rfl (Ev.assign rfl rfl) ?_
              refine RG.vl rfl rfl rfl (Ev.assign rfl rfl) ?_
              refine RG.done ?_
              refine QW.sub (S' := [(3, _), (4, _)]) ⟨rfl, rfl, trivial⟩ ?_
              refine QW.then_ ?_
              refine CW.ret ?_
              refine QW.blockR ?_
              refine QW.thenRet ?_
              refine QW.ret2 rfl rfl rfl ?_
              have hB := hB0
              exact ⟨(by rw [one1_small (by omega)]; first | done | rfl), hB⟩
            · refine CW.seq ?_
              refine CW.region ?_
              refine RG.vl rfl rfl rfl (Ev.move rfl rfl) ?_
              refine RG.vl rfl rfl rfl (Ev.addI rfl rfl rfl (by omega)) ?_
              refine RG.vl rfl rfl rfl (Ev.ld0 rfl rfl Try.underlying9 rfl (hb.cells) (rfl)) ?_
              refine RG.vl rfl rfl rfl (Ev.lenStr rfl rfl rfl Try.underlying9) ?_
              refine RG.vl rfl rfl rfl (Ev.lss rfl rfl rfl) ?_
              refine RG.vl rfl rfl rfl (Ev.assign rfl rfl) ?_
              refine RG.done ?_
              refine QW.sub (S' := [(0, _), (1, _), (3, _), (4, _), (5, _), (44, _)]) ⟨rfl, rfl, rfl, rfl, rfl, rfl, trivial⟩ ?_
              refine QW.then_ ?_
              refine CW.condP rfl (fun hc54 => ?_) (fun hc54 => ?_)
              · refine CW.seq ?_
                obtain ⟨d, hd⟩ : ∃ d, l[i + 1]? = some d := ⟨_, List.getElem?_eq_getElem (by omega)⟩
                have hd8 := d.toNat_lt
                refine CW.region ?_
                refine RG.vl rfl rfl rfl (Ev.move rfl rfl) ?_
                refine RG.vl rfl rfl rfl (Ev.ld0 rfl rfl Try.underlying9 rfl (hb.cells) (rfl)) ?_
                refine RG.vl rfl rfl rfl (Ev.move rfl rfl) ?_
                refine RG.vl rfl rfl rfl (Ev.addI rfl rfl rfl (by omega)) ?_
                refine RG.vl rfl rfl rfl (Ev.byteAt rfl rfl rfl Try.underlying9 (by omega) ((show _ = some d from by rw [show ((i : Int) + 1).toNat = i + 1 from by omega]; exact hd))) ?_
                refine RG.call rfl rfl rfl rfl rfl rfl rfl en_27 (letters_ret c.toNat d.toNat _ (by omega)) ?_
                rintro _ w55 ⟨rfl, hx55⟩
                have hE56 := hx55
                refine RG.vl rfl rfl rfl (Ev.assign rfl rfl) ?_
                refine RG.done ?_
                refine QW.then_ ?_
                refine CW.seq ?_
                refine CW.region ?_
                refine RG.vl rfl rfl rfl (Ev.move rfl rfl) ?_
                refine RG.vl rfl rfl rfl (Ev.neS rfl rfl rfl) ?_
                refine RG.done ?_
                refine QW.then_ ?_
                refine CW.condP rfl (fun hc57 => ?_) (fun hc57 => ?_)
                · refine CW.seq ?_
                  refine CW.region ?_
                  refine RG.vl rfl rfl rfl (Ev.move rfl rfl) ?_
                  refine RG.vl rfl rfl rfl (Ev.assign rfl rfl) ?_
                  refine RG.vl rfl rfl rfl (Ev.assign rfl rfl) ?_
                  refine RG.done ?_
                  refine QW.then_ ?_
                  refine CW.ret ?_
                  refine QW.blockR ?_
                  refine QW.thenRet ?_
                  refine QW.ret2 rfl rfl rfl ?_
                  have hB := (Ex.tr hB0 hE56)
                  exact ⟨(by rw [one1_two (by omega) (by omega) (by rw [List.getElem?_drop]; exact hd) (fun e => absurd (binj.2 e) (by assumption))]; first | done | rfl), hB⟩
                · refine CW.skip ?_
                  refine QW.blockN ?_
                  refine QW.then_ ?_
                  refine CW.seq ?_
                  refine CW.region ?_
                  refine RG.vl rfl rfl rfl (Ev.assign rfl rfl) ?_
                  refine RG.vl rfl rfl rfl (Ev.assign rfl rfl) ?_
                  refine RG.done ?_
                  refine QW.then_ ?_
                  refine CW.ret ?_
                  refine QW.ret2 rfl rfl rfl ?_
                  have hB := (Ex.tr hB0 hE56)
                  exact ⟨(by rw [one1_none (by omega) (by omega) (by rw [List.getElem?_drop]; exact hd) ((binj (b := [])).1 (Decidable.not_not.1 (by assumption)))]; first | done | rfl), hB⟩
              · refine CW.skip ?_
                refine QW.blockN ?_
                refine QW.then_ ?_
                refine CW.seq ?_
                refine CW.region ?_
                refine RG.vl rfl rfl rfl (Ev.assign rfl rfl) ?_
                refine RG.vl rfl rfl rfl (Ev.assign rfl rfl) ?_
                refine RG.done ?_
                refine QW.then_ ?_
                refine CW.ret ?_
                refine QW.ret2 rfl rfl rfl ?_
                have hB := hB0
                exact ⟨(by rw [one1_end (by omega) (by omega) (List.drop_eq_nil_of_le (by omega))]; first | done | rfl), hB⟩
          · refine RG.pass rfl rfl rfl ?_
            refine RG.pass rfl rfl rfl ?_
            refine RG.vl rfl rfl rfl (Ev.pickF rfl rfl rfl) ?_
            refine RG.vl rfl rfl rfl (Ev.assign rfl rfl) ?_
            refine RG.done ?_
            refine QW.then_ ?_
            refine CW.condF rfl ?_
            refine CW.seq ?_
            refine CW.region ?_
            refine RG.vl rfl rfl rfl (Ev.move rfl rfl) ?_
            refine RG.vl rfl rfl rfl (Ev.addI rfl rfl rfl (by omega)) ?_
            refine RG.vl rfl rfl rfl (Ev.ld0 rfl rfl Try.underlying9 rfl (hb.cells) (rfl)) ?_
            refine RG.vl rfl rfl rfl (Ev.lenStr rfl rfl rfl Try.underlying9) ?_
            refine RG.vl rfl rfl rfl (Ev.lss rfl rfl rfl) ?_
            refine RG.vl rfl rfl rfl (Ev.assign rfl rfl) ?_
            refine RG.done ?_
            refine QW.sub (S' := [(0, _), (1, _), (3, _), (4, _), (5, _), (44, _)]) ⟨rfl, rfl, rfl, rfl, rfl, rfl, trivial⟩ ?_
            refine QW.then_ ?_
            refine CW.condP rfl (fun hc58 => ?_) (fun hc58 => ?_)
            · refine CW.seq ?_
              obtain ⟨d, hd⟩ : ∃ d, l[i + 1]? = some d := ⟨_, List.getElem?_eq_getElem (by omega)⟩
              have hd8 := d.toNat_lt
              refine CW.region ?_
              refine RG.vl rfl rfl rfl (Ev.move rfl rfl) ?_
              refine RG.vl rfl rfl rfl (Ev.ld0 rfl rfl Try.underlying9 rfl (hb.cells) (rfl)) ?_
              refine RG.vl rfl rfl rfl (Ev.move rfl rfl) ?_
              refine RG.vl rfl rfl rfl (Ev.addI rfl rfl rfl (by omega)) ?_
              refine RG.vl rfl rfl rfl (Ev.byteAt rfl rfl rfl Try.underlying9 (by omega) ((show _ = some d from by rw [show ((i : Int) + 1).toNat = i + 1 from by omega]; exact hd))) ?_
              refine RG.call rfl rfl rfl rfl rfl rfl rfl en_27 (letters_ret c.toNat d.toNat _ (by omega)) ?_
              rintro _ w59 ⟨rfl, hx59⟩
              have hE60 := hx59
              refine RG.vl rfl rfl rfl (Ev.assign rfl rfl) ?_
              refine RG.done ?_
              refine QW.then_ ?_
              refine CW.seq ?_
              refine CW.region ?_
              refine RG.vl rfl rfl rfl (Ev.move rfl rfl) ?_
              refine RG.vl rfl rfl rfl (Ev.neS rfl rfl rfl) ?_
              refine RG.done ?_
              refine QW.then_ ?_
              refine CW.condP rfl (fun hc61 => ?_) (fun hc61 => ?_)
              · refine CW.seq ?_
                refine CW.region ?_
                refine RG.vl rfl rfl rfl (Ev.move rfl rfl) ?_
                refine RG.vl rfl rfl rfl (Ev.assign rfl rfl) ?_
                refine RG.vl rfl rfl rfl (Ev.assign rfl rfl) ?_
                refine RG.done ?_
                refine QW.then_ ?_
                refine CW.ret ?_
                refine QW.blockR ?_
                refine QW.thenRet ?_
                refine QW.ret2 rfl rfl rfl ?_
                have hB := (Ex.tr hB0 hE60)
                exact ⟨(by rw [one1_two (by omega) (by omega) (by rw [List.getElem?_drop]; exact hd) (fun e => absurd (binj.2 e) (by assumption))]; first | done | rfl), hB⟩
              · refine CW.skip ?_
                refine QW.blockN ?_
                refine QW.then_ ?_
                refine CW.seq ?_
                refine CW.region ?_
                refine RG.vl rfl rfl rfl (Ev.assign rfl rfl) ?_
                refine RG.vl rfl rfl rfl (Ev.assign rfl rfl) ?_
                refine RG.done ?_
                refine QW.then_ ?_
                refine CW.ret ?_
                refine QW.ret2 rfl rfl rfl ?_
                have hB := (Ex.tr hB0 hE60)
                exact ⟨(by rw [one1_none (by omega) (by omega) (by rw [List.getElem?_drop]; exact hd) ((binj (b := [])).1 (Decidable.not_not.1 (by assumption)))]; first | done | rfl), hB⟩
            · refine CW.skip ?_
              refine QW.blockN ?_
              refine QW.then_ ?_
              refine CW.seq ?_
              refine CW.region ?_
              refine RG.vl rfl rfl rfl (Ev.assign rfl rfl) ?_
              refine RG.vl rfl rfl rfl (Ev.assign rfl rfl) ?_
              refine RG.done ?_
              refine QW.then_ ?_
              refine CW.ret ?_
              refine QW.ret2 rfl rfl rfl ?_
              have hB := hB0
              exact ⟨(by rw [one1_end (by omega) (by omega) (List.drop_eq_nil_of_le (by omega))]; first | done | rfl), hB⟩

set_option maxRecDepth 100000 in
set_option maxHeartbeats 4000000 in
theorem fold_ret (l : List UInt8) (w : World) (hlen : l.length ≤ 100000) :
    Ret Try.prog 9 [.string ⟨l.toArray⟩] w (fun v w' => v = .string ⟨(foldL l).toArray⟩ ∧ Ex w w') := by
  have hsz := sbytes l
  have hB0 : Ex w w := Ex.rfl_ _
  refine Ret.of Try.func9 rfl Try.ntmps9 rfl ?_
  refine CW.seq ?_
  refine CW.region ?_
  refine RG.box rfl rfl rfl rfl rfl (fun gB w1 egB hx1 hb1 => ?_)
  have hle2 : w.heap.size ≤ gB := by have := (Ex.rfl_ w).size; omega
  have hE3 := hx1
  refine RG.vl rfl rfl rfl (Ev.assign rfl rfl) ?_
  refine RG.done ?_
  refine QW.then_ ?_
  refine CW.seq ?_
  refine CW.region ?_
  refine RG.vl rfl rfl rfl (Ev.mkFn rfl rfl rfl rfl rfl) ?_
  refine RG.vl rfl rfl rfl (Ev.assign rfl rfl) ?_
  refine RG.done ?_
  refine QW.then_ ?_
  refine CW.seq ?_
  refine CW.region ?_
  refine RG.vl rfl rfl rfl (Ev.ld0 rfl rfl Try.underlying9 rfl (hb1.cells) (rfl)) ?_
  refine RG.vl rfl rfl rfl (Ev.lenStr rfl rfl rfl Try.underlying9) ?_
  have hR8 := (Ex.tr hB0 hE3)
  refine RG.makeCap (m := l.length) (enc := encB) rfl rfl rfl rfl rfl rfl (by rw [sbytes]) Try.underlying23 inf_5 rfl (by omega) (by simp only [maxLen]; omega) (fun v4 wk5 hxwk5 hown6 hnew7 => ?_)
  have hE9 := hxwk5
  refine RG.vl rfl rfl rfl (Ev.assign rfl rfl) ?_
  refine RG.done ?_
  refine QW.then_ ?_
  refine CW.seq ?_
  refine CW.region ?_
  refine RG.vl rfl rfl rfl (Ev.assign rfl rfl) ?_
  refine RG.done ?_
  refine QW.then_ ?_
  refine CW.seq ?_
  refine CW.seq ?_
  refine CW.region ?_
  refine RG.vl rfl rfl rfl (Ev.assign rfl rfl) ?_
  refine RG.done ?_
  refine QW.then_ ?_
  refine CW.block ?_
  refine CW.loop4 [(1, _), (2, _), (3, _)] ⟨rfl, rfl, rfl, trivial⟩ (fun (i : Nat) (gap : Bool) (out : List UInt8) (v : Value) => [(6, .int .i64 i), (5, .bool gap), (4, v)]) (fun i gap out v w' => (i ≤ l.length ∧ fo l.length (l.drop i) gap out = foldL l ∧ out.length ≤ 3 * i ∧ Own w' w1.heap.size 5 1 encB v out) ∧ Ex w1 w') (fun i gap out v => l.length - i) (0) (false) ([]) (_) ⟨rfl, rfl, rfl, trivial⟩ ⟨⟨Nat.zero_le _, rfl, by simp, hown6⟩, hE9⟩ ?_
  rintro i gap out v wl10 ⟨⟨hi, hfo, hol, hown⟩, hxwl10⟩
  refine CW.sub (S' := [(6, _), (5, _), (4, _), (1, _), (2, _), (3, _)]) ⟨rfl, rfl, rfl, rfl, rfl, rfl, trivial⟩ ?_
  refine CW.seq ?_
  refine CW.seq ?_
  refine CW.region ?_
  refine RG.vl rfl rfl rfl (Ev.move rfl rfl) ?_
  refine RG.vl rfl rfl rfl (Ev.ld0 rfl rfl Try.underlying9 rfl ((hb1.ext hxwl10).cells) (rfl)) ?_
  refine RG.vl rfl rfl rfl (Ev.lenStr rfl rfl rfl Try.underlying9) ?_
  refine RG.vl rfl rfl rfl (Ev.lss rfl rfl rfl) ?_
  refine RG.done ?_
  refine QW.then_ ?_
  refine CW.condP rfl (fun hc11 => ?_) (fun hc11 => ?_)
  · refine CW.skip ?_
    refine QW.then_ ?_
    refine CW.block ?_
    refine CW.seq ?_
    obtain ⟨c, hc⟩ : ∃ c, l[i]? = some c := ⟨_, List.getElem?_eq_getElem (by omega)⟩
    have hn1 := one1_n c (l.drop (i + 1))
    have ha := one1_at hc
    have hT := one1_len c (l.drop (i + 1))
    refine CW.region ?_
    refine RG.vl rfl rfl rfl (Ev.move rfl rfl) ?_
    refine RG.vl rfl rfl rfl (Ev.move rfl rfl) ?_
    refine RG.call rfl rfl rfl rfl rfl rfl rfl en_26 (fold1_ret l i gB c _ (hb1.ext hxwl10) hc hlen) ?_
    rintro _ w12 ⟨rfl, hx12⟩
    replace hxwl10 := Ex.tr hxwl10 hx12
    have hE13 := hx12
    refine RG.vl rfl rfl rfl (Ev.move rfl rfl) ?_
    refine RG.vl rfl rfl rfl (Ev.extract rfl rfl rfl) ?_
    refine RG.vl rfl rfl rfl (Ev.extract rfl rfl rfl) ?_
    refine RG.vl rfl rfl rfl (Ev.assign rfl rfl) ?_
    refine RG.vl rfl rfl rfl (Ev.assign rfl rfl) ?_
    refine RG.done ?_
    refine QW.then_ ?_
    refine CW.seq ?_
    refine CW.region ?_
    refine RG.vl rfl rfl rfl (Ev.move rfl rfl) ?_
    refine RG.vl rfl rfl rfl (Ev.move rfl rfl) ?_
    refine RG.vl rfl rfl rfl (Ev.addI rfl rfl rfl (by omega)) ?_
    refine RG.vl rfl rfl rfl (Ev.assign rfl rfl) ?_
    refine RG.done ?_
    refine QW.sub (S' := [(1, _), (2, _), (3, _), (4, _), (5, _), (6, _), (7, _)]) ⟨rfl, rfl, rfl, rfl, rfl, rfl, rfl, trivial⟩ ?_
    refine QW.then_ ?_
    refine CW.seq ?_
    refine CW.seq ?_
    refine CW.region ?_
    refine RG.vl rfl rfl rfl (Ev.move rfl rfl) ?_
    refine RG.vl rfl rfl rfl (Ev.eqS rfl rfl rfl) ?_
    refine RG.done ?_
    refine QW.then_ ?_
    refine CW.condP rfl (fun hc14 => ?_) (fun hc14 => ?_)
    · refine CW.seq ?_
      refine CW.region ?_
      refine RG.vl rfl rfl rfl (Ev.assign rfl rfl) ?_
      refine RG.done ?_
      refine QW.then_ ?_
      refine CW.exit ?_
      refine QW.thenExit ?_
      refine QW.blockHit ?_
      refine QW.round4 (i + (one1 c (l.drop (i + 1))).2) (true) (out) (v) ⟨rfl, rfl, rfl, trivial⟩ ⟨rfl, rfl, rfl, trivial⟩ ⟨⟨by omega, fo_gap hc hfo ((binj (b := [])).1 (by assumption)), by omega, (Own.ext hown hE13)⟩, hxwl10⟩ (by omega)
    · refine CW.skip ?_
      refine QW.then_ ?_
      refine CW.seq ?_
      refine CW.seq ?_
      refine CW.region ?_
      refine RG.vl rfl rfl rfl (Ev.move rfl rfl) ?_
      refine RG.vl rfl rfl rfl (Ev.move rfl rfl) ?_
      refine RG.splitB (d := 29) rfl (fun hg15 => ?_) (fun hg15 => ?_)
      · refine RG.vl rfl rfl rfl (Ev.move rfl rfl) ?_
        refine RG.vl rfl rfl rfl (Ev.lenL rfl rfl rfl Try.underlying23 (((Own.ext hown hE13).rdl encB_len))) ?_
        refine RG.vl rfl rfl rfl (Ev.gtr rfl rfl rfl) ?_
        refine RG.vl rfl rfl rfl (Ev.pickT rfl rfl rfl) ?_
        refine RG.done ?_
        refine QW.then_ ?_
        refine CW.condP rfl (fun hc16 => ?_) (fun hc16 => ?_)
        · refine CW.region ?_
          refine RG.vl rfl rfl rfl (Ev.move rfl rfl) ?_
          refine RG.litO (os := [_]) (enc := encB) ([32]) rfl rfl rfl rfl rfl rfl rfl Try.underlying23 inf_5 rfl rfl rfl rfl rfl encB_len rfl rfl (fun v17 wk18 hxwk18 hown19 hnew20 => ?_)
          replace hxwl10 := Ex.tr hxwl10 hxwk18
          replace hE13 := Ex.tr hE13 hxwk18
          have hE21 := hxwk18
          refine RG.appO rfl rfl rfl rfl rfl rfl rfl Try.underlying23 inf_5 rfl rfl encB_len (fun _ => rfl) (Own.ext hown hE13) ((hown19.rdl encB_len)) (by show _ + 1 ≤ maxLen; simp only [maxLen]; omega) (by show (_ + 1) * _ ≤ _; omega) (hxwl10.size) (fun v22 wa23 hown24 hgr25 hat26 => ?_)
          replace hxwl10 := own_block (Own.ext hown hE13) hxwl10 hgr25 (Nat.le_refl _) hxwl10.size
          refine RG.vl rfl rfl rfl (Ev.assign rfl rfl) ?_
          refine RG.done ?_
          refine QW.then_ ?_
          refine CW.seq ?_
          refine CW.region ?_
          refine RG.vl rfl rfl rfl (Ev.assign rfl rfl) ?_
          refine RG.done ?_
          refine QW.then_ ?_
          refine CW.region ?_
          refine RG.vl rfl rfl rfl (Ev.move rfl rfl) ?_
          refine RG.vl rfl rfl rfl (Ev.move rfl rfl) ?_
          refine RG.appS rfl rfl rfl rfl rfl rfl rfl Try.underlying23 Try.underlying9 inf_5 hown24 (by simp only [maxLen]; first | omega | (simp only [List.length_append, List.length_singleton]; omega)) (by first | omega | (simp only [List.length_append, List.length_singleton]; omega)) (hxwl10.size) (fun v27 wa28 hown29 hgr30 => ?_)
          replace hxwl10 := own_block hown24 hxwl10 hgr30 (Nat.le_refl _) hxwl10.size
          refine RG.vl rfl rfl rfl (Ev.assign rfl rfl) ?_
          refine RG.done ?_
          refine QW.sub (S' := [(1, _), (2, _), (3, _), (4, _), (5, _), (6, _)]) ⟨rfl, rfl, rfl, rfl, rfl, rfl, trivial⟩ ?_
          refine QW.blockN ?_
          refine QW.round4 (i + (one1 c (l.drop (i + 1))).2) (false) (out ++ [32] ++ (one1 c (l.drop (i + 1))).1) (v27) ⟨rfl, rfl, rfl, trivial⟩ ⟨rfl, rfl, rfl, trivial⟩ ⟨⟨by omega, by have hp := fo_put hc hfo (fun e => absurd (binj.2 e) (by assumption)); rw [put_sp (by assumption) (fun e => by have h0 : out.length = 0 := (by rw [e]; rfl); omega)] at hp; exact hp, by simp only [List.length_append, List.length_singleton]; omega, hown29⟩, hxwl10⟩ (by omega)
        · refine CW.skip ?_
          refine QW.then_ ?_
          refine CW.seq ?_
          refine CW.region ?_
          refine RG.vl rfl rfl rfl (Ev.assign rfl rfl) ?_
          refine RG.done ?_
          refine QW.then_ ?_
          refine CW.region ?_
          refine RG.vl rfl rfl rfl (Ev.move rfl rfl) ?_
          refine RG.vl rfl rfl rfl (Ev.move rfl rfl) ?_
          refine RG.appS rfl rfl rfl rfl rfl rfl rfl Try.underlying23 Try.underlying9 inf_5 (Own.ext hown hE13) (by simp only [maxLen]; first | omega | (simp only [List.length_append, List.length_singleton]; omega)) (by first | omega | (simp only [List.length_append, List.length_singleton]; omega)) (hxwl10.size) (fun v32 wa33 hown34 hgr35 => ?_)
          replace hxwl10 := own_block (Own.ext hown hE13) hxwl10 hgr35 (Nat.le_refl _) hxwl10.size
          refine RG.vl rfl rfl rfl (Ev.assign rfl rfl) ?_
          refine RG.done ?_
          refine QW.blockN ?_
          refine QW.round4 (i + (one1 c (l.drop (i + 1))).2) (false) (out ++ (one1 c (l.drop (i + 1))).1) (v32) ⟨rfl, rfl, rfl, trivial⟩ ⟨rfl, rfl, rfl, trivial⟩ ⟨⟨by omega, by have hp := fo_put hc hfo (fun e => absurd (binj.2 e) (by assumption)); rw [put_no (by rintro ⟨e1, e2⟩; first | exact absurd (e1.symm.trans (show gap = false by assumption)) (by decide) | (have := List.length_pos_iff.2 e2; omega))] at hp; exact hp, by rw [List.length_append]; omega, hown34⟩, hxwl10⟩ (by omega)
      · refine RG.pass rfl rfl rfl ?_
        refine RG.pass rfl rfl rfl ?_
        refine RG.pass rfl rfl rfl ?_
        refine RG.vl rfl rfl rfl (Ev.pickF rfl rfl rfl) ?_
        refine RG.done ?_
        refine QW.then_ ?_
        refine CW.condF rfl ?_
        refine CW.skip ?_
        refine QW.then_ ?_
        refine CW.seq ?_
        refine CW.region ?_
        refine RG.vl rfl rfl rfl (Ev.assign rfl rfl) ?_
        refine RG.done ?_
        refine QW.then_ ?_
        refine CW.region ?_
        refine RG.vl rfl rfl rfl (Ev.move rfl rfl) ?_
        refine RG.vl rfl rfl rfl (Ev.move rfl rfl) ?_
        refine RG.appS rfl rfl rfl rfl rfl rfl rfl Try.underlying23 Try.underlying9 inf_5 (Own.ext hown hE13) (by simp only [maxLen]; first | omega | (simp only [List.length_append, List.length_singleton]; omega)) (by first | omega | (simp only [List.length_append, List.length_singleton]; omega)) (hxwl10.size) (fun v37 wa38 hown39 hgr40 => ?_)
        replace hxwl10 := own_block (Own.ext hown hE13) hxwl10 hgr40 (Nat.le_refl _) hxwl10.size
        refine RG.vl rfl rfl rfl (Ev.assign rfl rfl) ?_
        refine RG.done ?_
        refine QW.blockN ?_
        refine QW.round4 (i + (one1 c (l.drop (i + 1))).2) (false) (out ++ (one1 c (l.drop (i + 1))).1) (v37) ⟨rfl, rfl, rfl, trivial⟩ ⟨rfl, rfl, rfl, trivial⟩ ⟨⟨by omega, by have hp := fo_put hc hfo (fun e => absurd (binj.2 e) (by assumption)); rw [put_no (by rintro ⟨e1, e2⟩; first | exact absurd (e1.symm.trans (show gap = false by assumption)) (by decide) | (have := List.length_pos_iff.2 e2; omega))] at hp; exact hp, by rw [List.length_append]; omega, hown39⟩, hxwl10⟩ (by omega)
  · refine CW.exit ?_
    refine QW.thenExit ?_
    refine QW.thenExit ?_
    refine QW.blockHit ?_
    refine QW.then_ ?_
    refine CW.seq ?_
    refine CW.region ?_
    refine RG.vl rfl rfl rfl (Ev.move rfl rfl) ?_
    refine RG.vl rfl rfl rfl (Ev.toStr rfl rfl Try.underlying23 Try.underlying5 Try.underlying9 ((Own.rdl hown encB_len))) ?_
    refine RG.vl rfl rfl rfl (Ev.assign rfl rfl) ?_
    refine RG.done ?_
    refine QW.then_ ?_
    refine CW.ret ?_
    refine QW.ret1 rfl rfl ?_
    have hB := (Ex.tr hR8 hxwl10)
    have e : i = l.length := by omega
    rw [e, List.drop_length, fo_nil] at hfo
    exact ⟨by rw [hfo], hB⟩

set_option maxRecDepth 100000 in
set_option maxHeartbeats 1000000 in
theorem right_ret (l : List UInt8) (w : World) (hlen : l.length ≤ 100000) :
    Ret Try.prog 11 [.string ⟨l.toArray⟩] w (fun v w' => v = .bool (decide (foldL l = l)) ∧ Ex w w') := by
  have hB0 : Ex w w := Ex.rfl_ _
  refine Ret.of Try.func11 rfl Try.ntmps11 rfl ?_
  refine CW.seq ?_
  refine CW.region ?_
  refine RG.vl rfl rfl rfl (Ev.assign rfl rfl) ?_
  refine RG.done ?_
  refine QW.then_ ?_
  refine CW.seq ?_
  refine CW.region ?_
  refine RG.vl rfl rfl rfl (Ev.move rfl rfl) ?_
  refine RG.call rfl rfl rfl rfl rfl rfl rfl en_9 (fold_ret l _ hlen) ?_
  rintro _ w1 ⟨rfl, hx1⟩
  have hE2 := hx1
  refine RG.vl rfl rfl rfl (Ev.move rfl rfl) ?_
  refine RG.vl rfl rfl rfl (Ev.eqS rfl rfl rfl) ?_
  refine RG.vl rfl rfl rfl (Ev.assign rfl rfl) ?_
  refine RG.done ?_
  refine QW.then_ ?_
  refine CW.ret ?_
  refine QW.ret1 rfl rfl ?_
  have hB := (Ex.tr hB0 hE2)
  exact ⟨congrArg Value.bool (decide_eq_decide.2 binj), hB⟩

end Go.Proofs.Ytehlnkhbbnddmaa
