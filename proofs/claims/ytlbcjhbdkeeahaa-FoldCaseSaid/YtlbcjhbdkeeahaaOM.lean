/- Walks (OM). Written by program. -/
import Derived.Test.YtlbcjhbdkeeahaaT
import Derived.Test.YtlbcjhbdkeeahaaOL
import Derived.Test.YtlbcjhbdkeeahaaOH
namespace Go.Proofs.Ytlbcjhbdkeeahaa
open Go.RowKit
set_option maxRecDepth 100000 in
set_option maxHeartbeats 4000000 in
theorem foldCase_ret (l : List UInt8) (w : World)  :
    Ret Try.prog 3 [.string ⟨l.toArray⟩] w (fun v w' => v = .bool true ∧ Ex w w') := by
  have hsz := sbytes l
  have hB0 : Ex w w := Ex.rfl_ _
  refine Ret.of Try.func3 rfl Try.ntmps3 rfl ?_
  refine CW.seq ?_
  refine CW.region ?_
  refine RG.vl rfl rfl rfl (Ev.assign rfl rfl) ?_
  refine RG.done ?_
  refine QW.then_ ?_
  refine CW.seq ?_
  refine CW.seq ?_
  refine CW.region ?_
  refine RG.call rfl rfl rfl rfl rfl rfl rfl en_8 (awake_ret _) ?_
  rintro _ w1 ⟨rfl, hx1⟩
  have hE2 := hx1
  refine RG.vl rfl rfl rfl (Ev.notF rfl rfl) ?_
  refine RG.done ?_
  refine QW.then_ ?_
  refine CW.condF rfl ?_
  refine CW.skip ?_
  refine QW.then_ ?_
  refine CW.seq ?_
  refine CW.seq ?_
  refine CW.region ?_
  refine RG.vl rfl rfl rfl (Ev.move rfl rfl) ?_
  refine RG.vl rfl rfl rfl (Ev.lenStr rfl rfl rfl Try.underlying9) ?_
  refine RG.vl rfl rfl rfl (Ev.gtr rfl rfl rfl) ?_
  refine RG.done ?_
  refine QW.then_ ?_
  refine CW.condP rfl (fun hc3 => ?_) (fun hc3 => ?_)
  · refine CW.seq ?_
    refine CW.region ?_
    refine RG.vl rfl rfl rfl (Ev.assign rfl rfl) ?_
    refine RG.done ?_
    refine QW.then_ ?_
    refine CW.ret ?_
    refine QW.thenRet ?_
    refine QW.ret1 rfl rfl ?_
    have hB := (Ex.tr hB0 hE2)
    exact ⟨rfl, hB⟩
  · refine CW.skip ?_
    refine QW.then_ ?_
    refine CW.seq ?_
    refine CW.region ?_
    refine RG.vl rfl rfl rfl (Ev.move rfl rfl) ?_
    have hR4 := (Ex.tr hB0 hE2)
    refine RG.toBytesM rfl rfl rfl rfl rfl Try.underlying9 Try.underlying23 Try.underlying5 (by simp only [maxLen]; omega) (fun gU cgU wk5 egU hxwk5 hbgU hc1gU hc2gU => ?_)
    have hle6 : w1.heap.size ≤ gU := by have := (Ex.rfl_ w1).size; omega
    have hE7 := hxwk5
    refine RG.vl rfl rfl rfl (Ev.move rfl rfl) ?_
    refine RG.toBytesM rfl rfl rfl rfl rfl Try.underlying9 Try.underlying23 Try.underlying5 (by simp only [maxLen]; omega) (fun gV cgV wk8 egV hxwk8 hbgV hc1gV hc2gV => ?_)
    have hle9 : w1.heap.size ≤ gV := by have := hE7.size; omega
    have hle10 : wk5.heap.size ≤ gV := by have := (Ex.rfl_ wk5).size; omega
    have hlt11 : gU < gV := by have := Mkd.lt hbgU; omega
    replace hE7 := Ex.tr hE7 hxwk8
    have hE12 := hxwk8
    refine RG.vl rfl rfl rfl (Ev.assign rfl rfl) ?_
    refine RG.vl rfl rfl rfl (Ev.assign rfl rfl) ?_
    refine RG.done ?_
    refine QW.then_ ?_
    refine CW.seq ?_
    refine CW.seq ?_
    refine CW.region ?_
    refine RG.vl rfl rfl rfl (Ev.assign rfl rfl) ?_
    refine RG.done ?_
    refine QW.then_ ?_
    refine CW.block ?_
    refine CW.loop1 [(0, _), (2, _), (3, _), (4, _)] ⟨rfl, rfl, rfl, rfl, trivial⟩ (fun (i : Nat) => [(5, .int .i64 i)]) (fun i w' => (i ≤ l.length ∧ Mkd w' gU 5 (upto cap1 l i) ∧ Mkd w' gV 5 (upto com l i)) ∧ Ex w1 w') (fun i => l.length - i) (0) ⟨rfl, trivial⟩ ⟨⟨Nat.zero_le _, (hbgU.ext hE12), hbgV⟩, hE7⟩ ?_
    rintro i wl13 ⟨⟨hi, hU, hV⟩, hxwl13⟩
    refine CW.sub (S' := [(5, _), (0, _), (2, _), (3, _), (4, _)]) ⟨rfl, rfl, rfl, rfl, rfl, trivial⟩ ?_
    refine CW.seq ?_
    refine CW.seq ?_
    refine CW.region ?_
    refine RG.vl rfl rfl rfl (Ev.move rfl rfl) ?_
    refine RG.vl rfl rfl rfl (Ev.move rfl rfl) ?_
    refine RG.vl rfl rfl rfl (Ev.lenStr rfl rfl rfl Try.underlying9) ?_
    refine RG.vl rfl rfl rfl (Ev.lss rfl rfl rfl) ?_
    refine RG.done ?_
    refine QW.then_ ?_
    refine CW.condP rfl (fun hc14 => ?_) (fun hc14 => ?_)
    · refine CW.skip ?_
      refine QW.then_ ?_
      refine CW.seq ?_
      refine CW.block ?_
      refine CW.seq ?_
      refine CW.seq ?_
      obtain ⟨c, hc⟩ : ∃ c, l[i]? = some c := ⟨_, List.getElem?_eq_getElem (by omega)⟩
      have hc8 := c.toNat_lt
      have hu1 := upto_len cap1 l i
      have hu2 := upto_len com l i
      refine CW.region ?_
      refine RG.vl rfl rfl rfl (Ev.move rfl rfl) ?_
      refine RG.vl rfl rfl rfl (Ev.move rfl rfl) ?_
      refine RG.vl rfl rfl rfl (Ev.byteAt rfl rfl rfl Try.underlying9 (by omega) (hc)) ?_
      refine RG.vl rfl rfl rfl (Ev.geq rfl rfl rfl) ?_
      refine RG.vl rfl rfl rfl (Ev.move rfl rfl) ?_
      refine RG.split (d := 25) rfl (fun hg15 => ?_) (fun hg15 => ?_)
      · refine RG.vl rfl rfl rfl (Ev.move rfl rfl) ?_
        refine RG.vl rfl rfl rfl (Ev.move rfl rfl) ?_
        refine RG.vl rfl rfl rfl (Ev.byteAt rfl rfl rfl Try.underlying9 (by omega) (hc)) ?_
        refine RG.vl rfl rfl rfl (Ev.leq rfl rfl rfl) ?_
        refine RG.vl rfl rfl rfl (Ev.pickT rfl rfl rfl) ?_
        refine RG.done ?_
        refine QW.sub (S' := [(0, _), (2, _), (3, _), (4, _), (5, _), (30, _)]) ⟨rfl, rfl, rfl, rfl, rfl, rfl, trivial⟩ ?_
        refine QW.then_ ?_
        refine CW.condP rfl (fun hc16 => ?_) (fun hc16 => ?_)
        · have hcn := cap1_nat (c := c) (by omega)
          refine CW.region ?_
          refine RG.vl rfl rfl rfl (Ev.move rfl rfl) ?_
          refine RG.vl rfl rfl rfl (Ev.move rfl rfl) ?_
          refine RG.vl rfl rfl rfl (Ev.move rfl rfl) ?_
          refine RG.vl rfl rfl rfl (Ev.move rfl rfl) ?_
          refine RG.vl rfl rfl rfl (Ev.byteAt rfl rfl rfl Try.underlying9 (by omega) (hc)) ?_
          refine RG.vl rfl rfl rfl ((Ev.sub8 rfl rfl rfl (by omega)).conv (congrArg (Value.int .u8) (show (c.toNat : Int) - 32 = ((cap1 c).toNat : Int) by omega))) ?_
          refine RG.vl rfl rfl rfl (Ev.idxN rfl rfl rfl Try.underlying23 sz_5 (by omega)) ?_
          refine RG.stM (g := gU) (cap1 c) rfl rfl rfl rfl rfl sz_5 hU (by omega) (fun ws17 hwws17 hbws17 => ?_)
          replace hV := Mkd.far hV hwws17 (by omega)
          replace hxwl13 := Wr.below hxwl13 hwws17 hle6
          refine RG.done ?_
          refine QW.then_ ?_
          refine CW.seq ?_
          refine CW.region ?_
          refine RG.vl rfl rfl rfl (Ev.move rfl rfl) ?_
          refine RG.vl rfl rfl rfl (Ev.move rfl rfl) ?_
          refine RG.vl rfl rfl rfl (Ev.byteAt rfl rfl rfl Try.underlying9 (by omega) (hc)) ?_
          refine RG.vl rfl rfl rfl (Ev.lss rfl rfl rfl) ?_
          refine RG.vl rfl rfl rfl (Ev.move rfl rfl) ?_
          refine RG.split (d := 42) rfl (fun hg18 => ?_) (fun hg18 => ?_)
          · refine RG.vl rfl rfl rfl (Ev.move rfl rfl) ?_
            refine RG.vl rfl rfl rfl (Ev.move rfl rfl) ?_
            refine RG.vl rfl rfl rfl (Ev.move rfl rfl) ?_
            refine RG.vl rfl rfl rfl (Ev.addI rfl rfl rfl (by omega)) ?_
            refine RG.vl rfl rfl rfl ((Ev.cutStr (i := i) (j := i + 1) rfl rfl Try.underlying9 rfl rfl (by omega) (by rw [sbytes]; omega)).conv (congrArg Value.string (bext hc))) ?_
            refine RG.call rfl rfl rfl rfl rfl rfl rfl en_9 (fold_ret [c] _ (by show 1 ≤ _; omega)) ?_
            rintro _ w19 ⟨rfl, hx19⟩
            replace hxwl13 := Ex.tr hxwl13 hx19
            have hE20 := hx19
            refine RG.vl rfl rfl rfl (Ev.eqS rfl rfl rfl) ?_
            refine RG.vl rfl rfl rfl (Ev.pickT rfl rfl rfl) ?_
            refine RG.done ?_
            refine QW.sub (S' := [(0, _), (2, _), (3, _), (4, _), (5, _), (50, _)]) ⟨rfl, rfl, rfl, rfl, rfl, rfl, trivial⟩ ?_
            refine QW.then_ ?_
            refine CW.condP rfl (fun hc21 => ?_) (fun hc21 => ?_)
            · refine CW.region ?_
              refine RG.vl rfl rfl rfl (Ev.move rfl rfl) ?_
              refine RG.vl rfl rfl rfl (Ev.move rfl rfl) ?_
              refine RG.vl rfl rfl rfl (Ev.idxN rfl rfl rfl Try.underlying23 sz_5 (by omega)) ?_
              refine RG.stM (g := gV) (44) rfl rfl rfl rfl rfl sz_5 (hV.ext hE20) (by omega) (fun ws22 hwws22 hbws22 => ?_)
              replace hbws17 := Mkd.far (hbws17.ext hE20) hwws22 (by omega)
              replace hxwl13 := Wr.below hxwl13 hwws22 hle9
              refine RG.done ?_
              refine QW.blockN ?_
              refine QW.then_ ?_
              refine CW.region ?_
              refine RG.vl rfl rfl rfl (Ev.move rfl rfl) ?_
              refine RG.vl rfl rfl rfl (Ev.addI rfl rfl rfl (by omega)) ?_
              refine RG.vl rfl rfl rfl (Ev.assign rfl rfl) ?_
              refine RG.done ?_
              refine QW.round1 (i + 1) ⟨rfl, trivial⟩ ⟨rfl, rfl, rfl, rfl, trivial⟩ ⟨⟨by omega, by rw [← upto_step hc]; exact hbws17, by rw [← upto_step hc, com_yes (by omega) ((binj (b := [])).1 (by assumption))]; exact hbws22⟩, hxwl13⟩ (by omega)
            · refine CW.skip ?_
              refine QW.blockN ?_
              refine QW.then_ ?_
              refine CW.region ?_
              refine RG.vl rfl rfl rfl (Ev.move rfl rfl) ?_
              refine RG.vl rfl rfl rfl (Ev.addI rfl rfl rfl (by omega)) ?_
              refine RG.vl rfl rfl rfl (Ev.assign rfl rfl) ?_
              refine RG.done ?_
              refine QW.round1 (i + 1) ⟨rfl, trivial⟩ ⟨rfl, rfl, rfl, rfl, trivial⟩ ⟨⟨by omega, by rw [← upto_step hc]; exact (hbws17.ext hE20), by rw [upto_same hc (com_no (by first | exact .inl (by omega) | exact .inr (fun e => absurd (binj.2 e) (by assumption))))]; exact (hV.ext hE20)⟩, hxwl13⟩ (by omega)
          · refine RG.pass rfl rfl rfl ?_
            refine RG.pass rfl rfl rfl ?_
            refine RG.pass rfl rfl rfl ?_
            refine RG.pass rfl rfl rfl ?_
            refine RG.pass rfl rfl rfl ?_
            refine RG.pass rfl rfl rfl ?_
            refine RG.pass rfl rfl rfl ?_
            refine RG.vl rfl rfl rfl (Ev.pickF rfl rfl rfl) ?_
            refine RG.done ?_
            refine QW.sub (S' := [(0, _), (2, _), (3, _), (4, _), (5, _), (50, _)]) ⟨rfl, rfl, rfl, rfl, rfl, rfl, trivial⟩ ?_
            refine QW.then_ ?_
            refine CW.condF rfl ?_
            refine CW.skip ?_
            refine QW.blockN ?_
            refine QW.then_ ?_
            refine CW.region ?_
            refine RG.vl rfl rfl rfl (Ev.move rfl rfl) ?_
            refine RG.vl rfl rfl rfl (Ev.addI rfl rfl rfl (by omega)) ?_
            refine RG.vl rfl rfl rfl (Ev.assign rfl rfl) ?_
            refine RG.done ?_
            refine QW.round1 (i + 1) ⟨rfl, trivial⟩ ⟨rfl, rfl, rfl, rfl, trivial⟩ ⟨⟨by omega, by rw [← upto_step hc]; exact hbws17, by rw [upto_same hc (com_no (by first | exact .inl (by omega) | exact .inr (fun e => absurd (binj.2 e) (by assumption))))]; exact hV⟩, hxwl13⟩ (by omega)
        · refine CW.skip ?_
          refine QW.then_ ?_
          refine CW.seq ?_
          refine CW.region ?_
          refine RG.vl rfl rfl rfl (Ev.move rfl rfl) ?_
          refine RG.vl rfl rfl rfl (Ev.move rfl rfl) ?_
          refine RG.vl rfl rfl rfl (Ev.byteAt rfl rfl rfl Try.underlying9 (by omega) (hc)) ?_
          refine RG.vl rfl rfl rfl (Ev.lss rfl rfl rfl) ?_
          refine RG.vl rfl rfl rfl (Ev.move rfl rfl) ?_
          refine RG.split (d := 42) rfl (fun hg23 => ?_) (fun hg23 => ?_)
          · refine RG.vl rfl rfl rfl (Ev.move rfl rfl) ?_
            refine RG.vl rfl rfl rfl (Ev.move rfl rfl) ?_
            refine RG.vl rfl rfl rfl (Ev.move rfl rfl) ?_
            refine RG.vl rfl rfl rfl (Ev.addI rfl rfl rfl (by omega)) ?_
            refine RG.vl rfl rfl rfl ((Ev.cutStr (i := i) (j := i + 1) rfl rfl Try.underlying9 rfl rfl (by omega) (by rw [sbytes]; omega)).conv (congrArg Value.string (bext hc))) ?_
            refine RG.call rfl rfl rfl rfl rfl rfl rfl en_9 (fold_ret [c] _ (by show 1 ≤ _; omega)) ?_
            rintro _ w24 ⟨rfl, hx24⟩
            replace hxwl13 := Ex.tr hxwl13 hx24
            have hE25 := hx24
            refine RG.vl rfl rfl rfl (Ev.eqS rfl rfl rfl) ?_
            refine RG.vl rfl rfl rfl (Ev.pickT rfl rfl rfl) ?_
            refine RG.done ?_
            refine QW.then_ ?_
            refine CW.condP rfl (fun hc26 => ?_) (fun hc26 => ?_)
            · refine CW.region ?_
              refine RG.vl rfl rfl rfl (Ev.move rfl rfl) ?_
              refine RG.vl rfl rfl rfl (Ev.move rfl rfl) ?_
              refine RG.vl rfl rfl rfl (Ev.idxN rfl rfl rfl Try.underlying23 sz_5 (by omega)) ?_
              refine RG.stM (g := gV) (44) rfl rfl rfl rfl rfl sz_5 (hV.ext hE25) (by omega) (fun ws27 hwws27 hbws27 => ?_)
              replace hU := Mkd.far (hU.ext hE25) hwws27 (by omega)
              replace hxwl13 := Wr.below hxwl13 hwws27 hle9
              refine RG.done ?_
              refine QW.sub (S' := [(0, _), (2, _), (3, _), (4, _), (5, _)]) ⟨rfl, rfl, rfl, rfl, rfl, trivial⟩ ?_
              refine QW.blockN ?_
              refine QW.then_ ?_
              refine CW.region ?_
              refine RG.vl rfl rfl rfl (Ev.move rfl rfl) ?_
              refine RG.vl rfl rfl rfl (Ev.addI rfl rfl rfl (by omega)) ?_
              refine RG.vl rfl rfl rfl (Ev.assign rfl rfl) ?_
              refine RG.done ?_
              refine QW.round1 (i + 1) ⟨rfl, trivial⟩ ⟨rfl, rfl, rfl, rfl, trivial⟩ ⟨⟨by omega, by rw [upto_same hc (cap1_no (by omega))]; exact hU, by rw [← upto_step hc, com_yes (by omega) ((binj (b := [])).1 (by assumption))]; exact hbws27⟩, hxwl13⟩ (by omega)
            · refine CW.skip ?_
              refine QW.blockN ?_
              refine QW.then_ ?_
              refine CW.region ?_
              refine RG.vl rfl rfl rfl (Ev.move rfl rfl) ?_
              refine RG.vl rfl rfl rfl (Ev.addI rfl rfl rfl (by omega)) ?_
              refine RG.vl rfl rfl rfl (Ev.assign rfl rfl) ?_
              refine RG.done ?_
              refine QW.sub (S' := [(0, _), (2, _), (3, _), (4, _), (5, _)]) ⟨rfl, rfl, rfl, rfl, rfl, trivial⟩ ?_
              refine QW.round1 (i + 1) ⟨rfl, trivial⟩ ⟨rfl, rfl, rfl, rfl, trivial⟩ ⟨⟨by omega, by rw [upto_same hc (cap1_no (by omega))]; exact (hU.ext hE25), by rw [upto_same hc (com_no (by first | exact .inl (by omega) | exact .inr (fun e => absurd (binj.2 e) (by assumption))))]; exact (hV.ext hE25)⟩, hxwl13⟩ (by omega)
          · refine RG.pass rfl rfl rfl ?_
            refine RG.pass rfl rfl rfl ?_
            refine RG.pass rfl rfl rfl ?_
            refine RG.pass rfl rfl rfl ?_
            refine RG.pass rfl rfl rfl ?_
            refine RG.pass rfl rfl rfl ?_
            refine RG.pass rfl rfl rfl ?_
            refine RG.vl rfl rfl rfl (Ev.pickF rfl rfl rfl) ?_
            refine RG.done ?_
            refine QW.then_ ?_
            refine CW.condF rfl ?_
            refine CW.skip ?_
            refine QW.blockN ?_
            refine QW.then_ ?_
            refine CW.region ?_
            refine RG.vl rfl rfl rfl (Ev.move rfl rfl) ?_
            refine RG.vl rfl rfl rfl (Ev.addI rfl rfl rfl (by omega)) ?_
            refine RG.vl rfl rfl rfl (Ev.assign rfl rfl) ?_
            refine RG.done ?_
            refine QW.sub (S' := [(0, _), (2, _), (3, _), (4, _), (5, _)]) ⟨rfl, rfl, rfl, rfl, rfl, trivial⟩ ?_
            refine QW.round1 (i + 1) ⟨rfl, trivial⟩ ⟨rfl, rfl, rfl, rfl, trivial⟩ ⟨⟨by omega, by rw [upto_same hc (cap1_no (by omega))]; exact hU, by rw [upto_same hc (com_no (by first | exact .inl (by omega) | exact .inr (fun e => absurd (binj.2 e) (by assumption))))]; exact hV⟩, hxwl13⟩ (by omega)
      · refine RG.pass rfl rfl rfl ?_
        refine RG.pass rfl rfl rfl ?_
        refine RG.pass rfl rfl rfl ?_
        refine RG.pass rfl rfl rfl ?_
        refine RG.vl rfl rfl rfl (Ev.pickF rfl rfl rfl) ?_
        refine RG.done ?_
        refine QW.sub (S' := [(0, _), (2, _), (3, _), (4, _), (5, _), (30, _)]) ⟨rfl, rfl, rfl, rfl, rfl, rfl, trivial⟩ ?_
        refine QW.then_ ?_
        refine CW.condF rfl ?_
        refine CW.skip ?_
        refine QW.then_ ?_
        refine CW.seq ?_
        refine CW.region ?_
        refine RG.vl rfl rfl rfl (Ev.move rfl rfl) ?_
        refine RG.vl rfl rfl rfl (Ev.move rfl rfl) ?_
        refine RG.vl rfl rfl rfl (Ev.byteAt rfl rfl rfl Try.underlying9 (by omega) (hc)) ?_
        refine RG.vl rfl rfl rfl (Ev.lss rfl rfl rfl) ?_
        refine RG.vl rfl rfl rfl (Ev.move rfl rfl) ?_
        refine RG.split (d := 42) rfl (fun hg28 => ?_) (fun hg28 => ?_)
        · refine RG.vl rfl rfl rfl (Ev.move rfl rfl) ?_
          refine RG.vl rfl rfl rfl (Ev.move rfl rfl) ?_
          refine RG.vl rfl rfl rfl (Ev.move rfl rfl) ?_
          refine RG.vl rfl rfl rfl (Ev.addI rfl rfl rfl (by omega)) ?_
          refine RG.vl rfl rfl rfl ((Ev.cutStr (i := i) (j := i + 1) rfl rfl Try.underlying9 rfl rfl (by omega) (by rw [sbytes]; omega)).conv (congrArg Value.string (bext hc))) ?_
          refine RG.call rfl rfl rfl rfl rfl rfl rfl en_9 (fold_ret [c] _ (by show 1 ≤ _; omega)) ?_
          rintro _ w29 ⟨rfl, hx29⟩
          replace hxwl13 := Ex.tr hxwl13 hx29
          have hE30 := hx29
          refine RG.vl rfl rfl rfl (Ev.eqS rfl rfl rfl) ?_
          refine RG.vl rfl rfl rfl (Ev.pickT rfl rfl rfl) ?_
          refine RG.done ?_
          refine QW.then_ ?_
          refine CW.condP rfl (fun hc31 => ?_) (fun hc31 => ?_)
          · refine CW.region ?_
            refine RG.vl rfl rfl rfl (Ev.move rfl rfl) ?_
            refine RG.vl rfl rfl rfl (Ev.move rfl rfl) ?_
            refine RG.vl rfl rfl rfl (Ev.idxN rfl rfl rfl Try.underlying23 sz_5 (by omega)) ?_
            refine RG.stM (g := gV) (44) rfl rfl rfl rfl rfl sz_5 (hV.ext hE30) (by omega) (fun ws32 hwws32 hbws32 => ?_)
            replace hU := Mkd.far (hU.ext hE30) hwws32 (by omega)
            replace hxwl13 := Wr.below hxwl13 hwws32 hle9
            refine RG.done ?_
            refine QW.sub (S' := [(0, _), (2, _), (3, _), (4, _), (5, _)]) ⟨rfl, rfl, rfl, rfl, rfl, trivial⟩ ?_
            refine QW.blockN ?_
            refine QW.then_ ?_
            refine CW.region ?_
            refine RG.vl rfl rfl rfl (Ev.move rfl rfl) ?_
            refine RG.vl rfl rfl rfl (Ev.addI rfl rfl rfl (by omega)) ?_
            refine RG.vl rfl rfl rfl (Ev.assign rfl rfl) ?_
            refine RG.done ?_
            refine QW.round1 (i + 1) ⟨rfl, trivial⟩ ⟨rfl, rfl, rfl, rfl, trivial⟩ ⟨⟨by omega, by rw [upto_same hc (cap1_no (by omega))]; exact hU, by rw [← upto_step hc, com_yes (by omega) ((binj (b := [])).1 (by assumption))]; exact hbws32⟩, hxwl13⟩ (by omega)
          · refine CW.skip ?_
            refine QW.blockN ?_
            refine QW.then_ ?_
            refine CW.region ?_
            refine RG.vl rfl rfl rfl (Ev.move rfl rfl) ?_
            refine RG.vl rfl rfl rfl (Ev.addI rfl rfl rfl (by omega)) ?_
            refine RG.vl rfl rfl rfl (Ev.assign rfl rfl) ?_
            refine RG.done ?_
            refine QW.sub (S' := [(0, _), (2, _), (3, _), (4, _), (5, _)]) ⟨rfl, rfl, rfl, rfl, rfl, trivial⟩ ?_
            refine QW.round1 (i + 1) ⟨rfl, trivial⟩ ⟨rfl, rfl, rfl, rfl, trivial⟩ ⟨⟨by omega, by rw [upto_same hc (cap1_no (by omega))]; exact (hU.ext hE30), by rw [upto_same hc (com_no (by first | exact .inl (by omega) | exact .inr (fun e => absurd (binj.2 e) (by assumption))))]; exact (hV.ext hE30)⟩, hxwl13⟩ (by omega)
        · refine RG.pass rfl rfl rfl ?_
          refine RG.pass rfl rfl rfl ?_
          refine RG.pass rfl rfl rfl ?_
          refine RG.pass rfl rfl rfl ?_
          refine RG.pass rfl rfl rfl ?_
          refine RG.pass rfl rfl rfl ?_
          refine RG.pass rfl rfl rfl ?_
          refine RG.vl rfl rfl rfl (Ev.pickF rfl rfl rfl) ?_
          refine RG.done ?_
          refine QW.then_ ?_
          refine CW.condF rfl ?_
          refine CW.skip ?_
          refine QW.blockN ?_
          refine QW.then_ ?_
          refine CW.region ?_
          refine RG.vl rfl rfl rfl (Ev.move rfl rfl) ?_
          refine RG.vl rfl rfl rfl (Ev.addI rfl rfl rfl (by omega)) ?_
          refine RG.vl rfl rfl rfl (Ev.assign rfl rfl) ?_
          refine RG.done ?_
          refine QW.sub (S' := [(0, _), (2, _), (3, _), (4, _), (5, _)]) ⟨rfl, rfl, rfl, rfl, rfl, trivial⟩ ?_
          refine QW.round1 (i + 1) ⟨rfl, trivial⟩ ⟨rfl, rfl, rfl, rfl, trivial⟩ ⟨⟨by omega, by rw [upto_same hc (cap1_no (by omega))]; exact hU, by rw [upto_same hc (com_no (by first | exact .inl (by omega) | exact .inr (fun e => absurd (binj.2 e) (by assumption))))]; exact hV⟩, hxwl13⟩ (by omega)
    · refine CW.exit ?_
      refine QW.thenExit ?_
      refine QW.thenExit ?_
      refine QW.blockHit ?_
      refine QW.then_ ?_
      refine CW.seq ?_
      have e : i = l.length := by omega
      subst e
      rw [upto_end] at hU hV
      refine CW.region ?_
      refine RG.vl rfl rfl rfl (Ev.move rfl rfl) ?_
      refine RG.vl rfl rfl rfl (Ev.toStr rfl rfl Try.underlying23 Try.underlying5 Try.underlying9 ((Mkd.rdl hU (List.length_map cap1) hc1gU hc2gU))) ?_
      refine RG.call rfl rfl rfl rfl rfl rfl rfl en_9 (fold_is (l.map cap1) (foldL l) _ (by rw [List.length_map]; omega) (fold_up l)) ?_
      rintro _ w33 ⟨rfl, hx33⟩
      replace hxwl13 := Ex.tr hxwl13 hx33
      have hE34 := hx33
      refine RG.vl rfl rfl rfl (Ev.move rfl rfl) ?_
      refine RG.call rfl rfl rfl rfl rfl rfl rfl en_9 (fold_ret l _ (by omega)) ?_
      rintro _ w35 ⟨rfl, hx35⟩
      replace hxwl13 := Ex.tr hxwl13 hx35
      replace hE34 := Ex.tr hE34 hx35
      have hE36 := hx35
      refine RG.vl rfl rfl rfl (Ev.isT (Ev.eqS rfl rfl rfl) (rfl)) ?_
      refine RG.vl rfl rfl rfl (Ev.move rfl rfl) ?_
      refine RG.vl rfl rfl rfl (Ev.move rfl rfl) ?_
      refine RG.vl rfl rfl rfl (Ev.toStr rfl rfl Try.underlying23 Try.underlying5 Try.underlying9 ((Mkd.rdl (hV.ext hE34) (List.length_map com) hc1gV hc2gV))) ?_
      refine RG.call rfl rfl rfl rfl rfl rfl rfl en_9 (fold_is (l.map com) (foldL l) _ (by rw [List.length_map]; omega) (fold_com l)) ?_
      rintro _ w37 ⟨rfl, hx37⟩
      replace hxwl13 := Ex.tr hxwl13 hx37
      replace hE34 := Ex.tr hE34 hx37
      replace hE36 := Ex.tr hE36 hx37
      have hE38 := hx37
      refine RG.vl rfl rfl rfl (Ev.move rfl rfl) ?_
      refine RG.call rfl rfl rfl rfl rfl rfl rfl en_9 (fold_ret l _ (by omega)) ?_
      rintro _ w39 ⟨rfl, hx39⟩
      replace hxwl13 := Ex.tr hxwl13 hx39
      replace hE34 := Ex.tr hE34 hx39
      replace hE36 := Ex.tr hE36 hx39
      replace hE38 := Ex.tr hE38 hx39
      have hE40 := hx39
      refine RG.vl rfl rfl rfl (Ev.isT (Ev.eqS rfl rfl rfl) (rfl)) ?_
      refine RG.vl rfl rfl rfl (Ev.pickT rfl rfl rfl) ?_
      refine RG.vl rfl rfl rfl (Ev.assign rfl rfl) ?_
      refine RG.done ?_
      refine QW.sub (S' := [(2, _)]) ⟨rfl, trivial⟩ ?_
      refine QW.then_ ?_
      refine CW.ret ?_
      refine QW.ret1 rfl rfl ?_
      have hB := (Ex.tr hR4 hxwl13)
      exact ⟨rfl, hB⟩

end Go.Proofs.Ytlbcjhbdkeeahaa
