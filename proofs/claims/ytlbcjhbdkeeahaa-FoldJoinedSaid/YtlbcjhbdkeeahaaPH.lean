/- Walks (PH). Written by program. -/
import Derived.Test.YtlbcjhbdkeeahaaT
import Derived.Test.YtlbcjhbdkeeahaaPG
import Derived.Test.YtlbcjhbdkeeahaaOH
import Derived.Test.YtlbcjhbdkeeahaaPB
namespace Go.Proofs.Ytlbcjhbdkeeahaa
open Go.RowKit
set_option maxRecDepth 100000 in
set_option maxHeartbeats 4000000 in
theorem foldJoined_ret (a b : List UInt8) (c : UInt8) (w : World)  :
    Ret Try.prog 7 [.string ⟨a.toArray⟩, .string ⟨b.toArray⟩, .int .u8 (c.toNat : Int)] w (fun v w' => v = .bool true ∧ Ex w w') := by
  have hsa := sbytes a
  have hsb := sbytes b
  have hfa := fold_len a
  have hfb := fold_len b
  have hJ : joinL (foldL a) (foldL b) = foldL (a ++ 32 :: b) := joined_is
  have hpl : Pl (joinL (foldL a) (foldL b)) := by rw [hJ]; exact fold_pl _
  have hjl : (joinL (foldL a) (foldL b)).length ≤ a.length + b.length + 1 := by rw [hJ]; have := fold_len (a ++ 32 :: b); rw [List.length_append, List.length_cons] at this; omega
  have hwj := words_join hpl
  have hB0 : Ex w w := Ex.rfl_ _
  refine Ret.of Try.func7 rfl Try.ntmps7 rfl ?_
  refine CW.seq ?_
  refine CW.region ?_
  refine RG.vl rfl rfl rfl (Ev.assign rfl rfl) ?_
  refine RG.done ?_
  refine QW.then_ ?_
  refine CW.seq ?_
  refine CW.seq ?_
  refine CW.region ?_
  refine RG.call rfl rfl rfl rfl rfl rfl rfl en_8 (awake_ret _) ?_
  rintro _ w1 ⟨rfl, hx1⟩
  have hE2 := hx1
  refine RG.vl rfl rfl rfl (Ev.notF rfl rfl) ?_
  refine RG.done ?_
  refine QW.then_ ?_
  refine CW.condF rfl ?_
  refine CW.skip ?_
  refine QW.then_ ?_
  refine CW.seq ?_
  refine CW.seq ?_
  refine CW.region ?_
  refine RG.vl rfl rfl rfl (Ev.move rfl rfl) ?_
  refine RG.vl rfl rfl rfl (Ev.lenStr rfl rfl rfl Try.underlying9) ?_
  refine RG.vl rfl rfl rfl (Ev.gtr rfl rfl rfl) ?_
  refine RG.vl rfl rfl rfl (Ev.move rfl rfl) ?_
  refine RG.split (d := 15) rfl (fun hg3 => ?_) (fun hg3 => ?_)
  · refine RG.pass rfl rfl rfl ?_
    refine RG.pass rfl rfl rfl ?_
    refine RG.pass rfl rfl rfl ?_
    refine RG.vl rfl rfl rfl (Ev.pickT rfl rfl rfl) ?_
    refine RG.done ?_
    refine QW.then_ ?_
    refine CW.condT rfl ?_
    refine CW.seq ?_
    refine CW.region ?_
    refine RG.vl rfl rfl rfl (Ev.assign rfl rfl) ?_
    refine RG.done ?_
    refine QW.then_ ?_
    refine CW.ret ?_
    refine QW.thenRet ?_
    refine QW.ret1 rfl rfl ?_
    have hB := (Ex.tr hB0 hE2)
    exact ⟨rfl, hB⟩
  · refine RG.vl rfl rfl rfl (Ev.move rfl rfl) ?_
    refine RG.vl rfl rfl rfl (Ev.lenStr rfl rfl rfl Try.underlying9) ?_
    refine RG.vl rfl rfl rfl (Ev.gtr rfl rfl rfl) ?_
    refine RG.vl rfl rfl rfl (Ev.pickF rfl rfl rfl) ?_
    refine RG.done ?_
    refine QW.then_ ?_
    refine CW.condP rfl (fun hc4 => ?_) (fun hc4 => ?_)
    · refine CW.seq ?_
      refine CW.region ?_
      refine RG.vl rfl rfl rfl (Ev.assign rfl rfl) ?_
      refine RG.done ?_
      refine QW.then_ ?_
      refine CW.ret ?_
      refine QW.thenRet ?_
      refine QW.ret1 rfl rfl ?_
      have hB := (Ex.tr hB0 hE2)
      exact ⟨rfl, hB⟩
    · refine CW.skip ?_
      refine QW.then_ ?_
      refine CW.seq ?_
      refine CW.region ?_
      refine RG.vl rfl rfl rfl (Ev.move rfl rfl) ?_
      refine RG.call rfl rfl rfl rfl rfl rfl rfl en_9 (fold_ret a _ (by (repeat rw [List.length_append]); first | omega | (show _ + (_ + 1) ≤ _; omega) | (show 1 ≤ _; omega))) ?_
      rintro _ w5 ⟨rfl, hx5⟩
      replace hE2 := Ex.tr hE2 hx5
      have hE6 := hx5
      refine RG.vl rfl rfl rfl (Ev.move rfl rfl) ?_
      refine RG.call rfl rfl rfl rfl rfl rfl rfl en_9 (fold_ret b _ (by (repeat rw [List.length_append]); first | omega | (show _ + (_ + 1) ≤ _; omega) | (show 1 ≤ _; omega))) ?_
      rintro _ w7 ⟨rfl, hx7⟩
      replace hE2 := Ex.tr hE2 hx7
      replace hE6 := Ex.tr hE6 hx7
      have hE8 := hx7
      refine RG.call rfl rfl rfl rfl rfl rfl rfl en_21 (joined_ret (foldL a) (foldL b) _ (by omega) (by omega)) ?_
      rintro _ w9 ⟨rfl, hx9⟩
      replace hE2 := Ex.tr hE2 hx9
      replace hE6 := Ex.tr hE6 hx9
      replace hE8 := Ex.tr hE8 hx9
      have hE10 := hx9
      refine RG.vl rfl rfl rfl (Ev.assign rfl rfl) ?_
      refine RG.done ?_
      refine QW.sub (S' := [(0, _), (1, _), (2, _), (6, _), (7, _)]) ⟨rfl, rfl, rfl, rfl, rfl, trivial⟩ ?_
      refine QW.then_ ?_
      refine CW.seq ?_
      refine CW.seq ?_
      refine CW.region ?_
      refine RG.vl rfl rfl rfl (Ev.move rfl rfl) ?_
      refine RG.vl rfl rfl rfl ((Ev.cat rfl rfl rfl (by rw [sbytes]; show _ + 1 ≤ _; omega)).conv (congrArg Value.string (bx_cat a [32]))) ?_
      refine RG.vl rfl rfl rfl (Ev.move rfl rfl) ?_
      refine RG.vl rfl rfl rfl ((Ev.cat rfl rfl rfl (by rw [sbytes, sbytes, List.length_append]; show _ + 1 + _ ≤ _; omega)).conv (congrArg Value.string ((bx_cat _ b).trans (show _ = (⟨(a ++ 32 :: b).toArray⟩ : ByteArray) by simp)))) ?_
      refine RG.call rfl rfl rfl rfl rfl rfl rfl en_9 (fold_ret (a ++ 32 :: b) _ (by (repeat rw [List.length_append]); first | omega | (show _ + (_ + 1) ≤ _; omega) | (show 1 ≤ _; omega))) ?_
      rintro _ w11 ⟨rfl, hx11⟩
      replace hE2 := Ex.tr hE2 hx11
      replace hE6 := Ex.tr hE6 hx11
      replace hE8 := Ex.tr hE8 hx11
      replace hE10 := Ex.tr hE10 hx11
      have hE12 := hx11
      refine RG.vl rfl rfl rfl (Ev.move rfl rfl) ?_
      refine RG.vl rfl rfl rfl (Ev.isF (Ev.neS rfl rfl rfl) (fun h => h (by rw [hJ]))) ?_
      refine RG.done ?_
      refine QW.then_ ?_
      refine CW.condF rfl ?_
      refine CW.skip ?_
      refine QW.then_ ?_
      refine CW.seq ?_
      refine CW.seq ?_
      refine CW.region ?_
      refine RG.vl rfl rfl rfl (Ev.move rfl rfl) ?_
      refine RG.vl rfl rfl rfl (Ev.lss rfl rfl rfl) ?_
      refine RG.vl rfl rfl rfl (Ev.move rfl rfl) ?_
      refine RG.split (d := 34) rfl (fun hg13 => ?_) (fun hg13 => ?_)
      · refine RG.vl rfl rfl rfl (Ev.move rfl rfl) ?_
        refine RG.litO (os := [.tmp 35]) (enc := encB) ([c]) rfl rfl rfl rfl rfl rfl rfl Try.underlying23 inf_5 rfl rfl rfl rfl rfl encB_len rfl rfl (fun v14 wk15 hxwk15 hown16 hnew17 => ?_)
        replace hE2 := Ex.tr hE2 hxwk15
        replace hE6 := Ex.tr hE6 hxwk15
        replace hE8 := Ex.tr hE8 hxwk15
        replace hE10 := Ex.tr hE10 hxwk15
        replace hE12 := Ex.tr hE12 hxwk15
        have hE18 := hxwk15
        refine RG.vl rfl rfl rfl (Ev.toStr rfl rfl Try.underlying23 Try.underlying5 Try.underlying9 ((hown16.rdl encB_len))) ?_
        refine RG.call rfl rfl rfl rfl rfl rfl rfl en_9 (fold_ret [c] _ (by (repeat rw [List.length_append]); first | omega | (show _ + (_ + 1) ≤ _; omega) | (show 1 ≤ _; omega))) ?_
        rintro _ w19 ⟨rfl, hx19⟩
        replace hE2 := Ex.tr hE2 hx19
        replace hE6 := Ex.tr hE6 hx19
        replace hE8 := Ex.tr hE8 hx19
        replace hE10 := Ex.tr hE10 hx19
        replace hE12 := Ex.tr hE12 hx19
        replace hE18 := Ex.tr hE18 hx19
        have hE20 := hx19
        refine RG.vl rfl rfl rfl (Ev.eqS rfl rfl rfl) ?_
        refine RG.vl rfl rfl rfl (Ev.pickT rfl rfl rfl) ?_
        refine RG.vl rfl rfl rfl (Ev.move rfl rfl) ?_
        refine RG.split (d := 41) rfl (fun hg21 => ?_) (fun hg21 => ?_)
        · refine RG.vl rfl rfl rfl (Ev.move rfl rfl) ?_
          refine RG.vl rfl rfl rfl (Ev.move rfl rfl) ?_
          refine RG.litO (os := [.tmp 43]) (enc := encB) ([c]) rfl rfl rfl rfl rfl rfl rfl Try.underlying23 inf_5 rfl rfl rfl rfl rfl encB_len rfl rfl (fun v22 wk23 hxwk23 hown24 hnew25 => ?_)
          replace hE2 := Ex.tr hE2 hxwk23
          replace hE6 := Ex.tr hE6 hxwk23
          replace hE8 := Ex.tr hE8 hxwk23
          replace hE10 := Ex.tr hE10 hxwk23
          replace hE12 := Ex.tr hE12 hxwk23
          replace hE18 := Ex.tr hE18 hxwk23
          replace hE20 := Ex.tr hE20 hxwk23
          have hE26 := hxwk23
          refine RG.vl rfl rfl rfl (Ev.toStr rfl rfl Try.underlying23 Try.underlying5 Try.underlying9 ((hown24.rdl encB_len))) ?_
          refine RG.vl rfl rfl rfl ((Ev.cat rfl rfl rfl (by rw [sbytes, sbytes]; show _ + 1 ≤ _; omega)).conv (congrArg Value.string (bx_cat a [c]))) ?_
          refine RG.vl rfl rfl rfl (Ev.move rfl rfl) ?_
          refine RG.vl rfl rfl rfl ((Ev.cat rfl rfl rfl (by rw [sbytes, sbytes, List.length_append]; show _ + 1 + _ ≤ _; omega)).conv (congrArg Value.string ((bx_cat _ b).trans (show _ = (⟨(a ++ c :: b).toArray⟩ : ByteArray) by simp)))) ?_
          refine RG.call rfl rfl rfl rfl rfl rfl rfl en_9 (fold_ret (a ++ c :: b) _ (by (repeat rw [List.length_append]); first | omega | (show _ + (_ + 1) ≤ _; omega) | (show 1 ≤ _; omega))) ?_
          rintro _ w27 ⟨rfl, hx27⟩
          replace hE2 := Ex.tr hE2 hx27
          replace hE6 := Ex.tr hE6 hx27
          replace hE8 := Ex.tr hE8 hx27
          replace hE10 := Ex.tr hE10 hx27
          replace hE12 := Ex.tr hE12 hx27
          replace hE18 := Ex.tr hE18 hx27
          replace hE20 := Ex.tr hE20 hx27
          replace hE26 := Ex.tr hE26 hx27
          have hE28 := hx27
          refine RG.vl rfl rfl rfl (Ev.move rfl rfl) ?_
          refine RG.vl rfl rfl rfl (Ev.isF (Ev.neS rfl rfl rfl) (fun h => h (by rw [fold_joined (by omega) (binj.1 (by assumption)) a b]))) ?_
          refine RG.vl rfl rfl rfl (Ev.pickT rfl rfl rfl) ?_
          refine RG.done ?_
          refine QW.sub (S' := [(6, _), (7, _), (52, _)]) ⟨rfl, rfl, rfl, trivial⟩ ?_
          refine QW.then_ ?_
          refine CW.condF rfl ?_
          refine CW.skip ?_
          refine QW.then_ ?_
          refine CW.seq ?_
          refine CW.region ?_
          refine RG.vl rfl rfl rfl (Ev.move rfl rfl) ?_
          refine RG.call rfl rfl rfl rfl rfl rfl rfl en_22 (words_ret (joinL (foldL a) (foldL b)) _ (by omega)) ?_
          have hpre29 := (Ex.tr hB0 hE2)
          rintro wv w29 ⟨hwo, hx29⟩
          replace hE2 := Ex.tr hE2 hx29
          replace hE6 := Ex.tr hE6 hx29
          replace hE8 := Ex.tr hE8 hx29
          replace hE10 := Ex.tr hE10 hx29
          replace hE12 := Ex.tr hE12 hx29
          replace hE18 := Ex.tr hE18 hx29
          replace hE20 := Ex.tr hE20 hx29
          replace hE26 := Ex.tr hE26 hx29
          replace hE28 := Ex.tr hE28 hx29
          have hE30 := hx29
          refine RG.vl rfl rfl rfl (Ev.assign rfl rfl) ?_
          refine RG.done ?_
          refine QW.then_ ?_
          refine CW.seq ?_
          refine CW.seq ?_
          have hwl := words_count hpl
          refine CW.region ?_
          refine RG.vl rfl rfl rfl (Ev.assign rfl rfl) ?_
          refine RG.done ?_
          refine QW.then_ ?_
          refine CW.block ?_
          replace hown16 := (Own.ext hown16 hE20)
          replace hown24 := (Own.ext hown24 hE28)
          have hR31 := (Ex.tr hB0 hE2)
          have hR32 := hE6
          have hR33 := hE8
          have hR34 := hE10
          have hR35 := hE12
          have hR36 := hE18
          have hR37 := hE20
          have hR38 := hE26
          have hR39 := hE28
          have hR40 := hE30
          refine CW.loop1 [(7, _), (8, _)] ⟨rfl, rfl, trivial⟩ (fun (i : Nat) => [(9, .int .i64 (i : Int))]) (fun i w' => (i ≤ (wordsL (joinL (foldL a) (foldL b))).length) ∧ Ex w29 w') (fun i => (wordsL (joinL (foldL a) (foldL b))).length - i) (0) ⟨rfl, trivial⟩ ⟨Nat.zero_le _, (Ex.rfl_ _)⟩ ?_
          rintro i wl41 ⟨hi, hxwl41⟩
          refine CW.sub (S' := [(9, _), (7, _), (8, _)]) ⟨rfl, rfl, rfl, trivial⟩ ?_
          refine CW.seq ?_
          refine CW.seq ?_
          refine CW.region ?_
          refine RG.vl rfl rfl rfl (Ev.move rfl rfl) ?_
          refine RG.vl rfl rfl rfl (Ev.move rfl rfl) ?_
          refine RG.vl rfl rfl rfl (Ev.lenL rfl rfl rfl Try.underlying32 (((Own.ext hwo hxwl41).rdl encT_len))) ?_
          refine RG.vl rfl rfl rfl (Ev.lss rfl rfl rfl) ?_
          refine RG.done ?_
          refine QW.then_ ?_
          refine CW.condP rfl (fun hc42 => ?_) (fun hc42 => ?_)
          · refine CW.skip ?_
            refine QW.then_ ?_
            refine CW.seq ?_
            refine CW.block ?_
            refine CW.seq ?_
            obtain ⟨x, hx⟩ : ∃ x, (wordsL (joinL (foldL a) (foldL b)))[i]? = some x := ⟨_, List.getElem?_eq_getElem (by omega)⟩
            obtain ⟨hx1, hx2, hx3⟩ := words_all hpl x (List.mem_of_getElem? hx)
            have hx4 := fj_no hx3
            have hxl := words_short hpl hx
            have hxs := sbytes x
            refine CW.region ?_
            refine RG.vl rfl rfl rfl (Ev.move rfl rfl) ?_
            refine RG.vl rfl rfl rfl (Ev.move rfl rfl) ?_
            refine RG.idxO rfl rfl rfl rfl rfl rfl Try.underlying32 sz_9 encT_len ((Own.ext hwo hxwl41)) (hx) (fun g44 hg44 hBg44 hp43b hp43 => ?_)
            refine RG.vl rfl rfl rfl (Ev.ld0 rfl rfl Try.underlying9 rfl (hp43) (rfl)) ?_
            refine RG.vl rfl rfl rfl (Ev.isF (Ev.eqS rfl rfl rfl) (fun e => hx1 ((binj (b := [])).1 e))) ?_
            refine RG.vl rfl rfl rfl (Ev.move rfl rfl) ?_
            refine RG.vl rfl rfl rfl (Ev.move rfl rfl) ?_
            refine RG.vl rfl rfl rfl (Ev.move rfl rfl) ?_
            refine RG.idxO rfl rfl rfl rfl rfl rfl Try.underlying32 sz_9 encT_len ((Own.ext hwo hxwl41)) (hx) (fun g46 hg46 hBg46 hp45b hp45 => ?_)
            refine RG.vl rfl rfl rfl (Ev.ld0 rfl rfl Try.underlying9 rfl (hp45) (rfl)) ?_
            refine RG.call rfl rfl rfl rfl rfl rfl rfl en_11 (right_is x true _ (by omega) (decide_eq_true hx2)) ?_
            rintro _ w47 ⟨rfl, hx47⟩
            replace hxwl41 := Ex.tr hxwl41 hx47
            have hE48 := hx47
            refine RG.vl rfl rfl rfl (Ev.notF rfl rfl) ?_
            refine RG.vl rfl rfl rfl (Ev.pickF rfl rfl rfl) ?_
            refine RG.vl rfl rfl rfl (Ev.move rfl rfl) ?_
            refine RG.vl rfl rfl rfl (Ev.move rfl rfl) ?_
            refine RG.vl rfl rfl rfl (Ev.move rfl rfl) ?_
            refine RG.idxO rfl rfl rfl rfl rfl rfl Try.underlying32 sz_9 encT_len ((Own.ext hwo hxwl41)) (hx) (fun g50 hg50 hBg50 hp49b hp49 => ?_)
            refine RG.vl rfl rfl rfl (Ev.ld0 rfl rfl Try.underlying9 rfl (hp49) (rfl)) ?_
            refine RG.call rfl rfl rfl rfl rfl rfl rfl en_23 (contains_ret x _) ?_
            rintro _ w51 ⟨rfl, hx51⟩
            replace hxwl41 := Ex.tr hxwl41 hx51
            replace hE48 := Ex.tr hE48 hx51
            have hE52 := hx51
            refine RG.vl rfl rfl rfl (Ev.pickF rfl rfl rfl) ?_
            refine RG.done ?_
            refine QW.sub (S' := [(7, _), (8, _), (9, _), (80, _)]) ⟨rfl, rfl, rfl, rfl, trivial⟩ ?_
            refine QW.then_ ?_
            refine CW.condP rfl (fun hc53 => ?_) (fun hc53 => ?_)
            · refine CW.seq ?_
              refine CW.region ?_
              refine RG.vl rfl rfl rfl (Ev.assign rfl rfl) ?_
              refine RG.done ?_
              refine QW.then_ ?_
              refine CW.ret ?_
              refine QW.blockR ?_
              refine QW.thenRet ?_
              refine QW.thenRet ?_
              refine QW.blockR ?_
              refine QW.thenRet ?_
              refine QW.ret1 rfl rfl ?_
              have hB := (Ex.tr hR31 hxwl41)
              exfalso; omega
            · refine CW.skip ?_
              refine QW.blockN ?_
              refine QW.then_ ?_
              refine CW.region ?_
              refine RG.vl rfl rfl rfl (Ev.move rfl rfl) ?_
              refine RG.vl rfl rfl rfl (Ev.addI rfl rfl rfl (by omega)) ?_
              refine RG.vl rfl rfl rfl (Ev.assign rfl rfl) ?_
              refine RG.done ?_
              refine QW.round1 (i + 1) ⟨rfl, trivial⟩ ⟨rfl, rfl, trivial⟩ ⟨by omega, hxwl41⟩ (by omega)
          · refine CW.exit ?_
            refine QW.thenExit ?_
            refine QW.thenExit ?_
            refine QW.blockHit ?_
            refine QW.then_ ?_
            refine CW.seq ?_
            refine CW.region ?_
            refine RG.vl rfl rfl rfl (Ev.move rfl rfl) ?_
            refine RG.call rfl rfl rfl rfl rfl rfl rfl en_24 (join_ret _ (wordsL (joinL (foldL a) (foldL b))) _ (Own.ext hwo hxwl41) (by omega) (by rw [hwj]; omega)) ?_
            rintro _ w54 ⟨rfl, hx54⟩
            replace hxwl41 := Ex.tr hxwl41 hx54
            have hE55 := hx54
            refine RG.vl rfl rfl rfl (Ev.move rfl rfl) ?_
            refine RG.vl rfl rfl rfl (Ev.isT (Ev.eqS rfl rfl rfl) (by rw [hwj])) ?_
            refine RG.vl rfl rfl rfl (Ev.assign rfl rfl) ?_
            refine RG.done ?_
            refine QW.then_ ?_
            refine CW.ret ?_
            refine QW.ret1 rfl rfl ?_
            have hB := (Ex.tr hR31 hxwl41)
            exact ⟨rfl, hB⟩
        · refine RG.pass rfl rfl rfl ?_
          refine RG.pass rfl rfl rfl ?_
          refine RG.pass rfl rfl rfl ?_
          refine RG.pass rfl rfl rfl ?_
          refine RG.pass rfl rfl rfl ?_
          refine RG.pass rfl rfl rfl ?_
          refine RG.pass rfl rfl rfl ?_
          refine RG.pass rfl rfl rfl ?_
          refine RG.pass rfl rfl rfl ?_
          refine RG.pass rfl rfl rfl ?_
          refine RG.vl rfl rfl rfl (Ev.pickF rfl rfl rfl) ?_
          refine RG.done ?_
          refine QW.sub (S' := [(6, _), (7, _), (52, _)]) ⟨rfl, rfl, rfl, trivial⟩ ?_
          refine QW.then_ ?_
          refine CW.condF rfl ?_
          refine CW.skip ?_
          refine QW.then_ ?_
          refine CW.seq ?_
          refine CW.region ?_
          refine RG.vl rfl rfl rfl (Ev.move rfl rfl) ?_
          refine RG.call rfl rfl rfl rfl rfl rfl rfl en_22 (words_ret (joinL (foldL a) (foldL b)) _ (by omega)) ?_
          have hpre56 := (Ex.tr hB0 hE2)
          rintro wv w56 ⟨hwo, hx56⟩
          replace hE2 := Ex.tr hE2 hx56
          replace hE6 := Ex.tr hE6 hx56
          replace hE8 := Ex.tr hE8 hx56
          replace hE10 := Ex.tr hE10 hx56
          replace hE12 := Ex.tr hE12 hx56
          replace hE18 := Ex.tr hE18 hx56
          replace hE20 := Ex.tr hE20 hx56
          have hE57 := hx56
          refine RG.vl rfl rfl rfl (Ev.assign rfl rfl) ?_
          refine RG.done ?_
          refine QW.then_ ?_
          refine CW.seq ?_
          refine CW.seq ?_
          have hwl := words_count hpl
          refine CW.region ?_
          refine RG.vl rfl rfl rfl (Ev.assign rfl rfl) ?_
          refine RG.done ?_
          refine QW.then_ ?_
          refine CW.block ?_
          replace hown16 := (Own.ext hown16 hE20)
          have hR58 := (Ex.tr hB0 hE2)
          have hR59 := hE6
          have hR60 := hE8
          have hR61 := hE10
          have hR62 := hE12
          have hR63 := hE18
          have hR64 := hE20
          have hR65 := hE57
          refine CW.loop1 [(7, _), (8, _)] ⟨rfl, rfl, trivial⟩ (fun (i : Nat) => [(9, .int .i64 (i : Int))]) (fun i w' => (i ≤ (wordsL (joinL (foldL a) (foldL b))).length) ∧ Ex w56 w') (fun i => (wordsL (joinL (foldL a) (foldL b))).length - i) (0) ⟨rfl, trivial⟩ ⟨Nat.zero_le _, (Ex.rfl_ _)⟩ ?_
          rintro i wl66 ⟨hi, hxwl66⟩
          refine CW.sub (S' := [(9, _), (7, _), (8, _)]) ⟨rfl, rfl, rfl, trivial⟩ ?_
          refine CW.seq ?_
          refine CW.seq ?_
          refine CW.region ?_
          refine RG.vl rfl rfl rfl (Ev.move rfl rfl) ?_
          refine RG.vl rfl rfl rfl (Ev.move rfl rfl) ?_
          refine RG.vl rfl rfl rfl (Ev.lenL rfl rfl rfl Try.underlying32 (((Own.ext hwo hxwl66).rdl encT_len))) ?_
          refine RG.vl rfl rfl rfl (Ev.lss rfl rfl rfl) ?_
          refine RG.done ?_
          refine QW.then_ ?_
          refine CW.condP rfl (fun hc67 => ?_) (fun hc67 => ?_)
          · refine CW.skip ?_
            refine QW.then_ ?_
            refine CW.seq ?_
            refine CW.block ?_
            refine CW.seq ?_
            obtain ⟨x, hx⟩ : ∃ x, (wordsL (joinL (foldL a) (foldL b)))[i]? = some x := ⟨_, List.getElem?_eq_getElem (by omega)⟩
            obtain ⟨hx1, hx2, hx3⟩ := words_all hpl x (List.mem_of_getElem? hx)
            have hx4 := fj_no hx3
            have hxl := words_short hpl hx
            have hxs := sbytes x
            refine CW.region ?_
            refine RG.vl rfl rfl rfl (Ev.move rfl rfl) ?_
            refine RG.vl rfl rfl rfl (Ev.move rfl rfl) ?_
            refine RG.idxO rfl rfl rfl rfl rfl rfl Try.underlying32 sz_9 encT_len ((Own.ext hwo hxwl66)) (hx) (fun g69 hg69 hBg69 hp68b hp68 => ?_)
            refine RG.vl rfl rfl rfl (Ev.ld0 rfl rfl Try.underlying9 rfl (hp68) (rfl)) ?_
            refine RG.vl rfl rfl rfl (Ev.isF (Ev.eqS rfl rfl rfl) (fun e => hx1 ((binj (b := [])).1 e))) ?_
            refine RG.vl rfl rfl rfl (Ev.move rfl rfl) ?_
            refine RG.vl rfl rfl rfl (Ev.move rfl rfl) ?_
            refine RG.vl rfl rfl rfl (Ev.move rfl rfl) ?_
            refine RG.idxO rfl rfl rfl rfl rfl rfl Try.underlying32 sz_9 encT_len ((Own.ext hwo hxwl66)) (hx) (fun g71 hg71 hBg71 hp70b hp70 => ?_)
            refine RG.vl rfl rfl rfl (Ev.ld0 rfl rfl Try.underlying9 rfl (hp70) (rfl)) ?_
            refine RG.call rfl rfl rfl rfl rfl rfl rfl en_11 (right_is x true _ (by omega) (decide_eq_true hx2)) ?_
            rintro _ w72 ⟨rfl, hx72⟩
            replace hxwl66 := Ex.tr hxwl66 hx72
            have hE73 := hx72
            refine RG.vl rfl rfl rfl (Ev.notF rfl rfl) ?_
            refine RG.vl rfl rfl rfl (Ev.pickF rfl rfl rfl) ?_
            refine RG.vl rfl rfl rfl (Ev.move rfl rfl) ?_
            refine RG.vl rfl rfl rfl (Ev.move rfl rfl) ?_
            refine RG.vl rfl rfl rfl (Ev.move rfl rfl) ?_
            refine RG.idxO rfl rfl rfl rfl rfl rfl Try.underlying32 sz_9 encT_len ((Own.ext hwo hxwl66)) (hx) (fun g75 hg75 hBg75 hp74b hp74 => ?_)
            refine RG.vl rfl rfl rfl (Ev.ld0 rfl rfl Try.underlying9 rfl (hp74) (rfl)) ?_
            refine RG.call rfl rfl rfl rfl rfl rfl rfl en_23 (contains_ret x _) ?_
            rintro _ w76 ⟨rfl, hx76⟩
            replace hxwl66 := Ex.tr hxwl66 hx76
            replace hE73 := Ex.tr hE73 hx76
            have hE77 := hx76
            refine RG.vl rfl rfl rfl (Ev.pickF rfl rfl rfl) ?_
            refine RG.done ?_
            refine QW.sub (S' := [(7, _), (8, _), (9, _), (80, _)]) ⟨rfl, rfl, rfl, rfl, trivial⟩ ?_
            refine QW.then_ ?_
            refine CW.condP rfl (fun hc78 => ?_) (fun hc78 => ?_)
            · refine CW.seq ?_
              refine CW.region ?_
              refine RG.vl rfl rfl rfl (Ev.assign rfl rfl) ?_
              refine RG.done ?_
              refine QW.then_ ?_
              refine CW.ret ?_
              refine QW.blockR ?_
              refine QW.thenRet ?_
              refine QW.thenRet ?_
              refine QW.blockR ?_
              refine QW.thenRet ?_
              refine QW.ret1 rfl rfl ?_
              have hB := (Ex.tr hR58 hxwl66)
              exfalso; omega
            · refine CW.skip ?_
              refine QW.blockN ?_
              refine QW.then_ ?_
              refine CW.region ?_
              refine RG.vl rfl rfl rfl (Ev.move rfl rfl) ?_
              refine RG.vl rfl rfl rfl (Ev.addI rfl rfl rfl (by omega)) ?_
              refine RG.vl rfl rfl rfl (Ev.assign rfl rfl) ?_
              refine RG.done ?_
              refine QW.round1 (i + 1) ⟨rfl, trivial⟩ ⟨rfl, rfl, trivial⟩ ⟨by omega, hxwl66⟩ (by omega)
          · refine CW.exit ?_
            refine QW.thenExit ?_
            refine QW.thenExit ?_
            refine QW.blockHit ?_
            refine QW.then_ ?_
            refine CW.seq ?_
            refine CW.region ?_
            refine RG.vl rfl rfl rfl (Ev.move rfl rfl) ?_
            refine RG.call rfl rfl rfl rfl rfl rfl rfl en_24 (join_ret _ (wordsL (joinL (foldL a) (foldL b))) _ (Own.ext hwo hxwl66) (by omega) (by rw [hwj]; omega)) ?_
            rintro _ w79 ⟨rfl, hx79⟩
            replace hxwl66 := Ex.tr hxwl66 hx79
            have hE80 := hx79
            refine RG.vl rfl rfl rfl (Ev.move rfl rfl) ?_
            refine RG.vl rfl rfl rfl (Ev.isT (Ev.eqS rfl rfl rfl) (by rw [hwj])) ?_
            refine RG.vl rfl rfl rfl (Ev.assign rfl rfl) ?_
            refine RG.done ?_
            refine QW.then_ ?_
            refine CW.ret ?_
            refine QW.ret1 rfl rfl ?_
            have hB := (Ex.tr hR58 hxwl66)
            exact ⟨rfl, hB⟩
      · refine RG.pass rfl rfl rfl ?_
        refine RG.pass rfl rfl rfl ?_
        refine RG.pass rfl rfl rfl ?_
        refine RG.pass rfl rfl rfl ?_
        refine RG.pass rfl rfl rfl ?_
        refine RG.vl rfl rfl rfl (Ev.pickF rfl rfl rfl) ?_
        refine RG.vl rfl rfl rfl (Ev.move rfl rfl) ?_
        refine RG.pass rfl rfl rfl ?_
        refine RG.pass rfl rfl rfl ?_
        refine RG.pass rfl rfl rfl ?_
        refine RG.pass rfl rfl rfl ?_
        refine RG.pass rfl rfl rfl ?_
        refine RG.pass rfl rfl rfl ?_
        refine RG.pass rfl rfl rfl ?_
        refine RG.pass rfl rfl rfl ?_
        refine RG.pass rfl rfl rfl ?_
        refine RG.pass rfl rfl rfl ?_
        refine RG.vl rfl rfl rfl (Ev.pickF rfl rfl rfl) ?_
        refine RG.done ?_
        refine QW.sub (S' := [(6, _), (7, _), (52, _)]) ⟨rfl, rfl, rfl, trivial⟩ ?_
        refine QW.then_ ?_
        refine CW.condF rfl ?_
        refine CW.skip ?_
        refine QW.then_ ?_
        refine CW.seq ?_
        refine CW.region ?_
        refine RG.vl rfl rfl rfl (Ev.move rfl rfl) ?_
        refine RG.call rfl rfl rfl rfl rfl rfl rfl en_22 (words_ret (joinL (foldL a) (foldL b)) _ (by omega)) ?_
        have hpre81 := (Ex.tr hB0 hE2)
        rintro wv w81 ⟨hwo, hx81⟩
        replace hE2 := Ex.tr hE2 hx81
        replace hE6 := Ex.tr hE6 hx81
        replace hE8 := Ex.tr hE8 hx81
        replace hE10 := Ex.tr hE10 hx81
        replace hE12 := Ex.tr hE12 hx81
        have hE82 := hx81
        refine RG.vl rfl rfl rfl (Ev.assign rfl rfl) ?_
        refine RG.done ?_
        refine QW.then_ ?_
        refine CW.seq ?_
        refine CW.seq ?_
        have hwl := words_count hpl
        refine CW.region ?_
        refine RG.vl rfl rfl rfl (Ev.assign rfl rfl) ?_
        refine RG.done ?_
        refine QW.then_ ?_
        refine CW.block ?_
        have hR83 := (Ex.tr hB0 hE2)
        have hR84 := hE6
        have hR85 := hE8
        have hR86 := hE10
        have hR87 := hE12
        have hR88 := hE82
        refine CW.loop1 [(7, _), (8, _)] ⟨rfl, rfl, trivial⟩ (fun (i : Nat) => [(9, .int .i64 (i : Int))]) (fun i w' => (i ≤ (wordsL (joinL (foldL a) (foldL b))).length) ∧ Ex w81 w') (fun i => (wordsL (joinL (foldL a) (foldL b))).length - i) (0) ⟨rfl, trivial⟩ ⟨Nat.zero_le _, (Ex.rfl_ _)⟩ ?_
        rintro i wl89 ⟨hi, hxwl89⟩
        refine CW.sub (S' := [(9, _), (7, _), (8, _)]) ⟨rfl, rfl, rfl, trivial⟩ ?_
        refine CW.seq ?_
        refine CW.seq ?_
        refine CW.region ?_
        refine RG.vl rfl rfl rfl (Ev.move rfl rfl) ?_
        refine RG.vl rfl rfl rfl (Ev.move rfl rfl) ?_
        refine RG.vl rfl rfl rfl (Ev.lenL rfl rfl rfl Try.underlying32 (((Own.ext hwo hxwl89).rdl encT_len))) ?_
        refine RG.vl rfl rfl rfl (Ev.lss rfl rfl rfl) ?_
        refine RG.done ?_
        refine QW.then_ ?_
        refine CW.condP rfl (fun hc90 => ?_) (fun hc90 => ?_)
        · refine CW.skip ?_
          refine QW.then_ ?_
          refine CW.seq ?_
          refine CW.block ?_
          refine CW.seq ?_
          obtain ⟨x, hx⟩ : ∃ x, (wordsL (joinL (foldL a) (foldL b)))[i]? = some x := ⟨_, List.getElem?_eq_getElem (by omega)⟩
          obtain ⟨hx1, hx2, hx3⟩ := words_all hpl x (List.mem_of_getElem? hx)
          have hx4 := fj_no hx3
          have hxl := words_short hpl hx
          have hxs := sbytes x
          refine CW.region ?_
          refine RG.vl rfl rfl rfl (Ev.move rfl rfl) ?_
          refine RG.vl rfl rfl rfl (Ev.move rfl rfl) ?_
          refine RG.idxO rfl rfl rfl rfl rfl rfl Try.underlying32 sz_9 encT_len ((Own.ext hwo hxwl89)) (hx) (fun g92 hg92 hBg92 hp91b hp91 => ?_)
          refine RG.vl rfl rfl rfl (Ev.ld0 rfl rfl Try.underlying9 rfl (hp91) (rfl)) ?_
          refine RG.vl rfl rfl rfl (Ev.isF (Ev.eqS rfl rfl rfl) (fun e => hx1 ((binj (b := [])).1 e))) ?_
          refine RG.vl rfl rfl rfl (Ev.move rfl rfl) ?_
          refine RG.vl rfl rfl rfl (Ev.move rfl rfl) ?_
          refine RG.vl rfl rfl rfl (Ev.move rfl rfl) ?_
          refine RG.idxO rfl rfl rfl rfl rfl rfl Try.underlying32 sz_9 encT_len ((Own.ext hwo hxwl89)) (hx) (fun g94 hg94 hBg94 hp93b hp93 => ?_)
          refine RG.vl rfl rfl rfl (Ev.ld0 rfl rfl Try.underlying9 rfl (hp93) (rfl)) ?_
          refine RG.call rfl rfl rfl rfl rfl rfl rfl en_11 (right_is x true _ (by omega) (decide_eq_true hx2)) ?_
          rintro _ w95 ⟨rfl, hx95⟩
          replace hxwl89 := Ex.tr hxwl89 hx95
          have hE96 := hx95
          refine RG.vl rfl rfl rfl (Ev.notF rfl rfl) ?_
          refine RG.vl rfl rfl rfl (Ev.pickF rfl rfl rfl) ?_
          refine RG.vl rfl rfl rfl (Ev.move rfl rfl) ?_
          refine RG.vl rfl rfl rfl (Ev.move rfl rfl) ?_
          refine RG.vl rfl rfl rfl (Ev.move rfl rfl) ?_
          refine RG.idxO rfl rfl rfl rfl rfl rfl Try.underlying32 sz_9 encT_len ((Own.ext hwo hxwl89)) (hx) (fun g98 hg98 hBg98 hp97b hp97 => ?_)
          refine RG.vl rfl rfl rfl (Ev.ld0 rfl rfl Try.underlying9 rfl (hp97) (rfl)) ?_
          refine RG.call rfl rfl rfl rfl rfl rfl rfl en_23 (contains_ret x _) ?_
          rintro _ w99 ⟨rfl, hx99⟩
          replace hxwl89 := Ex.tr hxwl89 hx99
          replace hE96 := Ex.tr hE96 hx99
          have hE100 := hx99
          refine RG.vl rfl rfl rfl (Ev.pickF rfl rfl rfl) ?_
          refine RG.done ?_
          refine QW.sub (S' := [(7, _), (8, _), (9, _), (80, _)]) ⟨rfl, rfl, rfl, rfl, trivial⟩ ?_
          refine QW.then_ ?_
          refine CW.condP rfl (fun hc101 => ?_) (fun hc101 => ?_)
          · refine CW.seq ?_
            refine CW.region ?_
            refine RG.vl rfl rfl rfl (Ev.assign rfl rfl) ?_
            refine RG.done ?_
            refine QW.then_ ?_
            refine CW.ret ?_
            refine QW.blockR ?_
            refine QW.thenRet ?_
            refine QW.thenRet ?_
            refine QW.blockR ?_
            refine QW.thenRet ?_
            refine QW.ret1 rfl rfl ?_
            have hB := (Ex.tr hR83 hxwl89)
            exfalso; omega
          · refine CW.skip ?_
            refine QW.blockN ?_
            refine QW.then_ ?_
            refine CW.region ?_
            refine RG.vl rfl rfl rfl (Ev.move rfl rfl) ?_
            refine RG.vl rfl rfl rfl (Ev.addI rfl rfl rfl (by omega)) ?_
            refine RG.vl rfl rfl rfl (Ev.assign rfl rfl) ?_
            refine RG.done ?_
            refine QW.round1 (i + 1) ⟨rfl, trivial⟩ ⟨rfl, rfl, trivial⟩ ⟨by omega, hxwl89⟩ (by omega)
        · refine CW.exit ?_
          refine QW.thenExit ?_
          refine QW.thenExit ?_
          refine QW.blockHit ?_
          refine QW.then_ ?_
          refine CW.seq ?_
          refine CW.region ?_
          refine RG.vl rfl rfl rfl (Ev.move rfl rfl) ?_
          refine RG.call rfl rfl rfl rfl rfl rfl rfl en_24 (join_ret _ (wordsL (joinL (foldL a) (foldL b))) _ (Own.ext hwo hxwl89) (by omega) (by rw [hwj]; omega)) ?_
          rintro _ w102 ⟨rfl, hx102⟩
          replace hxwl89 := Ex.tr hxwl89 hx102
          have hE103 := hx102
          refine RG.vl rfl rfl rfl (Ev.move rfl rfl) ?_
          refine RG.vl rfl rfl rfl (Ev.isT (Ev.eqS rfl rfl rfl) (by rw [hwj])) ?_
          refine RG.vl rfl rfl rfl (Ev.assign rfl rfl) ?_
          refine RG.done ?_
          refine QW.then_ ?_
          refine CW.ret ?_
          refine QW.ret1 rfl rfl ?_
          have hB := (Ex.tr hR83 hxwl89)
          exact ⟨rfl, hB⟩

end Go.Proofs.Ytlbcjhbdkeeahaa
