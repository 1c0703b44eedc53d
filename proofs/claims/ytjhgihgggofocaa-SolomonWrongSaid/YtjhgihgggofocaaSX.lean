/- Walks (SX). Written by program. -/
import Derived.Test.YtjhgihgggofocaaT
import Derived.Test.YtjhgihgggofocaaSV
namespace Go.Proofs.Ytjhgihgggofocaa
open Go.RowKit
set_option maxRecDepth 100000 in
set_option maxHeartbeats 8000000 in
theorem solomonWrong_ret (lv : Value) (l : List Nat) (k : Nat) (n : Int) (w : World) (hl : RdL w 1 encN lv l) (hb : ∀ c ∈ l, c < 256) (hk : k < 256) :
    Ret Try.prog 9 [lv, .int .u8 (k : Int), .int .i64 n] w (fun v w' => v = .bool true ∧ Ex w w') := by
  obtain ⟨lA, lC, rfl⟩ := hl.shape
  have hB0 : Ex w w := Ex.rfl_ _
  refine Ret.of Try.func9 rfl Try.ntmps9 rfl ?_
  refine CW.seq ?_
  refine CW.region ?_
  refine RG.vl rfl rfl rfl (Ev.assign rfl rfl) ?_
  refine RG.done ?_
  refine QW.then_ ?_
  refine CW.seq ?_
  refine CW.region ?_
  refine RG.vl rfl rfl rfl (Ev.move rfl rfl) ?_
  refine RG.call rfl rfl rfl rfl rfl rfl rfl en_21 (coded_ret _ l _ (hl) hb) ?_
  have hpre1 := hB0
  rintro _ w1 ⟨r, c, rfl, hoc, hen, hx1⟩
  have hE2 := hx1
  refine RG.vl rfl rfl rfl (Ev.move rfl rfl) ?_
  refine RG.vl rfl rfl rfl (Ev.extract rfl rfl rfl) ?_
  refine RG.vl rfl rfl rfl (Ev.extract rfl rfl rfl) ?_
  refine RG.vl rfl rfl rfl (Ev.assign rfl rfl) ?_
  refine RG.vl rfl rfl rfl (Ev.assign rfl rfl) ?_
  refine RG.done ?_
  refine QW.then_ ?_
  refine CW.seq ?_
  refine CW.seq ?_
  refine CW.region ?_
  refine RG.vl rfl rfl rfl (Ev.move rfl rfl) ?_
  refine RG.vl rfl rfl rfl (Ev.notF rfl rfl) ?_
  refine RG.done ?_
  refine QW.then_ ?_
  refine CW.condF rfl ?_
  refine CW.skip ?_
  refine QW.then_ ?_
  refine CW.seq ?_
  have hC := enc_code hen
  have hdl := dataL_len l
  have hcl := hen.len
  have hW1 : isW c = true := (vldB_iff.1 (vld_code hC (by omega) (by omega))).1
  have hW2 := (isW_iff.1 hW1).1
  have hn0 : ([] : List Nat).length = 0 := rfl
  refine CW.region ?_
  replace hl := (hl.ext hE2)
  have hR7 := (Ex.tr hB0 hE2)
  refine RG.build0O (enc := encN) rfl rfl rfl rfl rfl Try.underlying22 sz_5 (fun v3 wk4 hxwk4 hown5 hnew6 => ?_)
  have hE8 := hxwk4
  refine RG.vl rfl rfl rfl (Ev.move rfl rfl) ?_
  refine RG.appO rfl rfl rfl rfl rfl rfl rfl Try.underlying22 inf_5 rfl rfl encN_len (fun _ => rfl) hown5 (((Own.ext hoc hE8).rdl encN_len)) (by simp only [maxLen]; omega) (by omega) (hE8.size) (fun v9 wa10 hown11 hgr12 hat13 => ?_)
  replace hE8 := own_block hown5 hE8 hgr12 (Nat.le_refl _) hE8.size
  rw [List.nil_append] at hown11
  refine RG.vl rfl rfl rfl (Ev.assign rfl rfl) ?_
  refine RG.done ?_
  refine QW.sub (S' := [(1, _), (2, _), (6, _), (7, _), (9, _)]) ⟨rfl, rfl, rfl, rfl, rfl, trivial⟩ ?_
  refine QW.then_ ?_
  refine CW.seq ?_
  refine CW.region ?_
  refine RG.vl rfl rfl rfl (Ev.assign rfl rfl) ?_
  refine RG.done ?_
  refine QW.then_ ?_
  refine CW.seq ?_
  refine CW.seq ?_
  refine CW.region ?_
  refine RG.vl rfl rfl rfl (Ev.move rfl rfl) ?_
  refine RG.vl rfl rfl rfl ((Ev.rem8 rfl rfl rfl (by omega)).conv (congrArg (Value.int .u8) (show (k : Int) % 7 = ((k % 7 : Nat) : Int) by omega))) ?_
  refine RG.done ?_
  refine QW.then_ ?_
  refine CW.cut4 [(1, _), (6, _), (7, _)] ⟨rfl, rfl, rfl, trivial⟩ (fun (bv : Value) (bl : List Nat) (ev : Value) (el : List Int) => [(9, bv), (10, ev)]) (fun bv bl ev el w' => (RdL w' 1 encN bv bl ∧ RdL w' 1 encI ev el ∧ Bad bl el ∧ isW bl = decide (3 ≤ k % 7 ∧ k % 7 ≤ 5) ∧ bl.length ≤ 1000 ∧ el.length ≤ 1000) ∧ Ex w1 w') ?_ ?_
  · refine CW.block ?_
    refine CW.seq ?_
    refine CW.region ?_
    refine RG.vl rfl rfl rfl (Ev.eqI rfl rfl rfl) ?_
    refine RG.vl rfl rfl rfl (Ev.assign rfl rfl) ?_
    refine RG.done ?_
    refine QW.then_ ?_
    refine CW.condP rfl (fun hc15 => ?_) (fun hc15 => ?_)
    · refine CW.region ?_
      refine RG.vl rfl rfl rfl (Ev.move rfl rfl) ?_
      refine RG.sliceL (L := 0) (H := 4) _ rfl rfl rfl rfl rfl Try.underlying22 sz_5 ((hown11.rdl encN_len)) (.inl ⟨rfl, rfl⟩) (.inr ⟨_, _, _, rfl, rfl, by omega⟩) (by omega) (by omega) (fun v16 hrv16 => ?_)
      rw [List.drop_zero] at hrv16
      refine RG.vl rfl rfl rfl (Ev.assign rfl rfl) ?_
      refine RG.done ?_
      refine QW.blockN ?_
      refine QW.meet4 (_) ((c.take 4)) (.slice none 0 0) ([]) ⟨rfl, rfl, trivial⟩ ⟨rfl, rfl, rfl, trivial⟩ ⟨⟨hrv16, RdL.nil_ _, .inl (bad_take _), by rw [bad_take _, eq_comm]; exact decide_eq_false (by omega), by rw [List.length_take]; omega, by simp⟩, hE8⟩
    · refine CW.seq ?_
      refine CW.region ?_
      refine RG.vl rfl rfl rfl (Ev.eqI rfl rfl rfl) ?_
      refine RG.vl rfl rfl rfl (Ev.assign rfl rfl) ?_
      refine RG.done ?_
      refine QW.then_ ?_
      refine CW.condP rfl (fun hc17 => ?_) (fun hc17 => ?_)
      · refine CW.region ?_
        refine RG.makeO (m := 64) (enc := encN) 0 rfl rfl rfl rfl rfl rfl (rfl) Try.underlying22 inf_5 encN_len rfl rfl (by omega) (by simp only [maxLen]; omega) (fun v18 wk19 hxwk19 hown20 hnew21 => ?_)
        replace hE8 := Ex.tr hE8 hxwk19
        have hE22 := hxwk19
        refine RG.vl rfl rfl rfl (Ev.assign rfl rfl) ?_
        refine RG.done ?_
        refine QW.blockN ?_
        refine QW.meet4 (v18) ((List.replicate 64 0)) (.slice none 0 0) ([]) ⟨rfl, rfl, trivial⟩ ⟨rfl, rfl, rfl, trivial⟩ ⟨⟨(hown20.rdl encN_len), RdL.nil_ _, .inl ((by decide +kernel)), by rw [(show isW (List.replicate 64 0) = false by decide +kernel), eq_comm]; exact decide_eq_false (by omega), by rw [List.length_replicate]; omega, by simp⟩, hE8⟩
      · refine CW.seq ?_
        refine CW.region ?_
        refine RG.vl rfl rfl rfl (Ev.eqI rfl rfl rfl) ?_
        refine RG.vl rfl rfl rfl (Ev.assign rfl rfl) ?_
        refine RG.done ?_
        refine QW.then_ ?_
        refine CW.condP rfl (fun hc23 => ?_) (fun hc23 => ?_)
        · obtain ⟨i, hi⟩ : ∃ i, i = k % c.length := ⟨_, rfl⟩
          have hi2 : i < c.length := by rw [hi]; exact Nat.mod_lt _ (by omega)
          refine CW.region ?_
          refine RG.vl rfl rfl rfl (Ev.move rfl rfl) ?_
          refine RG.vl rfl rfl rfl (Ev.move rfl rfl) ?_
          refine RG.vl rfl rfl rfl (Ev.to64 rfl rfl Try.underlying5 Try.underlying3 (by omega)) ?_
          refine RG.vl rfl rfl rfl (Ev.move rfl rfl) ?_
          refine RG.vl rfl rfl rfl (Ev.lenL rfl rfl rfl Try.underlying22 ((hown11.rdl encN_len))) ?_
          refine RG.vl rfl rfl rfl ((Ev.remI rfl rfl rfl (by omega)).conv (congrArg (Value.int .i64) (show (k : Int) % ((c.length : Nat) : Int) = (i : Int) by rw [hi, Int.natCast_emod]))) ?_
          refine RG.vl rfl rfl rfl (Ev.move rfl rfl) ?_
          refine RG.vl rfl rfl rfl (Ev.quo8 rfl rfl rfl (by omega)) ?_
          refine RG.vl rfl rfl rfl ((Ev.add8 rfl rfl rfl (by omega)).conv (congrArg (Value.int .u8) (show _ = ((64 + k / 4 : Nat) : Int) by omega))) ?_
          refine RG.idxO rfl rfl rfl rfl rfl rfl Try.underlying22 sz_5 encN_len (hown11) (getElem?_cf hi2) (fun g25 hg25 hBg25 hp24b hp24 => ?_)
          refine RG.stOw0 (g := g25) (64 + k / 4) rfl rfl rfl rfl rfl sz_5 rfl (fun _ => rfl) hown11 hg25 (getElem?_cf hi2) rfl (rfl) (fun ws26 hwws26 hown27 => ?_)
          replace hE8 := Wr.below hE8 hwws26 hBg25
          refine RG.done ?_
          refine QW.sub (S' := [(1, _), (6, _), (7, _), (9, _), (10, _)]) ⟨rfl, rfl, rfl, rfl, rfl, trivial⟩ ?_
          refine QW.blockN ?_
          refine QW.meet4 (v9) ((c.set i (64 + k / 4))) (.slice none 0 0) ([]) ⟨rfl, rfl, trivial⟩ ⟨rfl, rfl, rfl, trivial⟩ ⟨⟨(hown27.rdl encN_len), RdL.nil_ _, .inl (bad_set hi2 (by omega)), by rw [bad_set hi2 (by omega), eq_comm]; exact decide_eq_false (by omega), by rw [List.length_set]; omega, by simp⟩, hE8⟩
        · refine CW.seq ?_
          refine CW.region ?_
          refine RG.vl rfl rfl rfl (Ev.eqI rfl rfl rfl) ?_
          refine RG.vl rfl rfl rfl (Ev.assign rfl rfl) ?_
          refine RG.done ?_
          refine QW.then_ ?_
          refine CW.condP rfl (fun hc28 => ?_) (fun hc28 => ?_)
          · refine CW.region ?_
            refine RG.vl rfl rfl rfl (Ev.move rfl rfl) ?_
            refine RG.vl rfl rfl rfl (Ev.move rfl rfl) ?_
            refine RG.vl rfl rfl rfl (Ev.lenL rfl rfl rfl Try.underlying22 (((Own.ext hoc hE8).rdl encN_len))) ?_
            refine RG.vl rfl rfl rfl (Ev.max2 rfl rfl rfl rfl) ?_
            refine RG.litO (os := [.tmp 58]) (enc := encI) ([max n (c.length : Int)]) rfl rfl rfl rfl rfl rfl rfl Try.underlying23 inf_3 rfl rfl rfl rfl rfl encI_len rfl rfl (fun v29 wk30 hxwk30 hown31 hnew32 => ?_)
            replace hE8 := Ex.tr hE8 hxwk30
            have hE33 := hxwk30
            refine RG.vl rfl rfl rfl (Ev.assign rfl rfl) ?_
            refine RG.done ?_
            refine QW.sub (S' := [(1, _), (6, _), (7, _), (9, _), (10, _)]) ⟨rfl, rfl, rfl, rfl, rfl, trivial⟩ ?_
            refine QW.blockN ?_
            refine QW.meet4 (v9) (c) (v29) ([max n (c.length : Int)]) ⟨rfl, rfl, trivial⟩ ⟨rfl, rfl, rfl, trivial⟩ ⟨⟨((Own.ext hown11 hE33).rdl encN_len), (hown31.rdl encI_len), .inr (bad_big (Int.le_max_right _ _)), by rw [hW1, eq_comm]; exact decide_eq_true (by omega), by omega, by simp⟩, hE8⟩
          · refine CW.seq ?_
            refine CW.region ?_
            refine RG.vl rfl rfl rfl (Ev.eqI rfl rfl rfl) ?_
            refine RG.vl rfl rfl rfl (Ev.assign rfl rfl) ?_
            refine RG.done ?_
            refine QW.then_ ?_
            refine CW.condP rfl (fun hc34 => ?_) (fun hc34 => ?_)
            · refine CW.region ?_
              refine RG.vl rfl rfl rfl (Ev.move rfl rfl) ?_
              refine RG.vl rfl rfl rfl (Ev.min2 rfl rfl rfl rfl) ?_
              refine RG.litO (os := [.tmp 63]) (enc := encI) ([min n (-1)]) rfl rfl rfl rfl rfl rfl rfl Try.underlying23 inf_3 rfl rfl rfl rfl rfl encI_len rfl rfl (fun v35 wk36 hxwk36 hown37 hnew38 => ?_)
              replace hE8 := Ex.tr hE8 hxwk36
              have hE39 := hxwk36
              refine RG.vl rfl rfl rfl (Ev.assign rfl rfl) ?_
              refine RG.done ?_
              refine QW.sub (S' := [(1, _), (6, _), (7, _), (9, _), (10, _)]) ⟨rfl, rfl, rfl, rfl, rfl, trivial⟩ ?_
              refine QW.blockN ?_
              refine QW.meet4 (v9) (c) (v35) ([min n (-1)]) ⟨rfl, rfl, trivial⟩ ⟨rfl, rfl, rfl, trivial⟩ ⟨⟨((Own.ext hown11 hE39).rdl encN_len), (hown37.rdl encI_len), .inr (bad_neg (Int.min_le_right _ _)), by rw [hW1, eq_comm]; exact decide_eq_true (by omega), by omega, by simp⟩, hE8⟩
            · refine CW.seq ?_
              refine CW.region ?_
              refine RG.vl rfl rfl rfl (Ev.eqI rfl rfl rfl) ?_
              refine RG.vl rfl rfl rfl (Ev.assign rfl rfl) ?_
              refine RG.done ?_
              refine QW.sub (S' := [(1, _), (6, _), (7, _), (9, _), (10, _), (33, _), (65, _)]) ⟨rfl, rfl, rfl, rfl, rfl, rfl, rfl, trivial⟩ ?_
              refine QW.then_ ?_
              refine CW.condP rfl (fun hc40 => ?_) (fun hc40 => ?_)
              · refine CW.region ?_
                refine RG.litO (os := [_, _, _]) (enc := encI) ([1, 2, 1]) rfl rfl rfl rfl rfl rfl rfl Try.underlying23 inf_3 rfl rfl rfl rfl rfl encI_len rfl rfl (fun v41 wk42 hxwk42 hown43 hnew44 => ?_)
                replace hE8 := Ex.tr hE8 hxwk42
                have hE45 := hxwk42
                refine RG.vl rfl rfl rfl (Ev.assign rfl rfl) ?_
                refine RG.done ?_
                refine QW.blockN ?_
                refine QW.meet4 (v9) (c) (v41) ([1, 2, 1]) ⟨rfl, rfl, trivial⟩ ⟨rfl, rfl, rfl, trivial⟩ ⟨⟨((Own.ext hown11 hE45).rdl encN_len), (hown43.rdl encI_len), .inr (bad_dup), by rw [hW1, eq_comm]; exact decide_eq_true (by omega), by omega, by decide⟩, hE8⟩
              · refine CW.seq ?_
                refine CW.region ?_
                refine RG.vl rfl rfl rfl (Ev.isT (Ev.eqI rfl rfl rfl) (by omega)) ?_
                refine RG.vl rfl rfl rfl (Ev.assign rfl rfl) ?_
                refine RG.done ?_
                refine QW.then_ ?_
                refine CW.condT rfl ?_
                refine CW.region ?_
                refine RG.vl rfl rfl rfl (Ev.assign rfl rfl) ?_
                refine RG.done ?_
                refine QW.blockN ?_
                refine QW.meet4 (.slice none 0 0) ([]) (.slice none 0 0) ([]) ⟨rfl, rfl, trivial⟩ ⟨rfl, rfl, rfl, trivial⟩ ⟨⟨RdL.nil_ _, RdL.nil_ _, .inl ((show isW [] = false from rfl)), by rw [(show isW [] = false from rfl), eq_comm]; exact decide_eq_false (by omega), by decide, by simp⟩, hE8⟩
  · rintro bv bl ev el wm14 ⟨⟨hbl, hel, hbad, hWd, hbl1, hel1⟩, hxwm14⟩
    refine QW.then_ ?_
    refine CW.seq ?_
    refine CW.region ?_
    refine RG.vl rfl rfl rfl (Ev.move rfl rfl) ?_
    refine RG.vl rfl rfl rfl (Ev.move rfl rfl) ?_
    refine RG.call rfl rfl rfl rfl rfl rfl rfl en_13 (dec_bad _ _ _ bl el hbl hel (by omega) (by omega) hbad) ?_
    rintro _ w46 ⟨A1, B1, C1, D1, rfl, hx46⟩
    replace hxwm14 := Ex.tr hxwm14 hx46
    have hE47 := hx46
    refine RG.vl rfl rfl rfl (Ev.move rfl rfl) ?_
    refine RG.vl rfl rfl rfl (Ev.extract rfl rfl rfl) ?_
    refine RG.vl rfl rfl rfl (Ev.extract rfl rfl rfl) ?_
    refine RG.local_ rfl rfl rfl rfl (fun _ => rfl) rfl rfl (fun _ => rfl) inf_28 rfl rfl rfl (fun g48 w48 eg48 hx48 hb48 => ?_)
    have hsb49 := fun e => sep_new (g := g48) (Own.ext hoc hxwm14) eg48 e
    have hle50 : w1.heap.size ≤ g48 := by have := hxwm14.size; omega
    have hle51 : wm14.heap.size ≤ g48 := by have := hE47.size; omega
    have hle52 : w46.heap.size ≤ g48 := by have := (Ex.rfl_ w46).size; omega
    replace hxwm14 := Ex.tr hxwm14 hx48
    replace hE47 := Ex.tr hE47 hx48
    refine RG.vl rfl rfl rfl (Ev.assign rfl rfl) ?_
    refine RG.done ?_
    refine QW.then_ ?_
    refine CW.seq ?_
    refine CW.region ?_
    refine RG.makeO (m := 60) (enc := encN) 0 rfl rfl rfl rfl rfl rfl (rfl) Try.underlying22 inf_5 encN_len rfl rfl (by omega) (by simp only [maxLen]; omega) (fun v53 wk54 hxwk54 hown55 hnew56 => ?_)
    replace hxwm14 := Ex.tr hxwm14 hxwk54
    replace hE47 := Ex.tr hE47 hxwk54
    have hE57 := hxwk54
    refine RG.call rfl rfl rfl rfl rfl rfl rfl en_23 (enc_no _ _ (List.replicate 60 0) ((hown55.rdl encN_len)) (by decide) (by decide +kernel)) ?_
    rintro _ w58 ⟨rfl, hx58⟩
    replace hxwm14 := Ex.tr hxwm14 hx58
    replace hE47 := Ex.tr hE47 hx58
    replace hE57 := Ex.tr hE57 hx58
    have hE59 := hx58
    refine RG.vl rfl rfl rfl (Ev.move rfl rfl) ?_
    refine RG.vl rfl rfl rfl (Ev.extract rfl rfl rfl) ?_
    refine RG.vl rfl rfl rfl (Ev.extract rfl rfl rfl) ?_
    refine RG.vl rfl rfl rfl (Ev.assign rfl rfl) ?_
    refine RG.vl rfl rfl rfl (Ev.assign rfl rfl) ?_
    refine RG.done ?_
    refine QW.sub (S' := [(1, _), (6, _), (7, _), (9, _), (11, _), (12, _), (14, _)]) ⟨rfl, rfl, rfl, rfl, rfl, rfl, rfl, trivial⟩ ?_
    refine QW.then_ ?_
    refine CW.seq ?_
    refine CW.region ?_
    refine RG.call rfl rfl rfl rfl rfl rfl rfl en_23 (enc_no _ _ [] (RdL.nil_ _) (by decide) (by decide +kernel)) ?_
    rintro _ w60 ⟨rfl, hx60⟩
    replace hxwm14 := Ex.tr hxwm14 hx60
    replace hE47 := Ex.tr hE47 hx60
    replace hE57 := Ex.tr hE57 hx60
    replace hE59 := Ex.tr hE59 hx60
    have hE61 := hx60
    refine RG.vl rfl rfl rfl (Ev.move rfl rfl) ?_
    refine RG.vl rfl rfl rfl (Ev.extract rfl rfl rfl) ?_
    refine RG.vl rfl rfl rfl (Ev.extract rfl rfl rfl) ?_
    refine RG.vl rfl rfl rfl (Ev.assign rfl rfl) ?_
    refine RG.vl rfl rfl rfl (Ev.assign rfl rfl) ?_
    refine RG.done ?_
    refine QW.then_ ?_
    refine CW.seq ?_
    rcases (show k % 7 < 3 ∨ (3 ≤ k % 7 ∧ k % 7 ≤ 5) ∨ k % 7 = 6 by omega) with hcs | hcs | hcs
    · have hWb : isW bl = false := by rw [hWd]; exact decide_eq_false (by omega)
      refine CW.region ?_
      refine RG.vl rfl rfl rfl (Ev.move rfl rfl) ?_
      refine RG.call rfl rfl rfl rfl rfl rfl rfl en_24 (synd_err _ _ bl (hbl.ext hE47) (by omega)) ?_
      rintro _ w62 ⟨rs, rfl, hx62⟩
      replace hxwm14 := Ex.tr hxwm14 hx62
      replace hE47 := Ex.tr hE47 hx62
      replace hE57 := Ex.tr hE57 hx62
      replace hE59 := Ex.tr hE59 hx62
      replace hE61 := Ex.tr hE61 hx62
      have hE63 := hx62
      refine RG.vl rfl rfl rfl (Ev.move rfl rfl) ?_
      refine RG.vl rfl rfl rfl (Ev.extract rfl rfl rfl) ?_
      refine RG.vl rfl rfl rfl ((Ev.extract rfl rfl rfl).conv (congrArg (Value.int .i64) (show (if isW bl = true then (0 : Int) else 2) = 2 by rw [hWb]; rfl))) ?_
      refine RG.vl rfl rfl rfl (Ev.assign rfl rfl) ?_
      refine RG.vl rfl rfl rfl (Ev.assign rfl rfl) ?_
      refine RG.done ?_
      refine QW.then_ ?_
      refine CW.seq ?_
      refine CW.region ?_
      refine RG.vl rfl rfl rfl (Ev.move rfl rfl) ?_
      refine RG.litO (os := [_, _, _, _, _]) (enc := encI) ([0, 1, 2, 3, 4]) rfl rfl rfl rfl rfl rfl rfl Try.underlying23 inf_3 rfl rfl rfl rfl rfl encI_len rfl rfl (fun v64 wk65 hxwk65 hown66 hnew67 => ?_)
      replace hxwm14 := Ex.tr hxwm14 hxwk65
      replace hE47 := Ex.tr hE47 hxwk65
      replace hE57 := Ex.tr hE57 hxwk65
      replace hE59 := Ex.tr hE59 hxwk65
      replace hE61 := Ex.tr hE61 hxwk65
      replace hE63 := Ex.tr hE63 hxwk65
      have hE68 := hxwk65
      refine RG.call rfl rfl rfl rfl rfl rfl rfl en_13 (dec_many _ _ _ c [0, 1, 2, 3, 4] (((Own.ext hoc hxwm14).rdl encN_len)) ((hown66.rdl encI_len)) hW1 (ok_five hW2) (by decide) (by decide)) ?_
      rintro _ w69 ⟨A2, B2, C2, D2, rfl, hx69⟩
      replace hxwm14 := Ex.tr hxwm14 hx69
      replace hE47 := Ex.tr hE47 hx69
      replace hE57 := Ex.tr hE57 hx69
      replace hE59 := Ex.tr hE59 hx69
      replace hE61 := Ex.tr hE61 hx69
      replace hE63 := Ex.tr hE63 hx69
      replace hE68 := Ex.tr hE68 hx69
      have hE70 := hx69
      refine RG.vl rfl rfl rfl (Ev.move rfl rfl) ?_
      refine RG.vl rfl rfl rfl (Ev.extract rfl rfl rfl) ?_
      refine RG.vl rfl rfl rfl (Ev.extract rfl rfl rfl) ?_
      refine RG.local_ rfl rfl rfl rfl (fun _ => rfl) rfl rfl (fun _ => rfl) inf_28 rfl rfl rfl (fun g71 w71 eg71 hx71 hb71 => ?_)
      have hsb72 := fun e => sep_new (g := g71) (Own.ext hoc hxwm14) eg71 e
      have hsb73 := fun e => sep_new (g := g71) (Own.ext hown55 hE59) eg71 e
      have hsb74 := fun e => sep_new (g := g71) (Own.ext hown66 hE70) eg71 e
      have hle75 : w1.heap.size ≤ g71 := by have := hxwm14.size; omega
      have hle76 : wm14.heap.size ≤ g71 := by have := hE47.size; omega
      have hle77 : w48.heap.size ≤ g71 := by have := hE57.size; omega
      have hle78 : wk54.heap.size ≤ g71 := by have := hE59.size; omega
      have hle79 : w58.heap.size ≤ g71 := by have := hE61.size; omega
      have hle80 : w60.heap.size ≤ g71 := by have := hE63.size; omega
      have hle81 : w62.heap.size ≤ g71 := by have := hE68.size; omega
      have hle82 : wk65.heap.size ≤ g71 := by have := hE70.size; omega
      have hle83 : w69.heap.size ≤ g71 := by have := (Ex.rfl_ w69).size; omega
      have hlt84 : g48 < g71 := by have := Blk.lt (hb48.ext hE57); omega
      replace hxwm14 := Ex.tr hxwm14 hx71
      replace hE47 := Ex.tr hE47 hx71
      replace hE57 := Ex.tr hE57 hx71
      replace hE59 := Ex.tr hE59 hx71
      replace hE61 := Ex.tr hE61 hx71
      replace hE63 := Ex.tr hE63 hx71
      replace hE68 := Ex.tr hE68 hx71
      replace hE70 := Ex.tr hE70 hx71
      refine RG.vl rfl rfl rfl (Ev.assign rfl rfl) ?_
      refine RG.done ?_
      refine QW.sub (S' := [(1, _), (6, _), (9, _), (11, _), (12, _), (14, _), (16, _), (18, _), (20, _)]) ⟨rfl, rfl, rfl, rfl, rfl, rfl, rfl, rfl, rfl, trivial⟩ ?_
      refine QW.then_ ?_
      refine CW.seq ?_
      refine CW.region ?_
      refine RG.vl rfl rfl rfl (Ev.move rfl rfl) ?_
      refine RG.vl rfl rfl rfl ((Ev.rem8 rfl rfl rfl (by omega)).conv (congrArg (Value.int .u8) (show (k : Int) % 7 = ((k % 7 : Nat) : Int) by omega))) ?_
      refine RG.vl rfl rfl rfl (Ev.isF (Ev.geq rfl rfl rfl) (by omega)) ?_
      refine RG.vl rfl rfl rfl (Ev.move rfl rfl) ?_
      refine RG.pass rfl rfl rfl ?_
      refine RG.pass rfl rfl rfl ?_
      refine RG.pass rfl rfl rfl ?_
      refine RG.vl rfl rfl rfl (Ev.pickF rfl rfl rfl) ?_
      refine RG.vl rfl rfl rfl (Ev.assign rfl rfl) ?_
      refine RG.done ?_
      refine QW.then_ ?_
      refine CW.seq ?_
      refine CW.region ?_
      refine RG.vl rfl rfl rfl (Ev.move rfl rfl) ?_
      refine RG.vl rfl rfl rfl (Ev.isT (Ev.eqI rfl rfl rfl) (rfl)) ?_
      refine RG.vl rfl rfl rfl (Ev.move rfl rfl) ?_
      refine RG.vl rfl rfl rfl (Ev.fld rfl rfl fld_28_0) ?_
      refine RG.vl rfl rfl rfl (Ev.ldAt rfl rfl Try.underlying22 rfl ((hb48.ext hE57).cells) (rfl)) ?_
      refine RG.vl rfl rfl rfl (Ev.lenSlice rfl rfl rfl Try.underlying22) ?_
      refine RG.vl rfl rfl rfl (Ev.fld rfl rfl fld_28_1) ?_
      refine RG.vl rfl rfl rfl (Ev.ldAt rfl rfl Try.underlying23 rfl ((hb48.ext hE57).cells) (rfl)) ?_
      refine RG.vl rfl rfl rfl (Ev.lenSlice rfl rfl rfl Try.underlying23) ?_
      refine RG.vl rfl rfl rfl (Ev.addI rfl rfl rfl (by omega)) ?_
      refine RG.vl rfl rfl rfl (Ev.isT (Ev.eqI rfl rfl rfl) (rfl)) ?_
      refine RG.vl rfl rfl rfl (Ev.pickT rfl rfl rfl) ?_
      refine RG.vl rfl rfl rfl (Ev.move rfl rfl) ?_
      refine RG.vl rfl rfl rfl (Ev.move rfl rfl) ?_
      refine RG.vl rfl rfl rfl (Ev.isT (Ev.eqI rfl rfl rfl) (rfl)) ?_
      refine RG.vl rfl rfl rfl (Ev.pickT rfl rfl rfl) ?_
      refine RG.vl rfl rfl rfl (Ev.move rfl rfl) ?_
      refine RG.vl rfl rfl rfl (Ev.move rfl rfl) ?_
      refine RG.vl rfl rfl rfl (Ev.isT (Ev.eqI rfl rfl rfl) (rfl)) ?_
      refine RG.vl rfl rfl rfl (Ev.pickT rfl rfl rfl) ?_
      refine RG.vl rfl rfl rfl (Ev.move rfl rfl) ?_
      refine RG.vl rfl rfl rfl (Ev.move rfl rfl) ?_
      refine RG.vl rfl rfl rfl (Ev.isF (Ev.eqI rfl rfl rfl) (by decide)) ?_
      refine RG.vl rfl rfl rfl (Ev.move rfl rfl) ?_
      refine RG.vl rfl rfl rfl (Ev.isT (Ev.eqB rfl rfl rfl Try.underlying4) (rfl)) ?_
      refine RG.vl rfl rfl rfl (Ev.pickT rfl rfl rfl) ?_
      refine RG.vl rfl rfl rfl (Ev.move rfl rfl) ?_
      refine RG.vl rfl rfl rfl (Ev.move rfl rfl) ?_
      refine RG.vl rfl rfl rfl (Ev.move rfl rfl) ?_
      refine RG.vl rfl rfl rfl (Ev.move rfl rfl) ?_
      refine RG.vl rfl rfl rfl (Ev.isT (Ev.eqI rfl rfl rfl) (rfl)) ?_
      refine RG.vl rfl rfl rfl (Ev.move rfl rfl) ?_
      refine RG.vl rfl rfl rfl (Ev.move rfl rfl) ?_
      refine RG.call rfl rfl rfl rfl rfl rfl rfl en_25 (valid_no _ _ bl (hbl.ext hE47) (by omega) hWb) ?_
      rintro _ w85 ⟨rfl, hx85⟩
      replace hxwm14 := Ex.tr hxwm14 hx85
      replace hE47 := Ex.tr hE47 hx85
      replace hE57 := Ex.tr hE57 hx85
      replace hE59 := Ex.tr hE59 hx85
      replace hE61 := Ex.tr hE61 hx85
      replace hE63 := Ex.tr hE63 hx85
      replace hE68 := Ex.tr hE68 hx85
      replace hE70 := Ex.tr hE70 hx85
      have hE86 := hx85
      refine RG.vl rfl rfl rfl (Ev.notT rfl rfl) ?_
      refine RG.vl rfl rfl rfl (Ev.pickT rfl rfl rfl) ?_
      refine RG.vl rfl rfl rfl (Ev.pickF rfl rfl rfl) ?_
      refine RG.vl rfl rfl rfl (Ev.pickT rfl rfl rfl) ?_
      refine RG.vl rfl rfl rfl (Ev.move rfl rfl) ?_
      refine RG.vl rfl rfl rfl (Ev.move rfl rfl) ?_
      refine RG.vl rfl rfl rfl (Ev.isT (Ev.eqI rfl rfl rfl) (rfl)) ?_
      refine RG.vl rfl rfl rfl (Ev.pickT rfl rfl rfl) ?_
      refine RG.vl rfl rfl rfl (Ev.move rfl rfl) ?_
      refine RG.call rfl rfl rfl rfl rfl rfl rfl en_10 (awake_ret _) ?_
      rintro _ w87 ⟨rfl, hx87⟩
      replace hxwm14 := Ex.tr hxwm14 hx87
      replace hE47 := Ex.tr hE47 hx87
      replace hE57 := Ex.tr hE57 hx87
      replace hE59 := Ex.tr hE59 hx87
      replace hE61 := Ex.tr hE61 hx87
      replace hE63 := Ex.tr hE63 hx87
      replace hE68 := Ex.tr hE68 hx87
      replace hE70 := Ex.tr hE70 hx87
      replace hE86 := Ex.tr hE86 hx87
      have hE88 := hx87
      refine RG.vl rfl rfl rfl (Ev.pickT rfl rfl rfl) ?_
      refine RG.vl rfl rfl rfl (Ev.assign rfl rfl) ?_
      refine RG.done ?_
      refine QW.sub (S' := [(6, _)]) ⟨rfl, trivial⟩ ?_
      refine QW.then_ ?_
      refine CW.ret ?_
      refine QW.ret1 rfl rfl ?_
      have hB := (Ex.tr hR7 hxwm14)
      exact ⟨rfl, hB⟩
    · have hWb : isW bl = true := by rw [hWd]; exact decide_eq_true (by omega)
      refine CW.region ?_
      refine RG.vl rfl rfl rfl (Ev.move rfl rfl) ?_
      refine RG.call rfl rfl rfl rfl rfl rfl rfl en_24 (synd_err _ _ bl (hbl.ext hE47) (by omega)) ?_
      rintro _ w89 ⟨rs, rfl, hx89⟩
      replace hxwm14 := Ex.tr hxwm14 hx89
      replace hE47 := Ex.tr hE47 hx89
      replace hE57 := Ex.tr hE57 hx89
      replace hE59 := Ex.tr hE59 hx89
      replace hE61 := Ex.tr hE61 hx89
      have hE90 := hx89
      refine RG.vl rfl rfl rfl (Ev.move rfl rfl) ?_
      refine RG.vl rfl rfl rfl (Ev.extract rfl rfl rfl) ?_
      refine RG.vl rfl rfl rfl ((Ev.extract rfl rfl rfl).conv (congrArg (Value.int .i64) (show (if isW bl = true then (0 : Int) else 2) = 0 by rw [hWb]; rfl))) ?_
      refine RG.vl rfl rfl rfl (Ev.assign rfl rfl) ?_
      refine RG.vl rfl rfl rfl (Ev.assign rfl rfl) ?_
      refine RG.done ?_
      refine QW.then_ ?_
      refine CW.seq ?_
      refine CW.region ?_
      refine RG.vl rfl rfl rfl (Ev.move rfl rfl) ?_
      refine RG.litO (os := [_, _, _, _, _]) (enc := encI) ([0, 1, 2, 3, 4]) rfl rfl rfl rfl rfl rfl rfl Try.underlying23 inf_3 rfl rfl rfl rfl rfl encI_len rfl rfl (fun v91 wk92 hxwk92 hown93 hnew94 => ?_)
      replace hxwm14 := Ex.tr hxwm14 hxwk92
      replace hE47 := Ex.tr hE47 hxwk92
      replace hE57 := Ex.tr hE57 hxwk92
      replace hE59 := Ex.tr hE59 hxwk92
      replace hE61 := Ex.tr hE61 hxwk92
      replace hE90 := Ex.tr hE90 hxwk92
      have hE95 := hxwk92
      refine RG.call rfl rfl rfl rfl rfl rfl rfl en_13 (dec_many _ _ _ c [0, 1, 2, 3, 4] (((Own.ext hoc hxwm14).rdl encN_len)) ((hown93.rdl encI_len)) hW1 (ok_five hW2) (by decide) (by decide)) ?_
      rintro _ w96 ⟨A2, B2, C2, D2, rfl, hx96⟩
      replace hxwm14 := Ex.tr hxwm14 hx96
      replace hE47 := Ex.tr hE47 hx96
      replace hE57 := Ex.tr hE57 hx96
      replace hE59 := Ex.tr hE59 hx96
      replace hE61 := Ex.tr hE61 hx96
      replace hE90 := Ex.tr hE90 hx96
      replace hE95 := Ex.tr hE95 hx96
      have hE97 := hx96
      refine RG.vl rfl rfl rfl (Ev.move rfl rfl) ?_
      refine RG.vl rfl rfl rfl (Ev.extract rfl rfl rfl) ?_
      refine RG.vl rfl rfl rfl (Ev.extract rfl rfl rfl) ?_
      refine RG.local_ rfl rfl rfl rfl (fun _ => rfl) rfl rfl (fun _ => rfl) inf_28 rfl rfl rfl (fun g98 w98 eg98 hx98 hb98 => ?_)
      have hsb99 := fun e => sep_new (g := g98) (Own.ext hoc hxwm14) eg98 e
      have hsb100 := fun e => sep_new (g := g98) (Own.ext hown55 hE59) eg98 e
      have hsb101 := fun e => sep_new (g := g98) (Own.ext hown93 hE97) eg98 e
      have hle102 : w1.heap.size ≤ g98 := by have := hxwm14.size; omega
      have hle103 : wm14.heap.size ≤ g98 := by have := hE47.size; omega
      have hle104 : w48.heap.size ≤ g98 := by have := hE57.size; omega
      have hle105 : wk54.heap.size ≤ g98 := by have := hE59.size; omega
      have hle106 : w58.heap.size ≤ g98 := by have := hE61.size; omega
      have hle107 : w60.heap.size ≤ g98 := by have := hE90.size; omega
      have hle108 : w89.heap.size ≤ g98 := by have := hE95.size; omega
      have hle109 : wk92.heap.size ≤ g98 := by have := hE97.size; omega
      have hle110 : w96.heap.size ≤ g98 := by have := (Ex.rfl_ w96).size; omega
      have hlt111 : g48 < g98 := by have := Blk.lt (hb48.ext hE57); omega
      replace hxwm14 := Ex.tr hxwm14 hx98
      replace hE47 := Ex.tr hE47 hx98
      replace hE57 := Ex.tr hE57 hx98
      replace hE59 := Ex.tr hE59 hx98
      replace hE61 := Ex.tr hE61 hx98
      replace hE90 := Ex.tr hE90 hx98
      replace hE95 := Ex.tr hE95 hx98
      replace hE97 := Ex.tr hE97 hx98
      refine RG.vl rfl rfl rfl (Ev.assign rfl rfl) ?_
      refine RG.done ?_
      refine QW.sub (S' := [(1, _), (6, _), (9, _), (11, _), (12, _), (14, _), (16, _), (18, _), (20, _)]) ⟨rfl, rfl, rfl, rfl, rfl, rfl, rfl, rfl, rfl, trivial⟩ ?_
      refine QW.then_ ?_
      refine CW.seq ?_
      refine CW.region ?_
      refine RG.vl rfl rfl rfl (Ev.move rfl rfl) ?_
      refine RG.vl rfl rfl rfl ((Ev.rem8 rfl rfl rfl (by omega)).conv (congrArg (Value.int .u8) (show (k : Int) % 7 = ((k % 7 : Nat) : Int) by omega))) ?_
      refine RG.vl rfl rfl rfl (Ev.isT (Ev.geq rfl rfl rfl) (by omega)) ?_
      refine RG.vl rfl rfl rfl (Ev.move rfl rfl) ?_
      refine RG.vl rfl rfl rfl (Ev.move rfl rfl) ?_
      refine RG.vl rfl rfl rfl ((Ev.rem8 rfl rfl rfl (by omega)).conv (congrArg (Value.int .u8) (show (k : Int) % 7 = ((k % 7 : Nat) : Int) by omega))) ?_
      refine RG.vl rfl rfl rfl (Ev.isT (Ev.leq rfl rfl rfl) (by omega)) ?_
      refine RG.vl rfl rfl rfl (Ev.pickT rfl rfl rfl) ?_
      refine RG.vl rfl rfl rfl (Ev.assign rfl rfl) ?_
      refine RG.done ?_
      refine QW.then_ ?_
      refine CW.seq ?_
      refine CW.region ?_
      refine RG.vl rfl rfl rfl (Ev.move rfl rfl) ?_
      refine RG.vl rfl rfl rfl (Ev.isT (Ev.eqI rfl rfl rfl) (rfl)) ?_
      refine RG.vl rfl rfl rfl (Ev.move rfl rfl) ?_
      refine RG.vl rfl rfl rfl (Ev.fld rfl rfl fld_28_0) ?_
      refine RG.vl rfl rfl rfl (Ev.ldAt rfl rfl Try.underlying22 rfl ((hb48.ext hE57).cells) (rfl)) ?_
      refine RG.vl rfl rfl rfl (Ev.lenSlice rfl rfl rfl Try.underlying22) ?_
      refine RG.vl rfl rfl rfl (Ev.fld rfl rfl fld_28_1) ?_
      refine RG.vl rfl rfl rfl (Ev.ldAt rfl rfl Try.underlying23 rfl ((hb48.ext hE57).cells) (rfl)) ?_
      refine RG.vl rfl rfl rfl (Ev.lenSlice rfl rfl rfl Try.underlying23) ?_
      refine RG.vl rfl rfl rfl (Ev.addI rfl rfl rfl (by omega)) ?_
      refine RG.vl rfl rfl rfl (Ev.isT (Ev.eqI rfl rfl rfl) (rfl)) ?_
      refine RG.vl rfl rfl rfl (Ev.pickT rfl rfl rfl) ?_
      refine RG.vl rfl rfl rfl (Ev.move rfl rfl) ?_
      refine RG.vl rfl rfl rfl (Ev.move rfl rfl) ?_
      refine RG.vl rfl rfl rfl (Ev.isT (Ev.eqI rfl rfl rfl) (rfl)) ?_
      refine RG.vl rfl rfl rfl (Ev.pickT rfl rfl rfl) ?_
      refine RG.vl rfl rfl rfl (Ev.move rfl rfl) ?_
      refine RG.vl rfl rfl rfl (Ev.move rfl rfl) ?_
      refine RG.vl rfl rfl rfl (Ev.isT (Ev.eqI rfl rfl rfl) (rfl)) ?_
      refine RG.vl rfl rfl rfl (Ev.pickT rfl rfl rfl) ?_
      refine RG.vl rfl rfl rfl (Ev.move rfl rfl) ?_
      refine RG.vl rfl rfl rfl (Ev.move rfl rfl) ?_
      refine RG.vl rfl rfl rfl (Ev.isT (Ev.eqI rfl rfl rfl) (rfl)) ?_
      refine RG.vl rfl rfl rfl (Ev.move rfl rfl) ?_
      refine RG.vl rfl rfl rfl (Ev.isT (Ev.eqB rfl rfl rfl Try.underlying4) (rfl)) ?_
      refine RG.vl rfl rfl rfl (Ev.pickT rfl rfl rfl) ?_
      refine RG.vl rfl rfl rfl (Ev.move rfl rfl) ?_
      refine RG.vl rfl rfl rfl (Ev.move rfl rfl) ?_
      refine RG.vl rfl rfl rfl (Ev.move rfl rfl) ?_
      refine RG.pass rfl rfl rfl ?_
      refine RG.pass rfl rfl rfl ?_
      refine RG.pass rfl rfl rfl ?_
      refine RG.pass rfl rfl rfl ?_
      refine RG.pass rfl rfl rfl ?_
      refine RG.pass rfl rfl rfl ?_
      refine RG.pass rfl rfl rfl ?_
      refine RG.vl rfl rfl rfl (Ev.pickT rfl rfl rfl) ?_
      refine RG.vl rfl rfl rfl (Ev.pickT rfl rfl rfl) ?_
      refine RG.vl rfl rfl rfl (Ev.move rfl rfl) ?_
      refine RG.vl rfl rfl rfl (Ev.move rfl rfl) ?_
      refine RG.vl rfl rfl rfl (Ev.isT (Ev.eqI rfl rfl rfl) (rfl)) ?_
      refine RG.vl rfl rfl rfl (Ev.pickT rfl rfl rfl) ?_
      refine RG.vl rfl rfl rfl (Ev.move rfl rfl) ?_
      refine RG.call rfl rfl rfl rfl rfl rfl rfl en_10 (awake_ret _) ?_
      rintro _ w112 ⟨rfl, hx112⟩
      replace hxwm14 := Ex.tr hxwm14 hx112
      replace hE47 := Ex.tr hE47 hx112
      replace hE57 := Ex.tr hE57 hx112
      replace hE59 := Ex.tr hE59 hx112
      replace hE61 := Ex.tr hE61 hx112
      replace hE90 := Ex.tr hE90 hx112
      replace hE95 := Ex.tr hE95 hx112
      replace hE97 := Ex.tr hE97 hx112
      have hE113 := hx112
      refine RG.vl rfl rfl rfl (Ev.pickT rfl rfl rfl) ?_
      refine RG.vl rfl rfl rfl (Ev.assign rfl rfl) ?_
      refine RG.done ?_
      refine QW.sub (S' := [(6, _)]) ⟨rfl, trivial⟩ ?_
      refine QW.then_ ?_
      refine CW.ret ?_
      refine QW.ret1 rfl rfl ?_
      have hB := (Ex.tr hR7 hxwm14)
      exact ⟨rfl, hB⟩
    · have hWb : isW bl = false := by rw [hWd]; exact decide_eq_false (by omega)
      refine CW.region ?_
      refine RG.vl rfl rfl rfl (Ev.move rfl rfl) ?_
      refine RG.call rfl rfl rfl rfl rfl rfl rfl en_24 (synd_err _ _ bl (hbl.ext hE47) (by omega)) ?_
      rintro _ w114 ⟨rs, rfl, hx114⟩
      replace hxwm14 := Ex.tr hxwm14 hx114
      replace hE47 := Ex.tr hE47 hx114
      replace hE57 := Ex.tr hE57 hx114
      replace hE59 := Ex.tr hE59 hx114
      replace hE61 := Ex.tr hE61 hx114
      have hE115 := hx114
      refine RG.vl rfl rfl rfl (Ev.move rfl rfl) ?_
      refine RG.vl rfl rfl rfl (Ev.extract rfl rfl rfl) ?_
      refine RG.vl rfl rfl rfl ((Ev.extract rfl rfl rfl).conv (congrArg (Value.int .i64) (show (if isW bl = true then (0 : Int) else 2) = 2 by rw [hWb]; rfl))) ?_
      refine RG.vl rfl rfl rfl (Ev.assign rfl rfl) ?_
      refine RG.vl rfl rfl rfl (Ev.assign rfl rfl) ?_
      refine RG.done ?_
      refine QW.then_ ?_
      refine CW.seq ?_
      refine CW.region ?_
      refine RG.vl rfl rfl rfl (Ev.move rfl rfl) ?_
      refine RG.litO (os := [_, _, _, _, _]) (enc := encI) ([0, 1, 2, 3, 4]) rfl rfl rfl rfl rfl rfl rfl Try.underlying23 inf_3 rfl rfl rfl rfl rfl encI_len rfl rfl (fun v116 wk117 hxwk117 hown118 hnew119 => ?_)
      replace hxwm14 := Ex.tr hxwm14 hxwk117
      replace hE47 := Ex.tr hE47 hxwk117
      replace hE57 := Ex.tr hE57 hxwk117
      replace hE59 := Ex.tr hE59 hxwk117
      replace hE61 := Ex.tr hE61 hxwk117
      replace hE115 := Ex.tr hE115 hxwk117
      have hE120 := hxwk117
      refine RG.call rfl rfl rfl rfl rfl rfl rfl en_13 (dec_many _ _ _ c [0, 1, 2, 3, 4] (((Own.ext hoc hxwm14).rdl encN_len)) ((hown118.rdl encI_len)) hW1 (ok_five hW2) (by decide) (by decide)) ?_
      rintro _ w121 ⟨A2, B2, C2, D2, rfl, hx121⟩
      replace hxwm14 := Ex.tr hxwm14 hx121
      replace hE47 := Ex.tr hE47 hx121
      replace hE57 := Ex.tr hE57 hx121
      replace hE59 := Ex.tr hE59 hx121
      replace hE61 := Ex.tr hE61 hx121
      replace hE115 := Ex.tr hE115 hx121
      replace hE120 := Ex.tr hE120 hx121
      have hE122 := hx121
      refine RG.vl rfl rfl rfl (Ev.move rfl rfl) ?_
      refine RG.vl rfl rfl rfl (Ev.extract rfl rfl rfl) ?_
      refine RG.vl rfl rfl rfl (Ev.extract rfl rfl rfl) ?_
      refine RG.local_ rfl rfl rfl rfl (fun _ => rfl) rfl rfl (fun _ => rfl) inf_28 rfl rfl rfl (fun g123 w123 eg123 hx123 hb123 => ?_)
      have hsb124 := fun e => sep_new (g := g123) (Own.ext hoc hxwm14) eg123 e
      have hsb125 := fun e => sep_new (g := g123) (Own.ext hown55 hE59) eg123 e
      have hsb126 := fun e => sep_new (g := g123) (Own.ext hown118 hE122) eg123 e
      have hle127 : w1.heap.size ≤ g123 := by have := hxwm14.size; omega
      have hle128 : wm14.heap.size ≤ g123 := by have := hE47.size; omega
      have hle129 : w48.heap.size ≤ g123 := by have := hE57.size; omega
      have hle130 : wk54.heap.size ≤ g123 := by have := hE59.size; omega
      have hle131 : w58.heap.size ≤ g123 := by have := hE61.size; omega
      have hle132 : w60.heap.size ≤ g123 := by have := hE115.size; omega
      have hle133 : w114.heap.size ≤ g123 := by have := hE120.size; omega
      have hle134 : wk117.heap.size ≤ g123 := by have := hE122.size; omega
      have hle135 : w121.heap.size ≤ g123 := by have := (Ex.rfl_ w121).size; omega
      have hlt136 : g48 < g123 := by have := Blk.lt (hb48.ext hE57); omega
      replace hxwm14 := Ex.tr hxwm14 hx123
      replace hE47 := Ex.tr hE47 hx123
      replace hE57 := Ex.tr hE57 hx123
      replace hE59 := Ex.tr hE59 hx123
      replace hE61 := Ex.tr hE61 hx123
      replace hE115 := Ex.tr hE115 hx123
      replace hE120 := Ex.tr hE120 hx123
      replace hE122 := Ex.tr hE122 hx123
      refine RG.vl rfl rfl rfl (Ev.assign rfl rfl) ?_
      refine RG.done ?_
      refine QW.sub (S' := [(1, _), (6, _), (9, _), (11, _), (12, _), (14, _), (16, _), (18, _), (20, _)]) ⟨rfl, rfl, rfl, rfl, rfl, rfl, rfl, rfl, rfl, trivial⟩ ?_
      refine QW.then_ ?_
      refine CW.seq ?_
      refine CW.region ?_
      refine RG.vl rfl rfl rfl (Ev.move rfl rfl) ?_
      refine RG.vl rfl rfl rfl ((Ev.rem8 rfl rfl rfl (by omega)).conv (congrArg (Value.int .u8) (show (k : Int) % 7 = ((k % 7 : Nat) : Int) by omega))) ?_
      refine RG.vl rfl rfl rfl (Ev.isT (Ev.geq rfl rfl rfl) (by omega)) ?_
      refine RG.vl rfl rfl rfl (Ev.move rfl rfl) ?_
      refine RG.vl rfl rfl rfl (Ev.move rfl rfl) ?_
      refine RG.vl rfl rfl rfl ((Ev.rem8 rfl rfl rfl (by omega)).conv (congrArg (Value.int .u8) (show (k : Int) % 7 = ((k % 7 : Nat) : Int) by omega))) ?_
      refine RG.vl rfl rfl rfl (Ev.isF (Ev.leq rfl rfl rfl) (by omega)) ?_
      refine RG.vl rfl rfl rfl (Ev.pickT rfl rfl rfl) ?_
      refine RG.vl rfl rfl rfl (Ev.assign rfl rfl) ?_
      refine RG.done ?_
      refine QW.then_ ?_
      refine CW.seq ?_
      refine CW.region ?_
      refine RG.vl rfl rfl rfl (Ev.move rfl rfl) ?_
      refine RG.vl rfl rfl rfl (Ev.isT (Ev.eqI rfl rfl rfl) (rfl)) ?_
      refine RG.vl rfl rfl rfl (Ev.move rfl rfl) ?_
      refine RG.vl rfl rfl rfl (Ev.fld rfl rfl fld_28_0) ?_
      refine RG.vl rfl rfl rfl (Ev.ldAt rfl rfl Try.underlying22 rfl ((hb48.ext hE57).cells) (rfl)) ?_
      refine RG.vl rfl rfl rfl (Ev.lenSlice rfl rfl rfl Try.underlying22) ?_
      refine RG.vl rfl rfl rfl (Ev.fld rfl rfl fld_28_1) ?_
      refine RG.vl rfl rfl rfl (Ev.ldAt rfl rfl Try.underlying23 rfl ((hb48.ext hE57).cells) (rfl)) ?_
      refine RG.vl rfl rfl rfl (Ev.lenSlice rfl rfl rfl Try.underlying23) ?_
      refine RG.vl rfl rfl rfl (Ev.addI rfl rfl rfl (by omega)) ?_
      refine RG.vl rfl rfl rfl (Ev.isT (Ev.eqI rfl rfl rfl) (rfl)) ?_
      refine RG.vl rfl rfl rfl (Ev.pickT rfl rfl rfl) ?_
      refine RG.vl rfl rfl rfl (Ev.move rfl rfl) ?_
      refine RG.vl rfl rfl rfl (Ev.move rfl rfl) ?_
      refine RG.vl rfl rfl rfl (Ev.isT (Ev.eqI rfl rfl rfl) (rfl)) ?_
      refine RG.vl rfl rfl rfl (Ev.pickT rfl rfl rfl) ?_
      refine RG.vl rfl rfl rfl (Ev.move rfl rfl) ?_
      refine RG.vl rfl rfl rfl (Ev.move rfl rfl) ?_
      refine RG.vl rfl rfl rfl (Ev.isT (Ev.eqI rfl rfl rfl) (rfl)) ?_
      refine RG.vl rfl rfl rfl (Ev.pickT rfl rfl rfl) ?_
      refine RG.vl rfl rfl rfl (Ev.move rfl rfl) ?_
      refine RG.vl rfl rfl rfl (Ev.move rfl rfl) ?_
      refine RG.vl rfl rfl rfl (Ev.isF (Ev.eqI rfl rfl rfl) (by decide)) ?_
      refine RG.vl rfl rfl rfl (Ev.move rfl rfl) ?_
      refine RG.vl rfl rfl rfl (Ev.isT (Ev.eqB rfl rfl rfl Try.underlying4) (rfl)) ?_
      refine RG.vl rfl rfl rfl (Ev.pickT rfl rfl rfl) ?_
      refine RG.vl rfl rfl rfl (Ev.move rfl rfl) ?_
      refine RG.vl rfl rfl rfl (Ev.move rfl rfl) ?_
      refine RG.vl rfl rfl rfl (Ev.move rfl rfl) ?_
      refine RG.vl rfl rfl rfl (Ev.move rfl rfl) ?_
      refine RG.vl rfl rfl rfl (Ev.isT (Ev.eqI rfl rfl rfl) (rfl)) ?_
      refine RG.vl rfl rfl rfl (Ev.move rfl rfl) ?_
      refine RG.vl rfl rfl rfl (Ev.move rfl rfl) ?_
      refine RG.call rfl rfl rfl rfl rfl rfl rfl en_25 (valid_no _ _ bl (hbl.ext hE47) (by omega) hWb) ?_
      rintro _ w137 ⟨rfl, hx137⟩
      replace hxwm14 := Ex.tr hxwm14 hx137
      replace hE47 := Ex.tr hE47 hx137
      replace hE57 := Ex.tr hE57 hx137
      replace hE59 := Ex.tr hE59 hx137
      replace hE61 := Ex.tr hE61 hx137
      replace hE115 := Ex.tr hE115 hx137
      replace hE120 := Ex.tr hE120 hx137
      replace hE122 := Ex.tr hE122 hx137
      have hE138 := hx137
      refine RG.vl rfl rfl rfl (Ev.notT rfl rfl) ?_
      refine RG.vl rfl rfl rfl (Ev.pickT rfl rfl rfl) ?_
      refine RG.vl rfl rfl rfl (Ev.pickF rfl rfl rfl) ?_
      refine RG.vl rfl rfl rfl (Ev.pickT rfl rfl rfl) ?_
      refine RG.vl rfl rfl rfl (Ev.move rfl rfl) ?_
      refine RG.vl rfl rfl rfl (Ev.move rfl rfl) ?_
      refine RG.vl rfl rfl rfl (Ev.isT (Ev.eqI rfl rfl rfl) (rfl)) ?_
      refine RG.vl rfl rfl rfl (Ev.pickT rfl rfl rfl) ?_
      refine RG.vl rfl rfl rfl (Ev.move rfl rfl) ?_
      refine RG.call rfl rfl rfl rfl rfl rfl rfl en_10 (awake_ret _) ?_
      rintro _ w139 ⟨rfl, hx139⟩
      replace hxwm14 := Ex.tr hxwm14 hx139
      replace hE47 := Ex.tr hE47 hx139
      replace hE57 := Ex.tr hE57 hx139
      replace hE59 := Ex.tr hE59 hx139
      replace hE61 := Ex.tr hE61 hx139
      replace hE115 := Ex.tr hE115 hx139
      replace hE120 := Ex.tr hE120 hx139
      replace hE122 := Ex.tr hE122 hx139
      replace hE138 := Ex.tr hE138 hx139
      have hE140 := hx139
      refine RG.vl rfl rfl rfl (Ev.pickT rfl rfl rfl) ?_
      refine RG.vl rfl rfl rfl (Ev.assign rfl rfl) ?_
      refine RG.done ?_
      refine QW.sub (S' := [(6, _)]) ⟨rfl, trivial⟩ ?_
      refine QW.then_ ?_
      refine CW.ret ?_
      refine QW.ret1 rfl rfl ?_
      have hB := (Ex.tr hR7 hxwm14)
      exact ⟨rfl, hB⟩

end Go.Proofs.Ytjhgihgggofocaa
