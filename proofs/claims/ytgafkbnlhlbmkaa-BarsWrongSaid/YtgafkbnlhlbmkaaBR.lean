/- Walks (BR). Written by program. -/
import Derived.Test.YtgafkbnlhlbmkaaT
import Derived.Test.YtgafkbnlhlbmkaaBP
namespace Go.Proofs.Ytgafkbnlhlbmkaa
open Go.RowKit
set_option maxRecDepth 100000 in
set_option maxHeartbeats 4000000 in
theorem rread_ret (t : List UInt8) (w : World) (hlen : t.length ≤ 100000) :
    Ret Try.prog 21 [.string ⟨t.toArray⟩] w (fun v w' => ∃ r e, v = .tuple #[r, e, .int .i64 (readB t).2.2] ∧ Own w' w.heap.size 5 1 encB r (readB t).1 ∧ Own w' w.heap.size 3 1 encZ e (readB t).2.1 ∧ Ex w w') := by
  have hts := sb_len t
  have hB0 : Ex w w := Ex.rfl_ _
  refine Ret.of Try.func21 rfl Try.ntmps21 rfl ?_
  refine CW.seq ?_
  refine CW.region ?_
  refine RG.vl rfl rfl rfl (Ev.assign rfl rfl) ?_
  refine RG.vl rfl rfl rfl (Ev.assign rfl rfl) ?_
  refine RG.vl rfl rfl rfl (Ev.assign rfl rfl) ?_
  refine RG.done ?_
  refine QW.then_ ?_
  refine CW.seq ?_
  refine CW.seq ?_
  refine CW.region ?_
  refine RG.vl rfl rfl rfl (Ev.move rfl rfl) ?_
  refine RG.call rfl rfl rfl rfl rfl rfl rfl en_23 (error_ret _ 0 _ (by omega) (by omega)) ?_
  rintro _ w1 ⟨rfl, hx1⟩
  have hE2 := hx1
  refine RG.vl rfl rfl rfl (Ev.assign rfl rfl) ?_
  refine RG.done ?_
  refine QW.then_ ?_
  refine CW.seq ?_
  refine CW.region ?_
  refine RG.vl rfl rfl rfl (Ev.move rfl rfl) ?_
  refine RG.vl rfl rfl rfl (Ev.neI rfl rfl rfl) ?_
  refine RG.done ?_
  refine QW.then_ ?_
  refine CW.condP rfl (fun hc3 => ?_) (fun hc3 => ?_)
  · refine CW.seq ?_
    refine CW.region ?_
    refine RG.vl rfl rfl rfl (Ev.move rfl rfl) ?_
    refine RG.vl rfl rfl rfl (Ev.assign rfl rfl) ?_
    refine RG.vl rfl rfl rfl (Ev.assign rfl rfl) ?_
    refine RG.vl rfl rfl rfl (Ev.assign rfl rfl) ?_
    refine RG.done ?_
    refine QW.then_ ?_
    refine CW.ret ?_
    refine QW.thenRet ?_
    refine QW.ret3 rfl rfl rfl rfl ?_
    have hB := (Ex.tr hB0 hE2)
    exact ⟨_, _, by rw [read_err (by assumption)], by rw [read_err (by assumption)]; exact Own.nil_ _ _ _ _ _, by rw [read_err (by assumption)]; exact Own.nil_ _ _ _ _ _, hB⟩
  · refine CW.skip ?_
    refine QW.then_ ?_
    refine CW.seq ?_
    refine CW.seq ?_
    have he0 := Decidable.not_not.1 (show ¬ ¬ errB 0 t = 0 from by assumption)
    have hok := err_ok he0
    refine CW.region ?_
    refine RG.vl rfl rfl rfl (Ev.move rfl rfl) ?_
    refine RG.vl rfl rfl rfl (Ev.lenStr rfl rfl rfl Try.underlying9) ?_
    refine RG.vl rfl rfl rfl (Ev.remI rfl rfl rfl (by omega)) ?_
    refine RG.vl rfl rfl rfl (Ev.neI rfl rfl rfl) ?_
    refine RG.done ?_
    refine QW.then_ ?_
    refine CW.condP rfl (fun hc4 => ?_) (fun hc4 => ?_)
    · refine CW.seq ?_
      refine CW.region ?_
      refine RG.vl rfl rfl rfl (Ev.assign rfl rfl) ?_
      refine RG.vl rfl rfl rfl (Ev.assign rfl rfl) ?_
      refine RG.vl rfl rfl rfl (Ev.assign rfl rfl) ?_
      refine RG.done ?_
      refine QW.sub (S' := [(0, _), (2, _), (3, _), (4, _)]) ⟨rfl, rfl, rfl, rfl, trivial⟩ ?_
      refine QW.then_ ?_
      refine CW.ret ?_
      refine QW.thenRet ?_
      refine QW.ret3 rfl rfl rfl rfl ?_
      have hB := (Ex.tr hB0 hE2)
      exact ⟨_, _, by rw [read_len he0 (by omega)], by rw [read_len he0 (by omega)]; exact Own.nil_ _ _ _ _ _, by rw [read_len he0 (by omega)]; exact Own.nil_ _ _ _ _ _, hB⟩
    · refine CW.skip ?_
      refine QW.then_ ?_
      refine CW.seq ?_
      refine CW.region ?_
      refine RG.vl rfl rfl rfl (Ev.assign rfl rfl) ?_
      refine RG.done ?_
      refine QW.then_ ?_
      refine CW.seq ?_
      refine CW.region ?_
      refine RG.vl rfl rfl rfl (Ev.assign rfl rfl) ?_
      refine RG.done ?_
      refine QW.sub (S' := [(0, _), (2, _), (3, _), (4, _), (6, _), (7, _)]) ⟨rfl, rfl, rfl, rfl, rfl, rfl, trivial⟩ ?_
      refine QW.then_ ?_
      refine CW.seq ?_
      refine CW.seq ?_
      refine CW.region ?_
      refine RG.vl rfl rfl rfl (Ev.assign rfl rfl) ?_
      refine RG.done ?_
      refine QW.then_ ?_
      refine CW.block ?_
      have hR5 := (Ex.tr hB0 hE2)
      refine CW.loop3 [(0, _), (2, _), (3, _), (4, _)] ⟨rfl, rfl, rfl, rfl, trivial⟩ (fun (k : Nat) (u : Value) (x : Value) => [(8, .int .i64 (k : Int)), (6, u), (7, x)]) (fun k u x w' => (k ≤ t.length / 3 ∧ Own w' w1.heap.size 5 1 encB u (symsL t k) ∧ Own w' w1.heap.size 3 1 encZ x (erasL t k) ∧ Sep u x) ∧ Ex w1 w') (fun k u x => t.length / 3 - k) (0) (.slice none 0 0) (.slice none 0 0) ⟨rfl, rfl, rfl, trivial⟩ ⟨⟨by omega, Own.nil_ _ _ _ _ _, Own.nil_ _ _ _ _ _, Sep.nil_ _⟩, (Ex.rfl_ _)⟩ ?_
      rintro k u x wl6 ⟨⟨hk, hou, hox, hsp⟩, hxwl6⟩
      refine CW.sub (S' := [(8, _), (6, _), (7, _), (0, _), (2, _), (3, _), (4, _)]) ⟨rfl, rfl, rfl, rfl, rfl, rfl, rfl, trivial⟩ ?_
      refine CW.seq ?_
      refine CW.seq ?_
      refine CW.region ?_
      refine RG.vl rfl rfl rfl (Ev.move rfl rfl) ?_
      refine RG.vl rfl rfl rfl (Ev.move rfl rfl) ?_
      refine RG.vl rfl rfl rfl (Ev.lenStr rfl rfl rfl Try.underlying9) ?_
      refine RG.vl rfl rfl rfl ((Ev.quoI rfl rfl rfl (by omega)).conv (congrArg (Value.int .i64) (show (((⟨t.toArray⟩ : ByteArray).size : Nat) : Int) / 3 = ((t.length / 3 : Nat) : Int) by omega))) ?_
      refine RG.vl rfl rfl rfl (Ev.lss rfl rfl rfl) ?_
      refine RG.done ?_
      refine QW.then_ ?_
      refine CW.condP rfl (fun hc7 => ?_) (fun hc7 => ?_)
      · refine CW.skip ?_
        refine QW.then_ ?_
        refine CW.seq ?_
        refine CW.block ?_
        refine CW.seq ?_
        obtain ⟨a, ha⟩ : ∃ x, t[3 * k]? = some x := ⟨_, List.getElem?_eq_getElem (by omega)⟩
        have hLa := List.all_eq_true.1 hok.2 a (List.mem_of_getElem? ha)
        have hra := numR_le a
        obtain ⟨b, hb⟩ : ∃ x, t[3 * k + 1]? = some x := ⟨_, List.getElem?_eq_getElem (by omega)⟩
        have hLb := List.all_eq_true.1 hok.2 b (List.mem_of_getElem? hb)
        have hrb := numR_le b
        obtain ⟨c, hc⟩ : ∃ x, t[3 * k + 2]? = some x := ⟨_, List.getElem?_eq_getElem (by omega)⟩
        have hLc := List.all_eq_true.1 hok.2 c (List.mem_of_getElem? hc)
        have hrc := numR_le c
        have h3 := part3 ha hb hc
        have hu3 := unc3 h3
        have hsl := syms_len t k
        have hel := eras_len t k
        refine CW.draw [] (.ex) 20 rfl mixed (fun wd8 hxwd8 => ?_)
        replace hxwl6 := Ex.tr hxwl6 hxwd8
        have hE9 := hxwd8
        refine AG.takeW 0 rfl (by kernel_rfl) (by kernel_rfl) rfl rfl rfl (fun _ => Ev.move rfl rfl) ?_
        refine AG.takeW 1 rfl (by kernel_rfl) (by kernel_rfl) rfl rfl rfl (fun _ => Ev.move rfl rfl) ?_
        refine AG.takeW 2 rfl (by kernel_rfl) (by kernel_rfl) rfl rfl rfl (fun _ => (Ev.mulI rfl rfl rfl (by omega)).conv (congrArg (Value.int .i64) (show (3 : Int) * (k : Int) = ((3 * k : Nat) : Int) by omega))) ?_
        refine AG.takeW 3 rfl (by kernel_rfl) (by kernel_rfl) rfl rfl rfl (fun _ => Ev.byteAt rfl rfl rfl Try.underlying9 (by omega) (ha)) ?_
        refine AG.takeW 5 rfl (by kernel_rfl) (by kernel_rfl) rfl rfl rfl (fun _ => Ev.move rfl rfl) ?_
        refine AG.takeW 6 rfl (by kernel_rfl) (by kernel_rfl) rfl rfl rfl (fun _ => Ev.move rfl rfl) ?_
        refine AG.takeW 7 rfl (by kernel_rfl) (by kernel_rfl) rfl rfl rfl (fun _ => (Ev.mulI rfl rfl rfl (by omega)).conv (congrArg (Value.int .i64) (show (3 : Int) * (k : Int) = ((3 * k : Nat) : Int) by omega))) ?_
        refine AG.takeW 8 rfl (by kernel_rfl) (by kernel_rfl) rfl rfl rfl (fun _ => (Ev.addI rfl rfl rfl (by omega)).conv (congrArg (Value.int .i64) (show ((3 * k : Nat) : Int) + 1 = ((3 * k + 1 : Nat) : Int) by omega))) ?_
        refine AG.takeW 9 rfl (by kernel_rfl) (by kernel_rfl) rfl rfl rfl (fun _ => Ev.byteAt rfl rfl rfl Try.underlying9 (by omega) (hb)) ?_
        refine AG.takeW 11 rfl (by kernel_rfl) (by kernel_rfl) rfl rfl rfl (fun _ => Ev.move rfl rfl) ?_
        refine AG.takeW 12 rfl (by kernel_rfl) (by kernel_rfl) rfl rfl rfl (fun _ => Ev.move rfl rfl) ?_
        refine AG.takeW 13 rfl (by kernel_rfl) (by kernel_rfl) rfl rfl rfl (fun _ => (Ev.mulI rfl rfl rfl (by omega)).conv (congrArg (Value.int .i64) (show (3 : Int) * (k : Int) = ((3 * k : Nat) : Int) by omega))) ?_
        refine AG.takeW 14 rfl (by kernel_rfl) (by kernel_rfl) rfl rfl rfl (fun _ => (Ev.addI rfl rfl rfl (by omega)).conv (congrArg (Value.int .i64) (show ((3 * k : Nat) : Int) + 2 = ((3 * k + 2 : Nat) : Int) by omega))) ?_
        refine AG.takeW 15 rfl (by kernel_rfl) (by kernel_rfl) rfl rfl rfl (fun _ => Ev.byteAt rfl rfl rfl Try.underlying9 (by omega) (hc)) ?_
        refine AG.only 4 rfl (by kernel_rfl) ?_
        refine RG.call rfl rfl rfl rfl rfl rfl rfl en_35 (number_ret a _) ?_
        rintro _ w11 ⟨rfl, hx11⟩
        replace hxwl6 := Ex.tr hxwl6 hx11
        replace hE9 := Ex.tr hE9 hx11
        have hE12 := hx11
        refine RG.done ?_
        refine QW.an (fun _ => hE12) ?_
        refine AG.only 10 rfl (by kernel_rfl) ?_
        refine RG.call rfl rfl rfl rfl rfl rfl rfl en_35 (number_ret b _) ?_
        rintro _ w14 ⟨rfl, hx14⟩
        replace hxwl6 := Ex.tr hxwl6 hx14
        replace hE9 := Ex.tr hE9 hx14
        replace hE12 := Ex.tr hE12 hx14
        have hE15 := hx14
        refine RG.done ?_
        refine QW.an (fun _ => hE15) ?_
        refine AG.only 16 rfl (by kernel_rfl) ?_
        refine RG.call rfl rfl rfl rfl rfl rfl rfl en_35 (number_ret c _) ?_
        rintro _ w17 ⟨rfl, hx17⟩
        replace hxwl6 := Ex.tr hxwl6 hx17
        replace hE9 := Ex.tr hE9 hx17
        replace hE12 := Ex.tr hE12 hx17
        replace hE15 := Ex.tr hE15 hx17
        have hE18 := hx17
        refine RG.done ?_
        refine QW.an (fun _ => hE18) ?_
        refine AG.takeW 17 rfl (by kernel_rfl) (by kernel_rfl) rfl rfl rfl (fun _ => Ev.assign rfl rfl) ?_
        refine AG.takeW 18 rfl (by kernel_rfl) (by kernel_rfl) rfl rfl rfl (fun _ => Ev.assign rfl rfl) ?_
        refine AG.takeW 19 rfl (by kernel_rfl) (by kernel_rfl) rfl rfl rfl (fun _ => Ev.assign rfl rfl) ?_
        refine AG.done (by kernel_rfl) ?_
        refine QW.sub (S' := [(0, _), (2, _), (3, _), (4, _), (6, _), (7, _), (8, _), (9, _), (10, _), (11, _)]) ⟨rfl, rfl, rfl, rfl, rfl, rfl, rfl, rfl, rfl, rfl, trivial⟩ ?_
        refine QW.then_ ?_
        refine CW.seq ?_
        refine CW.region ?_
        refine RG.vl rfl rfl rfl (Ev.move rfl rfl) ?_
        refine RG.vl rfl rfl rfl (Ev.eqI rfl rfl rfl) ?_
        refine RG.vl rfl rfl rfl (Ev.move rfl rfl) ?_
        refine RG.split (d := 47) rfl (fun hg19 => ?_) (fun hg19 => ?_)
        · refine RG.pass rfl rfl rfl ?_
          refine RG.pass rfl rfl rfl ?_
          refine RG.vl rfl rfl rfl (Ev.pickT rfl rfl rfl) ?_
          refine RG.vl rfl rfl rfl (Ev.move rfl rfl) ?_
          refine RG.pass rfl rfl rfl ?_
          refine RG.pass rfl rfl rfl ?_
          refine RG.vl rfl rfl rfl (Ev.pickT rfl rfl rfl) ?_
          refine RG.done ?_
          refine QW.then_ ?_
          refine CW.condT rfl ?_
          refine CW.seq ?_
          have hu : unc t k = true := by rw [hu3, decide_eq_true_eq]; first | exact .inl (numR4.1 (by omega)) | exact .inr (.inl (numR4.1 (by omega))) | exact .inr (.inr (numR4.1 (by omega)))
          have hs0 : symB t k = 0 := by unfold symB; rw [hu]; rfl
          refine CW.region ?_
          refine RG.vl rfl rfl rfl (Ev.move rfl rfl) ?_
          refine RG.litO (os := [_]) (enc := encB) ([0]) rfl rfl rfl rfl rfl rfl rfl Try.underlying22 inf_5 rfl rfl rfl rfl rfl encB_len rfl rfl (fun v20 wk21 hxwk21 hown22 hnew23 => ?_)
          have hsep24 : Sep v20 _ := Sep.of_new (Own.ext hou hE9) hnew23
          have hsep25 : Sep v20 _ := Sep.of_new (Own.ext hox hE9) hnew23
          replace hxwl6 := Ex.tr hxwl6 hxwk21
          replace hE9 := Ex.tr hE9 hxwk21
          replace hE12 := Ex.tr hE12 hxwk21
          replace hE15 := Ex.tr hE15 hxwk21
          replace hE18 := Ex.tr hE18 hxwk21
          have hE26 := hxwk21
          refine RG.appO rfl rfl rfl rfl rfl rfl rfl Try.underlying22 inf_5 rfl rfl encB_len (fun _ => rfl) (Own.ext hou hE9) ((hown22.rdl encB_len)) (by show _ + 1 ≤ maxLen; simp only [maxLen]; omega) (by show (_ + 1) * _ ≤ _; omega) (hxwl6.size) (fun v27 wa28 hown29 hgr30 hat31 => ?_)
          have hsep33 := Sep.app hsp (Own.ext hox hE9) hat31
          have hown32 := Own.grown (Own.ext hox hE9) hgr30 (fun k a b => hsp k b a)
          have hsep35 := Sep.app (Sep.symm hsep24) hown22 hat31
          have hown34 := Own.grown hown22 hgr30 (fun k a b => (Sep.symm hsep24) k b a)
          replace hxwl6 := own_block (Own.ext hou hE9) hxwl6 hgr30 (Nat.le_refl _) hxwl6.size
          refine RG.vl rfl rfl rfl (Ev.assign rfl rfl) ?_
          refine RG.done ?_
          refine QW.sub (S' := [(0, _), (2, _), (3, _), (4, _), (6, _), (7, _), (8, _)]) ⟨rfl, rfl, rfl, rfl, rfl, rfl, rfl, trivial⟩ ?_
          refine QW.then_ ?_
          refine CW.region ?_
          refine RG.vl rfl rfl rfl (Ev.move rfl rfl) ?_
          refine RG.vl rfl rfl rfl (Ev.move rfl rfl) ?_
          refine RG.litO (os := [.tmp 59]) (enc := encZ) ([k]) rfl rfl rfl rfl rfl rfl rfl Try.underlying33 inf_3 rfl rfl rfl rfl rfl encZ_len rfl rfl (fun v36 wk37 hxwk37 hown38 hnew39 => ?_)
          have hsep40 : Sep v36 _ := Sep.of_new hown32 hnew39
          have hsep41 : Sep v36 _ := Sep.of_new hown34 hnew39
          have hsep42 : Sep v36 _ := Sep.of_new hown29 hnew39
          replace hxwl6 := Ex.tr hxwl6 hxwk37
          have hE43 := hxwk37
          refine RG.appO rfl rfl rfl rfl rfl rfl rfl Try.underlying33 inf_3 rfl rfl encZ_len (fun _ => rfl) (Own.ext hown32 hE43) ((hown38.rdl encZ_len)) (by show _ + 1 ≤ maxLen; simp only [maxLen]; omega) (by show (_ + 1) * _ ≤ _; omega) (hxwl6.size) (fun v44 wa45 hown46 hgr47 hat48 => ?_)
          have hsep50 := Sep.app (Sep.symm hsep25) (Own.ext hown34 hE43) hat48
          have hown49 := Own.grown (Own.ext hown34 hE43) hgr47 (fun k a b => (Sep.symm hsep25) k b a)
          have hsep52 := Sep.app (Sep.symm hsep33) (Own.ext hown29 hE43) hat48
          have hown51 := Own.grown (Own.ext hown29 hE43) hgr47 (fun k a b => (Sep.symm hsep33) k b a)
          have hsep54 := Sep.app (Sep.symm hsep40) hown38 hat48
          have hown53 := Own.grown hown38 hgr47 (fun k a b => (Sep.symm hsep40) k b a)
          replace hxwl6 := own_block (Own.ext hown32 hE43) hxwl6 hgr47 (Nat.le_refl _) hxwl6.size
          refine RG.vl rfl rfl rfl (Ev.assign rfl rfl) ?_
          refine RG.done ?_
          refine QW.blockN ?_
          refine QW.then_ ?_
          refine CW.region ?_
          refine RG.vl rfl rfl rfl (Ev.move rfl rfl) ?_
          refine RG.vl rfl rfl rfl (Ev.addI rfl rfl rfl (by omega)) ?_
          refine RG.vl rfl rfl rfl (Ev.assign rfl rfl) ?_
          refine RG.done ?_
          refine QW.round3 (k + 1) (v27) (v44) ⟨rfl, rfl, rfl, trivial⟩ ⟨rfl, rfl, rfl, rfl, trivial⟩ ⟨⟨by omega, by rw [syms_more, hs0]; exact hown51, by rw [eras_yes hu]; exact hown46, (Sep.symm hsep52)⟩, hxwl6⟩ (by omega)
        · refine RG.vl rfl rfl rfl (Ev.move rfl rfl) ?_
          refine RG.vl rfl rfl rfl (Ev.eqI rfl rfl rfl) ?_
          refine RG.vl rfl rfl rfl (Ev.pickF rfl rfl rfl) ?_
          refine RG.vl rfl rfl rfl (Ev.move rfl rfl) ?_
          refine RG.split (d := 51) rfl (fun hg55 => ?_) (fun hg55 => ?_)
          · refine RG.pass rfl rfl rfl ?_
            refine RG.pass rfl rfl rfl ?_
            refine RG.vl rfl rfl rfl (Ev.pickT rfl rfl rfl) ?_
            refine RG.done ?_
            refine QW.then_ ?_
            refine CW.condT rfl ?_
            refine CW.seq ?_
            have hu : unc t k = true := by rw [hu3, decide_eq_true_eq]; first | exact .inl (numR4.1 (by omega)) | exact .inr (.inl (numR4.1 (by omega))) | exact .inr (.inr (numR4.1 (by omega)))
            have hs0 : symB t k = 0 := by unfold symB; rw [hu]; rfl
            refine CW.region ?_
            refine RG.vl rfl rfl rfl (Ev.move rfl rfl) ?_
            refine RG.litO (os := [_]) (enc := encB) ([0]) rfl rfl rfl rfl rfl rfl rfl Try.underlying22 inf_5 rfl rfl rfl rfl rfl encB_len rfl rfl (fun v56 wk57 hxwk57 hown58 hnew59 => ?_)
            have hsep60 : Sep v56 _ := Sep.of_new (Own.ext hou hE9) hnew59
            have hsep61 : Sep v56 _ := Sep.of_new (Own.ext hox hE9) hnew59
            replace hxwl6 := Ex.tr hxwl6 hxwk57
            replace hE9 := Ex.tr hE9 hxwk57
            replace hE12 := Ex.tr hE12 hxwk57
            replace hE15 := Ex.tr hE15 hxwk57
            replace hE18 := Ex.tr hE18 hxwk57
            have hE62 := hxwk57
            refine RG.appO rfl rfl rfl rfl rfl rfl rfl Try.underlying22 inf_5 rfl rfl encB_len (fun _ => rfl) (Own.ext hou hE9) ((hown58.rdl encB_len)) (by show _ + 1 ≤ maxLen; simp only [maxLen]; omega) (by show (_ + 1) * _ ≤ _; omega) (hxwl6.size) (fun v63 wa64 hown65 hgr66 hat67 => ?_)
            have hsep69 := Sep.app hsp (Own.ext hox hE9) hat67
            have hown68 := Own.grown (Own.ext hox hE9) hgr66 (fun k a b => hsp k b a)
            have hsep71 := Sep.app (Sep.symm hsep60) hown58 hat67
            have hown70 := Own.grown hown58 hgr66 (fun k a b => (Sep.symm hsep60) k b a)
            replace hxwl6 := own_block (Own.ext hou hE9) hxwl6 hgr66 (Nat.le_refl _) hxwl6.size
            refine RG.vl rfl rfl rfl (Ev.assign rfl rfl) ?_
            refine RG.done ?_
            refine QW.sub (S' := [(0, _), (2, _), (3, _), (4, _), (6, _), (7, _), (8, _)]) ⟨rfl, rfl, rfl, rfl, rfl, rfl, rfl, trivial⟩ ?_
            refine QW.then_ ?_
            refine CW.region ?_
            refine RG.vl rfl rfl rfl (Ev.move rfl rfl) ?_
            refine RG.vl rfl rfl rfl (Ev.move rfl rfl) ?_
            refine RG.litO (os := [.tmp 59]) (enc := encZ) ([k]) rfl rfl rfl rfl rfl rfl rfl Try.underlying33 inf_3 rfl rfl rfl rfl rfl encZ_len rfl rfl (fun v72 wk73 hxwk73 hown74 hnew75 => ?_)
            have hsep76 : Sep v72 _ := Sep.of_new hown68 hnew75
            have hsep77 : Sep v72 _ := Sep.of_new hown70 hnew75
            have hsep78 : Sep v72 _ := Sep.of_new hown65 hnew75
            replace hxwl6 := Ex.tr hxwl6 hxwk73
            have hE79 := hxwk73
            refine RG.appO rfl rfl rfl rfl rfl rfl rfl Try.underlying33 inf_3 rfl rfl encZ_len (fun _ => rfl) (Own.ext hown68 hE79) ((hown74.rdl encZ_len)) (by show _ + 1 ≤ maxLen; simp only [maxLen]; omega) (by show (_ + 1) * _ ≤ _; omega) (hxwl6.size) (fun v80 wa81 hown82 hgr83 hat84 => ?_)
            have hsep86 := Sep.app (Sep.symm hsep61) (Own.ext hown70 hE79) hat84
            have hown85 := Own.grown (Own.ext hown70 hE79) hgr83 (fun k a b => (Sep.symm hsep61) k b a)
            have hsep88 := Sep.app (Sep.symm hsep69) (Own.ext hown65 hE79) hat84
            have hown87 := Own.grown (Own.ext hown65 hE79) hgr83 (fun k a b => (Sep.symm hsep69) k b a)
            have hsep90 := Sep.app (Sep.symm hsep76) hown74 hat84
            have hown89 := Own.grown hown74 hgr83 (fun k a b => (Sep.symm hsep76) k b a)
            replace hxwl6 := own_block (Own.ext hown68 hE79) hxwl6 hgr83 (Nat.le_refl _) hxwl6.size
            refine RG.vl rfl rfl rfl (Ev.assign rfl rfl) ?_
            refine RG.done ?_
            refine QW.blockN ?_
            refine QW.then_ ?_
            refine CW.region ?_
            refine RG.vl rfl rfl rfl (Ev.move rfl rfl) ?_
            refine RG.vl rfl rfl rfl (Ev.addI rfl rfl rfl (by omega)) ?_
            refine RG.vl rfl rfl rfl (Ev.assign rfl rfl) ?_
            refine RG.done ?_
            refine QW.round3 (k + 1) (v63) (v80) ⟨rfl, rfl, rfl, trivial⟩ ⟨rfl, rfl, rfl, rfl, trivial⟩ ⟨⟨by omega, by rw [syms_more, hs0]; exact hown87, by rw [eras_yes hu]; exact hown82, (Sep.symm hsep88)⟩, hxwl6⟩ (by omega)
          · refine RG.vl rfl rfl rfl (Ev.move rfl rfl) ?_
            refine RG.vl rfl rfl rfl (Ev.eqI rfl rfl rfl) ?_
            refine RG.vl rfl rfl rfl (Ev.pickF rfl rfl rfl) ?_
            refine RG.done ?_
            refine QW.then_ ?_
            refine CW.condP rfl (fun hc91 => ?_) (fun hc91 => ?_)
            · refine CW.seq ?_
              have hu : unc t k = true := by rw [hu3, decide_eq_true_eq]; first | exact .inl (numR4.1 (by omega)) | exact .inr (.inl (numR4.1 (by omega))) | exact .inr (.inr (numR4.1 (by omega)))
              have hs0 : symB t k = 0 := by unfold symB; rw [hu]; rfl
              refine CW.region ?_
              refine RG.vl rfl rfl rfl (Ev.move rfl rfl) ?_
              refine RG.litO (os := [_]) (enc := encB) ([0]) rfl rfl rfl rfl rfl rfl rfl Try.underlying22 inf_5 rfl rfl rfl rfl rfl encB_len rfl rfl (fun v92 wk93 hxwk93 hown94 hnew95 => ?_)
              have hsep96 : Sep v92 _ := Sep.of_new (Own.ext hou hE9) hnew95
              have hsep97 : Sep v92 _ := Sep.of_new (Own.ext hox hE9) hnew95
              replace hxwl6 := Ex.tr hxwl6 hxwk93
              replace hE9 := Ex.tr hE9 hxwk93
              replace hE12 := Ex.tr hE12 hxwk93
              replace hE15 := Ex.tr hE15 hxwk93
              replace hE18 := Ex.tr hE18 hxwk93
              have hE98 := hxwk93
              refine RG.appO rfl rfl rfl rfl rfl rfl rfl Try.underlying22 inf_5 rfl rfl encB_len (fun _ => rfl) (Own.ext hou hE9) ((hown94.rdl encB_len)) (by show _ + 1 ≤ maxLen; simp only [maxLen]; omega) (by show (_ + 1) * _ ≤ _; omega) (hxwl6.size) (fun v99 wa100 hown101 hgr102 hat103 => ?_)
              have hsep105 := Sep.app hsp (Own.ext hox hE9) hat103
              have hown104 := Own.grown (Own.ext hox hE9) hgr102 (fun k a b => hsp k b a)
              have hsep107 := Sep.app (Sep.symm hsep96) hown94 hat103
              have hown106 := Own.grown hown94 hgr102 (fun k a b => (Sep.symm hsep96) k b a)
              replace hxwl6 := own_block (Own.ext hou hE9) hxwl6 hgr102 (Nat.le_refl _) hxwl6.size
              refine RG.vl rfl rfl rfl (Ev.assign rfl rfl) ?_
              refine RG.done ?_
              refine QW.sub (S' := [(0, _), (2, _), (3, _), (4, _), (6, _), (7, _), (8, _)]) ⟨rfl, rfl, rfl, rfl, rfl, rfl, rfl, trivial⟩ ?_
              refine QW.then_ ?_
              refine CW.region ?_
              refine RG.vl rfl rfl rfl (Ev.move rfl rfl) ?_
              refine RG.vl rfl rfl rfl (Ev.move rfl rfl) ?_
              refine RG.litO (os := [.tmp 59]) (enc := encZ) ([k]) rfl rfl rfl rfl rfl rfl rfl Try.underlying33 inf_3 rfl rfl rfl rfl rfl encZ_len rfl rfl (fun v108 wk109 hxwk109 hown110 hnew111 => ?_)
              have hsep112 : Sep v108 _ := Sep.of_new hown104 hnew111
              have hsep113 : Sep v108 _ := Sep.of_new hown106 hnew111
              have hsep114 : Sep v108 _ := Sep.of_new hown101 hnew111
              replace hxwl6 := Ex.tr hxwl6 hxwk109
              have hE115 := hxwk109
              refine RG.appO rfl rfl rfl rfl rfl rfl rfl Try.underlying33 inf_3 rfl rfl encZ_len (fun _ => rfl) (Own.ext hown104 hE115) ((hown110.rdl encZ_len)) (by show _ + 1 ≤ maxLen; simp only [maxLen]; omega) (by show (_ + 1) * _ ≤ _; omega) (hxwl6.size) (fun v116 wa117 hown118 hgr119 hat120 => ?_)
              have hsep122 := Sep.app (Sep.symm hsep97) (Own.ext hown106 hE115) hat120
              have hown121 := Own.grown (Own.ext hown106 hE115) hgr119 (fun k a b => (Sep.symm hsep97) k b a)
              have hsep124 := Sep.app (Sep.symm hsep105) (Own.ext hown101 hE115) hat120
              have hown123 := Own.grown (Own.ext hown101 hE115) hgr119 (fun k a b => (Sep.symm hsep105) k b a)
              have hsep126 := Sep.app (Sep.symm hsep112) hown110 hat120
              have hown125 := Own.grown hown110 hgr119 (fun k a b => (Sep.symm hsep112) k b a)
              replace hxwl6 := own_block (Own.ext hown104 hE115) hxwl6 hgr119 (Nat.le_refl _) hxwl6.size
              refine RG.vl rfl rfl rfl (Ev.assign rfl rfl) ?_
              refine RG.done ?_
              refine QW.blockN ?_
              refine QW.then_ ?_
              refine CW.region ?_
              refine RG.vl rfl rfl rfl (Ev.move rfl rfl) ?_
              refine RG.vl rfl rfl rfl (Ev.addI rfl rfl rfl (by omega)) ?_
              refine RG.vl rfl rfl rfl (Ev.assign rfl rfl) ?_
              refine RG.done ?_
              refine QW.round3 (k + 1) (v99) (v116) ⟨rfl, rfl, rfl, trivial⟩ ⟨rfl, rfl, rfl, rfl, trivial⟩ ⟨⟨by omega, by rw [syms_more, hs0]; exact hown123, by rw [eras_yes hu]; exact hown118, (Sep.symm hsep124)⟩, hxwl6⟩ (by omega)
            · have ha6 : a ≠ 63 := fun e => by have := numR4.2 e; omega
              have ga := numR_num hLa ha6
              have ga3 := (num_of hLa ha6).2
              have hb6 : b ≠ 63 := fun e => by have := numR4.2 e; omega
              have gb := numR_num hLb hb6
              have gb3 := (num_of hLb hb6).2
              have hc6 : c ≠ 63 := fun e => by have := numR4.2 e; omega
              have gc := numR_num hLc hc6
              have gc3 := (num_of hLc hc6).2
              have hn : unc t k = false := by rw [hu3, decide_eq_false_iff_not]; rintro (h | h | h); exact ha6 h; exact hb6 h; exact hc6 h
              have hac : ((symB t k).toNat : Int) = 16 * (numR a : Int) + 4 * (numR b : Int) + (numR c : Int) := by rw [sym3 h3 hn, UInt8.toNat_ofNat_of_lt' (show 16 * num a + 4 * num b + num c < 256 by omega)]; omega
              refine CW.region ?_
              refine RG.vl rfl rfl rfl (Ev.move rfl rfl) ?_
              refine RG.vl rfl rfl rfl (Ev.move rfl rfl) ?_
              refine RG.vl rfl rfl rfl (Ev.mulI rfl rfl rfl (by omega)) ?_
              refine RG.vl rfl rfl rfl (Ev.move rfl rfl) ?_
              refine RG.vl rfl rfl rfl (Ev.mulI rfl rfl rfl (by omega)) ?_
              refine RG.vl rfl rfl rfl (Ev.addI rfl rfl rfl (by omega)) ?_
              refine RG.vl rfl rfl rfl (Ev.move rfl rfl) ?_
              refine RG.vl rfl rfl rfl (Ev.addI rfl rfl rfl (by omega)) ?_
              refine RG.vl rfl rfl rfl ((Ev.to8 rfl rfl Try.underlying3 Try.underlying5 (by omega)).conv (congrArg (Value.int .u8) hac.symm)) ?_
              refine RG.litO (os := [.tmp 70]) (enc := encB) ([symB t k]) rfl rfl rfl rfl rfl rfl rfl Try.underlying22 inf_5 rfl rfl rfl rfl rfl encB_len rfl rfl (fun v127 wk128 hxwk128 hown129 hnew130 => ?_)
              have hsep131 : Sep v127 _ := Sep.of_new (Own.ext hou hE9) hnew130
              have hsep132 : Sep v127 _ := Sep.of_new (Own.ext hox hE9) hnew130
              replace hxwl6 := Ex.tr hxwl6 hxwk128
              replace hE9 := Ex.tr hE9 hxwk128
              replace hE12 := Ex.tr hE12 hxwk128
              replace hE15 := Ex.tr hE15 hxwk128
              replace hE18 := Ex.tr hE18 hxwk128
              have hE133 := hxwk128
              refine RG.appO rfl rfl rfl rfl rfl rfl rfl Try.underlying22 inf_5 rfl rfl encB_len (fun _ => rfl) (Own.ext hou hE9) ((hown129.rdl encB_len)) (by show _ + 1 ≤ maxLen; simp only [maxLen]; omega) (by show (_ + 1) * _ ≤ _; omega) (hxwl6.size) (fun v134 wa135 hown136 hgr137 hat138 => ?_)
              have hsep140 := Sep.app hsp (Own.ext hox hE9) hat138
              have hown139 := Own.grown (Own.ext hox hE9) hgr137 (fun k a b => hsp k b a)
              have hsep142 := Sep.app (Sep.symm hsep131) hown129 hat138
              have hown141 := Own.grown hown129 hgr137 (fun k a b => (Sep.symm hsep131) k b a)
              replace hxwl6 := own_block (Own.ext hou hE9) hxwl6 hgr137 (Nat.le_refl _) hxwl6.size
              refine RG.vl rfl rfl rfl (Ev.assign rfl rfl) ?_
              refine RG.done ?_
              refine QW.sub (S' := [(0, _), (2, _), (3, _), (4, _), (6, _), (7, _), (8, _)]) ⟨rfl, rfl, rfl, rfl, rfl, rfl, rfl, trivial⟩ ?_
              refine QW.blockN ?_
              refine QW.then_ ?_
              refine CW.region ?_
              refine RG.vl rfl rfl rfl (Ev.move rfl rfl) ?_
              refine RG.vl rfl rfl rfl (Ev.addI rfl rfl rfl (by omega)) ?_
              refine RG.vl rfl rfl rfl (Ev.assign rfl rfl) ?_
              refine RG.done ?_
              refine QW.round3 (k + 1) (v134) (x) ⟨rfl, rfl, rfl, trivial⟩ ⟨rfl, rfl, rfl, rfl, trivial⟩ ⟨⟨by omega, by rw [syms_more]; exact hown136, by rw [eras_no hn]; exact hown139, hsep140⟩, hxwl6⟩ (by omega)
      · refine CW.exit ?_
        refine QW.thenExit ?_
        refine QW.thenExit ?_
        refine QW.blockHit ?_
        refine QW.then_ ?_
        refine CW.seq ?_
        refine CW.region ?_
        refine RG.vl rfl rfl rfl (Ev.move rfl rfl) ?_
        refine RG.vl rfl rfl rfl (Ev.move rfl rfl) ?_
        refine RG.vl rfl rfl rfl (Ev.assign rfl rfl) ?_
        refine RG.vl rfl rfl rfl (Ev.assign rfl rfl) ?_
        refine RG.vl rfl rfl rfl (Ev.assign rfl rfl) ?_
        refine RG.done ?_
        refine QW.then_ ?_
        refine CW.ret ?_
        refine QW.ret3 rfl rfl rfl rfl ?_
        have hB := (Ex.tr hR5 hxwl6)
        obtain rfl : k = t.length / 3 := by omega
        have hro := read_ok he0 (by omega)
        exact ⟨_, _, by rw [hro], by rw [hro]; exact hou.low (by have := hR5.size; omega), by rw [hro]; exact hox.low (by have := hR5.size; omega), hB⟩

end Go.Proofs.Ytgafkbnlhlbmkaa
