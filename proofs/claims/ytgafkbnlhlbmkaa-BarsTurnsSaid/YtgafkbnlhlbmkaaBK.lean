/- Walks (BK). Written by program. -/
import Derived.Test.YtgafkbnlhlbmkaaT
import Derived.Test.YtgafkbnlhlbmkaaBJ
namespace Go.Proofs.Ytgafkbnlhlbmkaa
open Go.RowKit
set_option maxRecDepth 100000 in
set_option maxHeartbeats 1000000 in
theorem barsTurns_ret (lv mv : Value) (l m : List UInt8) (w : World) (hl : RdL w 1 encB lv l) (hm : RdL w 1 encB mv m) :
    Ret Try.prog 5 [lv, mv] w (fun v w' => v = .bool true ∧ Ex w w') := by
  obtain ⟨lA, lC, rfl⟩ := hl.shape
  obtain ⟨mA, mC, rfl⟩ := hm.shape
  have hB0 : Ex w w := Ex.rfl_ _
  refine Ret.of Try.func5 rfl Try.ntmps5 rfl ?_
  refine CW.seq ?_
  refine CW.region ?_
  refine RG.vl rfl rfl rfl (Ev.assign rfl rfl) ?_
  refine RG.done ?_
  refine QW.then_ ?_
  refine CW.seq ?_
  refine CW.draw [] (.ex) 14 rfl mixed (fun wd1 hxwd1 => ?_)
  have hE2 := hxwd1
  refine AG.takeW 0 rfl (by kernel_rfl) (by kernel_rfl) rfl rfl rfl (fun _ => Ev.move rfl rfl) ?_
  refine AG.takeW 1 rfl (by kernel_rfl) (by kernel_rfl) rfl rfl rfl (fun _ => Ev.move rfl rfl) ?_
  refine AG.takeW 2 rfl (by kernel_rfl) (by kernel_rfl) rfl rfl rfl (fun _ => Ev.lenL rfl rfl rfl Try.underlying22 ((hl.ext hE2))) ?_
  refine AG.takeW 3 rfl (by kernel_rfl) (by kernel_rfl) rfl rfl rfl (fun _ => (Ev.min2 rfl rfl rfl rfl).conv (congrArg (Value.int .i64) (show min ((l.length : Nat) : Int) 95 = ((min l.length 95 : Nat) : Int) by omega))) ?_
  refine AG.sliceL (L := 0) (H := min l.length 95) _ 4 rfl (by kernel_rfl) (by kernel_rfl) rfl rfl rfl rfl rfl Try.underlying22 sz_5 (hl) (.inl ⟨rfl, rfl⟩) (.inr ⟨_, _, _, rfl, rfl, by omega⟩) (by omega) (by omega) (fun v3 hrv3 => ?_)
  refine AG.takeW 6 rfl (by kernel_rfl) (by kernel_rfl) rfl rfl rfl (fun _ => Ev.move rfl rfl) ?_
  refine AG.takeW 7 rfl (by kernel_rfl) (by kernel_rfl) rfl rfl rfl (fun _ => Ev.move rfl rfl) ?_
  refine AG.takeW 8 rfl (by kernel_rfl) (by kernel_rfl) rfl rfl rfl (fun _ => Ev.lenL rfl rfl rfl Try.underlying22 ((hm.ext hE2))) ?_
  refine AG.takeW 9 rfl (by kernel_rfl) (by kernel_rfl) rfl rfl rfl (fun _ => (Ev.min2 rfl rfl rfl rfl).conv (congrArg (Value.int .i64) (show min ((m.length : Nat) : Int) 95 = ((min m.length 95 : Nat) : Int) by omega))) ?_
  refine AG.sliceL (L := 0) (H := min m.length 95) _ 10 rfl (by kernel_rfl) (by kernel_rfl) rfl rfl rfl rfl rfl Try.underlying22 sz_5 (hm) (.inl ⟨rfl, rfl⟩) (.inr ⟨_, _, _, rfl, rfl, by omega⟩) (by omega) (by omega) (fun v4 hrv4 => ?_)
  refine AG.only 5 rfl (by kernel_rfl) ?_
  refine RG.call rfl rfl rfl rfl rfl rfl rfl en_16 (written_ret _ _ _ ((hrv3.ext hE2))) ?_
  rintro _ w6 ⟨rfl, hx6⟩
  replace hE2 := Ex.tr hE2 hx6
  have hE7 := hx6
  refine RG.done ?_
  refine QW.an (fun _ => hE7) ?_
  refine AG.only 11 rfl (by kernel_rfl) ?_
  refine RG.call rfl rfl rfl rfl rfl rfl rfl en_16 (written_ret _ _ _ ((hrv4.ext hE2))) ?_
  rintro _ w9 ⟨rfl, hx9⟩
  replace hE2 := Ex.tr hE2 hx9
  replace hE7 := Ex.tr hE7 hx9
  have hE10 := hx9
  refine RG.done ?_
  refine QW.an (fun _ => hE10) ?_
  refine AG.takeW 12 rfl (by kernel_rfl) (by kernel_rfl) rfl rfl rfl (fun _ => Ev.assign rfl rfl) ?_
  refine AG.takeW 13 rfl (by kernel_rfl) (by kernel_rfl) rfl rfl rfl (fun _ => Ev.assign rfl rfl) ?_
  refine AG.done (by kernel_rfl) ?_
  refine QW.sub (S' := [(4, _), (5, _), (6, _)]) ⟨rfl, rfl, rfl, trivial⟩ ?_
  refine QW.then_ ?_
  refine CW.seq ?_
  have hA1 := wrL_len ((l.take (min l.length 95)).drop 0)
  have hA2 := wrL_all ((l.take (min l.length 95)).drop 0)
  have hAl : ((l.take (min l.length 95)).drop 0).length ≤ 95 := by rw [take_min, List.length_take]; omega
  generalize wrL ((l.take (min l.length 95)).drop 0) = A at *
  have hB1 := wrL_len ((m.take (min m.length 95)).drop 0)
  have hB2 := wrL_all ((m.take (min m.length 95)).drop 0)
  have hBl : ((m.take (min m.length 95)).drop 0).length ≤ 95 := by rw [take_min, List.length_take]; omega
  generalize wrL ((m.take (min m.length 95)).drop 0) = B at *
  refine CW.region ?_
  refine RG.vl rfl rfl rfl (Ev.move rfl rfl) ?_
  refine RG.call rfl rfl rfl rfl rfl rfl rfl en_17 (turn_is A (turnL A) 0 _ (turnB_ok (by omega) hA2)) ?_
  rintro _ w11 ⟨rfl, hx11⟩
  replace hE2 := Ex.tr hE2 hx11
  replace hE7 := Ex.tr hE7 hx11
  replace hE10 := Ex.tr hE10 hx11
  have hE12 := hx11
  refine RG.vl rfl rfl rfl (Ev.move rfl rfl) ?_
  refine RG.vl rfl rfl rfl (Ev.extract rfl rfl rfl) ?_
  refine RG.vl rfl rfl rfl (Ev.extract rfl rfl rfl) ?_
  refine RG.vl rfl rfl rfl (Ev.assign rfl rfl) ?_
  refine RG.vl rfl rfl rfl (Ev.assign rfl rfl) ?_
  refine RG.done ?_
  refine QW.then_ ?_
  refine CW.seq ?_
  refine CW.region ?_
  refine RG.vl rfl rfl rfl (Ev.move rfl rfl) ?_
  refine RG.call rfl rfl rfl rfl rfl rfl rfl en_17 (turn_is B (turnL B) 0 _ (turnB_ok (by omega) hB2)) ?_
  rintro _ w13 ⟨rfl, hx13⟩
  replace hE2 := Ex.tr hE2 hx13
  replace hE7 := Ex.tr hE7 hx13
  replace hE10 := Ex.tr hE10 hx13
  replace hE12 := Ex.tr hE12 hx13
  have hE14 := hx13
  refine RG.vl rfl rfl rfl (Ev.move rfl rfl) ?_
  refine RG.vl rfl rfl rfl (Ev.extract rfl rfl rfl) ?_
  refine RG.vl rfl rfl rfl (Ev.extract rfl rfl rfl) ?_
  refine RG.vl rfl rfl rfl (Ev.assign rfl rfl) ?_
  refine RG.vl rfl rfl rfl (Ev.assign rfl rfl) ?_
  refine RG.done ?_
  refine QW.sub (S' := [(4, _), (5, _), (6, _), (7, _), (8, _), (9, _), (10, _)]) ⟨rfl, rfl, rfl, rfl, rfl, rfl, rfl, trivial⟩ ?_
  refine QW.then_ ?_
  refine CW.seq ?_
  refine CW.region ?_
  refine RG.vl rfl rfl rfl (Ev.move rfl rfl) ?_
  refine RG.call rfl rfl rfl rfl rfl rfl rfl en_17 (turn_is (turnL A) A 0 _ (by rw [turnB_ok (by rw [turnL_len]; omega) (turn_all hA2), turn_turn])) ?_
  rintro _ w15 ⟨rfl, hx15⟩
  replace hE2 := Ex.tr hE2 hx15
  replace hE7 := Ex.tr hE7 hx15
  replace hE10 := Ex.tr hE10 hx15
  replace hE12 := Ex.tr hE12 hx15
  replace hE14 := Ex.tr hE14 hx15
  have hE16 := hx15
  refine RG.vl rfl rfl rfl (Ev.move rfl rfl) ?_
  refine RG.vl rfl rfl rfl (Ev.extract rfl rfl rfl) ?_
  refine RG.vl rfl rfl rfl (Ev.extract rfl rfl rfl) ?_
  refine RG.vl rfl rfl rfl (Ev.assign rfl rfl) ?_
  refine RG.vl rfl rfl rfl (Ev.assign rfl rfl) ?_
  refine RG.done ?_
  refine QW.then_ ?_
  refine CW.seq ?_
  refine CW.region ?_
  refine RG.vl rfl rfl rfl (Ev.move rfl rfl) ?_
  refine RG.vl rfl rfl rfl (Ev.move rfl rfl) ?_
  refine RG.vl rfl rfl rfl ((Ev.cat rfl rfl rfl (by rw [sb_len, sb_len]; omega)).conv (congrArg Value.string (bx_cat A B))) ?_
  refine RG.call rfl rfl rfl rfl rfl rfl rfl en_17 (turn_is (A ++ B) (turnL B ++ turnL A) 0 _ (by rw [turnB_ok (by rw [List.length_append]; omega) (by rw [List.all_append, hA2, hB2]; rfl), turn_app])) ?_
  rintro _ w17 ⟨rfl, hx17⟩
  replace hE2 := Ex.tr hE2 hx17
  replace hE7 := Ex.tr hE7 hx17
  replace hE10 := Ex.tr hE10 hx17
  replace hE12 := Ex.tr hE12 hx17
  replace hE14 := Ex.tr hE14 hx17
  replace hE16 := Ex.tr hE16 hx17
  have hE18 := hx17
  refine RG.vl rfl rfl rfl (Ev.move rfl rfl) ?_
  refine RG.vl rfl rfl rfl (Ev.extract rfl rfl rfl) ?_
  refine RG.vl rfl rfl rfl (Ev.extract rfl rfl rfl) ?_
  refine RG.vl rfl rfl rfl (Ev.assign rfl rfl) ?_
  refine RG.vl rfl rfl rfl (Ev.assign rfl rfl) ?_
  refine RG.done ?_
  refine QW.sub (S' := [(4, _), (5, _), (7, _), (8, _), (9, _), (10, _), (11, _), (12, _), (13, _), (14, _)]) ⟨rfl, rfl, rfl, rfl, rfl, rfl, rfl, rfl, rfl, rfl, trivial⟩ ?_
  refine QW.then_ ?_
  refine CW.seq ?_
  refine CW.region ?_
  refine RG.vl rfl rfl rfl (Ev.move rfl rfl) ?_
  refine RG.vl rfl rfl rfl (Ev.isT (Ev.eqI rfl rfl rfl) (rfl)) ?_
  refine RG.vl rfl rfl rfl (Ev.move rfl rfl) ?_
  refine RG.vl rfl rfl rfl (Ev.move rfl rfl) ?_
  refine RG.vl rfl rfl rfl (Ev.isT (Ev.eqI rfl rfl rfl) (rfl)) ?_
  refine RG.vl rfl rfl rfl (Ev.pickT rfl rfl rfl) ?_
  refine RG.vl rfl rfl rfl (Ev.move rfl rfl) ?_
  refine RG.vl rfl rfl rfl (Ev.move rfl rfl) ?_
  refine RG.vl rfl rfl rfl (Ev.isT (Ev.eqI rfl rfl rfl) (rfl)) ?_
  refine RG.vl rfl rfl rfl (Ev.pickT rfl rfl rfl) ?_
  refine RG.vl rfl rfl rfl (Ev.move rfl rfl) ?_
  refine RG.vl rfl rfl rfl (Ev.move rfl rfl) ?_
  refine RG.vl rfl rfl rfl (Ev.isT (Ev.eqI rfl rfl rfl) (rfl)) ?_
  refine RG.vl rfl rfl rfl (Ev.pickT rfl rfl rfl) ?_
  refine RG.vl rfl rfl rfl (Ev.move rfl rfl) ?_
  refine RG.vl rfl rfl rfl (Ev.move rfl rfl) ?_
  refine RG.vl rfl rfl rfl (Ev.move rfl rfl) ?_
  refine RG.vl rfl rfl rfl (Ev.isT (Ev.eqS rfl rfl rfl) (rfl)) ?_
  refine RG.vl rfl rfl rfl (Ev.pickT rfl rfl rfl) ?_
  refine RG.vl rfl rfl rfl (Ev.move rfl rfl) ?_
  refine RG.vl rfl rfl rfl (Ev.move rfl rfl) ?_
  refine RG.vl rfl rfl rfl (Ev.move rfl rfl) ?_
  refine RG.vl rfl rfl rfl (Ev.move rfl rfl) ?_
  refine RG.vl rfl rfl rfl ((Ev.cat rfl rfl rfl (by rw [sb_len, sb_len, turnL_len, turnL_len]; omega)).conv (congrArg Value.string (bx_cat (turnL B) (turnL A)))) ?_
  refine RG.vl rfl rfl rfl (Ev.isT (Ev.eqS rfl rfl rfl) (rfl)) ?_
  refine RG.vl rfl rfl rfl (Ev.pickT rfl rfl rfl) ?_
  refine RG.vl rfl rfl rfl (Ev.move rfl rfl) ?_
  refine RG.call rfl rfl rfl rfl rfl rfl rfl en_10 (awake_ret _) ?_
  rintro _ w19 ⟨rfl, hx19⟩
  replace hE2 := Ex.tr hE2 hx19
  replace hE7 := Ex.tr hE7 hx19
  replace hE10 := Ex.tr hE10 hx19
  replace hE12 := Ex.tr hE12 hx19
  replace hE14 := Ex.tr hE14 hx19
  replace hE16 := Ex.tr hE16 hx19
  replace hE18 := Ex.tr hE18 hx19
  have hE20 := hx19
  refine RG.vl rfl rfl rfl (Ev.pickT rfl rfl rfl) ?_
  refine RG.vl rfl rfl rfl (Ev.assign rfl rfl) ?_
  refine RG.done ?_
  refine QW.sub (S' := [(4, _)]) ⟨rfl, trivial⟩ ?_
  refine QW.then_ ?_
  refine CW.ret ?_
  refine QW.ret1 rfl rfl ?_
  have hB := (Ex.tr hB0 hE2)
  exact ⟨rfl, hB⟩

end Go.Proofs.Ytgafkbnlhlbmkaa
