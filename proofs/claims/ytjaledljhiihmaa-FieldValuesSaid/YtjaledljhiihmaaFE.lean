/- Walks (FE). Written by program. -/
import Derived.Test.YtjaledljhiihmaaT
import Derived.Test.YtjaledljhiihmaaFX
namespace Go.Proofs.Ytjaledljhiihmaa
open Go.RowKit
set_option maxRecDepth 100000 in
set_option maxHeartbeats 4000000 in
theorem through_ret (u v : Value) (x y : List Nat) (w : World) (hl : RdL w 1 encN u x) (hm : RdL w 1 encN v y) (hlen : x.length ≤ 100000) :
    Ret Try.prog 25 [u, v] w (fun v w' => ∃ r t, v = .tuple #[r, .int .i64 (thrE x y)] ∧ Own w' w.heap.size 5 1 encN r t ∧ (thrE x y = 0 → IsThr x y t) ∧ (thrE x y ≠ 0 → t = []) ∧ Ex w w') := by
  obtain ⟨Au, Cu, rfl⟩ := hl.shape
  obtain ⟨Av, Cv, rfl⟩ := hm.shape
  have hB0 : Ex w w := Ex.rfl_ _
  refine Ret.of Try.func25 rfl Try.ntmps25 rfl ?_
  refine CW.seq ?_
  refine CW.region ?_
  refine RG.vl rfl rfl rfl (Ev.assign rfl rfl) ?_
  refine RG.vl rfl rfl rfl (Ev.assign rfl rfl) ?_
  refine RG.done ?_
  refine QW.then_ ?_
  refine CW.seq ?_
  refine CW.seq ?_
  refine CW.region ?_
  refine RG.vl rfl rfl rfl (Ev.move rfl rfl) ?_
  refine RG.vl rfl rfl rfl (Ev.move rfl rfl) ?_
  refine RG.litO (os := [.tmp 18, .tmp 19]) (enc := encV) ([_, _]) rfl rfl rfl rfl rfl rfl rfl Try.underlying76 inf_39 rfl rfl rfl rfl rfl encV_len rfl rfl (fun v1 wk2 hxwk2 hown3 hnew4 => ?_)
  have hE5 := hxwk2
  refine RG.call rfl rfl rfl rfl rfl rfl rfl en_44 (check2_ret _ _ _ _ _  _ ((hown3.rdl encV_len)) ((hl.ext hE5)) ((hm.ext hE5))) ?_
  rintro _ w6 ⟨rfl, hx6⟩
  replace hE5 := Ex.tr hE5 hx6
  have hE7 := hx6
  refine RG.vl rfl rfl rfl (Ev.assign rfl rfl) ?_
  refine RG.done ?_
  refine QW.then_ ?_
  refine CW.seq ?_
  refine CW.region ?_
  refine RG.vl rfl rfl rfl (Ev.move rfl rfl) ?_
  refine RG.vl rfl rfl rfl (Ev.neI rfl rfl rfl) ?_
  refine RG.done ?_
  refine QW.then_ ?_
  refine CW.condP rfl (fun hc8 => ?_) (fun hc8 => ?_)
  · refine CW.seq ?_
    refine CW.region ?_
    refine RG.vl rfl rfl rfl (Ev.move rfl rfl) ?_
    refine RG.vl rfl rfl rfl (Ev.assign rfl rfl) ?_
    refine RG.vl rfl rfl rfl (Ev.assign rfl rfl) ?_
    refine RG.done ?_
    refine QW.then_ ?_
    refine CW.ret ?_
    refine QW.thenRet ?_
    refine QW.ret2 rfl rfl rfl ?_
    have hB := (Ex.tr hB0 hE5)
    have hmE : thrE x y = errL [x, y] := by unfold thrE; rw [if_neg (by assumption)]
    exact ⟨_, [], by rw [hmE], Own.nil_ _ _ _ _ _, fun h => absurd h (by rw [hmE]; assumption), fun _ => rfl, hB⟩
  · refine CW.skip ?_
    refine QW.then_ ?_
    refine CW.seq ?_
    refine CW.seq ?_
    have he0 : errL [x, y] = 0 := by omega
    obtain ⟨⟨hx128, hxe⟩, hy128, hye⟩ := errL2 he0
    refine CW.region ?_
    refine RG.vl rfl rfl rfl (Ev.move rfl rfl) ?_
    refine RG.vl rfl rfl rfl (Ev.lenL rfl rfl rfl Try.underlying39 ((hl.ext hE5))) ?_
    refine RG.vl rfl rfl rfl (Ev.move rfl rfl) ?_
    refine RG.vl rfl rfl rfl (Ev.lenL rfl rfl rfl Try.underlying39 ((hm.ext hE5))) ?_
    refine RG.vl rfl rfl rfl (Ev.neI rfl rfl rfl) ?_
    refine RG.done ?_
    refine QW.sub (S' := [(0, _), (1, _), (4, _), (5, _), (29, _)]) ⟨rfl, rfl, rfl, rfl, rfl, trivial⟩ ?_
    refine QW.then_ ?_
    refine CW.condP rfl (fun hc9 => ?_) (fun hc9 => ?_)
    · refine CW.seq ?_
      refine CW.region ?_
      refine RG.vl rfl rfl rfl (Ev.assign rfl rfl) ?_
      refine RG.vl rfl rfl rfl (Ev.assign rfl rfl) ?_
      refine RG.done ?_
      refine QW.then_ ?_
      refine CW.ret ?_
      refine QW.thenRet ?_
      refine QW.ret2 rfl rfl rfl ?_
      have hB := (Ex.tr hB0 hE5)
      have hmE : thrE x y = 2 := by unfold thrE; rw [if_pos he0, if_neg (by omega)]
      exact ⟨_, [], by rw [hmE], Own.nil_ _ _ _ _ _, fun h => absurd h (by rw [hmE]; decide), fun _ => rfl, hB⟩
    · refine CW.skip ?_
      refine QW.then_ ?_
      refine CW.seq ?_
      refine CW.region ?_
      replace hl := (hl.ext hE5)
      replace hm := (hm.ext hE5)
      replace hown3 := (Own.ext hown3 hE7)
      have hR10 := (Ex.tr hB0 hE5)
      have hR11 := hE7
      refine RG.alloc_ rfl rfl rfl rfl inf_72 (fun gS w12 egS hx12 hb12 => ?_)
      have hsb13 := fun e => sep_new (g := gS) hown3 egS e
      have hle14 : w6.heap.size ≤ gS := by have := (Ex.rfl_ w6).size; omega
      have hE15 := hx12
      refine RG.done ?_
      refine QW.then_ ?_
      refine CW.seq ?_
      refine CW.seq ?_
      refine CW.region ?_
      refine RG.vl rfl rfl rfl (Ev.move rfl rfl) ?_
      refine RG.vl rfl rfl rfl (Ev.lenL rfl rfl rfl Try.underlying39 ((hl.ext hE15))) ?_
      refine RG.vl rfl rfl rfl (Ev.move rfl rfl) ?_
      refine RG.done ?_
      refine QW.then_ ?_
      refine CW.block ?_
      refine CW.loop1 [(0, _), (1, _), (7, _), (30, _), (31, _)] ⟨rfl, rfl, rfl, rfl, rfl, trivial⟩ (fun (i : Nat) => [(32, .int .i64 i)]) (fun i w' => (i ≤ x.length ∧ (x.take i).Nodup ∧ Blk w' gS 72 (seenL (x.take i))) ∧ Ex w6 w') (fun i => x.length - i) (0) ⟨rfl, trivial⟩ ⟨⟨Nat.zero_le _, by rw [List.take_zero]; exact List.nodup_nil, by rw [List.take_zero, ← seenL_nil]; exact hb12⟩, hE15⟩ ?_
      rintro i wl16 ⟨⟨hi, hnd0, hS⟩, hxwl16⟩
      refine CW.sub (S' := [(32, _), (0, _), (1, _), (7, _), (30, _), (31, _)]) ⟨rfl, rfl, rfl, rfl, rfl, rfl, trivial⟩ ?_
      refine CW.seq ?_
      refine CW.region ?_
      refine RG.vl rfl rfl rfl (Ev.lss rfl rfl rfl) ?_
      refine RG.done ?_
      refine QW.then_ ?_
      refine CW.seq ?_
      refine CW.condP rfl (fun hc17 => ?_) (fun hc17 => ?_)
      · refine CW.skip ?_
        refine QW.then_ ?_
        refine CW.seq ?_
        refine CW.block ?_
        refine CW.seq ?_
        obtain ⟨c, hc⟩ : ∃ c, x[i]? = some c := ⟨_, List.getElem?_eq_getElem (by omega)⟩
        have hc64 := hxe.get hc
        refine CW.region ?_
        refine RG.idxL rfl rfl rfl rfl rfl rfl Try.underlying39 sz_5 ((hl.ext hxwl16)) (hc) (fun p18 hp18b hp18 => ?_)
        refine RG.vl rfl rfl rfl (Ev.ld0 rfl rfl Try.underlying5 rfl (hp18) (rfl)) ?_
        refine RG.vl rfl rfl rfl (Ev.assign rfl rfl) ?_
        refine RG.done ?_
        refine QW.then_ ?_
        refine CW.seq ?_
        refine CW.seq ?_
        refine CW.region ?_
        refine RG.vl rfl rfl rfl (Ev.move rfl rfl) ?_
        refine RG.vl rfl rfl rfl (Ev.idxA rfl rfl rfl Try.underlying72 sz_4 (by omega)) ?_
        refine RG.vl rfl rfl rfl (Ev.ldAt rfl rfl Try.underlying4 rfl (hS.cells) (seenL_at _ _ hc64)) ?_
        refine RG.done ?_
        refine QW.then_ ?_
        refine CW.condP rfl (fun hc19 => ?_) (fun hc19 => ?_)
        · refine CW.seq ?_
          refine CW.region ?_
          refine RG.vl rfl rfl rfl (Ev.assign rfl rfl) ?_
          refine RG.vl rfl rfl rfl (Ev.assign rfl rfl) ?_
          refine RG.done ?_
          refine QW.then_ ?_
          refine CW.ret ?_
          refine QW.thenRet ?_
          refine QW.blockR ?_
          refine QW.thenRet ?_
          refine QW.thenRet ?_
          refine QW.blockR ?_
          refine QW.thenRet ?_
          refine QW.ret2 rfl rfl rfl ?_
          have hB := (Ex.tr hR10 hxwl16)
          have hmE : thrE x y = 2 := by unfold thrE; rw [if_pos he0, if_pos (by omega), if_neg (not_nodup hc (by assumption))]
          exact ⟨_, [], by rw [hmE], Own.nil_ _ _ _ _ _, fun h => absurd h (by rw [hmE]; decide), fun _ => rfl, hB⟩
        · refine CW.skip ?_
          refine QW.then_ ?_
          refine CW.region ?_
          refine RG.vl rfl rfl rfl (Ev.move rfl rfl) ?_
          refine RG.vl rfl rfl rfl (Ev.idxA rfl rfl rfl Try.underlying72 sz_4 (by omega)) ?_
          refine RG.st (g := gS) (k := _) rfl rfl rfl rfl rfl sz_4 rfl hS (by rw [Nat.blt_eq, seenL_len]; omega) (fun ws20 hwws20 hbws20 => ?_)
          replace hxwl16 := Wr.below hxwl16 hwws20 hle14
          refine RG.done ?_
          refine QW.blockN ?_
          refine QW.then_ ?_
          refine CW.region ?_
          refine RG.vl rfl rfl rfl (Ev.addI rfl rfl rfl (by omega)) ?_
          refine RG.vl rfl rfl rfl (Ev.move rfl rfl) ?_
          refine RG.done ?_
          refine QW.round1 (i + 1) ⟨rfl, trivial⟩ ⟨rfl, rfl, rfl, rfl, rfl, trivial⟩ ⟨⟨by omega, by rw [take_more x i c hc]; exact nodup_snoc hnd0 (by assumption), by rw [take_more x i c hc, ← seenL_set]; exact hbws20⟩, hxwl16⟩ (by omega)
      · refine CW.exit ?_
        refine QW.thenExit ?_
        refine QW.thenExit ?_
        refine QW.blockHit ?_
        refine QW.then_ ?_
        refine CW.seq ?_
        have e0 : i = x.length := by omega
        have hnd : x.Nodup := by rw [e0, List.take_length] at hnd0; exact hnd0
        refine CW.region ?_
        refine RG.call rfl rfl rfl rfl rfl rfl rfl en_45 (newTables_ret _) ?_
        rintro _ w21 ⟨gt21, rfl, hge21, ht21, hx21⟩
        replace hxwl16 := Ex.tr hxwl16 hx21
        have hE22 := hx21
        refine RG.vl rfl rfl rfl (Ev.assign rfl rfl) ?_
        refine RG.done ?_
        refine QW.then_ ?_
        refine CW.seq ?_
        replace hl := (hl.ext hxwl16)
        replace hm := (hm.ext hxwl16)
        replace hown3 := (Own.ext hown3 hxwl16)
        replace hS := (hS.ext hE22)
        have hR23 := (Ex.tr hR10 hxwl16)
        have hR24 := (Ex.tr hR11 hxwl16)
        have hR25 := hxwl16
        have hR26 := hE22
        refine CW.cut2 [(0, _), (1, _), (10, _)] ⟨rfl, rfl, rfl, trivial⟩ (fun (vp : Value) (vz : Value) => [(11, vp), (12, vz)]) (fun vp vz w' => (Own w' w21.heap.size 5 1 encN vp (List.replicate x.length 0) ∧ Own w' w21.heap.size 5 1 encN vz (List.replicate (x.length + 1) 0) ∧ Sep vp vz) ∧ Ex w21 w') ?_ ?_
        · refine CW.draw [] (.ex) 9 rfl mixed (fun wd28 hxwd28 => ?_)
          have hE29 := hxwd28
          refine AG.takeW 0 rfl (by kernel_rfl) (by kernel_rfl) rfl rfl rfl (fun _ => Ev.move rfl rfl) ?_
          refine AG.takeW 1 rfl (by kernel_rfl) (by kernel_rfl) rfl rfl rfl (fun _ => Ev.lenL rfl rfl rfl Try.underlying39 ((hl.ext hE29))) ?_
          refine AG.takeW 3 rfl (by kernel_rfl) (by kernel_rfl) rfl rfl rfl (fun _ => Ev.move rfl rfl) ?_
          refine AG.takeW 4 rfl (by kernel_rfl) (by kernel_rfl) rfl rfl rfl (fun _ => Ev.lenL rfl rfl rfl Try.underlying39 ((hl.ext hE29))) ?_
          refine AG.takeW 5 rfl (by kernel_rfl) (by kernel_rfl) rfl rfl rfl (fun _ => Ev.addI rfl rfl rfl (by omega)) ?_
          refine AG.two 2 6 rfl rfl (by kernel_rfl) ?_ ?_
          · refine RG.makeO (m := x.length) (enc := encN) 0 rfl rfl rfl rfl rfl rfl (by omega) Try.underlying39 inf_5 encN_len rfl rfl (by omega) (by simp only [maxLen]; omega) (fun v31 wk32 hxwk32 hown33 hnew34 => ?_)
            have hsep35 : Sep v31 _ := Sep.of_new (Own.ext hown3 hE29) hnew34
            replace hown33 := Own.low (B' := w21.heap.size) hown33 (by have := hE29.size; omega)
            replace hE29 := Ex.tr hE29 hxwk32
            have hE36 := hxwk32
            refine RG.done ?_
            refine QW.an (fun _ => hE36) ?_
            refine AG.takeW 7 rfl (by kernel_rfl) (by kernel_rfl) rfl rfl rfl (fun _ => Ev.assign rfl rfl) ?_
            refine AG.only 6 rfl (by kernel_rfl) ?_
            refine RG.makeO (m := x.length + 1) (enc := encN) 0 rfl rfl rfl rfl rfl rfl (by omega) Try.underlying39 inf_5 encN_len rfl rfl (by omega) (by simp only [maxLen]; omega) (fun v38 wk39 hxwk39 hown40 hnew41 => ?_)
            have hsep42 : Sep v38 _ := Sep.of_new (Own.ext hown3 hE29) hnew41
            have hsep43 : Sep v38 _ := Sep.of_new hown33 hnew41
            replace hown40 := Own.low (B' := w21.heap.size) hown40 (by have := hE29.size; omega)
            replace hE29 := Ex.tr hE29 hxwk39
            replace hE36 := Ex.tr hE36 hxwk39
            have hE44 := hxwk39
            refine RG.done ?_
            refine QW.an (fun _ => hE44) ?_
            refine AG.takeW 8 rfl (by kernel_rfl) (by kernel_rfl) rfl rfl rfl (fun _ => Ev.assign rfl rfl) ?_
            refine AG.done (by kernel_rfl) ?_
            refine QW.meet2 (v31) (v38) ⟨rfl, rfl, trivial⟩ ⟨rfl, rfl, rfl, trivial⟩ ⟨⟨(Own.ext hown33 hE44), hown40, (Sep.symm hsep43)⟩, hE29⟩
          · refine RG.makeO (m := x.length + 1) (enc := encN) 0 rfl rfl rfl rfl rfl rfl (by omega) Try.underlying39 inf_5 encN_len rfl rfl (by omega) (by simp only [maxLen]; omega) (fun v46 wk47 hxwk47 hown48 hnew49 => ?_)
            have hsep50 : Sep v46 _ := Sep.of_new (Own.ext hown3 hE29) hnew49
            replace hown48 := Own.low (B' := w21.heap.size) hown48 (by have := hE29.size; omega)
            replace hE29 := Ex.tr hE29 hxwk47
            have hE51 := hxwk47
            refine RG.done ?_
            refine QW.an (fun _ => hE51) ?_
            refine AG.only 2 rfl (by kernel_rfl) ?_
            refine RG.makeO (m := x.length) (enc := encN) 0 rfl rfl rfl rfl rfl rfl (by omega) Try.underlying39 inf_5 encN_len rfl rfl (by omega) (by simp only [maxLen]; omega) (fun v53 wk54 hxwk54 hown55 hnew56 => ?_)
            have hsep57 : Sep v53 _ := Sep.of_new (Own.ext hown3 hE29) hnew56
            have hsep58 : Sep v53 _ := Sep.of_new hown48 hnew56
            replace hown55 := Own.low (B' := w21.heap.size) hown55 (by have := hE29.size; omega)
            replace hE29 := Ex.tr hE29 hxwk54
            replace hE51 := Ex.tr hE51 hxwk54
            have hE59 := hxwk54
            refine RG.done ?_
            refine QW.an (fun _ => hE59) ?_
            refine AG.takeW 7 rfl (by kernel_rfl) (by kernel_rfl) rfl rfl rfl (fun _ => Ev.assign rfl rfl) ?_
            refine AG.takeW 8 rfl (by kernel_rfl) (by kernel_rfl) rfl rfl rfl (fun _ => Ev.assign rfl rfl) ?_
            refine AG.done (by kernel_rfl) ?_
            refine QW.meet2 (v53) (v46) ⟨rfl, rfl, trivial⟩ ⟨rfl, rfl, rfl, trivial⟩ ⟨⟨hown55, (Own.ext hown48 hE59), hsep58⟩, hE29⟩
        · rintro vp vz wm27 ⟨⟨hvp, hvz, hsepz⟩, hxwm27⟩
          refine QW.then_ ?_
          refine CW.seq ?_
          refine CW.region ?_
          refine RG.vl rfl rfl rfl (Ev.move rfl rfl) ?_
          refine RG.idxO (i := 0) rfl rfl rfl rfl rfl rfl Try.underlying39 sz_5 encN_len (hvz) (rfl) (fun g61 hg61 hBg61 hp60b hp60 => ?_)
          refine RG.stOw0 (g := g61) (1) rfl rfl rfl rfl rfl sz_5 rfl (fun _ => rfl) hvz hg61 (rfl) rfl (rfl) (fun ws62 hwws62 hown63 => ?_)
          replace hvp := Own.far hvp hwws62 (fun e => (Sep.symm hsepz) _ hg61 e)
          replace hxwm27 := Wr.below hxwm27 hwws62 hBg61
          refine RG.done ?_
          refine QW.then_ ?_
          refine CW.seq ?_
          refine CW.seq ?_
          refine CW.region ?_
          refine RG.vl rfl rfl rfl (Ev.move rfl rfl) ?_
          refine RG.vl rfl rfl rfl (Ev.lenL rfl rfl rfl Try.underlying39 ((hl.ext hxwm27))) ?_
          refine RG.vl rfl rfl rfl (Ev.move rfl rfl) ?_
          refine RG.done ?_
          refine QW.then_ ?_
          refine CW.block ?_
          refine CW.loop3 [(1, _), (10, _), (11, _), (12, _), (52, _), (53, _)] ⟨rfl, rfl, rfl, rfl, rfl, rfl, trivial⟩ (fun (i : Nat) (P : List Nat) (Z : List Nat) => [(54, .int .i64 i)]) (fun i P Z w' => (i ≤ x.length ∧ Thr x y P Z i ∧ Own w' w21.heap.size 5 1 encN vp P ∧ Own w' w21.heap.size 5 1 encN vz Z) ∧ Ex w21 w') (fun i P Z => x.length - i) (0) (List.replicate x.length 0) ((List.replicate (x.length + 1) 0).set 0 1) ⟨rfl, trivial⟩ ⟨⟨Nat.zero_le _, thr_start x y, hvp, hown63⟩, hxwm27⟩ ?_
          rintro i P Z wl64 ⟨⟨hi, hthr, hvp, hvz⟩, hxwl64⟩
          refine CW.sub (S' := [(54, _), (1, _), (10, _), (11, _), (12, _), (52, _), (53, _)]) ⟨rfl, rfl, rfl, rfl, rfl, rfl, rfl, trivial⟩ ?_
          refine CW.seq ?_
          refine CW.region ?_
          refine RG.vl rfl rfl rfl (Ev.lss rfl rfl rfl) ?_
          refine RG.done ?_
          refine QW.then_ ?_
          refine CW.seq ?_
          refine CW.condP rfl (fun hc65 => ?_) (fun hc65 => ?_)
          · refine CW.skip ?_
            refine QW.then_ ?_
            refine CW.seq ?_
            refine CW.block ?_
            refine CW.seq ?_
            obtain ⟨a, ha⟩ : ∃ a, x[i]? = some a := ⟨_, List.getElem?_eq_getElem (by omega)⟩
            obtain ⟨b, hb⟩ : ∃ b, y[i]? = some b := ⟨_, List.getElem?_eq_getElem (by omega)⟩
            have ha64 := hxe.get ha
            have hb64 := hye.get hb
            have hPl := hthr.pl
            have hZl := hthr.zl
            have hev1 := evl_lt P a hthr.pe
            have hev2 := evl_lt Z a hthr.ze
            have hgi := (gi_lt (evl Z a)).2
            have hxr := xor_lt64 _ _ hb64 hev1
            have hC64 : (gm (b ^^^ evl P a) (gi (evl Z a))) < 64 := gm_lt _ _
            refine CW.region ?_
            refine RG.vl rfl rfl rfl (Ev.move rfl rfl) ?_
            refine RG.idxL rfl rfl rfl rfl rfl rfl Try.underlying39 sz_5 ((hl.ext hxwl64)) (ha) (fun p66 hp66b hp66 => ?_)
            refine RG.vl rfl rfl rfl (Ev.ld0 rfl rfl Try.underlying5 rfl (hp66) (rfl)) ?_
            refine RG.vl rfl rfl rfl (Ev.assign rfl rfl) ?_
            refine RG.vl rfl rfl rfl (Ev.assign rfl rfl) ?_
            refine RG.done ?_
            refine QW.then_ ?_
            refine CW.seq ?_
            refine CW.draw [] (.ex) 18 rfl mixed (fun wd67 hxwd67 => ?_)
            replace hxwl64 := Ex.tr hxwl64 hxwd67
            have hE68 := hxwd67
            refine AG.takeW 0 rfl (by kernel_rfl) (by kernel_rfl) rfl rfl rfl (fun _ => Ev.move rfl rfl) ?_
            refine AG.takeW 1 rfl (by kernel_rfl) (by kernel_rfl) rfl rfl rfl (fun _ => Ev.move rfl rfl) ?_
            refine AG.takeW 2 rfl (by kernel_rfl) (by kernel_rfl) rfl rfl rfl (fun _ => Ev.move rfl rfl) ?_
            refine AG.idxL _ 3 rfl (by kernel_rfl) (by kernel_rfl) rfl rfl rfl rfl rfl rfl Try.underlying39 sz_5 ((hm.ext hxwl64)) (hb) (fun p69 hp69b hp69 => ?_)
            refine AG.take 4 rfl (by kernel_rfl) (by kernel_rfl) rfl rfl rfl (fun wq hq => Ev.ld0 rfl rfl Try.underlying5 rfl (hp69.ext hq hp69b) (rfl)) ?_
            refine AG.takeW 5 rfl (by kernel_rfl) (by kernel_rfl) rfl rfl rfl (fun _ => Ev.move rfl rfl) ?_
            refine AG.takeW 6 rfl (by kernel_rfl) (by kernel_rfl) rfl rfl rfl (fun _ => Ev.move rfl rfl) ?_
            refine AG.takeW 7 rfl (by kernel_rfl) (by kernel_rfl) rfl rfl rfl (fun _ => Ev.move rfl rfl) ?_
            refine AG.takeW 10 rfl (by kernel_rfl) (by kernel_rfl) rfl rfl rfl (fun _ => Ev.move rfl rfl) ?_
            refine AG.takeW 11 rfl (by kernel_rfl) (by kernel_rfl) rfl rfl rfl (fun _ => Ev.move rfl rfl) ?_
            refine AG.takeW 12 rfl (by kernel_rfl) (by kernel_rfl) rfl rfl rfl (fun _ => Ev.move rfl rfl) ?_
            refine AG.takeW 13 rfl (by kernel_rfl) (by kernel_rfl) rfl rfl rfl (fun _ => Ev.move rfl rfl) ?_
            refine AG.only 8 rfl (by kernel_rfl) ?_
            refine RG.call rfl rfl rfl rfl rfl rfl rfl en_49 (eval_ret _ _ _ _ _ (ht21.ext hxwl64) (((Own.ext hvp hE68).rdl encN_len)) (by omega) (by exact hthr.pe) (by exact ha64)) ?_
            rintro _ w71 ⟨rfl, hx71⟩
            replace hxwl64 := Ex.tr hxwl64 hx71
            replace hE68 := Ex.tr hE68 hx71
            have hE72 := hx71
            refine RG.done ?_
            refine QW.an (fun _ => hE72) ?_
            refine AG.takeW 9 rfl (by kernel_rfl) (by kernel_rfl) rfl rfl rfl (fun _ => Ev.xor8 rfl rfl rfl (by omega) (by omega)) ?_
            refine AG.only 14 rfl (by kernel_rfl) ?_
            refine RG.call rfl rfl rfl rfl rfl rfl rfl en_49 (eval_ret _ _ _ _ _ (ht21.ext hxwl64) (((Own.ext hvz hE68).rdl encN_len)) (by omega) (by exact hthr.ze) (by exact ha64)) ?_
            rintro _ w74 ⟨rfl, hx74⟩
            replace hxwl64 := Ex.tr hxwl64 hx74
            replace hE68 := Ex.tr hE68 hx74
            replace hE72 := Ex.tr hE72 hx74
            have hE75 := hx74
            refine RG.done ?_
            refine QW.an (fun _ => hE75) ?_
            refine AG.only 15 rfl (by kernel_rfl) ?_
            refine RG.call rfl rfl rfl rfl rfl rfl rfl en_51 (inv_ret _ _ _ (ht21.ext hxwl64) (by exact hev2)) ?_
            rintro _ w77 ⟨rfl, hx77⟩
            replace hxwl64 := Ex.tr hxwl64 hx77
            replace hE68 := Ex.tr hE68 hx77
            replace hE72 := Ex.tr hE72 hx77
            replace hE75 := Ex.tr hE75 hx77
            have hE78 := hx77
            refine RG.done ?_
            refine QW.an (fun _ => hE78) ?_
            refine AG.only 16 rfl (by kernel_rfl) ?_
            refine RG.call rfl rfl rfl rfl rfl rfl rfl en_46 (mul_ret _ _ _ _ (ht21.ext hxwl64) (by exact hxr) (by exact hgi)) ?_
            rintro _ w80 ⟨rfl, hx80⟩
            replace hxwl64 := Ex.tr hxwl64 hx80
            replace hE68 := Ex.tr hE68 hx80
            replace hE72 := Ex.tr hE72 hx80
            replace hE75 := Ex.tr hE75 hx80
            replace hE78 := Ex.tr hE78 hx80
            have hE81 := hx80
            refine RG.done ?_
            refine QW.an (fun _ => hE81) ?_
            refine AG.takeW 17 rfl (by kernel_rfl) (by kernel_rfl) rfl rfl rfl (fun _ => Ev.assign rfl rfl) ?_
            refine AG.done (by kernel_rfl) ?_
            refine QW.sub (S' := [(1, _), (10, _), (11, _), (12, _), (14, _), (15, _), (52, _), (53, _), (54, _)]) ⟨rfl, rfl, rfl, rfl, rfl, rfl, rfl, rfl, rfl, trivial⟩ ?_
            refine QW.then_ ?_
            refine CW.seq ?_
            refine CW.seq ?_
            refine CW.region ?_
            refine RG.vl rfl rfl rfl (Ev.move rfl rfl) ?_
            refine RG.vl rfl rfl rfl (Ev.lenL rfl rfl rfl Try.underlying39 (((Own.ext hvp hE68).rdl encN_len))) ?_
            refine RG.vl rfl rfl rfl (Ev.move rfl rfl) ?_
            refine RG.done ?_
            refine QW.then_ ?_
            refine CW.block ?_
            refine CW.loop2 [(1, _), (10, _), (11, _), (12, _), (14, _), (15, _), (52, _), (53, _), (54, _), (77, _)] ⟨rfl, rfl, rfl, rfl, rfl, rfl, rfl, rfl, rfl, rfl, trivial⟩ (fun (j : Nat) (L : List Nat) => [(78, .int .i64 j)]) (fun j L w' => (j ≤ P.length ∧ Cfs L P.length (thF P Z (gm (b ^^^ evl P a) (gi (evl Z a))) j) ∧ Own w' w21.heap.size 5 1 encN vp L ∧ Own w' w21.heap.size 5 1 encN vz Z) ∧ Ex w21 w') (fun j L => P.length - j) (0) (P) ⟨rfl, trivial⟩ ⟨⟨Nat.zero_le _, thF_start P Z _, (Own.ext hvp hE68), (Own.ext hvz hE68)⟩, hxwl64⟩ ?_
            rintro j L wl82 ⟨⟨hj, hL, hvp, hvz⟩, hxwl82⟩
            refine CW.sub (S' := [(78, _), (1, _), (10, _), (11, _), (12, _), (14, _), (15, _), (52, _), (53, _), (54, _), (77, _)]) ⟨rfl, rfl, rfl, rfl, rfl, rfl, rfl, rfl, rfl, rfl, rfl, trivial⟩ ?_
            refine CW.seq ?_
            refine CW.region ?_
            refine RG.vl rfl rfl rfl (Ev.lss rfl rfl rfl) ?_
            refine RG.done ?_
            refine QW.then_ ?_
            refine CW.seq ?_
            refine CW.condP rfl (fun hc83 => ?_) (fun hc83 => ?_)
            · refine CW.skip ?_
              refine QW.then_ ?_
              refine CW.seq ?_
              refine CW.block ?_
              refine CW.seq ?_
              have hLl := hL.1
              have hZj : Z[j]? = some (cf Z j) := getElem?_cf (by omega)
              have hZ64 := hthr.ze.cf j
              refine CW.region ?_
              refine RG.vl rfl rfl rfl (Ev.move rfl rfl) ?_
              refine RG.vl rfl rfl rfl (Ev.assign rfl rfl) ?_
              refine RG.done ?_
              refine QW.then_ ?_
              refine CW.draw [13] (.ex) 14 rfl mixed (fun wd84 hxwd84 => ?_)
              replace hxwl82 := Ex.tr hxwl82 hxwd84
              have hE85 := hxwd84
              refine AG.takeW 0 rfl (by kernel_rfl) (by kernel_rfl) rfl rfl rfl (fun _ => Ev.move rfl rfl) ?_
              refine AG.takeW 1 rfl (by kernel_rfl) (by kernel_rfl) rfl rfl rfl (fun _ => Ev.move rfl rfl) ?_
              refine AG.idxO _ 2 rfl (by kernel_rfl) (by kernel_rfl) rfl rfl rfl rfl rfl rfl Try.underlying39 sz_5 encN_len ((Own.ext hvp hE85)) (hL.get (by omega)) (fun g87 hg87 hBg87 hp86b hp86 => ?_)
              refine AG.take 3 rfl (by kernel_rfl) (by kernel_rfl) rfl rfl rfl (fun wq hq => Ev.ld0 rfl rfl Try.underlying5 rfl (hp86.ext hq hp86b) (rfl)) ?_
              refine AG.takeW 4 rfl (by kernel_rfl) (by kernel_rfl) rfl rfl rfl (fun _ => Ev.move rfl rfl) ?_
              refine AG.takeW 5 rfl (by kernel_rfl) (by kernel_rfl) rfl rfl rfl (fun _ => Ev.move rfl rfl) ?_
              refine AG.takeW 6 rfl (by kernel_rfl) (by kernel_rfl) rfl rfl rfl (fun _ => Ev.move rfl rfl) ?_
              refine AG.takeW 7 rfl (by kernel_rfl) (by kernel_rfl) rfl rfl rfl (fun _ => Ev.move rfl rfl) ?_
              refine AG.idxO _ 8 rfl (by kernel_rfl) (by kernel_rfl) rfl rfl rfl rfl rfl rfl Try.underlying39 sz_5 encN_len ((Own.ext hvz hE85)) (hZj) (fun g89 hg89 hBg89 hp88b hp88 => ?_)
              refine AG.take 9 rfl (by kernel_rfl) (by kernel_rfl) rfl rfl rfl (fun wq hq => Ev.ld0 rfl rfl Try.underlying5 rfl (hp88.ext hq hp88b) (rfl)) ?_
              refine AG.only 10 rfl (by kernel_rfl) ?_
              refine RG.call rfl rfl rfl rfl rfl rfl rfl en_46 (mul_ret _ _ _ _ (ht21.ext hxwl82) (by exact hC64) (by exact hZ64)) ?_
              rintro _ w91 ⟨rfl, hx91⟩
              replace hxwl82 := Ex.tr hxwl82 hx91
              replace hE85 := Ex.tr hE85 hx91
              have hE92 := hx91
              refine RG.done ?_
              refine QW.an (fun _ => hE92) ?_
              refine AG.takeW 11 rfl (by kernel_rfl) (by kernel_rfl) rfl rfl rfl (fun _ => Ev.xor8 rfl rfl rfl (by have := thF_lt hthr.pe Z (gm (b ^^^ evl P a) (gi (evl Z a))) j j; have := gm_lt (gm (b ^^^ evl P a) (gi (evl Z a))) (cf Z j); omega) (by have := thF_lt hthr.pe Z (gm (b ^^^ evl P a) (gi (evl Z a))) j j; have := gm_lt (gm (b ^^^ evl P a) (gi (evl Z a))) (cf Z j); omega)) ?_
              refine AG.idxO _ 12 rfl (by kernel_rfl) (by kernel_rfl) rfl rfl rfl rfl rfl rfl Try.underlying39 sz_5 encN_len ((Own.ext hvp hE85)) (hL.get (by omega)) (fun g94 hg94 hBg94 hp93b hp93 => ?_)
              refine AG.only 13 rfl (by kernel_rfl) ?_
              refine RG.stOw0 (g := g94) (_) rfl rfl rfl rfl rfl sz_5 rfl (fun _ => rfl) (Own.ext hvp hE85) hg94 (hL.get (by omega)) rfl (rfl) (fun ws96 hwws96 hown97 => ?_)
              replace hvz := Own.far (Own.ext hvz hE85) hwws96 (fun e => hsepz _ hg94 e)
              replace hxwl82 := Wr.below hxwl82 hwws96 hBg94
              refine RG.done ?_
              refine QW.an (fun h => by simp at h) ?_
              refine AG.done (by kernel_rfl) ?_
              refine QW.sub (S' := [(1, _), (10, _), (11, _), (12, _), (14, _), (15, _), (52, _), (53, _), (54, _), (77, _), (78, _)]) ⟨rfl, rfl, rfl, rfl, rfl, rfl, rfl, rfl, rfl, rfl, rfl, trivial⟩ ?_
              refine QW.blockN ?_
              refine QW.then_ ?_
              refine CW.region ?_
              refine RG.vl rfl rfl rfl (Ev.addI rfl rfl rfl (by omega)) ?_
              refine RG.vl rfl rfl rfl (Ev.move rfl rfl) ?_
              refine RG.done ?_
              refine QW.round2 (j + 1) (_) ⟨rfl, trivial⟩ ⟨rfl, rfl, rfl, rfl, rfl, rfl, rfl, rfl, rfl, rfl, trivial⟩ ⟨⟨by omega, thF_step hL (by omega), hown97, hvz⟩, hxwl82⟩ (by omega)
            · refine CW.exit ?_
              refine QW.thenExit ?_
              refine QW.thenExit ?_
              refine QW.blockHit ?_
              refine QW.then_ ?_
              refine CW.seq ?_
              refine CW.region ?_
              refine RG.vl rfl rfl rfl (Ev.move rfl rfl) ?_
              refine RG.vl rfl rfl rfl (Ev.lenL rfl rfl rfl Try.underlying39 ((hvz.rdl encN_len))) ?_
              refine RG.vl rfl rfl rfl (Ev.subI rfl rfl rfl (by omega)) ?_
              refine RG.vl rfl rfl rfl (Ev.assign rfl rfl) ?_
              refine RG.done ?_
              refine QW.then_ ?_
              refine CW.block ?_
              refine CW.loop2 [(1, _), (10, _), (11, _), (12, _), (14, _), (52, _), (53, _), (54, _)] ⟨rfl, rfl, rfl, rfl, rfl, rfl, rfl, rfl, trivial⟩ (fun (k1 : Nat) (M : List Nat) => [(17, .int .i64 ((k1 : Int) - 1))]) (fun k1 M w' => (k1 ≤ Z.length ∧ Cfs M Z.length (zF Z a k1) ∧ Own w' w21.heap.size 5 1 encN vp L ∧ Own w' w21.heap.size 5 1 encN vz M) ∧ Ex w21 w') (fun k1 M => k1) (Z.length) (Z) ⟨rfl, trivial⟩ ⟨⟨Nat.le_refl _, zF_start Z a, hvp, hvz⟩, hxwl82⟩ ?_
              rintro k1 M wl98 ⟨⟨hk1, hM, hvp, hvz⟩, hxwl98⟩
              refine CW.sub (S' := [(17, _), (1, _), (10, _), (11, _), (12, _), (14, _), (52, _), (53, _), (54, _)]) ⟨rfl, rfl, rfl, rfl, rfl, rfl, rfl, rfl, rfl, trivial⟩ ?_
              refine CW.seq ?_
              refine CW.seq ?_
              refine CW.region ?_
              refine RG.vl rfl rfl rfl (Ev.move rfl rfl) ?_
              refine RG.vl rfl rfl rfl (Ev.geq rfl rfl rfl) ?_
              refine RG.done ?_
              refine QW.then_ ?_
              refine CW.condP rfl (fun hc99 => ?_) (fun hc99 => ?_)
              · refine CW.skip ?_
                refine QW.then_ ?_
                refine CW.seq ?_
                refine CW.block ?_
                refine CW.seq ?_
                obtain ⟨k, rfl⟩ : ∃ k, k1 = k + 1 := ⟨k1 - 1, by omega⟩
                have hMl := hM.1
                have hMk : M[k]? = some (cf Z k) := by rw [← zF_at Z a k]; exact hM.get (by omega)
                have hZ64 := hthr.ze.cf k
                refine CW.region ?_
                refine RG.vl rfl rfl rfl (Ev.move rfl rfl) ?_
                refine RG.vl rfl rfl rfl ((Ev.move rfl rfl).conv (congrArg (Value.int .i64) (show ((k + 1 : Nat) : Int) - 1 = (k : Int) by omega))) ?_
                refine RG.vl rfl rfl rfl (Ev.move rfl rfl) ?_
                refine RG.vl rfl rfl rfl (Ev.move rfl rfl) ?_
                refine RG.vl rfl rfl rfl ((Ev.move rfl rfl).conv (congrArg (Value.int .i64) (show ((k + 1 : Nat) : Int) - 1 = (k : Int) by omega))) ?_
                refine RG.idxO rfl rfl rfl rfl rfl rfl Try.underlying39 sz_5 encN_len (hvz) (hMk) (fun g101 hg101 hBg101 hp100b hp100 => ?_)
                refine RG.vl rfl rfl rfl (Ev.ld0 rfl rfl Try.underlying5 rfl (hp100) (rfl)) ?_
                refine RG.vl rfl rfl rfl (Ev.move rfl rfl) ?_
                refine RG.call rfl rfl rfl rfl rfl rfl rfl en_46 (mul_ret _ _ _ _ (ht21.ext hxwl98) (by exact hZ64) (by exact ha64)) ?_
                rintro _ w102 ⟨rfl, hx102⟩
                replace hxwl98 := Ex.tr hxwl98 hx102
                have hE103 := hx102
                refine RG.idxO rfl rfl rfl rfl rfl rfl Try.underlying39 sz_5 encN_len ((Own.ext hvz hE103)) (hMk) (fun g105 hg105 hBg105 hp104b hp104 => ?_)
                refine RG.stOw0 (g := g105) (_) rfl rfl rfl rfl rfl sz_5 rfl (fun _ => rfl) (Own.ext hvz hE103) hg105 (hMk) rfl (rfl) (fun ws106 hwws106 hown107 => ?_)
                replace hvp := Own.far (Own.ext hvp hE103) hwws106 (fun e => (Sep.symm hsepz) _ hg105 e)
                replace hxwl98 := Wr.below hxwl98 hwws106 hBg105
                refine RG.done ?_
                refine QW.then_ ?_
                refine CW.seq ?_
                refine CW.region ?_
                refine RG.vl rfl rfl rfl (Ev.move rfl rfl) ?_
                refine RG.vl rfl rfl rfl (Ev.gtr rfl rfl rfl) ?_
                refine RG.done ?_
                refine QW.sub (S' := [(1, _), (10, _), (11, _), (12, _), (14, _), (17, _), (52, _), (53, _), (54, _), (113, _)]) ⟨rfl, rfl, rfl, rfl, rfl, rfl, rfl, rfl, rfl, rfl, trivial⟩ ?_
                refine QW.then_ ?_
                refine CW.condP rfl (fun hc108 => ?_) (fun hc108 => ?_)
                · obtain ⟨k0, rfl⟩ : ∃ k0, k = k0 + 1 := ⟨k - 1, by omega⟩
                  have hMl := hM.1
                  have hM2 : (M.set (k0 + 1) (gm (cf Z (k0 + 1)) a))[k0]? = some (cf Z k0) := by rw [List.getElem?_set_ne (by omega), hM.get (by omega)]; unfold zF; rw [if_pos (by omega)]
                  have hg1 := gm_lt (cf Z (k0 + 1)) a
                  have hz3 := hthr.ze.cf k0
                  refine CW.draw [11] (.ex) 12 rfl mixed (fun wd109 hxwd109 => ?_)
                  replace hxwl98 := Ex.tr hxwl98 hxwd109
                  have hE110 := hxwd109
                  refine AG.takeW 0 rfl (by kernel_rfl) (by kernel_rfl) rfl rfl rfl (fun _ => Ev.move rfl rfl) ?_
                  refine AG.takeW 1 rfl (by kernel_rfl) (by kernel_rfl) rfl rfl rfl (fun _ => (Ev.move rfl rfl).conv (congrArg (Value.int .i64) (show ((k0 + 1 + 1 : Nat) : Int) - 1 = ((k0 + 1 : Nat) : Int) by omega))) ?_
                  refine AG.idxO _ 2 rfl (by kernel_rfl) (by kernel_rfl) rfl rfl rfl rfl rfl rfl Try.underlying39 sz_5 encN_len ((Own.ext hown107 hE110)) (List.getElem?_set_self (by omega)) (fun g112 hg112 hBg112 hp111b hp111 => ?_)
                  refine AG.take 3 rfl (by kernel_rfl) (by kernel_rfl) rfl rfl rfl (fun wq hq => Ev.ld0 rfl rfl Try.underlying5 rfl (hp111.ext hq hp111b) (rfl)) ?_
                  refine AG.takeW 4 rfl (by kernel_rfl) (by kernel_rfl) rfl rfl rfl (fun _ => Ev.move rfl rfl) ?_
                  refine AG.takeW 5 rfl (by kernel_rfl) (by kernel_rfl) rfl rfl rfl (fun _ => (Ev.move rfl rfl).conv (congrArg (Value.int .i64) (show ((k0 + 1 + 1 : Nat) : Int) - 1 = ((k0 + 1 : Nat) : Int) by omega))) ?_
                  refine AG.takeW 6 rfl (by kernel_rfl) (by kernel_rfl) rfl rfl rfl (fun _ => (Ev.subI rfl rfl rfl (by omega)).conv (congrArg (Value.int .i64) (show ((k0 + 1 : Nat) : Int) - 1 = (k0 : Int) by omega))) ?_
                  refine AG.idxO _ 7 rfl (by kernel_rfl) (by kernel_rfl) rfl rfl rfl rfl rfl rfl Try.underlying39 sz_5 encN_len ((Own.ext hown107 hE110)) (hM2) (fun g114 hg114 hBg114 hp113b hp113 => ?_)
                  refine AG.take 8 rfl (by kernel_rfl) (by kernel_rfl) rfl rfl rfl (fun wq hq => Ev.ld0 rfl rfl Try.underlying5 rfl (hp113.ext hq hp113b) (rfl)) ?_
                  refine AG.takeW 9 rfl (by kernel_rfl) (by kernel_rfl) rfl rfl rfl (fun _ => Ev.xor8 rfl rfl rfl (by omega) (by omega)) ?_
                  refine AG.idxO _ 10 rfl (by kernel_rfl) (by kernel_rfl) rfl rfl rfl rfl rfl rfl Try.underlying39 sz_5 encN_len ((Own.ext hown107 hE110)) (List.getElem?_set_self (by omega)) (fun g116 hg116 hBg116 hp115b hp115 => ?_)
                  refine AG.only 11 rfl (by kernel_rfl) ?_
                  refine RG.stOw0 (g := g116) (_) rfl rfl rfl rfl rfl sz_5 rfl (fun _ => rfl) (Own.ext hown107 hE110) hg116 (List.getElem?_set_self (by omega)) rfl (rfl) (fun ws118 hwws118 hown119 => ?_)
                  replace hvp := Own.far (Own.ext hvp hE110) hwws118 (fun e => (Sep.symm hsepz) _ hg116 e)
                  replace hxwl98 := Wr.below hxwl98 hwws118 hBg116
                  refine RG.done ?_
                  refine QW.an (fun h => by simp at h) ?_
                  refine AG.done (by kernel_rfl) ?_
                  refine QW.blockN ?_
                  refine QW.then_ ?_
                  refine CW.region ?_
                  refine RG.vl rfl rfl rfl (Ev.move rfl rfl) ?_
                  refine RG.vl rfl rfl rfl (Ev.subI rfl rfl rfl (by omega)) ?_
                  refine RG.vl rfl rfl rfl (Ev.assign rfl rfl) ?_
                  refine RG.done ?_
                  refine QW.sub (S' := [(1, _), (10, _), (11, _), (12, _), (14, _), (17, _), (52, _), (53, _), (54, _)]) ⟨rfl, rfl, rfl, rfl, rfl, rfl, rfl, rfl, rfl, trivial⟩ ?_
                  refine QW.round2 (k0 + 1) (_) ⟨congrArg (fun x => some (Value.int .i64 x)) (show _ by exact (by omega : ((k0 + 1 + 1 : Nat) : Int) - 1 - 1 = ((k0 + 1 : Nat) : Int) - 1)), trivial⟩ ⟨rfl, rfl, rfl, rfl, rfl, rfl, rfl, rfl, trivial⟩ ⟨⟨by omega, zF_one hM (by omega) _ (by unfold zF; rw [if_neg (by omega), if_neg (by omega)]; rfl) _, hvp, hown119⟩, hxwl98⟩ (by omega)
                · refine CW.skip ?_
                  refine QW.blockN ?_
                  refine QW.then_ ?_
                  refine CW.region ?_
                  refine RG.vl rfl rfl rfl (Ev.move rfl rfl) ?_
                  refine RG.vl rfl rfl rfl (Ev.subI rfl rfl rfl (by omega)) ?_
                  refine RG.vl rfl rfl rfl (Ev.assign rfl rfl) ?_
                  refine RG.done ?_
                  refine QW.round2 (0) (_) ⟨congrArg (fun x => some (Value.int .i64 x)) (show _ by exact (by omega : ((k + 1 : Nat) : Int) - 1 - 1 = ((0 : Nat) : Int) - 1)), trivial⟩ ⟨rfl, rfl, rfl, rfl, rfl, rfl, rfl, rfl, trivial⟩ ⟨⟨by omega, (by obtain rfl : k = 0 := (by omega); exact zF_low hM (by omega)), hvp, hown107⟩, hxwl98⟩ (by omega)
              · refine CW.exit ?_
                refine QW.thenExit ?_
                refine QW.thenExit ?_
                refine QW.blockHit ?_
                refine QW.blockN ?_
                refine QW.then_ ?_
                refine CW.region ?_
                refine RG.vl rfl rfl rfl (Ev.addI rfl rfl rfl (by omega)) ?_
                refine RG.vl rfl rfl rfl (Ev.move rfl rfl) ?_
                refine RG.done ?_
                refine QW.round3 (i + 1) (L) (M) ⟨rfl, trivial⟩ ⟨rfl, rfl, rfl, rfl, rfl, rfl, trivial⟩ ⟨⟨by omega, thr_step hxe hnd ha hb hb64 hthr (by have e : j = P.length := (by omega); rw [e] at hL; exact hL) (by have e : k1 = 0 := (by omega); rw [e] at hM; exact hM), hvp, hvz⟩, hxwl98⟩ (by omega)
          · refine CW.exit ?_
            refine QW.thenExit ?_
            refine QW.thenExit ?_
            refine QW.blockHit ?_
            refine QW.then_ ?_
            refine CW.seq ?_
            have hPl := hthr.pl
            refine CW.region ?_
            refine RG.vl rfl rfl rfl (Ev.move rfl rfl) ?_
            refine RG.call rfl rfl rfl rfl rfl rfl rfl en_52 (trimmed_ret _ _ _ ((hvp.rdl encN_len)) (by omega)) ?_
            have hpre120 := (Ex.tr hR23 hxwl64)
            rintro vt120 w120 ⟨hown_t120, hx120⟩
            have hsep121 : Sep vt120 _ := Sep.of_new (Own.ext hown3 hxwl64) (fun k h => Own.ge hown_t120 h)
            have hsep122 : Sep vt120 _ := Sep.of_new hvp (fun k h => Own.ge hown_t120 h)
            have hsep123 : Sep vt120 _ := Sep.of_new hvz (fun k h => Own.ge hown_t120 h)
            replace hxwl64 := Ex.tr hxwl64 hx120
            have hE124 := hx120
            refine RG.vl rfl rfl rfl (Ev.assign rfl rfl) ?_
            refine RG.vl rfl rfl rfl (Ev.assign rfl rfl) ?_
            refine RG.done ?_
            refine QW.then_ ?_
            refine CW.ret ?_
            refine QW.ret2 rfl rfl rfl ?_
            have hB := (Ex.tr hR23 hxwl64)
            have hmE : thrE x y = 0 := by unfold thrE; rw [if_pos he0, if_pos (by omega), if_pos hnd]
            have e : i = x.length := by omega
            rw [e] at hthr
            exact ⟨_, tr P, by rw [hmE], hown_t120.low (by have := hpre120.size; omega), fun _ => thr_end hthr, fun h => absurd hmE h, hB⟩

end Go.Proofs.Ytjaledljhiihmaa
