/- Walks (SU). Written by program. -/
import Derived.Test.YtjhgihgggofocaaT
import Derived.Test.YtjhgihgggofocaaST
namespace Go.Proofs.Ytjhgihgggofocaa
open Go.RowKit
set_option maxRecDepth 100000 in
set_option maxHeartbeats 4000000 in
theorem solomonSums_ret (lv mv : Value) (l m : List Nat) (k1 k2 : Nat) (w : World) (hl : RdL w 1 encN lv l) (hm : RdL w 1 encN mv m) (hb1 : ∀ c ∈ l, c < 256) (hb2 : ∀ c ∈ m, c < 256) (hk1 : k1 < 256) (hk2 : k2 < 256) :
    Ret Try.prog 8 [lv, mv, .int .u8 (k1 : Int), .int .u8 (k2 : Int)] w (fun v w' => v = .bool true ∧ Ex w w') := by
  obtain ⟨lA, lC, rfl⟩ := hl.shape
  obtain ⟨mA, mC, rfl⟩ := hm.shape
  obtain ⟨n0, hn0⟩ : ∃ n, n = min (min l.length m.length) 59 := ⟨_, rfl⟩
  have hB0 : Ex w w := Ex.rfl_ _
  refine Ret.of Try.func8 rfl Try.ntmps8 rfl ?_
  refine CW.seq ?_
  refine CW.region ?_
  refine RG.vl rfl rfl rfl (Ev.assign rfl rfl) ?_
  refine RG.done ?_
  refine QW.then_ ?_
  refine CW.seq ?_
  refine CW.region ?_
  refine RG.vl rfl rfl rfl (Ev.move rfl rfl) ?_
  refine RG.vl rfl rfl rfl (Ev.lenL rfl rfl rfl Try.underlying22 (hl)) ?_
  refine RG.vl rfl rfl rfl (Ev.move rfl rfl) ?_
  refine RG.vl rfl rfl rfl (Ev.lenL rfl rfl rfl Try.underlying22 (hm)) ?_
  refine RG.vl rfl rfl rfl ((Ev.min3 rfl rfl rfl rfl rfl).conv (congrArg (Value.int .i64) (show _ = (n0 : Int) by omega))) ?_
  refine RG.vl rfl rfl rfl (Ev.assign rfl rfl) ?_
  refine RG.done ?_
  refine QW.then_ ?_
  refine CW.seq ?_
  refine CW.region ?_
  refine RG.vl rfl rfl rfl (Ev.move rfl rfl) ?_
  refine RG.vl rfl rfl rfl (Ev.move rfl rfl) ?_
  refine RG.sliceL (L := 0) (H := n0) _ rfl rfl rfl rfl rfl Try.underlying22 sz_5 (hl) (.inl ⟨rfl, rfl⟩) (.inr ⟨_, _, _, rfl, rfl, by omega⟩) (by omega) (by omega) (fun v1 hrv1 => ?_)
  rw [List.drop_zero] at hrv1
  refine RG.call rfl rfl rfl rfl rfl rfl rfl en_21 (coded_ret _ (l.take n0) _ (hrv1) (fun c hc => hb1 c (List.mem_of_mem_take hc))) ?_
  have hpre2 := hB0
  rintro _ w2 ⟨r1, c1, rfl, hoc1, hen1, hx2⟩
  have hE3 := hx2
  refine RG.vl rfl rfl rfl (Ev.move rfl rfl) ?_
  refine RG.vl rfl rfl rfl (Ev.extract rfl rfl rfl) ?_
  refine RG.vl rfl rfl rfl (Ev.extract rfl rfl rfl) ?_
  refine RG.vl rfl rfl rfl (Ev.assign rfl rfl) ?_
  refine RG.vl rfl rfl rfl (Ev.assign rfl rfl) ?_
  refine RG.done ?_
  refine QW.sub (S' := [(1, _), (2, _), (3, _), (8, _), (9, _), (10, _), (11, _)]) ⟨rfl, rfl, rfl, rfl, rfl, rfl, rfl, trivial⟩ ?_
  refine QW.then_ ?_
  refine CW.seq ?_
  refine CW.region ?_
  refine RG.vl rfl rfl rfl (Ev.move rfl rfl) ?_
  refine RG.vl rfl rfl rfl (Ev.move rfl rfl) ?_
  refine RG.sliceL (L := 0) (H := n0) _ rfl rfl rfl rfl rfl Try.underlying22 sz_5 (hm) (.inl ⟨rfl, rfl⟩) (.inr ⟨_, _, _, rfl, rfl, by omega⟩) (by omega) (by omega) (fun v4 hrv4 => ?_)
  rw [List.drop_zero] at hrv4
  refine RG.call rfl rfl rfl rfl rfl rfl rfl en_21 (coded_ret _ (m.take n0) _ ((hrv4.ext hE3)) (fun c hc => hb2 c (List.mem_of_mem_take hc))) ?_
  have hpre5 := (Ex.tr hB0 hE3)
  rintro _ w5 ⟨r2, c2, rfl, hoc2, hen2, hx5⟩
  have hsep6 : Sep r2 _ := Sep.of_new hoc1 (fun k h => Own.ge hoc2 h)
  replace hE3 := Ex.tr hE3 hx5
  have hE7 := hx5
  refine RG.vl rfl rfl rfl (Ev.move rfl rfl) ?_
  refine RG.vl rfl rfl rfl (Ev.extract rfl rfl rfl) ?_
  refine RG.vl rfl rfl rfl (Ev.extract rfl rfl rfl) ?_
  refine RG.vl rfl rfl rfl (Ev.assign rfl rfl) ?_
  refine RG.vl rfl rfl rfl (Ev.assign rfl rfl) ?_
  refine RG.done ?_
  refine QW.then_ ?_
  refine CW.seq ?_
  refine CW.seq ?_
  have e1 := dataL_len (l.take n0)
  have e2 := dataL_len (m.take n0)
  rw [List.length_take] at e1 e2
  have g1 := hen1.len
  have g2 := hen2.len
  obtain ⟨n5, hn5⟩ : ∃ n, n = c1.length := ⟨_, rfl⟩
  have hC1 : Code_ n5 c1 := by have := enc_code hen1; rw [← hen1.len, ← hn5] at this; exact this
  have hC2 : Code_ n5 c2 := by have := enc_code hen2; rw [← hen2.len, show c2.length = n5 by omega] at this; exact this
  refine CW.region ?_
  refine RG.vl rfl rfl rfl (Ev.move rfl rfl) ?_
  refine RG.vl rfl rfl rfl (Ev.notF rfl rfl) ?_
  refine RG.vl rfl rfl rfl (Ev.move rfl rfl) ?_
  refine RG.vl rfl rfl rfl (Ev.move rfl rfl) ?_
  refine RG.vl rfl rfl rfl (Ev.notF rfl rfl) ?_
  refine RG.vl rfl rfl rfl (Ev.pickF rfl rfl rfl) ?_
  refine RG.vl rfl rfl rfl (Ev.move rfl rfl) ?_
  refine RG.vl rfl rfl rfl (Ev.move rfl rfl) ?_
  refine RG.vl rfl rfl rfl (Ev.lenL rfl rfl rfl Try.underlying22 (((Own.ext hoc1 hE7).rdl encN_len))) ?_
  refine RG.vl rfl rfl rfl (Ev.move rfl rfl) ?_
  refine RG.vl rfl rfl rfl (Ev.lenL rfl rfl rfl Try.underlying22 ((hoc2.rdl encN_len))) ?_
  refine RG.vl rfl rfl rfl (Ev.isF (Ev.neI rfl rfl rfl) (by omega)) ?_
  refine RG.vl rfl rfl rfl (Ev.pickF rfl rfl rfl) ?_
  refine RG.done ?_
  refine QW.sub (S' := [(2, _), (3, _), (8, _), (10, _), (12, _), (51, _)]) ⟨rfl, rfl, rfl, rfl, rfl, rfl, trivial⟩ ?_
  refine QW.then_ ?_
  refine CW.condF rfl ?_
  refine CW.skip ?_
  refine QW.then_ ?_
  refine CW.seq ?_
  refine CW.region ?_
  refine RG.vl rfl rfl rfl (Ev.assign rfl rfl) ?_
  refine RG.vl rfl rfl rfl (Ev.assign rfl rfl) ?_
  refine RG.done ?_
  refine QW.then_ ?_
  refine CW.seq ?_
  refine CW.seq ?_
  replace hl := (hl.ext hE3)
  replace hm := (hm.ext hE3)
  replace hrv1 := (hrv1.ext hE3)
  replace hoc1 := (Own.ext hoc1 hE7)
  replace hrv4 := (hrv4.ext hE3)
  have hR8 := (Ex.tr hB0 hE3)
  have hR9 := hE7
  have hr1 : RdL w5 1 encN r1 c1 := hoc1.rdl encN_len
  have hr2 : RdL w5 1 encN r2 c2 := hoc2.rdl encN_len
  refine CW.region ?_
  refine RG.vl rfl rfl rfl (Ev.move rfl rfl) ?_
  refine RG.vl rfl rfl rfl (Ev.lenL rfl rfl rfl Try.underlying22 (hr1)) ?_
  refine RG.vl rfl rfl rfl (Ev.move rfl rfl) ?_
  refine RG.done ?_
  refine QW.then_ ?_
  refine CW.block ?_
  refine CW.loop3 [(2, _), (3, _), (10, _), (12, _), (53, _)] ⟨rfl, rfl, rfl, rfl, rfl, trivial⟩ (fun (i : Nat) (u : Value) (x : Value) => [(54, .int .i64 (i : Int)), (14, u), (15, x)]) (fun i u x w' => (i ≤ n5 ∧ Own w' w5.heap.size 5 1 encN u (sumL c1 c2 i) ∧ Own w' w5.heap.size 5 1 encN x (prodL c1 (k1 % 64) i) ∧ Sep u x) ∧ Ex w5 w') (fun i u x => n5 - i) (0) (.slice none 0 0) (.slice none 0 0) ⟨rfl, rfl, rfl, trivial⟩ ⟨⟨Nat.zero_le _, Own.nil_ _ _ _ _ _, Own.nil_ _ _ _ _ _, Sep.nil_ _⟩, (Ex.rfl_ _)⟩ ?_
  rintro i u x wl10 ⟨⟨hi, hou, hox, hsp⟩, hxwl10⟩
  refine CW.sub (S' := [(54, _), (14, _), (15, _), (2, _), (3, _), (10, _), (12, _), (53, _)]) ⟨rfl, rfl, rfl, rfl, rfl, rfl, rfl, rfl, trivial⟩ ?_
  refine CW.seq ?_
  refine CW.region ?_
  refine RG.vl rfl rfl rfl (Ev.lss rfl rfl rfl) ?_
  refine RG.done ?_
  refine QW.then_ ?_
  refine CW.seq ?_
  refine CW.condP rfl (fun hc11 => ?_) (fun hc11 => ?_)
  · refine CW.skip ?_
    refine QW.then_ ?_
    refine CW.seq ?_
    refine CW.block ?_
    refine CW.seq ?_
    have hx1 : c1[i]? = some (cf c1 i) := getElem?_cf (by omega)
    have hx2 : c2[i]? = some (cf c2 i) := getElem?_cf (by omega)
    have h1 := hC1.el.cf i
    have h2 := hC2.el.cf i
    have h3 := xor_lt64 _ _ h1 h2
    have h4 := gm_lt (cf c1 i) (k1 % 64)
    have h5 := sumL_len c1 c2 i
    have h6 := prodL_len c1 (k1 % 64) i
    refine CW.region ?_
    refine RG.vl rfl rfl rfl (Ev.move rfl rfl) ?_
    refine RG.vl rfl rfl rfl (Ev.assign rfl rfl) ?_
    refine RG.done ?_
    refine QW.then_ ?_
    refine CW.seq ?_
    refine CW.region ?_
    refine RG.vl rfl rfl rfl (Ev.move rfl rfl) ?_
    refine RG.vl rfl rfl rfl (Ev.move rfl rfl) ?_
    refine RG.idxL rfl rfl rfl rfl rfl rfl Try.underlying22 sz_5 ((hr1.ext hxwl10)) (hx1) (fun p12 hp12b hp12 => ?_)
    refine RG.vl rfl rfl rfl (Ev.ld0 rfl rfl Try.underlying5 rfl (hp12) (rfl)) ?_
    refine RG.vl rfl rfl rfl (Ev.move rfl rfl) ?_
    refine RG.vl rfl rfl rfl ((Ev.rem8 rfl rfl rfl (by omega)).conv (congrArg (Value.int .u8) (show (k1 : Int) % 64 = ((k1 % 64 : Nat) : Int) by omega))) ?_
    refine RG.call rfl rfl rfl rfl rfl rfl rfl en_31 (Mul_el _ _ _ h1 (Nat.mod_lt k1 (by omega))) ?_
    rintro _ w13 ⟨rfl, hx13⟩
    replace hxwl10 := Ex.tr hxwl10 hx13
    have hE14 := hx13
    refine RG.vl rfl rfl rfl (Ev.move rfl rfl) ?_
    refine RG.vl rfl rfl rfl (Ev.extract rfl rfl rfl) ?_
    refine RG.vl rfl rfl rfl (Ev.extract rfl rfl rfl) ?_
    refine RG.vl rfl rfl rfl (Ev.assign rfl rfl) ?_
    refine RG.vl rfl rfl rfl (Ev.assign rfl rfl) ?_
    refine RG.done ?_
    refine QW.sub (S' := [(2, _), (3, _), (10, _), (12, _), (14, _), (15, _), (16, _), (17, _), (18, _), (53, _), (54, _)]) ⟨rfl, rfl, rfl, rfl, rfl, rfl, rfl, rfl, rfl, rfl, rfl, trivial⟩ ?_
    refine QW.then_ ?_
    refine CW.seq ?_
    refine CW.seq ?_
    refine CW.region ?_
    refine RG.vl rfl rfl rfl (Ev.move rfl rfl) ?_
    refine RG.vl rfl rfl rfl (Ev.isF (Ev.neI rfl rfl rfl) (fun h => h rfl)) ?_
    refine RG.done ?_
    refine QW.then_ ?_
    refine CW.condF rfl ?_
    refine CW.skip ?_
    refine QW.then_ ?_
    refine CW.draw [] (.low w5.heap.size) 18 rfl mixed (fun wd15 hxwd15 => ?_)
    replace hxwl10 := Ex.tr hxwl10 hxwd15
    replace hE14 := Ex.tr hE14 hxwd15
    refine AG.takeW 0 rfl (by kernel_rfl) (by kernel_rfl) rfl rfl rfl (fun _ => Ev.move rfl rfl) ?_
    refine AG.takeW 1 rfl (by kernel_rfl) (by kernel_rfl) rfl rfl rfl (fun _ => Ev.move rfl rfl) ?_
    refine AG.takeW 2 rfl (by kernel_rfl) (by kernel_rfl) rfl rfl rfl (fun _ => Ev.move rfl rfl) ?_
    refine AG.idxL _ 3 rfl (by kernel_rfl) (by kernel_rfl) rfl rfl rfl rfl rfl rfl Try.underlying22 sz_5 (hr1) (hx1) (fun p16 hp16b hp16 => ?_)
    refine AG.take 4 rfl (by kernel_rfl) (by kernel_rfl) rfl rfl rfl (fun wq hq => Ev.ld0 rfl rfl Try.underlying5 rfl (Cells.low (hp16.ext hxwl10 hp16b) hq (Nat.lt_of_lt_of_le hp16b hxwl10.size) hp16b) (rfl)) ?_
    refine AG.takeW 5 rfl (by kernel_rfl) (by kernel_rfl) rfl rfl rfl (fun _ => Ev.move rfl rfl) ?_
    refine AG.takeW 6 rfl (by kernel_rfl) (by kernel_rfl) rfl rfl rfl (fun _ => Ev.move rfl rfl) ?_
    refine AG.idxL _ 7 rfl (by kernel_rfl) (by kernel_rfl) rfl rfl rfl rfl rfl rfl Try.underlying22 sz_5 (hr2) (hx2) (fun p17 hp17b hp17 => ?_)
    refine AG.take 8 rfl (by kernel_rfl) (by kernel_rfl) rfl rfl rfl (fun wq hq => Ev.ld0 rfl rfl Try.underlying5 rfl (Cells.low (hp17.ext hxwl10 hp17b) hq (Nat.lt_of_lt_of_le hp17b hxwl10.size) hp17b) (rfl)) ?_
    refine AG.takeW 9 rfl (by kernel_rfl) (by kernel_rfl) rfl rfl rfl (fun _ => Ev.xor8 rfl rfl rfl (by omega) (by omega)) ?_
    refine AG.takeW 12 rfl (by kernel_rfl) (by kernel_rfl) rfl rfl rfl (fun _ => Ev.move rfl rfl) ?_
    refine AG.takeW 13 rfl (by kernel_rfl) (by kernel_rfl) rfl rfl rfl (fun _ => Ev.move rfl rfl) ?_
    refine AG.two 10 14 rfl rfl (by kernel_rfl) ?_ ?_
    · refine RG.litO (os := [.tmp 78]) (enc := encN) ([cf c1 i ^^^ cf c2 i]) rfl rfl rfl rfl rfl rfl rfl Try.underlying22 inf_5 rfl rfl rfl rfl rfl encN_len rfl rfl (fun v19 wk20 hxwk20 hown21 hnew22 => ?_)
      have hsep23 : Sep v19 _ := Sep.of_new (Own.ext hoc1 hxwl10) hnew22
      have hsep24 : Sep v19 _ := Sep.of_new (Own.ext hoc2 hxwl10) hnew22
      have hsep25 : Sep v19 _ := Sep.of_new (Own.ext hou hE14) hnew22
      have hsep26 : Sep v19 _ := Sep.of_new (Own.ext hox hE14) hnew22
      replace hxwl10 := Ex.tr hxwl10 hxwk20
      replace hE14 := Ex.tr hE14 hxwk20
      have hE27 := hxwk20
      refine RG.done ?_
      refine QW.an (fun _ => Rr.of_ex hE27) ?_
      refine AG.two 11 14 rfl rfl (by kernel_rfl) ?_ ?_
      · refine RG.appO rfl rfl rfl rfl rfl rfl rfl Try.underlying22 inf_5 rfl rfl encN_len (fun _ => rfl) (Own.ext hou hE14) ((hown21.rdl encN_len)) (by show _ + 1 ≤ maxLen; simp only [maxLen]; omega) (by show (_ + 1) * _ ≤ _; omega) (hxwl10.size) (fun v29 wa30 hown31 hgr32 hat33 => ?_)
        have hsep35 := Sep.app hsp (Own.ext hox hE14) hat33
        have hown34 := Own.grown (Own.ext hox hE14) hgr32 (fun k a b => hsp k b a)
        have hsep37 := Sep.app (Sep.symm hsep25) hown21 hat33
        have hown36 := Own.grown hown21 hgr32 (fun k a b => (Sep.symm hsep25) k b a)
        replace hxwl10 := own_block (Own.ext hou hE14) hxwl10 hgr32 (Nat.le_refl _) hxwl10.size
        refine RG.done ?_
        refine QW.an (fun _ => Rr.low_own (Own.ext hou hE14) hgr32 (Nat.le_refl _)) ?_
        refine AG.only 14 rfl (by kernel_rfl) ?_
        refine RG.litO (os := [.tmp 82]) (enc := encN) ([gm (cf c1 i) (k1 % 64)]) rfl rfl rfl rfl rfl rfl rfl Try.underlying22 inf_5 rfl rfl rfl rfl rfl encN_len rfl rfl (fun v39 wk40 hxwk40 hown41 hnew42 => ?_)
        have hsep43 : Sep v39 _ := Sep.of_new (Own.ext hoc1 hxwl10) hnew42
        have hsep44 : Sep v39 _ := Sep.of_new (Own.ext hoc2 hxwl10) hnew42
        have hsep45 : Sep v39 _ := Sep.of_new hown34 hnew42
        have hsep46 : Sep v39 _ := Sep.of_new hown36 hnew42
        have hsep47 : Sep v39 _ := Sep.of_new hown31 hnew42
        replace hxwl10 := Ex.tr hxwl10 hxwk40
        have hE48 := hxwk40
        refine RG.done ?_
        refine QW.an (fun _ => Rr.of_ex hE48) ?_
        refine AG.only 15 rfl (by kernel_rfl) ?_
        refine RG.appO rfl rfl rfl rfl rfl rfl rfl Try.underlying22 inf_5 rfl rfl encN_len (fun _ => rfl) (Own.ext hown34 hE48) ((hown41.rdl encN_len)) (by show _ + 1 ≤ maxLen; simp only [maxLen]; omega) (by show (_ + 1) * _ ≤ _; omega) (hxwl10.size) (fun v50 wa51 hown52 hgr53 hat54 => ?_)
        have hsep56 := Sep.app (Sep.symm hsep26) (Own.ext hown36 hE48) hat54
        have hown55 := Own.grown (Own.ext hown36 hE48) hgr53 (fun k a b => (Sep.symm hsep26) k b a)
        have hsep58 := Sep.app (Sep.symm hsep35) (Own.ext hown31 hE48) hat54
        have hown57 := Own.grown (Own.ext hown31 hE48) hgr53 (fun k a b => (Sep.symm hsep35) k b a)
        have hsep60 := Sep.app (Sep.symm hsep45) hown41 hat54
        have hown59 := Own.grown hown41 hgr53 (fun k a b => (Sep.symm hsep45) k b a)
        replace hxwl10 := own_block (Own.ext hown34 hE48) hxwl10 hgr53 (Nat.le_refl _) hxwl10.size
        refine RG.done ?_
        refine QW.an (fun _ => Rr.low_own (Own.ext hown34 hE48) hgr53 (Nat.le_refl _)) ?_
        refine AG.takeW 16 rfl (by kernel_rfl) (by kernel_rfl) rfl rfl rfl (fun _ => Ev.assign rfl rfl) ?_
        refine AG.takeW 17 rfl (by kernel_rfl) (by kernel_rfl) rfl rfl rfl (fun _ => Ev.assign rfl rfl) ?_
        refine AG.done (by kernel_rfl) ?_
        refine QW.sub (S' := [(2, _), (3, _), (10, _), (12, _), (14, _), (15, _), (53, _), (54, _)]) ⟨rfl, rfl, rfl, rfl, rfl, rfl, rfl, rfl, trivial⟩ ?_
        refine QW.blockN ?_
        refine QW.then_ ?_
        refine CW.region ?_
        refine RG.vl rfl rfl rfl (Ev.addI rfl rfl rfl (by omega)) ?_
        refine RG.vl rfl rfl rfl (Ev.move rfl rfl) ?_
        refine RG.done ?_
        refine QW.round3 (i + 1) (v29) (v50) ⟨rfl, rfl, rfl, trivial⟩ ⟨rfl, rfl, rfl, rfl, rfl, trivial⟩ ⟨⟨by omega, by rw [sumL_more]; exact hown57, by rw [prodL_more]; exact hown52, (Sep.symm hsep58)⟩, hxwl10⟩ (by omega)
      · refine RG.litO (os := [.tmp 82]) (enc := encN) ([gm (cf c1 i) (k1 % 64)]) rfl rfl rfl rfl rfl rfl rfl Try.underlying22 inf_5 rfl rfl rfl rfl rfl encN_len rfl rfl (fun v62 wk63 hxwk63 hown64 hnew65 => ?_)
        have hsep66 : Sep v62 _ := Sep.of_new (Own.ext hoc1 hxwl10) hnew65
        have hsep67 : Sep v62 _ := Sep.of_new (Own.ext hoc2 hxwl10) hnew65
        have hsep68 : Sep v62 _ := Sep.of_new (Own.ext hou hE14) hnew65
        have hsep69 : Sep v62 _ := Sep.of_new (Own.ext hox hE14) hnew65
        have hsep70 : Sep v62 _ := Sep.of_new hown21 hnew65
        replace hxwl10 := Ex.tr hxwl10 hxwk63
        replace hE14 := Ex.tr hE14 hxwk63
        replace hE27 := Ex.tr hE27 hxwk63
        have hE71 := hxwk63
        refine RG.done ?_
        refine QW.an (fun _ => Rr.of_ex hE71) ?_
        refine AG.only 11 rfl (by kernel_rfl) ?_
        refine RG.appO rfl rfl rfl rfl rfl rfl rfl Try.underlying22 inf_5 rfl rfl encN_len (fun _ => rfl) (Own.ext hou hE14) (((Own.ext hown21 hE71).rdl encN_len)) (by show _ + 1 ≤ maxLen; simp only [maxLen]; omega) (by show (_ + 1) * _ ≤ _; omega) (hxwl10.size) (fun v73 wa74 hown75 hgr76 hat77 => ?_)
        have hsep79 := Sep.app hsp (Own.ext hox hE14) hat77
        have hown78 := Own.grown (Own.ext hox hE14) hgr76 (fun k a b => hsp k b a)
        have hsep81 := Sep.app (Sep.symm hsep25) (Own.ext hown21 hE71) hat77
        have hown80 := Own.grown (Own.ext hown21 hE71) hgr76 (fun k a b => (Sep.symm hsep25) k b a)
        have hsep83 := Sep.app (Sep.symm hsep68) hown64 hat77
        have hown82 := Own.grown hown64 hgr76 (fun k a b => (Sep.symm hsep68) k b a)
        replace hxwl10 := own_block (Own.ext hou hE14) hxwl10 hgr76 (Nat.le_refl _) hxwl10.size
        refine RG.done ?_
        refine QW.an (fun _ => Rr.low_own (Own.ext hou hE14) hgr76 (Nat.le_refl _)) ?_
        refine AG.only 15 rfl (by kernel_rfl) ?_
        refine RG.appO rfl rfl rfl rfl rfl rfl rfl Try.underlying22 inf_5 rfl rfl encN_len (fun _ => rfl) hown78 ((hown82.rdl encN_len)) (by show _ + 1 ≤ maxLen; simp only [maxLen]; omega) (by show (_ + 1) * _ ≤ _; omega) (hxwl10.size) (fun v85 wa86 hown87 hgr88 hat89 => ?_)
        have hsep91 := Sep.app (Sep.symm hsep26) hown80 hat89
        have hown90 := Own.grown hown80 hgr88 (fun k a b => (Sep.symm hsep26) k b a)
        have hsep93 := Sep.app (Sep.symm hsep69) hown82 hat89
        have hown92 := Own.grown hown82 hgr88 (fun k a b => (Sep.symm hsep69) k b a)
        have hsep95 := Sep.app (Sep.symm hsep79) hown75 hat89
        have hown94 := Own.grown hown75 hgr88 (fun k a b => (Sep.symm hsep79) k b a)
        replace hxwl10 := own_block hown78 hxwl10 hgr88 (Nat.le_refl _) hxwl10.size
        refine RG.done ?_
        refine QW.an (fun _ => Rr.low_own hown78 hgr88 (Nat.le_refl _)) ?_
        refine AG.takeW 16 rfl (by kernel_rfl) (by kernel_rfl) rfl rfl rfl (fun _ => Ev.assign rfl rfl) ?_
        refine AG.takeW 17 rfl (by kernel_rfl) (by kernel_rfl) rfl rfl rfl (fun _ => Ev.assign rfl rfl) ?_
        refine AG.done (by kernel_rfl) ?_
        refine QW.sub (S' := [(2, _), (3, _), (10, _), (12, _), (14, _), (15, _), (53, _), (54, _)]) ⟨rfl, rfl, rfl, rfl, rfl, rfl, rfl, rfl, trivial⟩ ?_
        refine QW.blockN ?_
        refine QW.then_ ?_
        refine CW.region ?_
        refine RG.vl rfl rfl rfl (Ev.addI rfl rfl rfl (by omega)) ?_
        refine RG.vl rfl rfl rfl (Ev.move rfl rfl) ?_
        refine RG.done ?_
        refine QW.round3 (i + 1) (v73) (v85) ⟨rfl, rfl, rfl, trivial⟩ ⟨rfl, rfl, rfl, rfl, rfl, trivial⟩ ⟨⟨by omega, by rw [sumL_more]; exact hown94, by rw [prodL_more]; exact hown87, (Sep.symm hsep95)⟩, hxwl10⟩ (by omega)
    · refine RG.litO (os := [.tmp 82]) (enc := encN) ([gm (cf c1 i) (k1 % 64)]) rfl rfl rfl rfl rfl rfl rfl Try.underlying22 inf_5 rfl rfl rfl rfl rfl encN_len rfl rfl (fun v97 wk98 hxwk98 hown99 hnew100 => ?_)
      have hsep101 : Sep v97 _ := Sep.of_new (Own.ext hoc1 hxwl10) hnew100
      have hsep102 : Sep v97 _ := Sep.of_new (Own.ext hoc2 hxwl10) hnew100
      have hsep103 : Sep v97 _ := Sep.of_new (Own.ext hou hE14) hnew100
      have hsep104 : Sep v97 _ := Sep.of_new (Own.ext hox hE14) hnew100
      replace hxwl10 := Ex.tr hxwl10 hxwk98
      replace hE14 := Ex.tr hE14 hxwk98
      have hE105 := hxwk98
      refine RG.done ?_
      refine QW.an (fun _ => Rr.of_ex hE105) ?_
      refine AG.only 10 rfl (by kernel_rfl) ?_
      refine RG.litO (os := [.tmp 78]) (enc := encN) ([cf c1 i ^^^ cf c2 i]) rfl rfl rfl rfl rfl rfl rfl Try.underlying22 inf_5 rfl rfl rfl rfl rfl encN_len rfl rfl (fun v107 wk108 hxwk108 hown109 hnew110 => ?_)
      have hsep111 : Sep v107 _ := Sep.of_new (Own.ext hoc1 hxwl10) hnew110
      have hsep112 : Sep v107 _ := Sep.of_new (Own.ext hoc2 hxwl10) hnew110
      have hsep113 : Sep v107 _ := Sep.of_new (Own.ext hou hE14) hnew110
      have hsep114 : Sep v107 _ := Sep.of_new (Own.ext hox hE14) hnew110
      have hsep115 : Sep v107 _ := Sep.of_new hown99 hnew110
      replace hxwl10 := Ex.tr hxwl10 hxwk108
      replace hE14 := Ex.tr hE14 hxwk108
      replace hE105 := Ex.tr hE105 hxwk108
      have hE116 := hxwk108
      refine RG.done ?_
      refine QW.an (fun _ => Rr.of_ex hE116) ?_
      refine AG.only 11 rfl (by kernel_rfl) ?_
      refine RG.appO rfl rfl rfl rfl rfl rfl rfl Try.underlying22 inf_5 rfl rfl encN_len (fun _ => rfl) (Own.ext hou hE14) ((hown109.rdl encN_len)) (by show _ + 1 ≤ maxLen; simp only [maxLen]; omega) (by show (_ + 1) * _ ≤ _; omega) (hxwl10.size) (fun v118 wa119 hown120 hgr121 hat122 => ?_)
      have hsep124 := Sep.app hsp (Own.ext hox hE14) hat122
      have hown123 := Own.grown (Own.ext hox hE14) hgr121 (fun k a b => hsp k b a)
      have hsep126 := Sep.app (Sep.symm hsep103) (Own.ext hown99 hE116) hat122
      have hown125 := Own.grown (Own.ext hown99 hE116) hgr121 (fun k a b => (Sep.symm hsep103) k b a)
      have hsep128 := Sep.app (Sep.symm hsep113) hown109 hat122
      have hown127 := Own.grown hown109 hgr121 (fun k a b => (Sep.symm hsep113) k b a)
      replace hxwl10 := own_block (Own.ext hou hE14) hxwl10 hgr121 (Nat.le_refl _) hxwl10.size
      refine RG.done ?_
      refine QW.an (fun _ => Rr.low_own (Own.ext hou hE14) hgr121 (Nat.le_refl _)) ?_
      refine AG.only 15 rfl (by kernel_rfl) ?_
      refine RG.appO rfl rfl rfl rfl rfl rfl rfl Try.underlying22 inf_5 rfl rfl encN_len (fun _ => rfl) hown123 ((hown125.rdl encN_len)) (by show _ + 1 ≤ maxLen; simp only [maxLen]; omega) (by show (_ + 1) * _ ≤ _; omega) (hxwl10.size) (fun v130 wa131 hown132 hgr133 hat134 => ?_)
      have hsep136 := Sep.app (Sep.symm hsep104) hown125 hat134
      have hown135 := Own.grown hown125 hgr133 (fun k a b => (Sep.symm hsep104) k b a)
      have hsep138 := Sep.app (Sep.symm hsep114) hown127 hat134
      have hown137 := Own.grown hown127 hgr133 (fun k a b => (Sep.symm hsep114) k b a)
      have hsep140 := Sep.app (Sep.symm hsep124) hown120 hat134
      have hown139 := Own.grown hown120 hgr133 (fun k a b => (Sep.symm hsep124) k b a)
      replace hxwl10 := own_block hown123 hxwl10 hgr133 (Nat.le_refl _) hxwl10.size
      refine RG.done ?_
      refine QW.an (fun _ => Rr.low_own hown123 hgr133 (Nat.le_refl _)) ?_
      refine AG.takeW 16 rfl (by kernel_rfl) (by kernel_rfl) rfl rfl rfl (fun _ => Ev.assign rfl rfl) ?_
      refine AG.takeW 17 rfl (by kernel_rfl) (by kernel_rfl) rfl rfl rfl (fun _ => Ev.assign rfl rfl) ?_
      refine AG.done (by kernel_rfl) ?_
      refine QW.sub (S' := [(2, _), (3, _), (10, _), (12, _), (14, _), (15, _), (53, _), (54, _)]) ⟨rfl, rfl, rfl, rfl, rfl, rfl, rfl, rfl, trivial⟩ ?_
      refine QW.blockN ?_
      refine QW.then_ ?_
      refine CW.region ?_
      refine RG.vl rfl rfl rfl (Ev.addI rfl rfl rfl (by omega)) ?_
      refine RG.vl rfl rfl rfl (Ev.move rfl rfl) ?_
      refine RG.done ?_
      refine QW.round3 (i + 1) (v118) (v130) ⟨rfl, rfl, rfl, trivial⟩ ⟨rfl, rfl, rfl, rfl, rfl, trivial⟩ ⟨⟨by omega, by rw [sumL_more]; exact hown139, by rw [prodL_more]; exact hown132, (Sep.symm hsep140)⟩, hxwl10⟩ (by omega)
  · refine CW.exit ?_
    refine QW.thenExit ?_
    refine QW.thenExit ?_
    refine QW.blockHit ?_
    refine QW.then_ ?_
    refine CW.seq ?_
    have hi5 : n5 = i := by omega
    subst hi5
    obtain ⟨z, hz⟩ : ∃ z, z = min (k2 % 21) (63 - c1.length) := ⟨_, rfl⟩
    have hzl : (List.replicate z 0).length = z := List.length_replicate ..
    refine CW.region ?_
    refine RG.vl rfl rfl rfl (Ev.move rfl rfl) ?_
    refine RG.vl rfl rfl rfl (Ev.to64 rfl rfl Try.underlying5 Try.underlying3 (by omega)) ?_
    refine RG.vl rfl rfl rfl ((Ev.remI rfl rfl rfl (by omega)).conv (congrArg (Value.int .i64) (show (k2 : Int) % 21 = ((k2 % 21 : Nat) : Int) by omega))) ?_
    refine RG.vl rfl rfl rfl (Ev.move rfl rfl) ?_
    refine RG.vl rfl rfl rfl (Ev.lenL rfl rfl rfl Try.underlying22 ((hr1.ext hxwl10))) ?_
    refine RG.vl rfl rfl rfl (Ev.subI rfl rfl rfl (by omega)) ?_
    refine RG.vl rfl rfl rfl ((Ev.min2 rfl rfl rfl rfl).conv (congrArg (Value.int .i64) (show _ = (z : Int) by omega))) ?_
    refine RG.makeO (m := z) (enc := encN) 0 rfl rfl rfl rfl rfl rfl (rfl) Try.underlying22 inf_5 encN_len rfl rfl (by omega) (by simp only [maxLen]; omega) (fun v141 wk142 hxwk142 hown143 hnew144 => ?_)
    have hsep145 : Sep v141 _ := Sep.of_new (Own.ext hoc1 hxwl10) hnew144
    have hsep146 : Sep v141 _ := Sep.of_new (Own.ext hoc2 hxwl10) hnew144
    have hsep147 : Sep v141 _ := Sep.of_new hou hnew144
    have hsep148 : Sep v141 _ := Sep.of_new hox hnew144
    replace hown143 := Own.low (B' := w5.heap.size) hown143 (by have := hxwl10.size; omega)
    replace hxwl10 := Ex.tr hxwl10 hxwk142
    have hE149 := hxwk142
    refine RG.vl rfl rfl rfl (Ev.move rfl rfl) ?_
    refine RG.appO rfl rfl rfl rfl rfl rfl rfl Try.underlying22 inf_5 rfl rfl encN_len (fun _ => rfl) hown143 ((hr1.ext hxwl10)) (by simp only [maxLen]; omega) (by omega) (hxwl10.size) (fun v150 wa151 hown152 hgr153 hat154 => ?_)
    have hsep156 := Sep.app hsep147 (Own.ext hou hE149) hat154
    have hown155 := Own.grown (Own.ext hou hE149) hgr153 (fun k a b => hsep147 k b a)
    have hsep158 := Sep.app hsep148 (Own.ext hox hE149) hat154
    have hown157 := Own.grown (Own.ext hox hE149) hgr153 (fun k a b => hsep148 k b a)
    replace hxwl10 := own_block hown143 hxwl10 hgr153 (Nat.le_refl _) hxwl10.size
    refine RG.vl rfl rfl rfl (Ev.assign rfl rfl) ?_
    refine RG.done ?_
    refine QW.then_ ?_
    refine CW.seq ?_
    refine CW.region ?_
    refine RG.vl rfl rfl rfl (Ev.move rfl rfl) ?_
    refine RG.call rfl rfl rfl rfl rfl rfl rfl en_25 (valid_is _ _ (c1) ((hr1.ext hxwl10)) (vld_code hC1 (by omega) (by omega))) ?_
    rintro _ w159 ⟨rfl, hx159⟩
    replace hxwl10 := Ex.tr hxwl10 hx159
    have hE160 := hx159
    refine RG.vl rfl rfl rfl (Ev.move rfl rfl) ?_
    refine RG.vl rfl rfl rfl (Ev.move rfl rfl) ?_
    refine RG.call rfl rfl rfl rfl rfl rfl rfl en_25 (valid_is _ _ (c2) ((hr2.ext hxwl10)) (vld_code hC2 (by omega) (by omega))) ?_
    rintro _ w161 ⟨rfl, hx161⟩
    replace hxwl10 := Ex.tr hxwl10 hx161
    replace hE160 := Ex.tr hE160 hx161
    have hE162 := hx161
    refine RG.vl rfl rfl rfl (Ev.pickT rfl rfl rfl) ?_
    refine RG.vl rfl rfl rfl (Ev.move rfl rfl) ?_
    refine RG.vl rfl rfl rfl (Ev.move rfl rfl) ?_
    refine RG.call rfl rfl rfl rfl rfl rfl rfl en_25 (valid_is _ _ (sumL c1 c2 n5) (((Own.ext hown155 hE160).rdl encN_len)) (vld_code (sum_code hC1 hC2) (by omega) (by omega))) ?_
    rintro _ w163 ⟨rfl, hx163⟩
    replace hxwl10 := Ex.tr hxwl10 hx163
    replace hE160 := Ex.tr hE160 hx163
    replace hE162 := Ex.tr hE162 hx163
    have hE164 := hx163
    refine RG.vl rfl rfl rfl (Ev.pickT rfl rfl rfl) ?_
    refine RG.vl rfl rfl rfl (Ev.move rfl rfl) ?_
    refine RG.vl rfl rfl rfl (Ev.move rfl rfl) ?_
    refine RG.call rfl rfl rfl rfl rfl rfl rfl en_25 (valid_is _ _ (prodL c1 (k1 % 64) n5) (((Own.ext hown157 hE160).rdl encN_len)) (vld_code (prod_code hC1 (Nat.mod_lt k1 (by omega))) (by omega) (by omega))) ?_
    rintro _ w165 ⟨rfl, hx165⟩
    replace hxwl10 := Ex.tr hxwl10 hx165
    replace hE160 := Ex.tr hE160 hx165
    replace hE162 := Ex.tr hE162 hx165
    replace hE164 := Ex.tr hE164 hx165
    have hE166 := hx165
    refine RG.vl rfl rfl rfl (Ev.pickT rfl rfl rfl) ?_
    refine RG.vl rfl rfl rfl (Ev.move rfl rfl) ?_
    refine RG.vl rfl rfl rfl (Ev.move rfl rfl) ?_
    refine RG.call rfl rfl rfl rfl rfl rfl rfl en_25 (valid_is _ _ (List.replicate z 0 ++ c1) (((Own.ext hown152 hE160).rdl encN_len)) (vld_code (zeros_code hC1) (by omega) (by omega))) ?_
    rintro _ w167 ⟨rfl, hx167⟩
    replace hxwl10 := Ex.tr hxwl10 hx167
    replace hE160 := Ex.tr hE160 hx167
    replace hE162 := Ex.tr hE162 hx167
    replace hE164 := Ex.tr hE164 hx167
    replace hE166 := Ex.tr hE166 hx167
    have hE168 := hx167
    refine RG.vl rfl rfl rfl (Ev.pickT rfl rfl rfl) ?_
    refine RG.vl rfl rfl rfl (Ev.move rfl rfl) ?_
    refine RG.call rfl rfl rfl rfl rfl rfl rfl en_10 (awake_ret _) ?_
    rintro _ w169 ⟨rfl, hx169⟩
    replace hxwl10 := Ex.tr hxwl10 hx169
    replace hE160 := Ex.tr hE160 hx169
    replace hE162 := Ex.tr hE162 hx169
    replace hE164 := Ex.tr hE164 hx169
    replace hE166 := Ex.tr hE166 hx169
    replace hE168 := Ex.tr hE168 hx169
    have hE170 := hx169
    refine RG.vl rfl rfl rfl (Ev.pickT rfl rfl rfl) ?_
    refine RG.vl rfl rfl rfl (Ev.assign rfl rfl) ?_
    refine RG.done ?_
    refine QW.sub (S' := [(8, _)]) ⟨rfl, trivial⟩ ?_
    refine QW.then_ ?_
    refine CW.ret ?_
    refine QW.ret1 rfl rfl ?_
    have hB := (Ex.tr hR8 hxwl10)
    exact ⟨rfl, hB⟩

end Go.Proofs.Ytjhgihgggofocaa
