/- Walks (BWA). Written by program. -/
import Derived.Test.YtgafkbnlhlbmkaaT
import Derived.Test.YtgafkbnlhlbmkaaBWB
import Derived.Test.YtgafkbnlhlbmkaaBS2
namespace Go.Proofs.Ytgafkbnlhlbmkaa
open Go.RowKit
set_option maxRecDepth 100000 in
set_option maxHeartbeats 4000000 in
theorem barsApart_ret (lv mv : Value) (l m : List UInt8) (w : World) (hl : RdL w 1 encB lv l) (hm : RdL w 1 encB mv m) :
    Ret Try.prog 6 [lv, mv] w (fun v w' => v = .bool true ∧ Ex w w') := by
  obtain ⟨lA, lC, rfl⟩ := hl.shape
  obtain ⟨mA, mC, rfl⟩ := hm.shape
  obtain ⟨T, hT⟩ : ∃ T, T = l.take 60 := ⟨_, rfl⟩
  obtain ⟨T2, hT2⟩ : ∃ T, T = m.take 60 := ⟨_, rfl⟩
  have hTl : T.length ≤ 60 := by rw [hT, List.length_take]; omega
  have hT2l : T2.length ≤ 60 := by rw [hT2, List.length_take]; omega
  have hB0 : Ex w w := Ex.rfl_ _
  refine Ret.of Try.func6 rfl Try.ntmps6 rfl ?_
  refine CW.seq ?_
  refine CW.region ?_
  refine RG.vl rfl rfl rfl (Ev.assign rfl rfl) ?_
  refine RG.done ?_
  refine QW.then_ ?_
  refine CW.seq ?_
  refine CW.region ?_
  refine RG.alloc_ rfl rfl rfl rfl inf_38 (fun gL w1 egL hx1 hb1 => ?_)
  have hle2 : w.heap.size ≤ gL := by have := (Ex.rfl_ w).size; omega
  have hE3 := hx1
  refine RG.done ?_
  refine QW.then_ ?_
  refine CW.seq ?_
  refine CW.seq ?_
  refine CW.region ?_
  refine RG.vl rfl rfl rfl (Ev.move rfl rfl) ?_
  refine RG.vl rfl rfl rfl (Ev.move rfl rfl) ?_
  refine RG.litO (os := [.tmp 21, .tmp 22]) (enc := encV) ([.slice lA l.length lC, .slice mA m.length mC]) rfl rfl rfl rfl rfl rfl rfl Try.underlying39 inf_22 rfl rfl rfl rfl rfl encV_len rfl rfl (fun vA wk4 hxwk4 hown5 hnew6 => ?_)
  have hsb7 := fun e => sep_blk hb1 (Nat.le_refl _) hown5 e
  replace hown5 := Own.low (B' := w.heap.size) hown5 (by have := (Ex.tr hB0 hE3).size; omega)
  replace hE3 := Ex.tr hE3 hxwk4
  have hE8 := hxwk4
  refine RG.vl rfl rfl rfl ((Ev.lenL rfl rfl rfl Try.underlying39 ((hown5.rdl encV_len))).conv (congrArg (Value.int .i64) (show (((List.cons _ (List.cons _ List.nil) : List Value).length : Nat) : Int) = 2 from rfl))) ?_
  refine RG.vl rfl rfl rfl (Ev.move rfl rfl) ?_
  refine RG.done ?_
  refine QW.then_ ?_
  refine CW.block ?_
  refine CW.loop3 [(4, _), (5, _), (23, _), (24, _)] ⟨rfl, rfl, rfl, rfl, trivial⟩ (fun (i : Nat) (a : Value) (b : Value) => [(25, .int .i64 (i : Int))]) (fun i a b w' => (i ≤ 2 ∧ Blk w' gL 38 [a, b] ∧ Own w' w.heap.size 5 1 encB a (if 0 < i then T.map m64 else []) ∧ Own w' w.heap.size 5 1 encB b (if 1 < i then T2.map m64 else []) ∧ Own w' w.heap.size 22 1 encV vA [.slice lA l.length lC, .slice mA m.length mC] ∧ Sep a b ∧ Sep vA a ∧ Sep vA b ∧ (a.ownBlock = some gL → False) ∧ (b.ownBlock = some gL → False)) ∧ Ex w w') (fun i a b => 2 - i) (0) (.slice none 0 0) (.slice none 0 0) ⟨rfl, trivial⟩ ⟨⟨by omega, (hb1.ext hE8), Own.nil_ _ _ _ _ _, Own.nil_ _ _ _ _ _, hown5, Sep.nil_ _, (Sep.nil_ _).symm, (Sep.nil_ _).symm, (fun e => by cases e), (fun e => by cases e)⟩, (Ex.tr hB0 hE3)⟩ ?_
  rintro i a b wl9 ⟨⟨hi, hbL, hoa, hob, hvA, hab, hva, hvb, hga, hgb⟩, hxwl9⟩
  refine CW.sub (S' := [(25, _), (4, _), (5, _), (23, _), (24, _)]) ⟨rfl, rfl, rfl, rfl, rfl, trivial⟩ ?_
  refine CW.seq ?_
  refine CW.region ?_
  refine RG.vl rfl rfl rfl (Ev.lss rfl rfl rfl) ?_
  refine RG.done ?_
  refine QW.then_ ?_
  refine CW.seq ?_
  refine CW.condP rfl (fun hc10 => ?_) (fun hc10 => ?_)
  · refine CW.skip ?_
    refine QW.then_ ?_
    refine CW.seq ?_
    refine CW.block ?_
    refine CW.seq ?_
    rcases (show i = 0 ∨ i = 1 by omega) with rfl | rfl
    · rw [if_neg (by decide)] at hoa hob
      refine CW.region ?_
      refine RG.vl rfl rfl rfl (Ev.move rfl rfl) ?_
      refine RG.idxO rfl rfl rfl rfl rfl rfl Try.underlying39 sz_22 encV_len (hvA) (rfl) (fun g12 hg12 hBg12 hp11b hp11 => ?_)
      refine RG.vl rfl rfl rfl (Ev.ld0 rfl rfl Try.underlying22 rfl (hp11) (rfl)) ?_
      refine RG.vl rfl rfl rfl (Ev.assign rfl rfl) ?_
      refine RG.vl rfl rfl rfl (Ev.assign rfl rfl) ?_
      refine RG.done ?_
      refine QW.then_ ?_
      refine CW.seq ?_
      refine CW.region ?_
      refine RG.vl rfl rfl rfl (Ev.move rfl rfl) ?_
      refine RG.vl rfl rfl rfl (Ev.move rfl rfl) ?_
      refine RG.vl rfl rfl rfl (Ev.lenL rfl rfl rfl Try.underlying22 ((hl.ext hxwl9))) ?_
      refine RG.vl rfl rfl rfl ((Ev.min2 rfl rfl rfl rfl).conv (congrArg (Value.int .i64) (show min ((l.length : Nat) : Int) 60 = ((min l.length 60 : Nat) : Int) by omega))) ?_
      refine RG.sliceL (L := 0) (H := min l.length 60) _ rfl rfl rfl rfl rfl Try.underlying22 sz_5 (hl) (.inl ⟨rfl, rfl⟩) (.inr ⟨_, _, _, rfl, rfl, by omega⟩) (by omega) (by omega) (fun v13 hrv13 => ?_)
      rw [take_min, ← hT] at hrv13
      refine RG.vl rfl rfl rfl (Ev.lenL rfl rfl rfl Try.underlying22 ((hrv13.ext hxwl9))) ?_
      refine RG.vl rfl rfl rfl (Ev.move rfl rfl) ?_
      refine RG.done ?_
      refine QW.then_ ?_
      refine CW.block ?_
      refine CW.loop2 [(4, _), (5, _), (6, _), (23, _), (24, _), (25, _), (34, _), (35, _)] ⟨rfl, rfl, rfl, rfl, rfl, rfl, rfl, rfl, trivial⟩ (fun (k : Nat) (a : Value) => [(36, .int .i64 (k : Int))]) (fun k a w' => (k ≤ T.length ∧ Blk w' gL 38 [a, b] ∧ Own w' w.heap.size 5 1 encB a ((T.take k).map m64) ∧ Own w' w.heap.size 5 1 encB b ([]) ∧ Own w' w.heap.size 22 1 encV vA [.slice lA l.length lC, .slice mA m.length mC] ∧ Sep a b ∧ Sep vA a ∧ Sep vA b ∧ (a.ownBlock = some gL → False) ∧ (b.ownBlock = some gL → False)) ∧ Ex w w') (fun k a => T.length - k) (0) (a) ⟨rfl, trivial⟩ ⟨⟨Nat.zero_le _, hbL, (by rw [List.take_zero]; exact hoa), hob, hvA, hab, hva, hvb, hga, hgb⟩, (Ex.tr hB0 hxwl9)⟩ ?_
      rintro k a wl14 ⟨⟨hk, hbL, hoa, hob, hvA, hab, hva, hvb, hga, hgb⟩, hxwl14⟩
      refine CW.sub (S' := [(36, _), (4, _), (5, _), (6, _), (23, _), (24, _), (25, _), (34, _), (35, _)]) ⟨rfl, rfl, rfl, rfl, rfl, rfl, rfl, rfl, rfl, trivial⟩ ?_
      have hkl : ((T.take k).map m64).length = k := by rw [List.length_map, List.length_take]; omega
      refine CW.seq ?_
      refine CW.region ?_
      refine RG.vl rfl rfl rfl (Ev.lss rfl rfl rfl) ?_
      refine RG.done ?_
      refine QW.then_ ?_
      refine CW.seq ?_
      refine CW.condP rfl (fun hc15 => ?_) (fun hc15 => ?_)
      · refine CW.skip ?_
        refine QW.then_ ?_
        refine CW.seq ?_
        refine CW.block ?_
        refine CW.seq ?_
        obtain ⟨x, hx⟩ : ∃ x, T[k]? = some x := ⟨_, List.getElem?_eq_getElem (by omega)⟩
        refine CW.region ?_
        refine RG.idxL rfl rfl rfl rfl rfl rfl Try.underlying22 sz_5 ((hrv13.ext hxwl14)) (hx) (fun p16 hp16b hp16 => ?_)
        refine RG.vl rfl rfl rfl (Ev.ld0 rfl rfl Try.underlying5 rfl (hp16) (rfl)) ?_
        refine RG.vl rfl rfl rfl (Ev.assign rfl rfl) ?_
        refine RG.done ?_
        refine QW.then_ ?_
        refine CW.region ?_
        refine RG.vl rfl rfl rfl (Ev.move rfl rfl) ?_
        refine RG.vl rfl rfl rfl (Ev.move rfl rfl) ?_
        refine RG.vl rfl rfl rfl (Ev.idxA rfl rfl rfl Try.underlying38 sz_22 (by omega)) ?_
        refine RG.vl rfl rfl rfl (Ev.ldAt rfl rfl Try.underlying22 rfl (hbL.cells) (rfl)) ?_
        refine RG.vl rfl rfl rfl (Ev.move rfl rfl) ?_
        refine RG.vl rfl rfl rfl ((Ev.rem8 rfl rfl rfl (by omega)).conv (congrArg (Value.int .u8) (show (x.toNat : Int) % 64 = ((m64 x).toNat : Int) by rw [m64_nat]; omega))) ?_
        refine RG.litO (os := [.tmp 45]) (enc := encB) ([m64 x]) rfl rfl rfl rfl rfl rfl rfl Try.underlying22 inf_5 rfl rfl rfl rfl rfl encB_len rfl rfl (fun v17 wk18 hxwk18 hown19 hnew20 => ?_)
        have hsep21 : Sep v17 _ := Sep.of_new hoa hnew20
        have hsep22 : Sep v17 _ := Sep.of_new hob hnew20
        have hsep23 : Sep v17 _ := Sep.of_new hvA hnew20
        have hsb24 := fun e => sep_blk hbL (Nat.le_refl _) hown19 e
        replace hxwl14 := Ex.tr hxwl14 hxwk18
        have hE25 := hxwk18
        refine RG.appO rfl rfl rfl rfl rfl rfl rfl Try.underlying22 inf_5 rfl rfl encB_len (fun _ => rfl) (Own.ext hoa hE25) ((hown19.rdl encB_len)) (by show _ + 1 ≤ maxLen; simp only [maxLen]; omega) (by show (_ + 1) * _ ≤ _; omega) (hxwl14.size) (fun v26 wa27 hown28 hgr29 hat30 => ?_)
        have hb31 := Blk.grown (hbL.ext hE25) hgr29 (fun e => hga e.symm)
        have hsb32 := sepb_app hga (hbL.ext hE25) hat30
        have hsep34 := Sep.app hab (Own.ext hob hE25) hat30
        have hown33 := Own.grown (Own.ext hob hE25) hgr29 (fun k a b => hab k b a)
        have hsep36 := Sep.app (Sep.symm hva) (Own.ext hvA hE25) hat30
        have hown35 := Own.grown (Own.ext hvA hE25) hgr29 (fun k a b => (Sep.symm hva) k b a)
        have hsep38 := Sep.app (Sep.symm hsep21) hown19 hat30
        have hown37 := Own.grown hown19 hgr29 (fun k a b => (Sep.symm hsep21) k b a)
        replace hxwl14 := own_block (Own.ext hoa hE25) hxwl14 hgr29 (Nat.le_refl _) hxwl14.size
        obtain ⟨Av26, Cv26, rfl⟩ := hown28.shape
        refine RG.vl rfl rfl rfl (Ev.idxA rfl rfl rfl Try.underlying38 sz_22 (by omega)) ?_
        refine RG.st (g := gL) (k := _) rfl rfl rfl rfl rfl sz_22 rfl hb31 rfl (fun ws39 hwws39 hbws39 => ?_)
        replace hown33 := Own.far hown33 hwws39 hgb
        replace hown35 := Own.far hown35 hwws39 hsb7
        replace hown37 := Own.far hown37 hwws39 hsb24
        replace hown28 := Own.far hown28 hwws39 hsb32
        replace hxwl14 := Wr.below hxwl14 hwws39 hle2
        refine RG.done ?_
        refine QW.blockN ?_
        refine QW.then_ ?_
        refine CW.region ?_
        refine RG.vl rfl rfl rfl (Ev.addI rfl rfl rfl (by omega)) ?_
        refine RG.vl rfl rfl rfl (Ev.move rfl rfl) ?_
        refine RG.done ?_
        refine QW.sub (S' := [(4, _), (5, _), (6, _), (23, _), (24, _), (25, _), (34, _), (35, _), (36, _)]) ⟨rfl, rfl, rfl, rfl, rfl, rfl, rfl, rfl, rfl, trivial⟩ ?_
        refine QW.round2 (k + 1) ((Value.slice Av26 _ Cv26)) ⟨rfl, trivial⟩ ⟨rfl, rfl, rfl, rfl, rfl, rfl, rfl, rfl, trivial⟩ ⟨⟨by omega, hbws39, (by rw [m64_more hx]; exact hown28), hown33, hown35, hsep34, (Sep.symm hsep36), hvb, hsb32, hgb⟩, (Ex.tr hB0 hxwl14)⟩ (by omega)
      · refine CW.exit ?_
        refine QW.thenExit ?_
        refine QW.thenExit ?_
        refine QW.blockHit ?_
        refine QW.blockN ?_
        refine QW.then_ ?_
        refine CW.region ?_
        refine RG.vl rfl rfl rfl (Ev.addI rfl rfl rfl (by omega)) ?_
        refine RG.vl rfl rfl rfl (Ev.move rfl rfl) ?_
        refine RG.done ?_
        refine QW.round3 (1) (a) (b) ⟨rfl, trivial⟩ ⟨rfl, rfl, rfl, rfl, trivial⟩ ⟨⟨by omega, hbL, (by obtain rfl : k = T.length := (by omega); rw [List.take_length] at hoa; exact hoa), hob, hvA, hab, hva, hvb, hga, hgb⟩, (Ex.tr hB0 hxwl14)⟩ (by omega)
    · rw [if_pos (by decide)] at hoa
      rw [if_neg (by decide)] at hob
      refine CW.region ?_
      refine RG.vl rfl rfl rfl (Ev.move rfl rfl) ?_
      refine RG.idxO rfl rfl rfl rfl rfl rfl Try.underlying39 sz_22 encV_len (hvA) (rfl) (fun g41 hg41 hBg41 hp40b hp40 => ?_)
      refine RG.vl rfl rfl rfl (Ev.ld0 rfl rfl Try.underlying22 rfl (hp40) (rfl)) ?_
      refine RG.vl rfl rfl rfl (Ev.assign rfl rfl) ?_
      refine RG.vl rfl rfl rfl (Ev.assign rfl rfl) ?_
      refine RG.done ?_
      refine QW.then_ ?_
      refine CW.seq ?_
      refine CW.region ?_
      refine RG.vl rfl rfl rfl (Ev.move rfl rfl) ?_
      refine RG.vl rfl rfl rfl (Ev.move rfl rfl) ?_
      refine RG.vl rfl rfl rfl (Ev.lenL rfl rfl rfl Try.underlying22 ((hm.ext hxwl9))) ?_
      refine RG.vl rfl rfl rfl ((Ev.min2 rfl rfl rfl rfl).conv (congrArg (Value.int .i64) (show min ((m.length : Nat) : Int) 60 = ((min m.length 60 : Nat) : Int) by omega))) ?_
      refine RG.sliceL (L := 0) (H := min m.length 60) _ rfl rfl rfl rfl rfl Try.underlying22 sz_5 (hm) (.inl ⟨rfl, rfl⟩) (.inr ⟨_, _, _, rfl, rfl, by omega⟩) (by omega) (by omega) (fun v42 hrv42 => ?_)
      rw [take_min, ← hT2] at hrv42
      refine RG.vl rfl rfl rfl (Ev.lenL rfl rfl rfl Try.underlying22 ((hrv42.ext hxwl9))) ?_
      refine RG.vl rfl rfl rfl (Ev.move rfl rfl) ?_
      refine RG.done ?_
      refine QW.then_ ?_
      refine CW.block ?_
      refine CW.loop2 [(4, _), (5, _), (6, _), (23, _), (24, _), (25, _), (34, _), (35, _)] ⟨rfl, rfl, rfl, rfl, rfl, rfl, rfl, rfl, trivial⟩ (fun (k : Nat) (b : Value) => [(36, .int .i64 (k : Int))]) (fun k b w' => (k ≤ T2.length ∧ Blk w' gL 38 [a, b] ∧ Own w' w.heap.size 5 1 encB a (T.map m64) ∧ Own w' w.heap.size 5 1 encB b ((T2.take k).map m64) ∧ Own w' w.heap.size 22 1 encV vA [.slice lA l.length lC, .slice mA m.length mC] ∧ Sep a b ∧ Sep vA a ∧ Sep vA b ∧ (a.ownBlock = some gL → False) ∧ (b.ownBlock = some gL → False)) ∧ Ex w w') (fun k b => T2.length - k) (0) (b) ⟨rfl, trivial⟩ ⟨⟨Nat.zero_le _, hbL, hoa, (by rw [List.take_zero]; exact hob), hvA, hab, hva, hvb, hga, hgb⟩, (Ex.tr hB0 hxwl9)⟩ ?_
      rintro k b wl43 ⟨⟨hk, hbL, hoa, hob, hvA, hab, hva, hvb, hga, hgb⟩, hxwl43⟩
      refine CW.sub (S' := [(36, _), (4, _), (5, _), (6, _), (23, _), (24, _), (25, _), (34, _), (35, _)]) ⟨rfl, rfl, rfl, rfl, rfl, rfl, rfl, rfl, rfl, trivial⟩ ?_
      have hkl : ((T2.take k).map m64).length = k := by rw [List.length_map, List.length_take]; omega
      refine CW.seq ?_
      refine CW.region ?_
      refine RG.vl rfl rfl rfl (Ev.lss rfl rfl rfl) ?_
      refine RG.done ?_
      refine QW.then_ ?_
      refine CW.seq ?_
      refine CW.condP rfl (fun hc44 => ?_) (fun hc44 => ?_)
      · refine CW.skip ?_
        refine QW.then_ ?_
        refine CW.seq ?_
        refine CW.block ?_
        refine CW.seq ?_
        obtain ⟨x, hx⟩ : ∃ x, T2[k]? = some x := ⟨_, List.getElem?_eq_getElem (by omega)⟩
        refine CW.region ?_
        refine RG.idxL rfl rfl rfl rfl rfl rfl Try.underlying22 sz_5 ((hrv42.ext hxwl43)) (hx) (fun p45 hp45b hp45 => ?_)
        refine RG.vl rfl rfl rfl (Ev.ld0 rfl rfl Try.underlying5 rfl (hp45) (rfl)) ?_
        refine RG.vl rfl rfl rfl (Ev.assign rfl rfl) ?_
        refine RG.done ?_
        refine QW.then_ ?_
        refine CW.region ?_
        refine RG.vl rfl rfl rfl (Ev.move rfl rfl) ?_
        refine RG.vl rfl rfl rfl (Ev.move rfl rfl) ?_
        refine RG.vl rfl rfl rfl (Ev.idxA rfl rfl rfl Try.underlying38 sz_22 (by omega)) ?_
        refine RG.vl rfl rfl rfl (Ev.ldAt rfl rfl Try.underlying22 rfl (hbL.cells) (rfl)) ?_
        refine RG.vl rfl rfl rfl (Ev.move rfl rfl) ?_
        refine RG.vl rfl rfl rfl ((Ev.rem8 rfl rfl rfl (by omega)).conv (congrArg (Value.int .u8) (show (x.toNat : Int) % 64 = ((m64 x).toNat : Int) by rw [m64_nat]; omega))) ?_
        refine RG.litO (os := [.tmp 45]) (enc := encB) ([m64 x]) rfl rfl rfl rfl rfl rfl rfl Try.underlying22 inf_5 rfl rfl rfl rfl rfl encB_len rfl rfl (fun v46 wk47 hxwk47 hown48 hnew49 => ?_)
        have hsep50 : Sep v46 _ := Sep.of_new hoa hnew49
        have hsep51 : Sep v46 _ := Sep.of_new hob hnew49
        have hsep52 : Sep v46 _ := Sep.of_new hvA hnew49
        have hsb53 := fun e => sep_blk hbL (Nat.le_refl _) hown48 e
        replace hxwl43 := Ex.tr hxwl43 hxwk47
        have hE54 := hxwk47
        refine RG.appO rfl rfl rfl rfl rfl rfl rfl Try.underlying22 inf_5 rfl rfl encB_len (fun _ => rfl) (Own.ext hob hE54) ((hown48.rdl encB_len)) (by show _ + 1 ≤ maxLen; simp only [maxLen]; omega) (by show (_ + 1) * _ ≤ _; omega) (hxwl43.size) (fun v55 wa56 hown57 hgr58 hat59 => ?_)
        have hb60 := Blk.grown (hbL.ext hE54) hgr58 (fun e => hgb e.symm)
        have hsb61 := sepb_app hgb (hbL.ext hE54) hat59
        have hsep63 := Sep.app (Sep.symm hab) (Own.ext hoa hE54) hat59
        have hown62 := Own.grown (Own.ext hoa hE54) hgr58 (fun k a b => (Sep.symm hab) k b a)
        have hsep65 := Sep.app (Sep.symm hvb) (Own.ext hvA hE54) hat59
        have hown64 := Own.grown (Own.ext hvA hE54) hgr58 (fun k a b => (Sep.symm hvb) k b a)
        have hsep67 := Sep.app (Sep.symm hsep51) hown48 hat59
        have hown66 := Own.grown hown48 hgr58 (fun k a b => (Sep.symm hsep51) k b a)
        replace hxwl43 := own_block (Own.ext hob hE54) hxwl43 hgr58 (Nat.le_refl _) hxwl43.size
        obtain ⟨Av55, Cv55, rfl⟩ := hown57.shape
        refine RG.vl rfl rfl rfl (Ev.idxA rfl rfl rfl Try.underlying38 sz_22 (by omega)) ?_
        refine RG.st (g := gL) (k := _) rfl rfl rfl rfl rfl sz_22 rfl hb60 rfl (fun ws68 hwws68 hbws68 => ?_)
        replace hown62 := Own.far hown62 hwws68 hga
        replace hown64 := Own.far hown64 hwws68 hsb7
        replace hown66 := Own.far hown66 hwws68 hsb53
        replace hown57 := Own.far hown57 hwws68 hsb61
        replace hxwl43 := Wr.below hxwl43 hwws68 hle2
        refine RG.done ?_
        refine QW.blockN ?_
        refine QW.then_ ?_
        refine CW.region ?_
        refine RG.vl rfl rfl rfl (Ev.addI rfl rfl rfl (by omega)) ?_
        refine RG.vl rfl rfl rfl (Ev.move rfl rfl) ?_
        refine RG.done ?_
        refine QW.sub (S' := [(4, _), (5, _), (6, _), (23, _), (24, _), (25, _), (34, _), (35, _), (36, _)]) ⟨rfl, rfl, rfl, rfl, rfl, rfl, rfl, rfl, rfl, trivial⟩ ?_
        refine QW.round2 (k + 1) ((Value.slice Av55 _ Cv55)) ⟨rfl, trivial⟩ ⟨rfl, rfl, rfl, rfl, rfl, rfl, rfl, rfl, trivial⟩ ⟨⟨by omega, hbws68, hown62, (by rw [m64_more hx]; exact hown57), hown64, (Sep.symm hsep63), hva, (Sep.symm hsep65), hga, hsb61⟩, (Ex.tr hB0 hxwl43)⟩ (by omega)
      · refine CW.exit ?_
        refine QW.thenExit ?_
        refine QW.thenExit ?_
        refine QW.blockHit ?_
        refine QW.blockN ?_
        refine QW.then_ ?_
        refine CW.region ?_
        refine RG.vl rfl rfl rfl (Ev.addI rfl rfl rfl (by omega)) ?_
        refine RG.vl rfl rfl rfl (Ev.move rfl rfl) ?_
        refine RG.done ?_
        refine QW.round3 (2) (a) (b) ⟨rfl, trivial⟩ ⟨rfl, rfl, rfl, rfl, trivial⟩ ⟨⟨by omega, hbL, hoa, (by obtain rfl : k = T2.length := (by omega); rw [List.take_length] at hob; exact hob), hvA, hab, hva, hvb, hga, hgb⟩, (Ex.tr hB0 hxwl43)⟩ (by omega)
  · refine CW.exit ?_
    refine QW.thenExit ?_
    refine QW.thenExit ?_
    refine QW.blockHit ?_
    refine QW.then_ ?_
    refine CW.seq ?_
    obtain rfl : i = 2 := by omega
    rw [if_pos (by decide)] at hoa hob
    have hX := m64s_lt (T := T)
    have hY := m64s_lt (T := T2)
    have hXl : (T.map m64).length = T.length := List.length_map ..
    have hYl : (T2.map m64).length = T2.length := List.length_map ..
    generalize T.map m64 = X at *
    generalize T2.map m64 = Y at *
    have hinj := w3s_inj (X := X) (Y := Y) (by omega) (by omega) hX hY
    refine CW.region ?_
    refine RG.vl rfl rfl rfl (Ev.idxA (i := 0) rfl rfl rfl Try.underlying38 sz_22 (by omega)) ?_
    refine RG.vl rfl rfl rfl (Ev.ldAt rfl rfl Try.underlying22 rfl (hbL.cells) (rfl)) ?_
    refine RG.call rfl rfl rfl rfl rfl rfl rfl en_12 (write_is _ X (X.flatMap w3) 0 _ ((hoa.rdl encB_len)) (read_write (by omega) hX).1) ?_
    rintro _ w69 ⟨rfl, hx69⟩
    replace hxwl9 := Ex.tr hxwl9 hx69
    have hE70 := hx69
    refine RG.vl rfl rfl rfl (Ev.move rfl rfl) ?_
    refine RG.vl rfl rfl rfl (Ev.extract rfl rfl rfl) ?_
    refine RG.vl rfl rfl rfl (Ev.extract rfl rfl rfl) ?_
    refine RG.vl rfl rfl rfl (Ev.assign rfl rfl) ?_
    refine RG.vl rfl rfl rfl (Ev.assign rfl rfl) ?_
    refine RG.done ?_
    refine QW.then_ ?_
    refine CW.seq ?_
    refine CW.region ?_
    refine RG.vl rfl rfl rfl (Ev.idxA (i := 1) rfl rfl rfl Try.underlying38 sz_22 (by omega)) ?_
    refine RG.vl rfl rfl rfl (Ev.ldAt rfl rfl Try.underlying22 rfl ((hbL.ext hE70).cells) (rfl)) ?_
    refine RG.call rfl rfl rfl rfl rfl rfl rfl en_12 (write_is _ Y (Y.flatMap w3) 0 _ (((Own.ext hob hE70).rdl encB_len)) (read_write (by omega) hY).1) ?_
    rintro _ w71 ⟨rfl, hx71⟩
    replace hxwl9 := Ex.tr hxwl9 hx71
    replace hE70 := Ex.tr hE70 hx71
    have hE72 := hx71
    refine RG.vl rfl rfl rfl (Ev.move rfl rfl) ?_
    refine RG.vl rfl rfl rfl (Ev.extract rfl rfl rfl) ?_
    refine RG.vl rfl rfl rfl (Ev.extract rfl rfl rfl) ?_
    refine RG.vl rfl rfl rfl (Ev.assign rfl rfl) ?_
    refine RG.vl rfl rfl rfl (Ev.assign rfl rfl) ?_
    refine RG.done ?_
    refine QW.sub (S' := [(4, _), (5, _), (10, _), (11, _), (12, _), (13, _)]) ⟨rfl, rfl, rfl, rfl, rfl, rfl, trivial⟩ ?_
    refine QW.then_ ?_
    refine CW.seq ?_
    refine CW.region ?_
    refine RG.vl rfl rfl rfl (Ev.move rfl rfl) ?_
    refine RG.call rfl rfl rfl rfl rfl rfl rfl en_15 (read_is (X.flatMap w3) X [] 0 _ (read_write (by omega) hX).2) ?_
    have hpre73 := (Ex.tr hB0 hxwl9)
    rintro _ w73 ⟨r73, x73, rfl, hr73, hz73, hx73⟩
    have hsb74 := fun e => sep_blk (hbL.ext hE70) (Nat.le_refl _) hr73 e
    have hsb75 := fun e => sep_blk (hbL.ext hE70) (Nat.le_refl _) hz73 e
    have hsep76 : Sep r73 _ := Sep.of_new (Own.ext hoa hE70) (fun k h => Own.ge hr73 h)
    have hsep77 : Sep r73 _ := Sep.of_new (Own.ext hob hE70) (fun k h => Own.ge hr73 h)
    have hsep78 : Sep r73 _ := Sep.of_new (Own.ext hvA hE70) (fun k h => Own.ge hr73 h)
    have hsep79 : Sep x73 _ := Sep.of_new (Own.ext hoa hE70) (fun k h => Own.ge hz73 h)
    have hsep80 : Sep x73 _ := Sep.of_new (Own.ext hob hE70) (fun k h => Own.ge hz73 h)
    have hsep81 : Sep x73 _ := Sep.of_new (Own.ext hvA hE70) (fun k h => Own.ge hz73 h)
    replace hxwl9 := Ex.tr hxwl9 hx73
    replace hE70 := Ex.tr hE70 hx73
    replace hE72 := Ex.tr hE72 hx73
    have hE82 := hx73
    refine RG.vl rfl rfl rfl (Ev.move rfl rfl) ?_
    refine RG.vl rfl rfl rfl (Ev.extract rfl rfl rfl) ?_
    refine RG.vl rfl rfl rfl (Ev.extract rfl rfl rfl) ?_
    refine RG.vl rfl rfl rfl (Ev.extract rfl rfl rfl) ?_
    refine RG.vl rfl rfl rfl (Ev.assign rfl rfl) ?_
    refine RG.vl rfl rfl rfl (Ev.assign rfl rfl) ?_
    refine RG.vl rfl rfl rfl (Ev.assign rfl rfl) ?_
    refine RG.done ?_
    refine QW.then_ ?_
    refine CW.seq ?_
    refine CW.region ?_
    refine RG.vl rfl rfl rfl (Ev.move rfl rfl) ?_
    refine RG.call rfl rfl rfl rfl rfl rfl rfl en_15 (read_is (Y.flatMap w3) Y [] 0 _ (read_write (by omega) hY).2) ?_
    have hpre83 := (Ex.tr hB0 hxwl9)
    rintro _ w83 ⟨r83, x83, rfl, hr83, hz83, hx83⟩
    have hsb84 := fun e => sep_blk (hbL.ext hE70) (Nat.le_refl _) hr83 e
    have hsb85 := fun e => sep_blk (hbL.ext hE70) (Nat.le_refl _) hz83 e
    have hsep86 : Sep r83 _ := Sep.of_new (Own.ext hoa hE70) (fun k h => Own.ge hr83 h)
    have hsep87 : Sep r83 _ := Sep.of_new (Own.ext hob hE70) (fun k h => Own.ge hr83 h)
    have hsep88 : Sep r83 _ := Sep.of_new (Own.ext hvA hE70) (fun k h => Own.ge hr83 h)
    have hsep89 : Sep r83 _ := Sep.of_new hr73 (fun k h => Own.ge hr83 h)
    have hsep90 : Sep r83 _ := Sep.of_new hz73 (fun k h => Own.ge hr83 h)
    have hsep91 : Sep x83 _ := Sep.of_new (Own.ext hoa hE70) (fun k h => Own.ge hz83 h)
    have hsep92 : Sep x83 _ := Sep.of_new (Own.ext hob hE70) (fun k h => Own.ge hz83 h)
    have hsep93 : Sep x83 _ := Sep.of_new (Own.ext hvA hE70) (fun k h => Own.ge hz83 h)
    have hsep94 : Sep x83 _ := Sep.of_new hr73 (fun k h => Own.ge hz83 h)
    have hsep95 : Sep x83 _ := Sep.of_new hz73 (fun k h => Own.ge hz83 h)
    replace hxwl9 := Ex.tr hxwl9 hx83
    replace hE70 := Ex.tr hE70 hx83
    replace hE72 := Ex.tr hE72 hx83
    replace hE82 := Ex.tr hE82 hx83
    have hE96 := hx83
    refine RG.vl rfl rfl rfl (Ev.move rfl rfl) ?_
    refine RG.vl rfl rfl rfl (Ev.extract rfl rfl rfl) ?_
    refine RG.vl rfl rfl rfl (Ev.extract rfl rfl rfl) ?_
    refine RG.vl rfl rfl rfl (Ev.extract rfl rfl rfl) ?_
    refine RG.vl rfl rfl rfl (Ev.assign rfl rfl) ?_
    refine RG.vl rfl rfl rfl (Ev.assign rfl rfl) ?_
    refine RG.vl rfl rfl rfl (Ev.assign rfl rfl) ?_
    refine RG.done ?_
    refine QW.sub (S' := [(4, _), (5, _), (10, _), (11, _), (12, _), (13, _), (14, _), (16, _), (17, _), (19, _)]) ⟨rfl, rfl, rfl, rfl, rfl, rfl, rfl, rfl, rfl, rfl, trivial⟩ ?_
    refine QW.then_ ?_
    refine CW.seq ?_
    refine CW.region ?_
    refine RG.vl rfl rfl rfl (Ev.idxA (i := 0) rfl rfl rfl Try.underlying38 sz_22 (by omega)) ?_
    refine RG.vl rfl rfl rfl (Ev.ldAt rfl rfl Try.underlying22 rfl ((hbL.ext hE70).cells) (rfl)) ?_
    refine RG.vl rfl rfl rfl (Ev.idxA (i := 1) rfl rfl rfl Try.underlying38 sz_22 (by omega)) ?_
    refine RG.vl rfl rfl rfl (Ev.ldAt rfl rfl Try.underlying22 rfl ((hbL.ext hE70).cells) (rfl)) ?_
    refine RG.call rfl rfl rfl rfl rfl rfl rfl en_18 (sameB_ret _ _ X Y _ (((Own.ext hoa hE70).rdl encB_len)) (((Own.ext hob hE70).rdl encB_len)) (by omega)) ?_
    rintro _ w97 ⟨rfl, hx97⟩
    replace hxwl9 := Ex.tr hxwl9 hx97
    replace hE70 := Ex.tr hE70 hx97
    replace hE72 := Ex.tr hE72 hx97
    replace hE82 := Ex.tr hE82 hx97
    replace hE96 := Ex.tr hE96 hx97
    have hE98 := hx97
    refine RG.vl rfl rfl rfl (Ev.assign rfl rfl) ?_
    refine RG.done ?_
    refine QW.then_ ?_
    refine CW.seq ?_
    refine CW.region ?_
    refine RG.vl rfl rfl rfl (Ev.move rfl rfl) ?_
    refine RG.vl rfl rfl rfl (Ev.isT (Ev.eqI rfl rfl rfl) (rfl)) ?_
    refine RG.vl rfl rfl rfl (Ev.move rfl rfl) ?_
    refine RG.vl rfl rfl rfl (Ev.move rfl rfl) ?_
    refine RG.vl rfl rfl rfl (Ev.isT (Ev.eqI rfl rfl rfl) (rfl)) ?_
    refine RG.vl rfl rfl rfl (Ev.pickT rfl rfl rfl) ?_
    refine RG.vl rfl rfl rfl (Ev.move rfl rfl) ?_
    refine RG.vl rfl rfl rfl (Ev.move rfl rfl) ?_
    refine RG.vl rfl rfl rfl (Ev.isT (Ev.eqI rfl rfl rfl) (rfl)) ?_
    refine RG.vl rfl rfl rfl (Ev.pickT rfl rfl rfl) ?_
    refine RG.vl rfl rfl rfl (Ev.move rfl rfl) ?_
    refine RG.vl rfl rfl rfl (Ev.move rfl rfl) ?_
    refine RG.vl rfl rfl rfl (Ev.isT (Ev.eqI rfl rfl rfl) (rfl)) ?_
    refine RG.vl rfl rfl rfl (Ev.pickT rfl rfl rfl) ?_
    refine RG.vl rfl rfl rfl (Ev.move rfl rfl) ?_
    refine RG.vl rfl rfl rfl (Ev.move rfl rfl) ?_
    refine RG.vl rfl rfl rfl (Ev.move rfl rfl) ?_
    refine RG.vl rfl rfl rfl (Ev.eqS rfl rfl rfl) ?_
    refine RG.vl rfl rfl rfl (Ev.move rfl rfl) ?_
    refine RG.vl rfl rfl rfl (Ev.isT (Ev.eqB rfl rfl rfl Try.underlying4) (decide_eq_decide.2 (bx_eq.trans hinj))) ?_
    refine RG.vl rfl rfl rfl (Ev.pickT rfl rfl rfl) ?_
    refine RG.vl rfl rfl rfl (Ev.move rfl rfl) ?_
    refine RG.vl rfl rfl rfl (Ev.move rfl rfl) ?_
    refine RG.vl rfl rfl rfl (Ev.move rfl rfl) ?_
    refine RG.call rfl rfl rfl rfl rfl rfl rfl en_18 (sameB_ret _ _ X Y _ (((Own.ext hr73 hE96).rdl encB_len)) (((Own.ext hr83 hE98).rdl encB_len)) (by omega)) ?_
    rintro _ w99 ⟨rfl, hx99⟩
    replace hxwl9 := Ex.tr hxwl9 hx99
    replace hE70 := Ex.tr hE70 hx99
    replace hE72 := Ex.tr hE72 hx99
    replace hE82 := Ex.tr hE82 hx99
    replace hE96 := Ex.tr hE96 hx99
    replace hE98 := Ex.tr hE98 hx99
    have hE100 := hx99
    refine RG.vl rfl rfl rfl (Ev.move rfl rfl) ?_
    refine RG.vl rfl rfl rfl (Ev.isT (Ev.eqB rfl rfl rfl Try.underlying4) (rfl)) ?_
    refine RG.vl rfl rfl rfl (Ev.pickT rfl rfl rfl) ?_
    refine RG.vl rfl rfl rfl (Ev.move rfl rfl) ?_
    refine RG.call rfl rfl rfl rfl rfl rfl rfl en_10 (awake_ret _) ?_
    rintro _ w101 ⟨rfl, hx101⟩
    replace hxwl9 := Ex.tr hxwl9 hx101
    replace hE70 := Ex.tr hE70 hx101
    replace hE72 := Ex.tr hE72 hx101
    replace hE82 := Ex.tr hE82 hx101
    replace hE96 := Ex.tr hE96 hx101
    replace hE98 := Ex.tr hE98 hx101
    replace hE100 := Ex.tr hE100 hx101
    have hE102 := hx101
    refine RG.vl rfl rfl rfl (Ev.pickT rfl rfl rfl) ?_
    refine RG.vl rfl rfl rfl (Ev.assign rfl rfl) ?_
    refine RG.done ?_
    refine QW.sub (S' := [(4, _)]) ⟨rfl, trivial⟩ ?_
    refine QW.then_ ?_
    refine CW.ret ?_
    refine QW.ret1 rfl rfl ?_
    have hB := (Ex.tr hB0 hxwl9)
    exact ⟨rfl, hB⟩

end Go.Proofs.Ytgafkbnlhlbmkaa
