/- Walks (BWS). Written by program. -/
import Derived.Test.YtgafkbnlhlbmkaaT
import Derived.Test.YtgafkbnlhlbmkaaBWR
import Derived.Test.YtgafkbnlhlbmkaaBFS
namespace Go.Proofs.Ytgafkbnlhlbmkaa
open Go.RowKit
set_option maxRecDepth 100000 in
set_option maxHeartbeats 600000 in
theorem barsWrong_ret (lv : Value) (l : List UInt8) (k : Nat) (w : World) (hl : RdL w 1 encB lv l) (hk : k < 256) :
    Ret Try.prog 9 [lv, .int .u8 (k : Int)] w (fun v w' => v = .bool true ∧ Ex w w') := by
  obtain ⟨lA, lC, rfl⟩ := hl.shape
  have hT1 := wrL_len l
  have hT2 := wrL_all l
  generalize hT : wrL l = T at hT1 hT2
  have hts := sb_len T
  have h192 := UInt8.toNat_ofNat_of_lt' (show 64 + k % 192 < 256 by omega)
  have hB0 : Ex w w := Ex.rfl_ _
  refine Ret.of Try.func9 rfl Try.ntmps9 rfl ?_
  refine CW.seq ?_
  refine CW.region ?_
  refine RG.vl rfl rfl rfl (Ev.assign rfl rfl) ?_
  refine RG.done ?_
  refine QW.then_ ?_
  refine CW.seq ?_
  refine CW.region ?_
  refine RG.vl rfl rfl rfl (Ev.move rfl rfl) ?_
  refine RG.call rfl rfl rfl rfl rfl rfl rfl en_16 (Ret.mono (Ψ := fun v w' => v = .string ⟨T.toArray⟩ ∧ Ex w w') (written_ret _ l _ (hl)) (fun v w' h => ⟨by rw [← hT]; exact h.1, h.2⟩)) ?_
  rintro _ w1 ⟨rfl, hx1⟩
  have hE2 := hx1
  refine RG.vl rfl rfl rfl (Ev.assign rfl rfl) ?_
  refine RG.done ?_
  refine QW.then_ ?_
  refine CW.seq ?_
  refine CW.region ?_
  refine RG.vl rfl rfl rfl (Ev.move rfl rfl) ?_
  refine RG.vl rfl rfl rfl (Ev.assign rfl rfl) ?_
  refine RG.done ?_
  refine QW.then_ ?_
  refine CW.seq ?_
  refine CW.block ?_
  replace hl := (hl.ext hE2)
  have hR3 := (Ex.tr hB0 hE2)
  refine CW.loop1 [(1, _), (4, _), (5, _)] ⟨rfl, rfl, rfl, trivial⟩ (fun (j : Nat) => [(6, .string ⟨(lng j T).toArray⟩)]) (fun j w' => (j ≤ 100) ∧ Ex w1 w') (fun j => 100 - j) (0) ⟨rfl, trivial⟩ ⟨by omega, (Ex.rfl_ _)⟩ ?_
  rintro j wl4 ⟨hj, hxwl4⟩
  refine CW.sub (S' := [(6, _), (1, _), (4, _), (5, _)]) ⟨rfl, rfl, rfl, rfl, trivial⟩ ?_
  refine CW.seq ?_
  refine CW.seq ?_
  refine CW.region ?_
  refine RG.vl rfl rfl rfl (Ev.move rfl rfl) ?_
  refine RG.vl rfl rfl rfl (Ev.lenStr rfl rfl rfl Try.underlying9) ?_
  refine RG.vl rfl rfl rfl (Ev.leq rfl rfl rfl) ?_
  refine RG.done ?_
  refine QW.then_ ?_
  refine CW.condP rfl (fun hc5 => ?_) (fun hc5 => ?_)
  · refine CW.skip ?_
    refine QW.then_ ?_
    refine CW.block ?_
    have hll := lng_len j T
    have hls := sb_len (lng j T)
    refine CW.region ?_
    refine RG.vl rfl rfl rfl (Ev.move rfl rfl) ?_
    refine RG.vl rfl rfl rfl (Ev.cat rfl rfl rfl (by rw [sb_len, hll]; show _ + 3 ≤ _; omega)) ?_
    refine RG.vl rfl rfl rfl (Ev.assign rfl rfl) ?_
    refine RG.done ?_
    refine QW.blockN ?_
    refine QW.round1 (j + 1) ⟨congrArg (fun x => some (Value.string x)) (bx_cat (lng j T) [84, 65, 68]), trivial⟩ ⟨rfl, rfl, rfl, trivial⟩ ⟨by omega, hxwl4⟩ (by omega)
  · refine CW.exit ?_
    refine QW.thenExit ?_
    refine QW.thenExit ?_
    refine QW.blockHit ?_
    refine QW.then_ ?_
    refine CW.seq ?_
    have hll := lng_len j T
    have hls := sb_len (lng j T)
    have hTs := sb_len (T ++ [84])
    have hTl : (T ++ [84]).length = T.length + 1 := by simp
    refine CW.region ?_
    refine RG.vl rfl rfl rfl (Ev.move rfl rfl) ?_
    refine RG.vl rfl rfl rfl ((Ev.cat rfl rfl rfl (by rw [hts]; show _ + 1 ≤ _; omega)).conv (congrArg Value.string (bx_cat T [84]))) ?_
    refine RG.toBytesM rfl rfl rfl rfl rfl Try.underlying9 Try.underlying22 Try.underlying5 (by simp only [maxLen]; omega) (fun gB cgB wk6 egB hxwk6 hbgB hc1gB hc2gB => ?_)
    have hle7 : w1.heap.size ≤ gB := by have := hxwl4.size; omega
    have hle8 : wl4.heap.size ≤ gB := by have := (Ex.rfl_ wl4).size; omega
    replace hxwl4 := Ex.tr hxwl4 hxwk6
    have hE9 := hxwk6
    refine RG.vl rfl rfl rfl (Ev.assign rfl rfl) ?_
    refine RG.done ?_
    refine QW.then_ ?_
    refine CW.seq ?_
    obtain ⟨b, hb⟩ : ∃ b, ([116, 32, 88, 0, 200] : List UInt8)[k % 5]? = some b := ⟨_, List.getElem?_eq_getElem (by show _ < 5; omega)⟩
    have hbb := bads hb
    have hkm := Nat.mod_lt k (show T.length + 1 > 0 by omega)
    obtain ⟨i, hi⟩ : ∃ i, i = k % (T ++ [84]).length := ⟨_, rfl⟩
    have hi2 : i < (T ++ [84]).length := by rw [hi]; exact Nat.mod_lt _ (by omega)
    have hbd := set_bad hi2 hbb
    have hbl : ((T ++ [84]).set i b).length = T.length + 1 := by rw [List.length_set]; exact hTl
    obtain ⟨X, hX⟩ : ∃ X, X = (T ++ [84]).set i b := ⟨_, rfl⟩
    have hX1 : X.all isL = false := by rw [hX]; exact hbd
    have hXl : X.length = T.length + 1 := by rw [hX]; exact hbl
    have hX2 : X.length ≤ 200 := by rw [hXl]; omega
    have hX3 : X.length ≤ 196 := by rw [hXl]; omega
    refine CW.draw [12] (.ex) 13 rfl mixed (fun wd10 hxwd10 => ?_)
    replace hxwl4 := Ex.tr hxwl4 hxwd10
    replace hE9 := Ex.tr hE9 hxwd10
    have hE11 := hxwd10
    refine AG.takeW 0 rfl (by kernel_rfl) (by kernel_rfl) rfl rfl rfl (fun _ => Ev.move rfl rfl) ?_
    refine AG.takeW 1 rfl (by kernel_rfl) (by kernel_rfl) rfl rfl rfl (fun _ => Ev.move rfl rfl) ?_
    refine AG.takeW 2 rfl (by kernel_rfl) (by kernel_rfl) rfl rfl rfl (fun _ => Ev.to64 rfl rfl Try.underlying5 Try.underlying3 (by omega)) ?_
    refine AG.takeW 3 rfl (by kernel_rfl) (by kernel_rfl) rfl rfl rfl (fun _ => Ev.move rfl rfl) ?_
    refine AG.takeW 4 rfl (by kernel_rfl) (by kernel_rfl) rfl rfl rfl (fun _ => Ev.lenSlice rfl rfl rfl Try.underlying22) ?_
    refine AG.takeW 5 rfl (by kernel_rfl) (by kernel_rfl) rfl rfl rfl (fun _ => (Ev.remI rfl rfl rfl (by omega)).conv (congrArg (Value.int .i64) (show (k : Int) % (((T ++ [84]).length : Nat) : Int) = (i : Int) by rw [hi, Int.natCast_emod]))) ?_
    refine AG.takeW 7 rfl (by kernel_rfl) (by kernel_rfl) rfl rfl rfl (fun _ => Ev.move rfl rfl) ?_
    refine AG.takeW 8 rfl (by kernel_rfl) (by kernel_rfl) rfl rfl rfl (fun _ => (Ev.rem8 rfl rfl rfl (by omega)).conv (congrArg (Value.int .u8) (show (k : Int) % 5 = ((k % 5 : Nat) : Int) by omega))) ?_
    refine AG.only 6 rfl (by kernel_rfl) ?_
    refine RG.litO (os := [_, _, _, _, _]) (enc := encB) ([116, 32, 88, 0, 200]) rfl rfl rfl rfl rfl rfl rfl Try.underlying22 inf_5 rfl rfl rfl rfl rfl encB_len rfl rfl (fun v13 wk14 hxwk14 hown15 hnew16 => ?_)
    replace hxwl4 := Ex.tr hxwl4 hxwk14
    replace hE9 := Ex.tr hE9 hxwk14
    replace hE11 := Ex.tr hE11 hxwk14
    have hE17 := hxwk14
    refine RG.done ?_
    refine QW.an (fun _ => hE17) ?_
    refine AG.idxO _ 9 rfl (by kernel_rfl) (by kernel_rfl) rfl rfl rfl rfl rfl rfl Try.underlying22 sz_5 encB_len (hown15) (hb) (fun g19 hg19 hBg19 hp18b hp18 => ?_)
    refine AG.take 10 rfl (by kernel_rfl) (by kernel_rfl) rfl rfl rfl (fun wq hq => Ev.ld0 rfl rfl Try.underlying5 rfl (hp18.ext hq hp18b) (rfl)) ?_
    refine AG.takeW 11 rfl (by kernel_rfl) (by kernel_rfl) rfl rfl rfl (fun _ => Ev.idxN rfl rfl rfl Try.underlying22 sz_5 (by omega)) ?_
    refine AG.only 12 rfl (by kernel_rfl) ?_
    refine RG.stM (g := gB) (b) rfl rfl rfl rfl rfl sz_5 (hbgB.ext hE11) (hi2) (fun ws21 hwws21 hbws21 => ?_)
    replace hxwl4 := Wr.below hxwl4 hwws21 hle7
    replace hE9 := Wr.below hE9 hwws21 hle8
    refine RG.done ?_
    refine QW.an (fun h => by simp at h) ?_
    refine AG.done (by kernel_rfl) ?_
    refine QW.sub (S' := [(1, _), (4, _), (5, _), (6, _), (7, _)]) ⟨rfl, rfl, rfl, rfl, rfl, trivial⟩ ?_
    refine QW.then_ ?_
    refine CW.seq ?_
    refine CW.region ?_
    refine RG.vl rfl rfl rfl (Ev.move rfl rfl) ?_
    refine RG.call rfl rfl rfl rfl rfl rfl rfl en_15 (read_is (lng j T) [] [] 3 _ (read_long (by omega))) ?_
    have hpre22 := (Ex.tr hR3 hxwl4)
    rintro _ w22 ⟨r22, x22, rfl, hr22, hz22, hx22⟩
    replace hxwl4 := Ex.tr hxwl4 hx22
    replace hE9 := Ex.tr hE9 hx22
    have hE23 := hx22
    refine RG.vl rfl rfl rfl (Ev.move rfl rfl) ?_
    refine RG.vl rfl rfl rfl (Ev.extract rfl rfl rfl) ?_
    refine RG.vl rfl rfl rfl (Ev.extract rfl rfl rfl) ?_
    refine RG.vl rfl rfl rfl (Ev.extract rfl rfl rfl) ?_
    refine RG.vl rfl rfl rfl (Ev.assign rfl rfl) ?_
    refine RG.vl rfl rfl rfl (Ev.assign rfl rfl) ?_
    refine RG.vl rfl rfl rfl (Ev.assign rfl rfl) ?_
    refine RG.done ?_
    refine QW.then_ ?_
    refine CW.seq ?_
    refine CW.region ?_
    refine RG.vl rfl rfl rfl (Ev.move rfl rfl) ?_
    refine RG.call rfl rfl rfl rfl rfl rfl rfl en_17 (turn_is (lng j T) [] 3 _ (turn_long (by omega))) ?_
    rintro _ w24 ⟨rfl, hx24⟩
    replace hxwl4 := Ex.tr hxwl4 hx24
    replace hE9 := Ex.tr hE9 hx24
    replace hE23 := Ex.tr hE23 hx24
    have hE25 := hx24
    refine RG.vl rfl rfl rfl (Ev.move rfl rfl) ?_
    refine RG.vl rfl rfl rfl (Ev.extract rfl rfl rfl) ?_
    refine RG.vl rfl rfl rfl (Ev.extract rfl rfl rfl) ?_
    refine RG.vl rfl rfl rfl (Ev.assign rfl rfl) ?_
    refine RG.vl rfl rfl rfl (Ev.assign rfl rfl) ?_
    refine RG.done ?_
    refine QW.sub (S' := [(1, _), (4, _), (5, _), (6, _), (7, _), (10, _), (12, _)]) ⟨rfl, rfl, rfl, rfl, rfl, rfl, rfl, trivial⟩ ?_
    refine QW.then_ ?_
    refine CW.seq ?_
    refine CW.region ?_
    refine RG.vl rfl rfl rfl (Ev.move rfl rfl) ?_
    refine RG.vl rfl rfl rfl ((Ev.cutStr (i := 0) (j := 197) rfl rfl Try.underlying9 rfl rfl (by omega) (by rw [sb_len]; omega)).conv (congrArg Value.string ((bx_cut (lng j T) 0 197).trans (by rw [List.drop_zero])))) ?_
    refine RG.call rfl rfl rfl rfl rfl rfl rfl en_19 (frame_is ((lng j T).take 197) [] 3 _ (frame_long (by rw [List.length_take]; omega))) ?_
    rintro _ w26 ⟨rfl, hx26⟩
    replace hxwl4 := Ex.tr hxwl4 hx26
    replace hE9 := Ex.tr hE9 hx26
    replace hE23 := Ex.tr hE23 hx26
    replace hE25 := Ex.tr hE25 hx26
    have hE27 := hx26
    refine RG.vl rfl rfl rfl (Ev.move rfl rfl) ?_
    refine RG.vl rfl rfl rfl (Ev.extract rfl rfl rfl) ?_
    refine RG.vl rfl rfl rfl (Ev.extract rfl rfl rfl) ?_
    refine RG.vl rfl rfl rfl (Ev.assign rfl rfl) ?_
    refine RG.vl rfl rfl rfl (Ev.assign rfl rfl) ?_
    refine RG.done ?_
    refine QW.then_ ?_
    refine CW.seq ?_
    refine CW.region ?_
    refine RG.vl rfl rfl rfl (Ev.move rfl rfl) ?_
    refine RG.call rfl rfl rfl rfl rfl rfl rfl en_20 (unf_is (lng j T) [] false 3 _ (unf_long (by omega))) ?_
    rintro _ w28 ⟨rfl, hx28⟩
    replace hxwl4 := Ex.tr hxwl4 hx28
    replace hE9 := Ex.tr hE9 hx28
    replace hE23 := Ex.tr hE23 hx28
    replace hE25 := Ex.tr hE25 hx28
    replace hE27 := Ex.tr hE27 hx28
    have hE29 := hx28
    refine RG.vl rfl rfl rfl (Ev.move rfl rfl) ?_
    refine RG.vl rfl rfl rfl (Ev.extract rfl rfl rfl) ?_
    refine RG.vl rfl rfl rfl (Ev.extract rfl rfl rfl) ?_
    refine RG.vl rfl rfl rfl (Ev.extract rfl rfl rfl) ?_
    refine RG.vl rfl rfl rfl (Ev.assign rfl rfl) ?_
    refine RG.vl rfl rfl rfl (Ev.assign rfl rfl) ?_
    refine RG.vl rfl rfl rfl (Ev.assign rfl rfl) ?_
    refine RG.done ?_
    refine QW.sub (S' := [(1, _), (4, _), (5, _), (7, _), (10, _), (12, _), (14, _), (17, _)]) ⟨rfl, rfl, rfl, rfl, rfl, rfl, rfl, rfl, trivial⟩ ?_
    refine QW.then_ ?_
    refine CW.seq ?_
    refine CW.region ?_
    refine RG.makeO (m := 67) (enc := encB) 0 rfl rfl rfl rfl rfl rfl (by omega) Try.underlying22 inf_5 encB_len rfl rfl (by omega) (by simp only [maxLen]; omega) (fun v30 wk31 hxwk31 hown32 hnew33 => ?_)
    replace hxwl4 := Ex.tr hxwl4 hxwk31
    replace hE9 := Ex.tr hE9 hxwk31
    replace hE23 := Ex.tr hE23 hxwk31
    replace hE25 := Ex.tr hE25 hxwk31
    replace hE27 := Ex.tr hE27 hxwk31
    replace hE29 := Ex.tr hE29 hxwk31
    have hE34 := hxwk31
    refine RG.call rfl rfl rfl rfl rfl rfl rfl en_12 (write_is _ (List.replicate 67 0) [] 3 _ ((hown32.rdl encB_len)) (by decide +kernel)) ?_
    rintro _ w35 ⟨rfl, hx35⟩
    replace hxwl4 := Ex.tr hxwl4 hx35
    replace hE9 := Ex.tr hE9 hx35
    replace hE23 := Ex.tr hE23 hx35
    replace hE25 := Ex.tr hE25 hx35
    replace hE27 := Ex.tr hE27 hx35
    replace hE29 := Ex.tr hE29 hx35
    replace hE34 := Ex.tr hE34 hx35
    have hE36 := hx35
    refine RG.vl rfl rfl rfl (Ev.move rfl rfl) ?_
    refine RG.vl rfl rfl rfl (Ev.extract rfl rfl rfl) ?_
    refine RG.vl rfl rfl rfl (Ev.extract rfl rfl rfl) ?_
    refine RG.vl rfl rfl rfl (Ev.assign rfl rfl) ?_
    refine RG.vl rfl rfl rfl (Ev.assign rfl rfl) ?_
    refine RG.done ?_
    refine QW.then_ ?_
    refine CW.seq ?_
    refine CW.seq ?_
    refine CW.region ?_
    refine RG.vl rfl rfl rfl (Ev.move rfl rfl) ?_
    refine RG.vl rfl rfl rfl (Ev.isF (Ev.neI rfl rfl rfl) (fun h => h rfl)) ?_
    refine RG.vl rfl rfl rfl (Ev.move rfl rfl) ?_
    refine RG.vl rfl rfl rfl (Ev.move rfl rfl) ?_
    refine RG.vl rfl rfl rfl (Ev.move rfl rfl) ?_
    refine RG.vl rfl rfl rfl (Ev.isF (Ev.neI rfl rfl rfl) (fun h => h rfl)) ?_
    refine RG.vl rfl rfl rfl (Ev.pickF rfl rfl rfl) ?_
    refine RG.vl rfl rfl rfl (Ev.move rfl rfl) ?_
    refine RG.vl rfl rfl rfl (Ev.move rfl rfl) ?_
    refine RG.vl rfl rfl rfl (Ev.move rfl rfl) ?_
    refine RG.vl rfl rfl rfl (Ev.isF (Ev.neI rfl rfl rfl) (fun h => h rfl)) ?_
    refine RG.vl rfl rfl rfl (Ev.pickF rfl rfl rfl) ?_
    refine RG.vl rfl rfl rfl (Ev.move rfl rfl) ?_
    refine RG.vl rfl rfl rfl (Ev.move rfl rfl) ?_
    refine RG.vl rfl rfl rfl (Ev.move rfl rfl) ?_
    refine RG.vl rfl rfl rfl (Ev.isF (Ev.neI rfl rfl rfl) (fun h => h rfl)) ?_
    refine RG.vl rfl rfl rfl (Ev.pickF rfl rfl rfl) ?_
    refine RG.vl rfl rfl rfl (Ev.move rfl rfl) ?_
    refine RG.vl rfl rfl rfl (Ev.move rfl rfl) ?_
    refine RG.vl rfl rfl rfl (Ev.move rfl rfl) ?_
    refine RG.vl rfl rfl rfl (Ev.isF (Ev.neI rfl rfl rfl) (fun h => h rfl)) ?_
    refine RG.vl rfl rfl rfl (Ev.pickF rfl rfl rfl) ?_
    refine RG.done ?_
    refine QW.sub (S' := [(1, _), (4, _), (5, _), (7, _), (10, _), (12, _), (14, _), (17, _), (19, _), (95, _)]) ⟨rfl, rfl, rfl, rfl, rfl, rfl, rfl, rfl, rfl, rfl, trivial⟩ ?_
    refine QW.then_ ?_
    refine CW.condF rfl ?_
    refine CW.skip ?_
    refine QW.then_ ?_
    refine CW.seq ?_
    refine CW.region ?_
    refine RG.vl rfl rfl rfl (Ev.move rfl rfl) ?_
    refine RG.vl rfl rfl rfl ((Ev.toStr rfl rfl Try.underlying22 Try.underlying5 Try.underlying9 ((Mkd.rdl (hbws21.ext hE23) List.length_set hc1gB hc2gB))).conv (congrArg (fun x : List UInt8 => Value.string ⟨x.toArray⟩) hX.symm)) ?_
    refine RG.call rfl rfl rfl rfl rfl rfl rfl en_15 (read_is X [] [] 2 _ (read_bad hX2 hX1)) ?_
    have hpre37 := (Ex.tr hR3 hxwl4)
    rintro _ w37 ⟨r37, x37, rfl, hr37, hz37, hx37⟩
    replace hxwl4 := Ex.tr hxwl4 hx37
    replace hE9 := Ex.tr hE9 hx37
    replace hE23 := Ex.tr hE23 hx37
    replace hE25 := Ex.tr hE25 hx37
    replace hE27 := Ex.tr hE27 hx37
    replace hE29 := Ex.tr hE29 hx37
    replace hE34 := Ex.tr hE34 hx37
    replace hE36 := Ex.tr hE36 hx37
    have hE38 := hx37
    refine RG.vl rfl rfl rfl (Ev.move rfl rfl) ?_
    refine RG.vl rfl rfl rfl (Ev.extract rfl rfl rfl) ?_
    refine RG.vl rfl rfl rfl (Ev.extract rfl rfl rfl) ?_
    refine RG.vl rfl rfl rfl (Ev.extract rfl rfl rfl) ?_
    refine RG.vl rfl rfl rfl (Ev.assign rfl rfl) ?_
    refine RG.done ?_
    refine QW.then_ ?_
    refine CW.seq ?_
    refine CW.region ?_
    refine RG.vl rfl rfl rfl (Ev.move rfl rfl) ?_
    refine RG.vl rfl rfl rfl ((Ev.toStr rfl rfl Try.underlying22 Try.underlying5 Try.underlying9 ((Mkd.rdl (hbws21.ext hE23) List.length_set hc1gB hc2gB))).conv (congrArg (fun x : List UInt8 => Value.string ⟨x.toArray⟩) hX.symm)) ?_
    refine RG.call rfl rfl rfl rfl rfl rfl rfl en_17 (turn_is X [] 2 _ (turn_bad hX2 hX1)) ?_
    rintro _ w39 ⟨rfl, hx39⟩
    replace hxwl4 := Ex.tr hxwl4 hx39
    replace hE9 := Ex.tr hE9 hx39
    replace hE23 := Ex.tr hE23 hx39
    replace hE25 := Ex.tr hE25 hx39
    replace hE27 := Ex.tr hE27 hx39
    replace hE29 := Ex.tr hE29 hx39
    replace hE34 := Ex.tr hE34 hx39
    replace hE36 := Ex.tr hE36 hx39
    replace hE38 := Ex.tr hE38 hx39
    have hE40 := hx39
    refine RG.vl rfl rfl rfl (Ev.move rfl rfl) ?_
    refine RG.vl rfl rfl rfl (Ev.extract rfl rfl rfl) ?_
    refine RG.vl rfl rfl rfl (Ev.extract rfl rfl rfl) ?_
    refine RG.vl rfl rfl rfl (Ev.assign rfl rfl) ?_
    refine RG.done ?_
    refine QW.sub (S' := [(1, _), (4, _), (5, _), (7, _), (10, _), (12, _), (14, _), (17, _), (19, _)]) ⟨rfl, rfl, rfl, rfl, rfl, rfl, rfl, rfl, rfl, trivial⟩ ?_
    refine QW.then_ ?_
    refine CW.seq ?_
    refine CW.region ?_
    refine RG.vl rfl rfl rfl (Ev.move rfl rfl) ?_
    refine RG.vl rfl rfl rfl ((Ev.toStr rfl rfl Try.underlying22 Try.underlying5 Try.underlying9 ((Mkd.rdl (hbws21.ext hE23) List.length_set hc1gB hc2gB))).conv (congrArg (fun x : List UInt8 => Value.string ⟨x.toArray⟩) hX.symm)) ?_
    refine RG.call rfl rfl rfl rfl rfl rfl rfl en_19 (frame_is X [] 2 _ (frame_bad hX3 hX1)) ?_
    rintro _ w41 ⟨rfl, hx41⟩
    replace hxwl4 := Ex.tr hxwl4 hx41
    replace hE9 := Ex.tr hE9 hx41
    replace hE23 := Ex.tr hE23 hx41
    replace hE25 := Ex.tr hE25 hx41
    replace hE27 := Ex.tr hE27 hx41
    replace hE29 := Ex.tr hE29 hx41
    replace hE34 := Ex.tr hE34 hx41
    replace hE36 := Ex.tr hE36 hx41
    replace hE38 := Ex.tr hE38 hx41
    replace hE40 := Ex.tr hE40 hx41
    have hE42 := hx41
    refine RG.vl rfl rfl rfl (Ev.move rfl rfl) ?_
    refine RG.vl rfl rfl rfl (Ev.extract rfl rfl rfl) ?_
    refine RG.vl rfl rfl rfl (Ev.extract rfl rfl rfl) ?_
    refine RG.vl rfl rfl rfl (Ev.assign rfl rfl) ?_
    refine RG.done ?_
    refine QW.then_ ?_
    refine CW.seq ?_
    refine CW.region ?_
    refine RG.vl rfl rfl rfl (Ev.move rfl rfl) ?_
    refine RG.vl rfl rfl rfl ((Ev.toStr rfl rfl Try.underlying22 Try.underlying5 Try.underlying9 ((Mkd.rdl (hbws21.ext hE23) List.length_set hc1gB hc2gB))).conv (congrArg (fun x : List UInt8 => Value.string ⟨x.toArray⟩) hX.symm)) ?_
    refine RG.call rfl rfl rfl rfl rfl rfl rfl en_20 (unf_is X [] false 2 _ (unf_bad hX2 hX1)) ?_
    rintro _ w43 ⟨rfl, hx43⟩
    replace hxwl4 := Ex.tr hxwl4 hx43
    replace hE9 := Ex.tr hE9 hx43
    replace hE23 := Ex.tr hE23 hx43
    replace hE25 := Ex.tr hE25 hx43
    replace hE27 := Ex.tr hE27 hx43
    replace hE29 := Ex.tr hE29 hx43
    replace hE34 := Ex.tr hE34 hx43
    replace hE36 := Ex.tr hE36 hx43
    replace hE38 := Ex.tr hE38 hx43
    replace hE40 := Ex.tr hE40 hx43
    replace hE42 := Ex.tr hE42 hx43
    have hE44 := hx43
    refine RG.vl rfl rfl rfl (Ev.move rfl rfl) ?_
    refine RG.vl rfl rfl rfl (Ev.extract rfl rfl rfl) ?_
    refine RG.vl rfl rfl rfl (Ev.extract rfl rfl rfl) ?_
    refine RG.vl rfl rfl rfl (Ev.extract rfl rfl rfl) ?_
    refine RG.vl rfl rfl rfl (Ev.assign rfl rfl) ?_
    refine RG.done ?_
    refine QW.sub (S' := [(1, _), (4, _), (5, _), (10, _), (12, _), (14, _), (17, _), (19, _)]) ⟨rfl, rfl, rfl, rfl, rfl, rfl, rfl, rfl, trivial⟩ ?_
    refine QW.then_ ?_
    refine CW.seq ?_
    refine CW.region ?_
    refine RG.vl rfl rfl rfl (Ev.move rfl rfl) ?_
    refine RG.vl rfl rfl rfl ((Ev.rem8 rfl rfl rfl (by omega)).conv (congrArg (Value.int .u8) (show (k : Int) % 192 = ((k % 192 : Nat) : Int) by omega))) ?_
    refine RG.vl rfl rfl rfl ((Ev.add8 rfl rfl rfl (by omega)).conv (congrArg (Value.int .u8) (show (64 : Int) + ((k % 192 : Nat) : Int) = ((UInt8.ofNat (64 + k % 192)).toNat : Int) by rw [h192]; omega))) ?_
    refine RG.litO (os := [_, .tmp 125]) (enc := encB) ([1, UInt8.ofNat (64 + k % 192)]) rfl rfl rfl rfl rfl rfl rfl Try.underlying22 inf_5 rfl rfl rfl rfl rfl encB_len rfl rfl (fun v45 wk46 hxwk46 hown47 hnew48 => ?_)
    replace hxwl4 := Ex.tr hxwl4 hxwk46
    replace hE9 := Ex.tr hE9 hxwk46
    replace hE23 := Ex.tr hE23 hxwk46
    replace hE25 := Ex.tr hE25 hxwk46
    replace hE27 := Ex.tr hE27 hxwk46
    replace hE29 := Ex.tr hE29 hxwk46
    replace hE34 := Ex.tr hE34 hxwk46
    replace hE36 := Ex.tr hE36 hxwk46
    replace hE38 := Ex.tr hE38 hxwk46
    replace hE40 := Ex.tr hE40 hxwk46
    replace hE42 := Ex.tr hE42 hxwk46
    replace hE44 := Ex.tr hE44 hxwk46
    have hE49 := hxwk46
    refine RG.call rfl rfl rfl rfl rfl rfl rfl en_12 (write_is _ [1, UInt8.ofNat (64 + k % 192)] [] 2 _ ((hown47.rdl encB_len)) (w_bad (i := 1) (by simp) rfl (by rw [h192]; omega))) ?_
    rintro _ w50 ⟨rfl, hx50⟩
    replace hxwl4 := Ex.tr hxwl4 hx50
    replace hE9 := Ex.tr hE9 hx50
    replace hE23 := Ex.tr hE23 hx50
    replace hE25 := Ex.tr hE25 hx50
    replace hE27 := Ex.tr hE27 hx50
    replace hE29 := Ex.tr hE29 hx50
    replace hE34 := Ex.tr hE34 hx50
    replace hE36 := Ex.tr hE36 hx50
    replace hE38 := Ex.tr hE38 hx50
    replace hE40 := Ex.tr hE40 hx50
    replace hE42 := Ex.tr hE42 hx50
    replace hE44 := Ex.tr hE44 hx50
    replace hE49 := Ex.tr hE49 hx50
    have hE51 := hx50
    refine RG.vl rfl rfl rfl (Ev.move rfl rfl) ?_
    refine RG.vl rfl rfl rfl (Ev.extract rfl rfl rfl) ?_
    refine RG.vl rfl rfl rfl (Ev.extract rfl rfl rfl) ?_
    refine RG.vl rfl rfl rfl (Ev.assign rfl rfl) ?_
    refine RG.done ?_
    refine QW.then_ ?_
    refine CW.seq ?_
    refine CW.region ?_
    refine RG.vl rfl rfl rfl (Ev.move rfl rfl) ?_
    refine RG.vl rfl rfl rfl (Ev.move rfl rfl) ?_
    refine RG.vl rfl rfl rfl (Ev.lenStr rfl rfl rfl Try.underlying9) ?_
    refine RG.vl rfl rfl rfl ((Ev.quoI rfl rfl rfl (by omega)).conv (congrArg (Value.int .i64) (show (((⟨T.toArray⟩ : ByteArray).size : Nat) : Int) / 3 = ((T.length / 3 : Nat) : Int) by omega))) ?_
    refine RG.vl rfl rfl rfl ((Ev.mulI rfl rfl rfl (by omega)).conv (congrArg (Value.int .i64) (show ((T.length / 3 : Nat) : Int) * 3 = ((T.length / 3 * 3 : Nat) : Int) by omega))) ?_
    refine RG.vl rfl rfl rfl ((Ev.cutStr (i := 0) (j := T.length / 3 * 3) rfl rfl Try.underlying9 rfl rfl (by omega) (by omega)).conv (congrArg Value.string ((bx_cut T 0 _).trans (by rw [List.drop_zero])))) ?_
    refine RG.vl rfl rfl rfl ((Ev.cat rfl rfl rfl (by rw [sb_len, List.length_take]; show _ + 1 ≤ _; omega)).conv (congrArg Value.string (bx_cat _ [84]))) ?_
    refine RG.call rfl rfl rfl rfl rfl rfl rfl en_15 (read_is (T.take (T.length / 3 * 3) ++ [84]) [] [] 2 _ (read_len (err_0 (by rw [List.length_append, List.length_take]; simp only [List.length_singleton]; omega) (by rw [List.all_append, List.all_eq_true.2 (fun x hx => List.all_eq_true.1 hT2 x (List.mem_of_mem_take hx))]; rfl)) (by rw [List.length_append, List.length_take]; simp only [List.length_singleton]; omega))) ?_
    have hpre52 := (Ex.tr hR3 hxwl4)
    rintro _ w52 ⟨r52, x52, rfl, hr52, hz52, hx52⟩
    replace hxwl4 := Ex.tr hxwl4 hx52
    replace hE9 := Ex.tr hE9 hx52
    replace hE23 := Ex.tr hE23 hx52
    replace hE25 := Ex.tr hE25 hx52
    replace hE27 := Ex.tr hE27 hx52
    replace hE29 := Ex.tr hE29 hx52
    replace hE34 := Ex.tr hE34 hx52
    replace hE36 := Ex.tr hE36 hx52
    replace hE38 := Ex.tr hE38 hx52
    replace hE40 := Ex.tr hE40 hx52
    replace hE42 := Ex.tr hE42 hx52
    replace hE44 := Ex.tr hE44 hx52
    replace hE49 := Ex.tr hE49 hx52
    replace hE51 := Ex.tr hE51 hx52
    have hE53 := hx52
    refine RG.vl rfl rfl rfl (Ev.move rfl rfl) ?_
    refine RG.vl rfl rfl rfl (Ev.extract rfl rfl rfl) ?_
    refine RG.vl rfl rfl rfl (Ev.extract rfl rfl rfl) ?_
    refine RG.vl rfl rfl rfl (Ev.extract rfl rfl rfl) ?_
    refine RG.vl rfl rfl rfl (Ev.assign rfl rfl) ?_
    refine RG.vl rfl rfl rfl (Ev.assign rfl rfl) ?_
    refine RG.vl rfl rfl rfl (Ev.assign rfl rfl) ?_
    refine RG.done ?_
    refine QW.sub (S' := [(4, _), (10, _), (12, _), (14, _), (17, _), (19, _), (22, _)]) ⟨rfl, rfl, rfl, rfl, rfl, rfl, rfl, trivial⟩ ?_
    refine QW.then_ ?_
    refine CW.seq ?_
    refine CW.region ?_
    refine RG.vl rfl rfl rfl (Ev.move rfl rfl) ?_
    refine RG.vl rfl rfl rfl (Ev.isT (Ev.eqI rfl rfl rfl) (rfl)) ?_
    refine RG.vl rfl rfl rfl (Ev.move rfl rfl) ?_
    refine RG.vl rfl rfl rfl (Ev.move rfl rfl) ?_
    refine RG.vl rfl rfl rfl (Ev.move rfl rfl) ?_
    refine RG.vl rfl rfl rfl (Ev.isT (Ev.eqI rfl rfl rfl) (rfl)) ?_
    refine RG.vl rfl rfl rfl (Ev.pickT rfl rfl rfl) ?_
    refine RG.vl rfl rfl rfl (Ev.move rfl rfl) ?_
    refine RG.vl rfl rfl rfl (Ev.move rfl rfl) ?_
    refine RG.vl rfl rfl rfl (Ev.move rfl rfl) ?_
    refine RG.vl rfl rfl rfl (Ev.isT (Ev.eqI rfl rfl rfl) (rfl)) ?_
    refine RG.vl rfl rfl rfl (Ev.pickT rfl rfl rfl) ?_
    refine RG.vl rfl rfl rfl (Ev.move rfl rfl) ?_
    refine RG.vl rfl rfl rfl (Ev.move rfl rfl) ?_
    refine RG.vl rfl rfl rfl (Ev.move rfl rfl) ?_
    refine RG.vl rfl rfl rfl (Ev.isT (Ev.eqI rfl rfl rfl) (rfl)) ?_
    refine RG.vl rfl rfl rfl (Ev.pickT rfl rfl rfl) ?_
    refine RG.vl rfl rfl rfl (Ev.move rfl rfl) ?_
    refine RG.vl rfl rfl rfl (Ev.move rfl rfl) ?_
    refine RG.vl rfl rfl rfl (Ev.move rfl rfl) ?_
    refine RG.vl rfl rfl rfl (Ev.isT (Ev.eqI rfl rfl rfl) (rfl)) ?_
    refine RG.vl rfl rfl rfl (Ev.pickT rfl rfl rfl) ?_
    refine RG.vl rfl rfl rfl (Ev.move rfl rfl) ?_
    refine RG.vl rfl rfl rfl (Ev.move rfl rfl) ?_
    refine RG.vl rfl rfl rfl (Ev.move rfl rfl) ?_
    refine RG.vl rfl rfl rfl (Ev.isT (Ev.eqI rfl rfl rfl) (rfl)) ?_
    refine RG.vl rfl rfl rfl (Ev.pickT rfl rfl rfl) ?_
    refine RG.vl rfl rfl rfl (Ev.move rfl rfl) ?_
    refine RG.call rfl rfl rfl rfl rfl rfl rfl en_10 (awake_ret _) ?_
    rintro _ w54 ⟨rfl, hx54⟩
    replace hxwl4 := Ex.tr hxwl4 hx54
    replace hE9 := Ex.tr hE9 hx54
    replace hE23 := Ex.tr hE23 hx54
    replace hE25 := Ex.tr hE25 hx54
    replace hE27 := Ex.tr hE27 hx54
    replace hE29 := Ex.tr hE29 hx54
    replace hE34 := Ex.tr hE34 hx54
    replace hE36 := Ex.tr hE36 hx54
    replace hE38 := Ex.tr hE38 hx54
    replace hE40 := Ex.tr hE40 hx54
    replace hE42 := Ex.tr hE42 hx54
    replace hE44 := Ex.tr hE44 hx54
    replace hE49 := Ex.tr hE49 hx54
    replace hE51 := Ex.tr hE51 hx54
    replace hE53 := Ex.tr hE53 hx54
    have hE55 := hx54
    refine RG.vl rfl rfl rfl (Ev.pickT rfl rfl rfl) ?_
    refine RG.vl rfl rfl rfl (Ev.assign rfl rfl) ?_
    refine RG.done ?_
    refine QW.sub (S' := [(4, _)]) ⟨rfl, trivial⟩ ?_
    refine QW.then_ ?_
    refine CW.ret ?_
    refine QW.ret1 rfl rfl ?_
    have hB := (Ex.tr hR3 hxwl4)
    exact ⟨rfl, hB⟩

end Go.Proofs.Ytgafkbnlhlbmkaa
