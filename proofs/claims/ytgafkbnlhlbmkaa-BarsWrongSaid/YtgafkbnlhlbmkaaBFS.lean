/- Walks (BFS). Written by program. -/
import Derived.Test.YtgafkbnlhlbmkaaT
import Derived.Test.YtgafkbnlhlbmkaaBFR
import Derived.Test.YtgafkbnlhlbmkaaBS2
namespace Go.Proofs.Ytgafkbnlhlbmkaa
open Go.RowKit
set_option maxRecDepth 100000 in
set_option maxHeartbeats 4000000 in
theorem barsFrames_ret (lv : Value) (l : List UInt8) (k1 k2 : Nat) (w : World) (hl : RdL w 1 encB lv l) (hk1 : k1 < 256) (hk2 : k2 < 256) :
    Ret Try.prog 8 [lv, .int .u8 (k1 : Int), .int .u8 (k2 : Int)] w (fun v w' => v = .bool true ∧ Ex w w') := by
  obtain ⟨lA, lC, rfl⟩ := hl.shape
  have hT1 := wrL_len l
  have hT2 := wrL_all l
  generalize hT : wrL l = T at hT1 hT2
  have hfl := frm_len T
  have hfs := sb_len (frm T)
  have hts := sb_len T
  have hB0 : Ex w w := Ex.rfl_ _
  refine Ret.of Try.func8 rfl Try.ntmps8 rfl ?_
  refine CW.seq ?_
  refine CW.region ?_
  refine RG.vl rfl rfl rfl (Ev.assign rfl rfl) ?_
  refine RG.done ?_
  refine QW.then_ ?_
  refine CW.seq ?_
  refine CW.region ?_
  refine RG.vl rfl rfl rfl (Ev.move rfl rfl) ?_
  refine RG.call rfl rfl rfl rfl rfl rfl rfl en_16 (Ret.mono (Ψ := fun v w' => v = .string ⟨T.toArray⟩ ∧ Ex w w') (written_ret _ l _ (hl)) (fun v w' h => ⟨by rw [← hT]; exact h.1, h.2⟩)) ?_
  rintro _ w1 ⟨rfl, hx1⟩
  have hE2 := hx1
  refine RG.vl rfl rfl rfl (Ev.assign rfl rfl) ?_
  refine RG.done ?_
  refine QW.then_ ?_
  refine CW.seq ?_
  refine CW.region ?_
  refine RG.vl rfl rfl rfl (Ev.move rfl rfl) ?_
  refine RG.call rfl rfl rfl rfl rfl rfl rfl en_19 (frame_is T (frm T) 0 _ (frameB_ok hT2 (by omega))) ?_
  rintro _ w3 ⟨rfl, hx3⟩
  replace hE2 := Ex.tr hE2 hx3
  have hE4 := hx3
  refine RG.vl rfl rfl rfl (Ev.move rfl rfl) ?_
  refine RG.vl rfl rfl rfl (Ev.extract rfl rfl rfl) ?_
  refine RG.vl rfl rfl rfl (Ev.extract rfl rfl rfl) ?_
  refine RG.vl rfl rfl rfl (Ev.assign rfl rfl) ?_
  refine RG.vl rfl rfl rfl (Ev.assign rfl rfl) ?_
  refine RG.done ?_
  refine QW.then_ ?_
  refine CW.seq ?_
  refine CW.region ?_
  refine RG.vl rfl rfl rfl (Ev.move rfl rfl) ?_
  refine RG.call rfl rfl rfl rfl rfl rfl rfl en_20 (unf_is (frm T) T false 0 _ (frm_up hT2 (by omega))) ?_
  rintro _ w5 ⟨rfl, hx5⟩
  replace hE2 := Ex.tr hE2 hx5
  replace hE4 := Ex.tr hE4 hx5
  have hE6 := hx5
  refine RG.vl rfl rfl rfl (Ev.move rfl rfl) ?_
  refine RG.vl rfl rfl rfl (Ev.extract rfl rfl rfl) ?_
  refine RG.vl rfl rfl rfl (Ev.extract rfl rfl rfl) ?_
  refine RG.vl rfl rfl rfl (Ev.extract rfl rfl rfl) ?_
  refine RG.vl rfl rfl rfl (Ev.assign rfl rfl) ?_
  refine RG.vl rfl rfl rfl (Ev.assign rfl rfl) ?_
  refine RG.vl rfl rfl rfl (Ev.assign rfl rfl) ?_
  refine RG.done ?_
  refine QW.sub (S' := [(1, _), (2, _), (6, _), (7, _), (8, _), (9, _), (10, _), (11, _), (12, _)]) ⟨rfl, rfl, rfl, rfl, rfl, rfl, rfl, rfl, rfl, trivial⟩ ?_
  refine QW.then_ ?_
  refine CW.seq ?_
  refine CW.region ?_
  refine RG.vl rfl rfl rfl (Ev.move rfl rfl) ?_
  refine RG.call rfl rfl rfl rfl rfl rfl rfl en_17 (turn_is (frm T) (turnL (frm T)) 0 _ (turnB_ok (by omega) (frm_all hT2))) ?_
  rintro _ w7 ⟨rfl, hx7⟩
  replace hE2 := Ex.tr hE2 hx7
  replace hE4 := Ex.tr hE4 hx7
  replace hE6 := Ex.tr hE6 hx7
  have hE8 := hx7
  refine RG.vl rfl rfl rfl (Ev.move rfl rfl) ?_
  refine RG.vl rfl rfl rfl (Ev.extract rfl rfl rfl) ?_
  refine RG.vl rfl rfl rfl (Ev.extract rfl rfl rfl) ?_
  refine RG.vl rfl rfl rfl (Ev.assign rfl rfl) ?_
  refine RG.vl rfl rfl rfl (Ev.assign rfl rfl) ?_
  refine RG.done ?_
  refine QW.then_ ?_
  refine CW.seq ?_
  refine CW.region ?_
  refine RG.vl rfl rfl rfl (Ev.move rfl rfl) ?_
  refine RG.call rfl rfl rfl rfl rfl rfl rfl en_20 (unf_is (turnL (frm T)) T true 0 _ (frm_dn hT2 (by omega))) ?_
  rintro _ w9 ⟨rfl, hx9⟩
  replace hE2 := Ex.tr hE2 hx9
  replace hE4 := Ex.tr hE4 hx9
  replace hE6 := Ex.tr hE6 hx9
  replace hE8 := Ex.tr hE8 hx9
  have hE10 := hx9
  refine RG.vl rfl rfl rfl (Ev.move rfl rfl) ?_
  refine RG.vl rfl rfl rfl (Ev.extract rfl rfl rfl) ?_
  refine RG.vl rfl rfl rfl (Ev.extract rfl rfl rfl) ?_
  refine RG.vl rfl rfl rfl (Ev.extract rfl rfl rfl) ?_
  refine RG.vl rfl rfl rfl (Ev.assign rfl rfl) ?_
  refine RG.vl rfl rfl rfl (Ev.assign rfl rfl) ?_
  refine RG.vl rfl rfl rfl (Ev.assign rfl rfl) ?_
  refine RG.done ?_
  refine QW.sub (S' := [(1, _), (2, _), (6, _), (7, _), (8, _), (9, _), (10, _), (11, _), (12, _), (14, _), (15, _), (16, _), (17, _)]) ⟨rfl, rfl, rfl, rfl, rfl, rfl, rfl, rfl, rfl, rfl, rfl, rfl, rfl, trivial⟩ ?_
  refine QW.then_ ?_
  refine CW.seq ?_
  refine CW.seq ?_
  refine CW.region ?_
  refine RG.vl rfl rfl rfl (Ev.move rfl rfl) ?_
  refine RG.vl rfl rfl rfl (Ev.isF (Ev.neI rfl rfl rfl) (fun h => h rfl)) ?_
  refine RG.vl rfl rfl rfl (Ev.move rfl rfl) ?_
  refine RG.vl rfl rfl rfl (Ev.move rfl rfl) ?_
  refine RG.vl rfl rfl rfl (Ev.isF (Ev.neI rfl rfl rfl) (fun h => h rfl)) ?_
  refine RG.vl rfl rfl rfl (Ev.pickF rfl rfl rfl) ?_
  refine RG.vl rfl rfl rfl (Ev.move rfl rfl) ?_
  refine RG.vl rfl rfl rfl (Ev.move rfl rfl) ?_
  refine RG.vl rfl rfl rfl (Ev.isF (Ev.neI rfl rfl rfl) (fun h => h rfl)) ?_
  refine RG.vl rfl rfl rfl (Ev.pickF rfl rfl rfl) ?_
  refine RG.vl rfl rfl rfl (Ev.move rfl rfl) ?_
  refine RG.vl rfl rfl rfl (Ev.move rfl rfl) ?_
  refine RG.vl rfl rfl rfl (Ev.isF (Ev.neI rfl rfl rfl) (fun h => h rfl)) ?_
  refine RG.vl rfl rfl rfl (Ev.pickF rfl rfl rfl) ?_
  refine RG.vl rfl rfl rfl (Ev.move rfl rfl) ?_
  refine RG.vl rfl rfl rfl (Ev.move rfl rfl) ?_
  refine RG.vl rfl rfl rfl (Ev.lenStr rfl rfl rfl Try.underlying9) ?_
  refine RG.vl rfl rfl rfl (Ev.move rfl rfl) ?_
  refine RG.vl rfl rfl rfl (Ev.lenStr rfl rfl rfl Try.underlying9) ?_
  refine RG.vl rfl rfl rfl (Ev.addI rfl rfl rfl (by omega)) ?_
  refine RG.vl rfl rfl rfl (Ev.isF (Ev.neI rfl rfl rfl) (fun h => h (by omega))) ?_
  refine RG.vl rfl rfl rfl (Ev.pickF rfl rfl rfl) ?_
  refine RG.vl rfl rfl rfl (Ev.move rfl rfl) ?_
  refine RG.vl rfl rfl rfl (Ev.move rfl rfl) ?_
  refine RG.vl rfl rfl rfl (Ev.move rfl rfl) ?_
  refine RG.vl rfl rfl rfl (Ev.isF (Ev.neS rfl rfl rfl) (fun h => h rfl)) ?_
  refine RG.vl rfl rfl rfl (Ev.pickF rfl rfl rfl) ?_
  refine RG.vl rfl rfl rfl (Ev.move rfl rfl) ?_
  refine RG.vl rfl rfl rfl (Ev.move rfl rfl) ?_
  refine RG.vl rfl rfl rfl (Ev.pickF rfl rfl rfl) ?_
  refine RG.vl rfl rfl rfl (Ev.move rfl rfl) ?_
  refine RG.vl rfl rfl rfl (Ev.move rfl rfl) ?_
  refine RG.vl rfl rfl rfl (Ev.move rfl rfl) ?_
  refine RG.vl rfl rfl rfl (Ev.isF (Ev.neS rfl rfl rfl) (fun h => h rfl)) ?_
  refine RG.vl rfl rfl rfl (Ev.pickF rfl rfl rfl) ?_
  refine RG.vl rfl rfl rfl (Ev.move rfl rfl) ?_
  refine RG.vl rfl rfl rfl (Ev.move rfl rfl) ?_
  refine RG.vl rfl rfl rfl (Ev.notF rfl rfl) ?_
  refine RG.vl rfl rfl rfl (Ev.pickF rfl rfl rfl) ?_
  refine RG.done ?_
  refine QW.sub (S' := [(1, _), (2, _), (6, _), (8, _), (86, _)]) ⟨rfl, rfl, rfl, rfl, rfl, trivial⟩ ?_
  refine QW.then_ ?_
  refine CW.condF rfl ?_
  refine CW.skip ?_
  refine QW.then_ ?_
  refine CW.seq ?_
  refine CW.region ?_
  refine RG.vl rfl rfl rfl (Ev.move rfl rfl) ?_
  refine RG.toBytesM rfl rfl rfl rfl rfl Try.underlying9 Try.underlying22 Try.underlying5 (by simp only [maxLen]; omega) (fun gB cgB wk11 egB hxwk11 hbgB hc1gB hc2gB => ?_)
  have hle12 : w.heap.size ≤ gB := by have := hE2.size; omega
  have hle13 : w1.heap.size ≤ gB := by have := hE4.size; omega
  have hle14 : w3.heap.size ≤ gB := by have := hE6.size; omega
  have hle15 : w5.heap.size ≤ gB := by have := hE8.size; omega
  have hle16 : w7.heap.size ≤ gB := by have := hE10.size; omega
  have hle17 : w9.heap.size ≤ gB := by have := (Ex.rfl_ w9).size; omega
  replace hE2 := Ex.tr hE2 hxwk11
  replace hE4 := Ex.tr hE4 hxwk11
  replace hE6 := Ex.tr hE6 hxwk11
  replace hE8 := Ex.tr hE8 hxwk11
  replace hE10 := Ex.tr hE10 hxwk11
  refine RG.vl rfl rfl rfl (Ev.assign rfl rfl) ?_
  refine RG.done ?_
  refine QW.then_ ?_
  refine CW.seq ?_
  obtain ⟨p, hp⟩ : ∃ p, [0, 1, T.length + 2, T.length + 3][k1 % 4]? = some p := ⟨_, List.getElem?_eq_getElem (by show _ < 4; omega)⟩
  have hpp := ends_of hp
  obtain ⟨q, hq⟩ : ∃ q, (frm T)[p]? = some q := ⟨_, List.getElem?_eq_getElem (by omega)⟩
  refine CW.region ?_
  refine RG.vl rfl rfl rfl (Ev.move rfl rfl) ?_
  refine RG.vl rfl rfl rfl (Ev.lenSlice rfl rfl rfl Try.underlying22) ?_
  refine RG.vl rfl rfl rfl ((Ev.subI rfl rfl rfl (by omega)).conv (congrArg (Value.int .i64) (show ((frm T).length : Int) - 2 = ((T.length + 2 : Nat) : Int) by omega))) ?_
  refine RG.vl rfl rfl rfl (Ev.move rfl rfl) ?_
  refine RG.vl rfl rfl rfl (Ev.lenSlice rfl rfl rfl Try.underlying22) ?_
  refine RG.vl rfl rfl rfl ((Ev.subI rfl rfl rfl (by omega)).conv (congrArg (Value.int .i64) (show ((frm T).length : Int) - 1 = ((T.length + 3 : Nat) : Int) by omega))) ?_
  refine RG.litO (os := [_, _, .tmp 91, .tmp 94]) (enc := encZ) ([0, 1, T.length + 2, T.length + 3]) rfl rfl rfl rfl rfl rfl rfl Try.underlying33 inf_3 rfl rfl rfl rfl rfl encZ_len rfl rfl (fun v18 wk19 hxwk19 hown20 hnew21 => ?_)
  replace hE2 := Ex.tr hE2 hxwk19
  replace hE4 := Ex.tr hE4 hxwk19
  replace hE6 := Ex.tr hE6 hxwk19
  replace hE8 := Ex.tr hE8 hxwk19
  replace hE10 := Ex.tr hE10 hxwk19
  have hE22 := hxwk19
  refine RG.vl rfl rfl rfl (Ev.move rfl rfl) ?_
  refine RG.vl rfl rfl rfl ((Ev.rem8 rfl rfl rfl (by omega)).conv (congrArg (Value.int .u8) (show (k1 : Int) % 4 = ((k1 % 4 : Nat) : Int) by omega))) ?_
  refine RG.idxO rfl rfl rfl rfl rfl rfl Try.underlying33 sz_3 encZ_len (hown20) (hp) (fun g24 hg24 hBg24 hp23b hp23 => ?_)
  refine RG.vl rfl rfl rfl (Ev.ld0 rfl rfl Try.underlying3 rfl (hp23) (rfl)) ?_
  refine RG.vl rfl rfl rfl (Ev.assign rfl rfl) ?_
  refine RG.done ?_
  refine QW.sub (S' := [(2, _), (6, _), (18, _), (19, _)]) ⟨rfl, rfl, rfl, rfl, trivial⟩ ?_
  refine QW.then_ ?_
  refine CW.seq ?_
  refine CW.region ?_
  refine RG.vl rfl rfl rfl (Ev.move rfl rfl) ?_
  refine RG.vl rfl rfl rfl ((Ev.rem8 rfl rfl rfl (by omega)).conv (congrArg (Value.int .u8) (show (k2 : Int) % 5 = ((k2 % 5 : Nat) : Int) by omega))) ?_
  refine RG.vl rfl rfl rfl (Ev.byteAt rfl rfl rfl Try.underlying9 (by omega) ((show _ = some (ltr (k2 % 5)) from ltr_s5 (by omega)))) ?_
  refine RG.vl rfl rfl rfl (Ev.assign rfl rfl) ?_
  refine RG.done ?_
  refine QW.then_ ?_
  refine CW.seq ?_
  refine CW.seq ?_
  refine CW.region ?_
  refine RG.vl rfl rfl rfl (Ev.move rfl rfl) ?_
  refine RG.vl rfl rfl rfl (Ev.move rfl rfl) ?_
  refine RG.vl rfl rfl rfl (Ev.idxN rfl rfl rfl Try.underlying22 sz_5 (by omega)) ?_
  refine RG.vl rfl rfl rfl (Ev.ldAt rfl rfl Try.underlying5 rfl (Mkd.cells (hbgB.ext hE22)) (flat_b hq)) ?_
  refine RG.vl rfl rfl rfl (Ev.move rfl rfl) ?_
  refine RG.vl rfl rfl rfl (Ev.eqI rfl rfl rfl) ?_
  refine RG.done ?_
  refine QW.then_ ?_
  refine CW.condP rfl (fun hc25 => ?_) (fun hc25 => ?_)
  · refine CW.seq ?_
    refine CW.region ?_
    refine RG.call rfl rfl rfl rfl rfl rfl rfl en_10 (awake_ret _) ?_
    rintro _ w26 ⟨rfl, hx26⟩
    replace hE2 := Ex.tr hE2 hx26
    replace hE4 := Ex.tr hE4 hx26
    replace hE6 := Ex.tr hE6 hx26
    replace hE8 := Ex.tr hE8 hx26
    replace hE10 := Ex.tr hE10 hx26
    replace hE22 := Ex.tr hE22 hx26
    have hE27 := hx26
    refine RG.vl rfl rfl rfl (Ev.assign rfl rfl) ?_
    refine RG.done ?_
    refine QW.then_ ?_
    refine CW.ret ?_
    refine QW.thenRet ?_
    refine QW.ret1 rfl rfl ?_
    have hB := (Ex.tr hB0 hE2)
    exact ⟨rfl, hB⟩
  · refine CW.skip ?_
    refine QW.then_ ?_
    refine CW.seq ?_
    have hne : (frm T)[p]? ≠ some (ltr (k2 % 5)) := fun e => absurd (show (q.toNat : Int) = ((ltr (k2 % 5)).toNat : Int) by rw [hq] at e; injection e with e; rw [e]) (by assumption)
    refine CW.region ?_
    refine RG.vl rfl rfl rfl (Ev.move rfl rfl) ?_
    refine RG.vl rfl rfl rfl (Ev.move rfl rfl) ?_
    refine RG.vl rfl rfl rfl (Ev.move rfl rfl) ?_
    refine RG.vl rfl rfl rfl (Ev.idxN rfl rfl rfl Try.underlying22 sz_5 (by omega)) ?_
    refine RG.stM (g := gB) ((ltr (k2 % 5))) rfl rfl rfl rfl rfl sz_5 (hbgB.ext hE22) (by omega) (fun ws28 hwws28 hbws28 => ?_)
    replace hE2 := Wr.below hE2 hwws28 hle12
    replace hE4 := Wr.below hE4 hwws28 hle13
    replace hE6 := Wr.below hE6 hwws28 hle14
    replace hE8 := Wr.below hE8 hwws28 hle15
    replace hE10 := Wr.below hE10 hwws28 hle16
    refine RG.done ?_
    refine QW.sub (S' := [(6, _), (18, _)]) ⟨rfl, rfl, trivial⟩ ?_
    refine QW.then_ ?_
    refine CW.seq ?_
    refine CW.region ?_
    refine RG.vl rfl rfl rfl (Ev.move rfl rfl) ?_
    refine RG.vl rfl rfl rfl (Ev.toStr rfl rfl Try.underlying22 Try.underlying5 Try.underlying9 ((Mkd.rdl hbws28 List.length_set hc1gB hc2gB))) ?_
    refine RG.call rfl rfl rfl rfl rfl rfl rfl en_20 (unf_is ((frm T).set p (ltr (k2 % 5))) [] false 200 _ (bent_no hT2 (by omega) (ltr_L _) hpp hne)) ?_
    rintro _ w29 ⟨rfl, hx29⟩
    replace hE2 := Ex.tr hE2 hx29
    replace hE4 := Ex.tr hE4 hx29
    replace hE6 := Ex.tr hE6 hx29
    replace hE8 := Ex.tr hE8 hx29
    replace hE10 := Ex.tr hE10 hx29
    have hE30 := hx29
    refine RG.vl rfl rfl rfl (Ev.move rfl rfl) ?_
    refine RG.vl rfl rfl rfl (Ev.extract rfl rfl rfl) ?_
    refine RG.vl rfl rfl rfl (Ev.extract rfl rfl rfl) ?_
    refine RG.vl rfl rfl rfl (Ev.extract rfl rfl rfl) ?_
    refine RG.vl rfl rfl rfl (Ev.assign rfl rfl) ?_
    refine RG.vl rfl rfl rfl (Ev.assign rfl rfl) ?_
    refine RG.vl rfl rfl rfl (Ev.assign rfl rfl) ?_
    refine RG.done ?_
    refine QW.then_ ?_
    refine CW.seq ?_
    refine CW.region ?_
    refine RG.vl rfl rfl rfl (Ev.move rfl rfl) ?_
    refine RG.vl rfl rfl rfl (Ev.isT (Ev.eqI rfl rfl rfl) (rfl)) ?_
    refine RG.vl rfl rfl rfl (Ev.move rfl rfl) ?_
    refine RG.vl rfl rfl rfl (Ev.move rfl rfl) ?_
    refine RG.vl rfl rfl rfl (Ev.isT (Ev.eqS rfl rfl rfl) (rfl)) ?_
    refine RG.vl rfl rfl rfl (Ev.pickT rfl rfl rfl) ?_
    refine RG.vl rfl rfl rfl (Ev.move rfl rfl) ?_
    refine RG.vl rfl rfl rfl (Ev.move rfl rfl) ?_
    refine RG.vl rfl rfl rfl (Ev.notT rfl rfl) ?_
    refine RG.vl rfl rfl rfl (Ev.pickT rfl rfl rfl) ?_
    refine RG.vl rfl rfl rfl (Ev.move rfl rfl) ?_
    refine RG.call rfl rfl rfl rfl rfl rfl rfl en_10 (awake_ret _) ?_
    rintro _ w31 ⟨rfl, hx31⟩
    replace hE2 := Ex.tr hE2 hx31
    replace hE4 := Ex.tr hE4 hx31
    replace hE6 := Ex.tr hE6 hx31
    replace hE8 := Ex.tr hE8 hx31
    replace hE10 := Ex.tr hE10 hx31
    replace hE30 := Ex.tr hE30 hx31
    have hE32 := hx31
    refine RG.vl rfl rfl rfl (Ev.pickT rfl rfl rfl) ?_
    refine RG.vl rfl rfl rfl (Ev.assign rfl rfl) ?_
    refine RG.done ?_
    refine QW.sub (S' := [(6, _)]) ⟨rfl, trivial⟩ ?_
    refine QW.then_ ?_
    refine CW.ret ?_
    refine QW.ret1 rfl rfl ?_
    have hB := (Ex.tr hB0 hE2)
    exact ⟨rfl, hB⟩

end Go.Proofs.Ytgafkbnlhlbmkaa
