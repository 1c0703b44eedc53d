/- Walks (BG). Written by program. -/
import Derived.Test.YtgafkbnlhlbmkaaT
import Derived.Test.YtgafkbnlhlbmkaaBF
import Derived.Test.YtgafkbnlhlbmkaaBV
namespace Go.Proofs.Ytgafkbnlhlbmkaa
open Go.RowKit
set_option maxRecDepth 100000 in
set_option maxHeartbeats 4000000 in
theorem read_ret (t : List UInt8) (w : World)  :
    Ret Try.prog 15 [.string ⟨t.toArray⟩] w (fun v w' => ∃ r e, v = .tuple #[r, e, .int .i64 (readB t).2.2] ∧ Own w' w.heap.size 5 1 encB r (readB t).1 ∧ Own w' w.heap.size 3 1 encZ e (readB t).2.1 ∧ Ex w w') := by
  have hts := sb_len t
  have hB0 : Ex w w := Ex.rfl_ _
  refine Ret.of Try.func15 rfl Try.ntmps15 rfl ?_
  refine CW.seq ?_
  refine CW.region ?_
  refine RG.vl rfl rfl rfl (Ev.assign rfl rfl) ?_
  refine RG.vl rfl rfl rfl (Ev.assign rfl rfl) ?_
  refine RG.vl rfl rfl rfl (Ev.assign rfl rfl) ?_
  refine RG.done ?_
  refine QW.then_ ?_
  refine CW.seq ?_
  refine CW.seq ?_
  refine CW.region ?_
  refine RG.vl rfl rfl rfl (Ev.move rfl rfl) ?_
  refine RG.call rfl rfl rfl rfl rfl rfl rfl en_30 (check_ret _ 0 _ (by omega)) ?_
  rintro _ w1 ⟨rfl, hx1⟩
  have hE2 := hx1
  refine RG.vl rfl rfl rfl (Ev.assign rfl rfl) ?_
  refine RG.done ?_
  refine QW.then_ ?_
  refine CW.seq ?_
  refine CW.region ?_
  refine RG.vl rfl rfl rfl (Ev.move rfl rfl) ?_
  refine RG.vl rfl rfl rfl (Ev.neI rfl rfl rfl) ?_
  refine RG.done ?_
  refine QW.then_ ?_
  refine CW.condP rfl (fun hc3 => ?_) (fun hc3 => ?_)
  · refine CW.seq ?_
    refine CW.region ?_
    refine RG.vl rfl rfl rfl (Ev.move rfl rfl) ?_
    refine RG.vl rfl rfl rfl (Ev.assign rfl rfl) ?_
    refine RG.vl rfl rfl rfl (Ev.assign rfl rfl) ?_
    refine RG.vl rfl rfl rfl (Ev.assign rfl rfl) ?_
    refine RG.done ?_
    refine QW.then_ ?_
    refine CW.ret ?_
    refine QW.thenRet ?_
    refine QW.ret3 rfl rfl rfl rfl ?_
    have hB := (Ex.tr hB0 hE2)
    exact ⟨_, _, by rw [read_err (by assumption)], by rw [read_err (by assumption)]; exact Own.nil_ _ _ _ _ _, by rw [read_err (by assumption)]; exact Own.nil_ _ _ _ _ _, hB⟩
  · refine CW.skip ?_
    refine QW.then_ ?_
    refine CW.seq ?_
    refine CW.seq ?_
    have he0 := Decidable.not_not.1 (show ¬ ¬ errB 0 t = 0 from by assumption)
    have hok := err_ok he0
    have halo := all_lo hok.2
    refine CW.region ?_
    refine RG.vl rfl rfl rfl (Ev.move rfl rfl) ?_
    refine RG.vl rfl rfl rfl (Ev.lenStr rfl rfl rfl Try.underlying9) ?_
    refine RG.vl rfl rfl rfl (Ev.remI rfl rfl rfl (by omega)) ?_
    refine RG.vl rfl rfl rfl (Ev.neI rfl rfl rfl) ?_
    refine RG.done ?_
    refine QW.then_ ?_
    refine CW.condP rfl (fun hc4 => ?_) (fun hc4 => ?_)
    · refine CW.seq ?_
      refine CW.region ?_
      refine RG.vl rfl rfl rfl (Ev.assign rfl rfl) ?_
      refine RG.vl rfl rfl rfl (Ev.assign rfl rfl) ?_
      refine RG.vl rfl rfl rfl (Ev.assign rfl rfl) ?_
      refine RG.done ?_
      refine QW.sub (S' := [(0, _), (2, _), (3, _), (4, _)]) ⟨rfl, rfl, rfl, rfl, trivial⟩ ?_
      refine QW.then_ ?_
      refine CW.ret ?_
      refine QW.thenRet ?_
      refine QW.ret3 rfl rfl rfl rfl ?_
      have hB := (Ex.tr hB0 hE2)
      exact ⟨_, _, by rw [read_len he0 (by omega)], by rw [read_len he0 (by omega)]; exact Own.nil_ _ _ _ _ _, by rw [read_len he0 (by omega)]; exact Own.nil_ _ _ _ _ _, hB⟩
    · refine CW.skip ?_
      refine QW.then_ ?_
      refine CW.seq ?_
      refine CW.region ?_
      refine RG.vl rfl rfl rfl (Ev.assign rfl rfl) ?_
      refine RG.done ?_
      refine QW.then_ ?_
      refine CW.seq ?_
      refine CW.region ?_
      refine RG.vl rfl rfl rfl (Ev.assign rfl rfl) ?_
      refine RG.done ?_
      refine QW.sub (S' := [(0, _), (2, _), (3, _), (4, _), (6, _), (7, _)]) ⟨rfl, rfl, rfl, rfl, rfl, rfl, trivial⟩ ?_
      refine QW.then_ ?_
      refine CW.seq ?_
      refine CW.seq ?_
      refine CW.region ?_
      refine RG.vl rfl rfl rfl (Ev.assign rfl rfl) ?_
      refine RG.done ?_
      refine QW.then_ ?_
      refine CW.block ?_
      have hR5 := (Ex.tr hB0 hE2)
      refine CW.loop3 [(0, _), (2, _), (3, _), (4, _)] ⟨rfl, rfl, rfl, rfl, trivial⟩ (fun (k : Nat) (u : Value) (x : Value) => [(8, .int .i64 ((3 * k : Nat) : Int)), (6, u), (7, x)]) (fun k u x w' => (3 * k ≤ t.length ∧ Own w' w1.heap.size 5 1 encB u (symsL t k) ∧ Own w' w1.heap.size 3 1 encZ x (erasL t k) ∧ Sep u x) ∧ Ex w1 w') (fun k u x => t.length - 3 * k) (0) (.slice none 0 0) (.slice none 0 0) ⟨rfl, rfl, rfl, trivial⟩ ⟨⟨by omega, Own.nil_ _ _ _ _ _, Own.nil_ _ _ _ _ _, Sep.nil_ _⟩, (Ex.rfl_ _)⟩ ?_
      rintro k u x wl6 ⟨⟨hk, hou, hox, hsp⟩, hxwl6⟩
      refine CW.sub (S' := [(8, _), (6, _), (7, _), (0, _), (2, _), (3, _), (4, _)]) ⟨rfl, rfl, rfl, rfl, rfl, rfl, rfl, trivial⟩ ?_
      refine CW.seq ?_
      refine CW.seq ?_
      refine CW.region ?_
      refine RG.vl rfl rfl rfl (Ev.move rfl rfl) ?_
      refine RG.vl rfl rfl rfl (Ev.move rfl rfl) ?_
      refine RG.vl rfl rfl rfl (Ev.lenStr rfl rfl rfl Try.underlying9) ?_
      refine RG.vl rfl rfl rfl (Ev.lss rfl rfl rfl) ?_
      refine RG.done ?_
      refine QW.then_ ?_
      refine CW.condP rfl (fun hc7 => ?_) (fun hc7 => ?_)
      · refine CW.skip ?_
        refine QW.then_ ?_
        refine CW.seq ?_
        refine CW.block ?_
        refine CW.seq ?_
        have hpl := part_len (t := t) (k := k) (by omega)
        have hps := sb_len (part t k)
        have hsl := syms_len t k
        refine CW.region ?_
        refine RG.vl rfl rfl rfl (Ev.move rfl rfl) ?_
        refine RG.vl rfl rfl rfl (Ev.move rfl rfl) ?_
        refine RG.vl rfl rfl rfl (Ev.move rfl rfl) ?_
        refine RG.vl rfl rfl rfl ((Ev.addI rfl rfl rfl (by omega)).conv (congrArg (Value.int .i64) (show ((3 * k : Nat) : Int) + 3 = ((3 * k + 3 : Nat) : Int) by omega))) ?_
        refine RG.vl rfl rfl rfl ((Ev.cutStr (i := 3 * k) (j := 3 * k + 3) rfl rfl Try.underlying9 rfl rfl (by omega) (by omega)).conv (congrArg Value.string (bx_cut t (3 * k) (3 * k + 3)))) ?_
        refine RG.vl rfl rfl rfl (Ev.assign rfl rfl) ?_
        refine RG.done ?_
        refine QW.then_ ?_
        refine CW.seq ?_
        refine CW.region ?_
        refine RG.vl rfl rfl rfl (Ev.assign rfl rfl) ?_
        refine RG.done ?_
        refine QW.then_ ?_
        refine CW.seq ?_
        refine CW.seq ?_
        refine CW.region ?_
        refine RG.vl rfl rfl rfl (Ev.move rfl rfl) ?_
        refine RG.call rfl rfl rfl rfl rfl rfl rfl en_31 (con_ret (part t k) 63 _ (by decide)) ?_
        rintro _ w8 ⟨rfl, hx8⟩
        replace hxwl6 := Ex.tr hxwl6 hx8
        have hE9 := hx8
        refine RG.done ?_
        refine QW.then_ ?_
        refine CW.condP rfl (fun hc10 => ?_) (fun hc10 => ?_)
        · have hsu := sym_unc (by assumption)
          have hel := eras_len t k
          refine CW.region ?_
          refine RG.vl rfl rfl rfl (Ev.move rfl rfl) ?_
          refine RG.vl rfl rfl rfl (Ev.move rfl rfl) ?_
          refine RG.vl rfl rfl rfl ((Ev.lenL rfl rfl rfl Try.underlying22 (((Own.ext hou hE9).rdl encB_len))).conv (congrArg (fun n : Nat => Value.int .i64 (n : Int)) hsl)) ?_
          refine RG.litO (os := [.tmp 37]) (enc := encZ) ([k]) rfl rfl rfl rfl rfl rfl rfl Try.underlying33 inf_3 rfl rfl rfl rfl rfl encZ_len rfl rfl (fun v11 wk12 hxwk12 hown13 hnew14 => ?_)
          have hsep15 : Sep v11 _ := Sep.of_new (Own.ext hou hE9) hnew14
          have hsep16 : Sep v11 _ := Sep.of_new (Own.ext hox hE9) hnew14
          replace hxwl6 := Ex.tr hxwl6 hxwk12
          replace hE9 := Ex.tr hE9 hxwk12
          have hE17 := hxwk12
          refine RG.appO rfl rfl rfl rfl rfl rfl rfl Try.underlying33 inf_3 rfl rfl encZ_len (fun _ => rfl) (Own.ext hox hE9) ((hown13.rdl encZ_len)) (by show _ + 1 ≤ maxLen; simp only [maxLen]; omega) (by show (_ + 1) * _ ≤ _; omega) (hxwl6.size) (fun v18 wa19 hown20 hgr21 hat22 => ?_)
          have hsep24 := Sep.app (Sep.symm hsp) (Own.ext hou hE9) hat22
          have hown23 := Own.grown (Own.ext hou hE9) hgr21 (fun k a b => (Sep.symm hsp) k b a)
          have hsep26 := Sep.app (Sep.symm hsep16) hown13 hat22
          have hown25 := Own.grown hown13 hgr21 (fun k a b => (Sep.symm hsep16) k b a)
          replace hxwl6 := own_block (Own.ext hox hE9) hxwl6 hgr21 (Nat.le_refl _) hxwl6.size
          refine RG.vl rfl rfl rfl (Ev.assign rfl rfl) ?_
          refine RG.done ?_
          refine QW.sub (S' := [(0, _), (2, _), (3, _), (4, _), (6, _), (7, _), (8, _), (10, _)]) ⟨rfl, rfl, rfl, rfl, rfl, rfl, rfl, rfl, trivial⟩ ?_
          refine QW.then_ ?_
          have hac : ((symB t k).toNat : Int) = 0 := by rw [hsu.2]; rfl
          refine CW.region ?_
          refine RG.vl rfl rfl rfl (Ev.move rfl rfl) ?_
          refine RG.vl rfl rfl rfl (Ev.move rfl rfl) ?_
          refine RG.vl rfl rfl rfl ((Ev.to8 rfl rfl Try.underlying3 Try.underlying5 (by omega)).conv (congrArg (Value.int .u8) hac.symm)) ?_
          refine RG.litO (os := [.tmp 52]) (enc := encB) ([symB t k]) rfl rfl rfl rfl rfl rfl rfl Try.underlying22 inf_5 rfl rfl rfl rfl rfl encB_len rfl rfl (fun v27 wk28 hxwk28 hown29 hnew30 => ?_)
          have hsep31 : Sep v27 _ := Sep.of_new hown23 hnew30
          have hsep32 : Sep v27 _ := Sep.of_new hown25 hnew30
          have hsep33 : Sep v27 _ := Sep.of_new hown20 hnew30
          replace hxwl6 := Ex.tr hxwl6 hxwk28
          have hE34 := hxwk28
          refine RG.appO rfl rfl rfl rfl rfl rfl rfl Try.underlying22 inf_5 rfl rfl encB_len (fun _ => rfl) (Own.ext hown23 hE34) ((hown29.rdl encB_len)) (by show _ + 1 ≤ maxLen; simp only [maxLen]; omega) (by show (_ + 1) * _ ≤ _; omega) (hxwl6.size) (fun v35 wa36 hown37 hgr38 hat39 => ?_)
          have hsep41 := Sep.app (Sep.symm hsep15) (Own.ext hown25 hE34) hat39
          have hown40 := Own.grown (Own.ext hown25 hE34) hgr38 (fun k a b => (Sep.symm hsep15) k b a)
          have hsep43 := Sep.app (Sep.symm hsep24) (Own.ext hown20 hE34) hat39
          have hown42 := Own.grown (Own.ext hown20 hE34) hgr38 (fun k a b => (Sep.symm hsep24) k b a)
          have hsep45 := Sep.app (Sep.symm hsep31) hown29 hat39
          have hown44 := Own.grown hown29 hgr38 (fun k a b => (Sep.symm hsep31) k b a)
          replace hxwl6 := own_block (Own.ext hown23 hE34) hxwl6 hgr38 (Nat.le_refl _) hxwl6.size
          refine RG.vl rfl rfl rfl (Ev.assign rfl rfl) ?_
          refine RG.done ?_
          refine QW.blockN ?_
          refine QW.then_ ?_
          refine CW.region ?_
          refine RG.vl rfl rfl rfl (Ev.move rfl rfl) ?_
          refine RG.vl rfl rfl rfl (Ev.addI rfl rfl rfl (by omega)) ?_
          refine RG.vl rfl rfl rfl (Ev.assign rfl rfl) ?_
          refine RG.done ?_
          refine QW.round3 (k + 1) (v35) (v18) ⟨rfl, rfl, rfl, trivial⟩ ⟨rfl, rfl, rfl, rfl, trivial⟩ ⟨⟨by omega, by rw [syms_more]; exact hown37, by rw [eras_yes hsu.1]; exact hown42, hsep43⟩, hxwl6⟩ (by omega)
        · refine CW.seq ?_
          have hnu := no_unc (by assumption)
          refine CW.region ?_
          refine RG.vl rfl rfl rfl (Ev.move rfl rfl) ?_
          refine RG.sRange rfl rfl rfl rfl rfl Try.underlying9 (fun gi w46 egi hx46 hb46 => ?_)
          have hsb47 := fun e => sep_new (g := gi) (Own.ext hou hE9) egi e
          have hsb48 := fun e => sep_new (g := gi) (Own.ext hox hE9) egi e
          have hle49 : w1.heap.size ≤ gi := by have := hxwl6.size; omega
          have hle50 : wl6.heap.size ≤ gi := by have := hE9.size; omega
          have hle51 : w8.heap.size ≤ gi := by have := (Ex.rfl_ w8).size; omega
          replace hxwl6 := Ex.tr hxwl6 hx46
          replace hE9 := Ex.tr hE9 hx46
          refine RG.done ?_
          refine QW.sub (S' := [(0, _), (2, _), (3, _), (4, _), (6, _), (7, _), (8, _), (10, _), (41, _)]) ⟨rfl, rfl, rfl, rfl, rfl, rfl, rfl, rfl, rfl, trivial⟩ ?_
          refine QW.then_ ?_
          refine CW.block ?_
          refine CW.loop2 [(0, _), (2, _), (3, _), (4, _), (6, _), (7, _), (8, _), (41, _)] ⟨rfl, rfl, rfl, rfl, rfl, rfl, rfl, rfl, trivial⟩ (fun (j : Nat) (ac : Nat) => [(10, .int .i64 (ac : Int))]) (fun j ac w' => (j ≤ 3 ∧ ac = accN ((part t k).take j) ∧ ac < 4 ^ j ∧ Si w' gi (⟨(part t k).toArray⟩ : ByteArray) j ∧ Own w' w1.heap.size 5 1 encB u (symsL t k) ∧ Own w' w1.heap.size 3 1 encZ x (erasL t k)) ∧ Ex w1 w') (fun j ac => 3 - j) (0) (0) ⟨rfl, trivial⟩ ⟨⟨by omega, rfl, by decide, hb46, (Own.ext hou hE9), (Own.ext hox hE9)⟩, hxwl6⟩ ?_
          rintro j ac wl52 ⟨⟨hj, hacc, hac4, hsi, hou, hox⟩, hxwl52⟩
          refine CW.sub (S' := [(10, _), (0, _), (2, _), (3, _), (4, _), (6, _), (7, _), (8, _), (41, _)]) ⟨rfl, rfl, rfl, rfl, rfl, rfl, rfl, rfl, rfl, trivial⟩ ?_
          refine CW.seq ?_
          refine CW.region ?_
          refine RG.sNext rfl rfl rfl rfl rfl hsi (fun hend => ?_) (fun wn53 hpos hwn53 hiwn53 => ?_)
          · refine RG.vl rfl rfl rfl (Ev.extract rfl rfl rfl) ?_
            refine RG.done ?_
            refine QW.then_ ?_
            refine CW.seq ?_
            refine CW.condF rfl ?_
            refine CW.exit ?_
            refine QW.thenExit ?_
            refine QW.thenExit ?_
            refine QW.blockHit ?_
            refine QW.then_ ?_
            obtain rfl : j = 3 := by omega
            have hac64 : ac < 64 := hac4
            rw [List.take_of_length_le (by omega)] at hacc
            have hac : ((symB t k).toNat : Int) = (ac : Int) := by rw [sym_clear hnu.1, ← hacc, UInt8.toNat_ofNat_of_lt' (show ac < 256 by omega)]
            refine CW.region ?_
            refine RG.vl rfl rfl rfl (Ev.move rfl rfl) ?_
            refine RG.vl rfl rfl rfl (Ev.move rfl rfl) ?_
            refine RG.vl rfl rfl rfl ((Ev.to8 rfl rfl Try.underlying3 Try.underlying5 (by omega)).conv (congrArg (Value.int .u8) hac.symm)) ?_
            refine RG.litO (os := [.tmp 52]) (enc := encB) ([symB t k]) rfl rfl rfl rfl rfl rfl rfl Try.underlying22 inf_5 rfl rfl rfl rfl rfl encB_len rfl rfl (fun v54 wk55 hxwk55 hown56 hnew57 => ?_)
            have hsep58 : Sep v54 _ := Sep.of_new hou hnew57
            have hsep59 : Sep v54 _ := Sep.of_new hox hnew57
            replace hxwl52 := Ex.tr hxwl52 hxwk55
            have hE60 := hxwk55
            refine RG.appO rfl rfl rfl rfl rfl rfl rfl Try.underlying22 inf_5 rfl rfl encB_len (fun _ => rfl) (Own.ext hou hE60) ((hown56.rdl encB_len)) (by show _ + 1 ≤ maxLen; simp only [maxLen]; omega) (by show (_ + 1) * _ ≤ _; omega) (hxwl52.size) (fun v61 wa62 hown63 hgr64 hat65 => ?_)
            have hsep67 := Sep.app hsp (Own.ext hox hE60) hat65
            have hown66 := Own.grown (Own.ext hox hE60) hgr64 (fun k a b => hsp k b a)
            have hsep69 := Sep.app (Sep.symm hsep58) hown56 hat65
            have hown68 := Own.grown hown56 hgr64 (fun k a b => (Sep.symm hsep58) k b a)
            replace hxwl52 := own_block (Own.ext hou hE60) hxwl52 hgr64 (Nat.le_refl _) hxwl52.size
            refine RG.vl rfl rfl rfl (Ev.assign rfl rfl) ?_
            refine RG.done ?_
            refine QW.blockN ?_
            refine QW.then_ ?_
            refine CW.region ?_
            refine RG.vl rfl rfl rfl (Ev.move rfl rfl) ?_
            refine RG.vl rfl rfl rfl (Ev.addI rfl rfl rfl (by omega)) ?_
            refine RG.vl rfl rfl rfl (Ev.assign rfl rfl) ?_
            refine RG.done ?_
            refine QW.round3 (k + 1) (v61) (x) ⟨rfl, rfl, rfl, trivial⟩ ⟨rfl, rfl, rfl, rfl, trivial⟩ ⟨⟨by omega, by rw [syms_more]; exact hown63, by rw [eras_no hnu.1]; exact hown66, hsep67⟩, hxwl52⟩ (by omega)
          · replace hou := Own.far hou hwn53 hsb47
            replace hox := Own.far hox hwn53 hsb48
            replace hxwl52 := Wr.below hxwl52 hwn53 hle49
            refine RG.vl rfl rfl rfl (Ev.extract rfl rfl rfl) ?_
            refine RG.done ?_
            refine QW.then_ ?_
            refine CW.seq ?_
            refine CW.condT rfl ?_
            refine CW.skip ?_
            refine QW.then_ ?_
            refine CW.block ?_
            refine CW.seq ?_
            obtain ⟨c, hc⟩ : ∃ c, (part t k)[j]? = some c := ⟨_, List.getElem?_eq_getElem (by rw [sb_len] at hpos; exact hpos)⟩
            have hcm := part_mem (List.mem_of_getElem? hc)
            have hlo := halo c hcm
            have hjj := (List.getElem?_eq_some_iff.1 hc).1
            obtain ⟨hn1, hn2⟩ := num_of (List.all_eq_true.1 hok.2 c hcm) (hnu.2 c (List.mem_of_getElem? hc))
            have hoc : UInt8.ofNat c.toNat = c := by simp
            have hmo := acc_more hc
            rw [dec_lo hc hlo] at hiwn53 ⊢
            refine CW.region ?_
            refine RG.vl rfl rfl rfl (Ev.extract rfl rfl rfl) ?_
            refine RG.vl rfl rfl rfl (Ev.assign rfl rfl) ?_
            refine RG.done ?_
            refine QW.then_ ?_
            have hp4 : 4 ^ j ≤ 4 ^ 2 := Nat.pow_le_pow_right (by decide) (by omega)
            have hac16 : ac < 16 := Nat.lt_of_lt_of_le hac4 hp4
            refine CW.region ?_
            refine RG.vl rfl rfl rfl (Ev.move rfl rfl) ?_
            refine RG.vl rfl rfl rfl (Ev.mulI rfl rfl rfl (by omega)) ?_
            refine RG.vl rfl rfl rfl (Ev.move rfl rfl) ?_
            refine RG.call rfl rfl rfl rfl rfl rfl rfl en_32 (Ret.mono (Ψ := fun v w' => v = .int .i64 (num c : Int) ∧ Ex wn53 w') (idxr_ret s4 c.toNat _ hlo) (fun v w' h => ⟨h.1.trans (congrArg (Value.int .i64) (by rw [hoc]; exact hn1)), h.2⟩)) ?_
            rintro _ w70 ⟨rfl, hx70⟩
            replace hxwl52 := Ex.tr hxwl52 hx70
            have hE71 := hx70
            refine RG.vl rfl rfl rfl ((Ev.addI rfl rfl rfl (by omega)).conv (congrArg (Value.int .i64) (show (ac : Int) * 4 + (num c : Int) = ((ac * 4 + num c : Nat) : Int) by omega))) ?_
            refine RG.vl rfl rfl rfl (Ev.assign rfl rfl) ?_
            refine RG.done ?_
            refine QW.blockN ?_
            refine QW.round2 (j + 1) (ac * 4 + num c) ⟨rfl, trivial⟩ ⟨rfl, rfl, rfl, rfl, rfl, rfl, rfl, rfl, trivial⟩ ⟨⟨by omega, by rw [hmo, hacc], by rw [Nat.pow_succ]; omega, (hiwn53.ext hE71), (Own.ext hou hE71), (Own.ext hox hE71)⟩, hxwl52⟩ (by omega)
      · refine CW.exit ?_
        refine QW.thenExit ?_
        refine QW.thenExit ?_
        refine QW.blockHit ?_
        refine QW.then_ ?_
        refine CW.seq ?_
        refine CW.region ?_
        refine RG.vl rfl rfl rfl (Ev.move rfl rfl) ?_
        refine RG.vl rfl rfl rfl (Ev.move rfl rfl) ?_
        refine RG.vl rfl rfl rfl (Ev.assign rfl rfl) ?_
        refine RG.vl rfl rfl rfl (Ev.assign rfl rfl) ?_
        refine RG.vl rfl rfl rfl (Ev.assign rfl rfl) ?_
        refine RG.done ?_
        refine QW.then_ ?_
        refine CW.ret ?_
        refine QW.ret3 rfl rfl rfl rfl ?_
        have hB := (Ex.tr hR5 hxwl6)
        obtain rfl : k = t.length / 3 := by omega
        have hro := read_ok he0 (by omega)
        exact ⟨_, _, by rw [hro], by rw [hro]; exact hou.low (by have := hR5.size; omega), by rw [hro]; exact hox.low (by have := hR5.size; omega), hB⟩

end Go.Proofs.Ytgafkbnlhlbmkaa
