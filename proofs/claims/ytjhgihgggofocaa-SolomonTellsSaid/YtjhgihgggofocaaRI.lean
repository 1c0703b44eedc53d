/- Walks (RI). Written by program. -/
import Derived.Test.YtjhgihgggofocaaT
import Derived.Test.YtjhgihgggofocaaRH
import Derived.Test.YtjhgihgggofocaaRK
namespace Go.Proofs.Ytjhgihgggofocaa
open Go.RowKit
set_option maxRecDepth 100000 in
set_option maxHeartbeats 8000000 in
theorem solomonTells_ret (lv : Value) (l : List Nat) (w : World) (hl : RdL w 1 encN lv l) :
    Ret Try.prog 5 [lv] w (fun v w' => v = .bool true ∧ Ex w w') := by
  obtain ⟨lA, lC, rfl⟩ := hl.shape
  have hB0 : Ex w w := Ex.rfl_ _
  refine Ret.of Try.func5 rfl Try.ntmps5 rfl ?_
  refine CW.seq ?_
  refine CW.region ?_
  refine RG.vl rfl rfl rfl (Ev.assign rfl rfl) ?_
  refine RG.done ?_
  refine QW.then_ ?_
  refine CW.seq ?_
  refine CW.seq ?_
  refine CW.region ?_
  refine RG.vl rfl rfl rfl (Ev.move rfl rfl) ?_
  refine RG.vl rfl rfl rfl (Ev.lenL rfl rfl rfl Try.underlying22 (hl)) ?_
  refine RG.vl rfl rfl rfl (Ev.gtr rfl rfl rfl) ?_
  refine RG.done ?_
  refine QW.then_ ?_
  refine CW.condP rfl (fun hc1 => ?_) (fun hc1 => ?_)
  · refine CW.seq ?_
    refine CW.region ?_
    refine RG.call rfl rfl rfl rfl rfl rfl rfl en_10 (awake_ret _) ?_
    rintro _ w2 ⟨rfl, hx2⟩
    have hE3 := hx2
    refine RG.vl rfl rfl rfl (Ev.assign rfl rfl) ?_
    refine RG.done ?_
    refine QW.then_ ?_
    refine CW.ret ?_
    refine QW.thenRet ?_
    refine QW.ret1 rfl rfl ?_
    have hB := (Ex.tr hB0 hE3)
    exact ⟨rfl, hB⟩
  · refine CW.skip ?_
    refine QW.then_ ?_
    refine CW.seq ?_
    have hlen : l.length ≤ 100000 := by omega
    rcases Bool.eq_false_or_eq_true (encOk l) with hok | hok
    · obtain ⟨hl1, hl2, hle⟩ := encOk_iff.1 hok
      rcases Bool.eq_false_or_eq_true (isW l) with hw | hw
      · obtain ⟨hw1, hw2, hwe⟩ := isW_iff.1 hw
        refine CW.region ?_
        refine RG.vl rfl rfl rfl (Ev.move rfl rfl) ?_
        refine RG.call rfl rfl rfl rfl rfl rfl rfl en_11 (lent_ret _ _ _ (hl) (by omega)) ?_
        have hpre4 := hB0
        rintro _ w4 ⟨g4, c4, rfl, hol4, hx4⟩
        have hE5 := hx4
        refine RG.vl rfl rfl rfl (Ev.assign rfl rfl) ?_
        refine RG.done ?_
        refine QW.then_ ?_
        refine CW.seq ?_
        refine CW.region ?_
        refine RG.vl rfl rfl rfl (Ev.move rfl rfl) ?_
        refine RG.call rfl rfl rfl rfl rfl rfl rfl en_23 (encY _ _ l ((lent_rdl (by rw [List.length_append, mks_len]) hol4)) hlen hok) ?_
        have hpre6 := (Ex.tr hB0 hE5)
        rintro _ w6 ⟨r4, c4, rfl, ho4, hen4, hx6⟩
        have hsep7 : Sep r4 _ := Sep.of_new hol4 (fun k h => Own.ge ho4 h)
        replace hE5 := Ex.tr hE5 hx6
        have hE8 := hx6
        refine RG.vl rfl rfl rfl (Ev.move rfl rfl) ?_
        refine RG.vl rfl rfl rfl (Ev.extract rfl rfl rfl) ?_
        refine RG.vl rfl rfl rfl (Ev.extract rfl rfl rfl) ?_
        refine RG.vl rfl rfl rfl (Ev.assign rfl rfl) ?_
        refine RG.vl rfl rfl rfl (Ev.assign rfl rfl) ?_
        refine RG.done ?_
        refine QW.sub (S' := [(0, _), (2, _), (3, _), (4, _), (5, _)]) ⟨rfl, rfl, rfl, rfl, rfl, trivial⟩ ?_
        refine QW.then_ ?_
        refine CW.seq ?_
        refine CW.region ?_
        refine RG.vl rfl rfl rfl (Ev.move rfl rfl) ?_
        refine RG.call rfl rfl rfl rfl rfl rfl rfl en_24 (synd_own _ _ l ((lent_rdl (by rw [List.length_append, mks_len]) (Own.ext hol4 hE8))) hw) ?_
        have hpre9 := (Ex.tr hB0 hE5)
        rintro _ w9 ⟨g5, rfl, ho5, hx9⟩
        have hsep10 : Sep (Value.slice (some ⟨g5, 0, none⟩) 4 4) _ := Sep.of_new (Own.ext hol4 hE8) (fun k h => Own.ge ho5 h)
        have hsep11 : Sep (Value.slice (some ⟨g5, 0, none⟩) 4 4) _ := Sep.of_new ho4 (fun k h => Own.ge ho5 h)
        replace hE5 := Ex.tr hE5 hx9
        replace hE8 := Ex.tr hE8 hx9
        have hE12 := hx9
        refine RG.vl rfl rfl rfl (Ev.move rfl rfl) ?_
        refine RG.vl rfl rfl rfl (Ev.extract rfl rfl rfl) ?_
        refine RG.vl rfl rfl rfl (Ev.extract rfl rfl rfl) ?_
        refine RG.vl rfl rfl rfl (Ev.assign rfl rfl) ?_
        refine RG.vl rfl rfl rfl (Ev.assign rfl rfl) ?_
        refine RG.done ?_
        refine QW.then_ ?_
        refine CW.seq ?_
        refine CW.region ?_
        refine RG.vl rfl rfl rfl (Ev.move rfl rfl) ?_
        refine RG.call rfl rfl rfl rfl rfl rfl rfl en_25 (valid_ret _ l _ ((lent_rdl (by rw [List.length_append, mks_len]) (Own.ext hol4 hE8))) hlen) ?_
        rintro _ w13 ⟨rfl, hx13⟩
        replace hE5 := Ex.tr hE5 hx13
        replace hE8 := Ex.tr hE8 hx13
        replace hE12 := Ex.tr hE12 hx13
        have hE14 := hx13
        refine RG.vl rfl rfl rfl (Ev.assign rfl rfl) ?_
        refine RG.done ?_
        refine QW.then_ ?_
        refine CW.seq ?_
        refine CW.seq ?_
        refine CW.region ?_
        refine RG.vl rfl rfl rfl (Ev.move rfl rfl) ?_
        refine RG.vl rfl rfl rfl (Ev.move rfl rfl) ?_
        refine RG.call rfl rfl rfl rfl rfl rfl rfl en_14 (kept_ret _ _ _ _ _ (lent_big (Own.ext hol4 hE8)) (hl.ext hE5) (lent_cap (Own.ext hol4 hE8)) (by omega)) ?_
        rintro _ w15 ⟨rfl, hx15⟩
        replace hE5 := Ex.tr hE5 hx15
        replace hE8 := Ex.tr hE8 hx15
        replace hE12 := Ex.tr hE12 hx15
        replace hE14 := Ex.tr hE14 hx15
        have hE16 := hx15
        refine RG.vl rfl rfl rfl (Ev.notF rfl rfl) ?_
        refine RG.done ?_
        refine QW.sub (S' := [(0, _), (2, _), (3, _), (4, _), (5, _), (6, _), (7, _), (8, _), (31, _)]) ⟨rfl, rfl, rfl, rfl, rfl, rfl, rfl, rfl, rfl, trivial⟩ ?_
        refine QW.then_ ?_
        refine CW.condF rfl ?_
        refine CW.skip ?_
        refine QW.then_ ?_
        refine CW.seq ?_
        refine CW.region ?_
        refine RG.vl rfl rfl rfl (Ev.move rfl rfl) ?_
        refine RG.call rfl rfl rfl rfl rfl rfl rfl en_16 (over_ret w _ _ _ _ _ (Ex.tr hB0 hE5) (lent_norm (Own.ext hol4 hE8)) (lent_cap2 (Own.ext hol4 hE8)) (lent_len _) (by omega)) ?_
        rintro _ w17 ⟨ys17, hown18, hgr19⟩
        have hown20 := Own.grown (Own.ext ho4 hE12) hgr19 (fun k a b => (Sep.symm hsep7) k b a)
        have hown21 := Own.grown (Own.ext ho5 hE14) hgr19 (fun k a b => (Sep.symm hsep10) k b a)
        replace hE5 := own_block (Own.ext hol4 hE8) hE5 hgr19 (Nat.le_refl _) hE5.size
        refine RG.done ?_
        refine QW.then_ ?_
        refine CW.seq ?_
        refine CW.seq ?_
        refine CW.region ?_
        refine RG.vl rfl rfl rfl (Ev.move rfl rfl) ?_
        refine RG.call rfl rfl rfl rfl rfl rfl rfl en_26 ((by have k := rword_ret _ l _ ((hl.ext hE5)) hlen; rw [hw] at k; exact k)) ?_
        rintro _ w22 ⟨rfl, hx22⟩
        replace hE5 := Ex.tr hE5 hx22
        have hE23 := hx22
        refine RG.done ?_
        refine QW.then_ ?_
        refine CW.condT rfl ?_
        refine CW.seq ?_
        refine CW.region ?_
        refine RG.vl rfl rfl rfl (Ev.move rfl rfl) ?_
        refine RG.vl rfl rfl rfl (Ev.isF (Ev.neI rfl rfl rfl) (fun h => h rfl)) ?_
        refine RG.vl rfl rfl rfl (Ev.move rfl rfl) ?_
        refine RG.vl rfl rfl rfl (Ev.move rfl rfl) ?_
        refine RG.vl rfl rfl rfl (Ev.move rfl rfl) ?_
        refine RG.call rfl rfl rfl rfl rfl rfl rfl en_27 (rsynd_ret _ _ _ ((hl.ext hE5)) (by omega) (by exact hwe)) ?_
        have hpre24 := (Ex.tr hB0 hE5)
        rintro rs24 w24 ⟨hrs24, hx24⟩
        have hsep25 : Sep rs24 _ := Sep.of_new (Own.ext hown20 hE23) (fun k h => Own.ge hrs24 h)
        have hsep26 : Sep rs24 _ := Sep.of_new (Own.ext hown21 hE23) (fun k h => Own.ge hrs24 h)
        have hsep27 : Sep rs24 _ := Sep.of_new (Own.ext hown18 hE23) (fun k h => Own.ge hrs24 h)
        replace hE5 := Ex.tr hE5 hx24
        replace hE23 := Ex.tr hE23 hx24
        have hE28 := hx24
        refine RG.call rfl rfl rfl rfl rfl rfl rfl en_19 (sameBt_ret _ _ (syL l) _ (((Own.ext hown21 hE23).rdl encN_len)) ((hrs24.rdl encN_len)) (by first | omega | (show 4 ≤ _; omega))) ?_
        rintro _ w29 ⟨rfl, hx29⟩
        replace hE5 := Ex.tr hE5 hx29
        replace hE23 := Ex.tr hE23 hx29
        replace hE28 := Ex.tr hE28 hx29
        have hE30 := hx29
        refine RG.vl rfl rfl rfl (Ev.notF rfl rfl) ?_
        refine RG.vl rfl rfl rfl (Ev.pickF rfl rfl rfl) ?_
        refine RG.vl rfl rfl rfl (Ev.move rfl rfl) ?_
        refine RG.vl rfl rfl rfl (Ev.move rfl rfl) ?_
        refine RG.vl rfl rfl rfl (Ev.move rfl rfl) ?_
        refine RG.call rfl rfl rfl rfl rfl rfl rfl en_28 (rvalid_ret _ _ _ ((hl.ext hE5)) (by omega)) ?_
        rintro _ w31 ⟨rfl, hx31⟩
        replace hE5 := Ex.tr hE5 hx31
        replace hE23 := Ex.tr hE23 hx31
        replace hE28 := Ex.tr hE28 hx31
        replace hE30 := Ex.tr hE30 hx31
        have hE32 := hx31
        refine RG.vl rfl rfl rfl (Ev.isF (Ev.neB rfl rfl rfl Try.underlying4) (fun h => h rfl)) ?_
        refine RG.vl rfl rfl rfl (Ev.pickF rfl rfl rfl) ?_
        refine RG.done ?_
        refine QW.sub (S' := [(0, _), (2, _), (4, _), (5, _), (50, _)]) ⟨rfl, rfl, rfl, rfl, rfl, trivial⟩ ?_
        refine QW.then_ ?_
        refine CW.condF rfl ?_
        refine CW.skip ?_
        refine QW.then_ ?_
        refine CW.seq ?_
        refine CW.region ?_
        refine RG.build0O (enc := encN) rfl rfl rfl rfl rfl Try.underlying22 sz_5 (fun v33 wk34 hxwk34 hown35 hnew36 => ?_)
        have hsep37 : Sep v33 _ := Sep.of_new (Own.ext hown20 hE23) hnew36
        have hsep38 : Sep v33 _ := Sep.of_new (Own.ext hown21 hE23) hnew36
        have hsep39 : Sep v33 _ := Sep.of_new (Own.ext hown18 hE23) hnew36
        have hsep40 : Sep v33 _ := Sep.of_new (Own.ext hrs24 hE30) hnew36
        replace hown35 := Own.low (B' := w.heap.size) hown35 (by have := (Ex.tr hB0 hE5).size; omega)
        replace hE5 := Ex.tr hE5 hxwk34
        replace hE23 := Ex.tr hE23 hxwk34
        replace hE28 := Ex.tr hE28 hxwk34
        replace hE30 := Ex.tr hE30 hxwk34
        replace hE32 := Ex.tr hE32 hxwk34
        have hE41 := hxwk34
        refine RG.vl rfl rfl rfl (Ev.move rfl rfl) ?_
        refine RG.appO rfl rfl rfl rfl rfl rfl rfl Try.underlying22 inf_5 rfl rfl encN_len (fun _ => rfl) hown35 ((hl.ext hE5)) (by show 0 + _ ≤ maxLen; simp only [maxLen]; omega) (by show (0 + _) * _ ≤ _; omega) (hE5.size) (fun v42 wa43 hown44 hgr45 hat46 => ?_)
        have hsep48 := Sep.app hsep37 (Own.ext hown20 hE23) hat46
        have hown47 := Own.grown (Own.ext hown20 hE23) hgr45 (fun k a b => hsep37 k b a)
        have hsep50 := Sep.app hsep38 (Own.ext hown21 hE23) hat46
        have hown49 := Own.grown (Own.ext hown21 hE23) hgr45 (fun k a b => hsep38 k b a)
        have hsep52 := Sep.app hsep39 (Own.ext hown18 hE23) hat46
        have hown51 := Own.grown (Own.ext hown18 hE23) hgr45 (fun k a b => hsep39 k b a)
        have hsep54 := Sep.app hsep40 (Own.ext hrs24 hE30) hat46
        have hown53 := Own.grown (Own.ext hrs24 hE30) hgr45 (fun k a b => hsep40 k b a)
        replace hE5 := own_block hown35 hE5 hgr45 (Nat.le_refl _) hE5.size
        rw [List.nil_append] at hown44
        refine RG.litO (os := [_, _, _, _]) (enc := encN) ([0, 0, 0, 0]) rfl rfl rfl rfl rfl rfl rfl Try.underlying22 inf_5 rfl rfl rfl rfl rfl encN_len rfl rfl (fun v55 wk56 hxwk56 hown57 hnew58 => ?_)
        have hsep59 : Sep v55 _ := Sep.of_new hown47 hnew58
        have hsep60 : Sep v55 _ := Sep.of_new hown49 hnew58
        have hsep61 : Sep v55 _ := Sep.of_new hown51 hnew58
        have hsep62 : Sep v55 _ := Sep.of_new hown53 hnew58
        have hsep63 : Sep v55 _ := Sep.of_new hown44 hnew58
        replace hE5 := Ex.tr hE5 hxwk56
        have hE64 := hxwk56
        refine RG.appO rfl rfl rfl rfl rfl rfl rfl Try.underlying22 inf_5 rfl rfl encN_len (fun _ => rfl) (Own.ext hown44 hE64) ((hown57.rdl encN_len)) (by show _ + 4 ≤ maxLen; simp only [maxLen]; omega) (by show (_ + 4) * _ ≤ _; omega) (hE5.size) (fun v65 wa66 hown67 hgr68 hat69 => ?_)
        have hsep71 := Sep.app hsep48 (Own.ext hown47 hE64) hat69
        have hown70 := Own.grown (Own.ext hown47 hE64) hgr68 (fun k a b => hsep48 k b a)
        have hsep73 := Sep.app hsep50 (Own.ext hown49 hE64) hat69
        have hown72 := Own.grown (Own.ext hown49 hE64) hgr68 (fun k a b => hsep50 k b a)
        have hsep75 := Sep.app hsep52 (Own.ext hown51 hE64) hat69
        have hown74 := Own.grown (Own.ext hown51 hE64) hgr68 (fun k a b => hsep52 k b a)
        have hsep77 := Sep.app hsep54 (Own.ext hown53 hE64) hat69
        have hown76 := Own.grown (Own.ext hown53 hE64) hgr68 (fun k a b => hsep54 k b a)
        have hsep79 := Sep.app (Sep.symm hsep63) hown57 hat69
        have hown78 := Own.grown hown57 hgr68 (fun k a b => (Sep.symm hsep63) k b a)
        replace hE5 := own_block (Own.ext hown44 hE64) hE5 hgr68 (Nat.le_refl _) hE5.size
        refine RG.vl rfl rfl rfl (Ev.assign rfl rfl) ?_
        refine RG.done ?_
        refine QW.then_ ?_
        refine CW.seq ?_
        refine CW.seq ?_
        refine CW.region ?_
        refine RG.vl rfl rfl rfl (Ev.move rfl rfl) ?_
        refine RG.call rfl rfl rfl rfl rfl rfl rfl en_26 ((by have k := rword_ret _ (l ++ [0, 0, 0, 0]) _ ((hown67.rdl encN_len)) (by rw [List.length_append]; show _ + 4 ≤ _; omega); rw [want_yes hok] at k; exact k)) ?_
        rintro _ w80 ⟨rfl, hx80⟩
        replace hE5 := Ex.tr hE5 hx80
        have hE81 := hx80
        refine RG.vl rfl rfl rfl (Ev.notF rfl rfl) ?_
        refine RG.vl rfl rfl rfl (Ev.move rfl rfl) ?_
        refine RG.vl rfl rfl rfl (Ev.move rfl rfl) ?_
        refine RG.vl rfl rfl rfl (Ev.lenL rfl rfl rfl Try.underlying22 ((hl.ext hE5))) ?_
        refine RG.vl rfl rfl rfl (Ev.isF (Ev.eqI rfl rfl rfl) (by omega)) ?_
        refine RG.vl rfl rfl rfl (Ev.pickF rfl rfl rfl) ?_
        refine RG.done ?_
        refine QW.sub (S' := [(0, _), (2, _), (4, _), (5, _), (73, _)]) ⟨rfl, rfl, rfl, rfl, rfl, trivial⟩ ?_
        refine QW.then_ ?_
        refine CW.condF rfl ?_
        refine CW.skip ?_
        refine QW.then_ ?_
        refine CW.seq ?_
        refine CW.region ?_
        refine RG.vl rfl rfl rfl (Ev.move rfl rfl) ?_
        refine RG.vl rfl rfl rfl (Ev.isT (Ev.eqI rfl rfl rfl) (rfl)) ?_
        refine RG.vl rfl rfl rfl (Ev.move rfl rfl) ?_
        refine RG.vl rfl rfl rfl (Ev.move rfl rfl) ?_
        refine RG.vl rfl rfl rfl (Ev.move rfl rfl) ?_
        refine RG.call rfl rfl rfl rfl rfl rfl rfl en_29 (rencode_ret _ _ _ ((hl.ext hE5)) (by omega) (by exact hle)) ?_
        have hpre82 := (Ex.tr hB0 hE5)
        rintro ve82 w82 ⟨c82, hoe82, henc82, hx82⟩
        have hsep83 : Sep ve82 _ := Sep.of_new (Own.ext hown70 hE81) (fun k h => Own.ge hoe82 h)
        have hsep84 : Sep ve82 _ := Sep.of_new (Own.ext hown72 hE81) (fun k h => Own.ge hoe82 h)
        have hsep85 : Sep ve82 _ := Sep.of_new (Own.ext hown74 hE81) (fun k h => Own.ge hoe82 h)
        have hsep86 : Sep ve82 _ := Sep.of_new (Own.ext hown76 hE81) (fun k h => Own.ge hoe82 h)
        have hsep87 : Sep ve82 _ := Sep.of_new (Own.ext hown78 hE81) (fun k h => Own.ge hoe82 h)
        have hsep88 : Sep ve82 _ := Sep.of_new (Own.ext hown67 hE81) (fun k h => Own.ge hoe82 h)
        replace hE5 := Ex.tr hE5 hx82
        replace hE81 := Ex.tr hE81 hx82
        have hE89 := hx82
        have hcc := enc_uniq hl2 hen4 (enc_code henc82) henc82.pre
        subst hcc
        have hcl := hen4.len
        refine RG.call rfl rfl rfl rfl rfl rfl rfl en_19 (sameBt_ret _ _ (c4) _ (((Own.ext hown70 hE81).rdl encN_len)) ((hoe82.rdl encN_len)) (by first | omega | (show 4 ≤ _; omega))) ?_
        rintro _ w90 ⟨rfl, hx90⟩
        replace hE5 := Ex.tr hE5 hx90
        replace hE81 := Ex.tr hE81 hx90
        replace hE89 := Ex.tr hE89 hx90
        have hE91 := hx90
        refine RG.vl rfl rfl rfl (Ev.pickT rfl rfl rfl) ?_
        refine RG.vl rfl rfl rfl (Ev.move rfl rfl) ?_
        refine RG.call rfl rfl rfl rfl rfl rfl rfl en_10 (awake_ret _) ?_
        rintro _ w92 ⟨rfl, hx92⟩
        replace hE5 := Ex.tr hE5 hx92
        replace hE81 := Ex.tr hE81 hx92
        replace hE89 := Ex.tr hE89 hx92
        replace hE91 := Ex.tr hE91 hx92
        have hE93 := hx92
        refine RG.vl rfl rfl rfl (Ev.pickT rfl rfl rfl) ?_
        refine RG.vl rfl rfl rfl (Ev.assign rfl rfl) ?_
        refine RG.done ?_
        refine QW.then_ ?_
        refine CW.ret ?_
        refine QW.ret1 rfl rfl ?_
        have hB := (Ex.tr hB0 hE5)
        exact ⟨rfl, hB⟩
      · refine CW.region ?_
        refine RG.vl rfl rfl rfl (Ev.move rfl rfl) ?_
        refine RG.call rfl rfl rfl rfl rfl rfl rfl en_11 (lent_ret _ _ _ (hl) (by omega)) ?_
        have hpre94 := hB0
        rintro _ w94 ⟨g94, c94, rfl, hol94, hx94⟩
        have hE95 := hx94
        refine RG.vl rfl rfl rfl (Ev.assign rfl rfl) ?_
        refine RG.done ?_
        refine QW.then_ ?_
        refine CW.seq ?_
        refine CW.region ?_
        refine RG.vl rfl rfl rfl (Ev.move rfl rfl) ?_
        refine RG.call rfl rfl rfl rfl rfl rfl rfl en_23 (encY _ _ l ((lent_rdl (by rw [List.length_append, mks_len]) hol94)) hlen hok) ?_
        have hpre96 := (Ex.tr hB0 hE95)
        rintro _ w96 ⟨r4, c4, rfl, ho4, hen4, hx96⟩
        have hsep97 : Sep r4 _ := Sep.of_new hol94 (fun k h => Own.ge ho4 h)
        replace hE95 := Ex.tr hE95 hx96
        have hE98 := hx96
        refine RG.vl rfl rfl rfl (Ev.move rfl rfl) ?_
        refine RG.vl rfl rfl rfl (Ev.extract rfl rfl rfl) ?_
        refine RG.vl rfl rfl rfl (Ev.extract rfl rfl rfl) ?_
        refine RG.vl rfl rfl rfl (Ev.assign rfl rfl) ?_
        refine RG.vl rfl rfl rfl (Ev.assign rfl rfl) ?_
        refine RG.done ?_
        refine QW.sub (S' := [(0, _), (2, _), (3, _), (4, _), (5, _)]) ⟨rfl, rfl, rfl, rfl, rfl, trivial⟩ ?_
        refine QW.then_ ?_
        refine CW.seq ?_
        refine CW.region ?_
        refine RG.vl rfl rfl rfl (Ev.move rfl rfl) ?_
        refine RG.call rfl rfl rfl rfl rfl rfl rfl en_24 (syndX _ _ l ((lent_rdl (by rw [List.length_append, mks_len]) (Own.ext hol94 hE98))) hlen hw) ?_
        rintro _ w99 ⟨rfl, hx99⟩
        replace hE95 := Ex.tr hE95 hx99
        replace hE98 := Ex.tr hE98 hx99
        have hE100 := hx99
        refine RG.vl rfl rfl rfl (Ev.move rfl rfl) ?_
        refine RG.vl rfl rfl rfl (Ev.extract rfl rfl rfl) ?_
        refine RG.vl rfl rfl rfl (Ev.extract rfl rfl rfl) ?_
        refine RG.vl rfl rfl rfl (Ev.assign rfl rfl) ?_
        refine RG.vl rfl rfl rfl (Ev.assign rfl rfl) ?_
        refine RG.done ?_
        refine QW.then_ ?_
        refine CW.seq ?_
        refine CW.region ?_
        refine RG.vl rfl rfl rfl (Ev.move rfl rfl) ?_
        refine RG.call rfl rfl rfl rfl rfl rfl rfl en_25 ((by have k := valid_ret _ l _ ((lent_rdl (by rw [List.length_append, mks_len]) (Own.ext hol94 hE98))) hlen; rw [isW_no hw] at k; exact k)) ?_
        rintro _ w101 ⟨rfl, hx101⟩
        replace hE95 := Ex.tr hE95 hx101
        replace hE98 := Ex.tr hE98 hx101
        replace hE100 := Ex.tr hE100 hx101
        have hE102 := hx101
        refine RG.vl rfl rfl rfl (Ev.assign rfl rfl) ?_
        refine RG.done ?_
        refine QW.then_ ?_
        refine CW.seq ?_
        refine CW.seq ?_
        refine CW.region ?_
        refine RG.vl rfl rfl rfl (Ev.move rfl rfl) ?_
        refine RG.vl rfl rfl rfl (Ev.move rfl rfl) ?_
        refine RG.call rfl rfl rfl rfl rfl rfl rfl en_14 (kept_ret _ _ _ _ _ (lent_big (Own.ext hol94 hE98)) (hl.ext hE95) (lent_cap (Own.ext hol94 hE98)) (by omega)) ?_
        rintro _ w103 ⟨rfl, hx103⟩
        replace hE95 := Ex.tr hE95 hx103
        replace hE98 := Ex.tr hE98 hx103
        replace hE100 := Ex.tr hE100 hx103
        replace hE102 := Ex.tr hE102 hx103
        have hE104 := hx103
        refine RG.vl rfl rfl rfl (Ev.notF rfl rfl) ?_
        refine RG.done ?_
        refine QW.sub (S' := [(0, _), (2, _), (3, _), (4, _), (5, _), (6, _), (7, _), (8, _), (31, _)]) ⟨rfl, rfl, rfl, rfl, rfl, rfl, rfl, rfl, rfl, trivial⟩ ?_
        refine QW.then_ ?_
        refine CW.condF rfl ?_
        refine CW.skip ?_
        refine QW.then_ ?_
        refine CW.seq ?_
        refine CW.region ?_
        refine RG.vl rfl rfl rfl (Ev.move rfl rfl) ?_
        refine RG.call rfl rfl rfl rfl rfl rfl rfl en_16 (over_ret w _ _ _ _ _ (Ex.tr hB0 hE95) (lent_norm (Own.ext hol94 hE98)) (lent_cap2 (Own.ext hol94 hE98)) (lent_len _) (by omega)) ?_
        rintro _ w105 ⟨ys105, hown106, hgr107⟩
        have hown108 := Own.grown (Own.ext ho4 hE100) hgr107 (fun k a b => (Sep.symm hsep97) k b a)
        replace hE95 := own_block (Own.ext hol94 hE98) hE95 hgr107 (Nat.le_refl _) hE95.size
        refine RG.done ?_
        refine QW.then_ ?_
        refine CW.seq ?_
        refine CW.seq ?_
        refine CW.region ?_
        refine RG.vl rfl rfl rfl (Ev.move rfl rfl) ?_
        refine RG.call rfl rfl rfl rfl rfl rfl rfl en_26 ((by have k := rword_ret _ l _ ((hl.ext hE95)) hlen; rw [hw] at k; exact k)) ?_
        rintro _ w109 ⟨rfl, hx109⟩
        replace hE95 := Ex.tr hE95 hx109
        have hE110 := hx109
        refine RG.done ?_
        refine QW.then_ ?_
        refine CW.condF rfl ?_
        refine CW.seq ?_
        refine CW.region ?_
        refine RG.vl rfl rfl rfl (Ev.move rfl rfl) ?_
        refine RG.vl rfl rfl rfl (Ev.isF (Ev.neI rfl rfl rfl) (fun h => h rfl)) ?_
        refine RG.vl rfl rfl rfl (Ev.move rfl rfl) ?_
        refine RG.vl rfl rfl rfl (Ev.move rfl rfl) ?_
        refine RG.vl rfl rfl rfl (Ev.lenSlice rfl rfl rfl Try.underlying22) ?_
        refine RG.vl rfl rfl rfl (Ev.isF (Ev.neI rfl rfl rfl) (by decide)) ?_
        refine RG.vl rfl rfl rfl (Ev.pickF rfl rfl rfl) ?_
        refine RG.vl rfl rfl rfl (Ev.move rfl rfl) ?_
        refine RG.vl rfl rfl rfl (Ev.move rfl rfl) ?_
        refine RG.vl rfl rfl rfl (Ev.pickF rfl rfl rfl) ?_
        refine RG.done ?_
        refine QW.sub (S' := [(0, _), (2, _), (4, _), (5, _), (60, _)]) ⟨rfl, rfl, rfl, rfl, rfl, trivial⟩ ?_
        refine QW.then_ ?_
        refine CW.condF rfl ?_
        refine CW.skip ?_
        refine QW.then_ ?_
        refine CW.seq ?_
        refine CW.region ?_
        refine RG.build0O (enc := encN) rfl rfl rfl rfl rfl Try.underlying22 sz_5 (fun v111 wk112 hxwk112 hown113 hnew114 => ?_)
        have hsep115 : Sep v111 _ := Sep.of_new (Own.ext hown108 hE110) hnew114
        have hsep116 : Sep v111 _ := Sep.of_new (Own.ext hown106 hE110) hnew114
        replace hown113 := Own.low (B' := w.heap.size) hown113 (by have := (Ex.tr hB0 hE95).size; omega)
        replace hE95 := Ex.tr hE95 hxwk112
        replace hE110 := Ex.tr hE110 hxwk112
        have hE117 := hxwk112
        refine RG.vl rfl rfl rfl (Ev.move rfl rfl) ?_
        refine RG.appO rfl rfl rfl rfl rfl rfl rfl Try.underlying22 inf_5 rfl rfl encN_len (fun _ => rfl) hown113 ((hl.ext hE95)) (by show 0 + _ ≤ maxLen; simp only [maxLen]; omega) (by show (0 + _) * _ ≤ _; omega) (hE95.size) (fun v118 wa119 hown120 hgr121 hat122 => ?_)
        have hsep124 := Sep.app hsep115 (Own.ext hown108 hE110) hat122
        have hown123 := Own.grown (Own.ext hown108 hE110) hgr121 (fun k a b => hsep115 k b a)
        have hsep126 := Sep.app hsep116 (Own.ext hown106 hE110) hat122
        have hown125 := Own.grown (Own.ext hown106 hE110) hgr121 (fun k a b => hsep116 k b a)
        replace hE95 := own_block hown113 hE95 hgr121 (Nat.le_refl _) hE95.size
        rw [List.nil_append] at hown120
        refine RG.litO (os := [_, _, _, _]) (enc := encN) ([0, 0, 0, 0]) rfl rfl rfl rfl rfl rfl rfl Try.underlying22 inf_5 rfl rfl rfl rfl rfl encN_len rfl rfl (fun v127 wk128 hxwk128 hown129 hnew130 => ?_)
        have hsep131 : Sep v127 _ := Sep.of_new hown123 hnew130
        have hsep132 : Sep v127 _ := Sep.of_new hown125 hnew130
        have hsep133 : Sep v127 _ := Sep.of_new hown120 hnew130
        replace hE95 := Ex.tr hE95 hxwk128
        have hE134 := hxwk128
        refine RG.appO rfl rfl rfl rfl rfl rfl rfl Try.underlying22 inf_5 rfl rfl encN_len (fun _ => rfl) (Own.ext hown120 hE134) ((hown129.rdl encN_len)) (by show _ + 4 ≤ maxLen; simp only [maxLen]; omega) (by show (_ + 4) * _ ≤ _; omega) (hE95.size) (fun v135 wa136 hown137 hgr138 hat139 => ?_)
        have hsep141 := Sep.app hsep124 (Own.ext hown123 hE134) hat139
        have hown140 := Own.grown (Own.ext hown123 hE134) hgr138 (fun k a b => hsep124 k b a)
        have hsep143 := Sep.app hsep126 (Own.ext hown125 hE134) hat139
        have hown142 := Own.grown (Own.ext hown125 hE134) hgr138 (fun k a b => hsep126 k b a)
        have hsep145 := Sep.app (Sep.symm hsep133) hown129 hat139
        have hown144 := Own.grown hown129 hgr138 (fun k a b => (Sep.symm hsep133) k b a)
        replace hE95 := own_block (Own.ext hown120 hE134) hE95 hgr138 (Nat.le_refl _) hE95.size
        refine RG.vl rfl rfl rfl (Ev.assign rfl rfl) ?_
        refine RG.done ?_
        refine QW.then_ ?_
        refine CW.seq ?_
        refine CW.seq ?_
        refine CW.region ?_
        refine RG.vl rfl rfl rfl (Ev.move rfl rfl) ?_
        refine RG.call rfl rfl rfl rfl rfl rfl rfl en_26 ((by have k := rword_ret _ (l ++ [0, 0, 0, 0]) _ ((hown137.rdl encN_len)) (by rw [List.length_append]; show _ + 4 ≤ _; omega); rw [want_yes hok] at k; exact k)) ?_
        rintro _ w146 ⟨rfl, hx146⟩
        replace hE95 := Ex.tr hE95 hx146
        have hE147 := hx146
        refine RG.vl rfl rfl rfl (Ev.notF rfl rfl) ?_
        refine RG.vl rfl rfl rfl (Ev.move rfl rfl) ?_
        refine RG.vl rfl rfl rfl (Ev.move rfl rfl) ?_
        refine RG.vl rfl rfl rfl (Ev.lenL rfl rfl rfl Try.underlying22 ((hl.ext hE95))) ?_
        refine RG.vl rfl rfl rfl (Ev.isF (Ev.eqI rfl rfl rfl) (by omega)) ?_
        refine RG.vl rfl rfl rfl (Ev.pickF rfl rfl rfl) ?_
        refine RG.done ?_
        refine QW.sub (S' := [(0, _), (2, _), (4, _), (5, _), (73, _)]) ⟨rfl, rfl, rfl, rfl, rfl, trivial⟩ ?_
        refine QW.then_ ?_
        refine CW.condF rfl ?_
        refine CW.skip ?_
        refine QW.then_ ?_
        refine CW.seq ?_
        refine CW.region ?_
        refine RG.vl rfl rfl rfl (Ev.move rfl rfl) ?_
        refine RG.vl rfl rfl rfl (Ev.isT (Ev.eqI rfl rfl rfl) (rfl)) ?_
        refine RG.vl rfl rfl rfl (Ev.move rfl rfl) ?_
        refine RG.vl rfl rfl rfl (Ev.move rfl rfl) ?_
        refine RG.vl rfl rfl rfl (Ev.move rfl rfl) ?_
        refine RG.call rfl rfl rfl rfl rfl rfl rfl en_29 (rencode_ret _ _ _ ((hl.ext hE95)) (by omega) (by exact hle)) ?_
        have hpre148 := (Ex.tr hB0 hE95)
        rintro ve148 w148 ⟨c148, hoe148, henc148, hx148⟩
        have hsep149 : Sep ve148 _ := Sep.of_new (Own.ext hown140 hE147) (fun k h => Own.ge hoe148 h)
        have hsep150 : Sep ve148 _ := Sep.of_new (Own.ext hown142 hE147) (fun k h => Own.ge hoe148 h)
        have hsep151 : Sep ve148 _ := Sep.of_new (Own.ext hown144 hE147) (fun k h => Own.ge hoe148 h)
        have hsep152 : Sep ve148 _ := Sep.of_new (Own.ext hown137 hE147) (fun k h => Own.ge hoe148 h)
        replace hE95 := Ex.tr hE95 hx148
        replace hE147 := Ex.tr hE147 hx148
        have hE153 := hx148
        have hcc := enc_uniq hl2 hen4 (enc_code henc148) henc148.pre
        subst hcc
        have hcl := hen4.len
        refine RG.call rfl rfl rfl rfl rfl rfl rfl en_19 (sameBt_ret _ _ (c4) _ (((Own.ext hown140 hE147).rdl encN_len)) ((hoe148.rdl encN_len)) (by first | omega | (show 4 ≤ _; omega))) ?_
        rintro _ w154 ⟨rfl, hx154⟩
        replace hE95 := Ex.tr hE95 hx154
        replace hE147 := Ex.tr hE147 hx154
        replace hE153 := Ex.tr hE153 hx154
        have hE155 := hx154
        refine RG.vl rfl rfl rfl (Ev.pickT rfl rfl rfl) ?_
        refine RG.vl rfl rfl rfl (Ev.move rfl rfl) ?_
        refine RG.call rfl rfl rfl rfl rfl rfl rfl en_10 (awake_ret _) ?_
        rintro _ w156 ⟨rfl, hx156⟩
        replace hE95 := Ex.tr hE95 hx156
        replace hE147 := Ex.tr hE147 hx156
        replace hE153 := Ex.tr hE153 hx156
        replace hE155 := Ex.tr hE155 hx156
        have hE157 := hx156
        refine RG.vl rfl rfl rfl (Ev.pickT rfl rfl rfl) ?_
        refine RG.vl rfl rfl rfl (Ev.assign rfl rfl) ?_
        refine RG.done ?_
        refine QW.then_ ?_
        refine CW.ret ?_
        refine QW.ret1 rfl rfl ?_
        have hB := (Ex.tr hB0 hE95)
        exact ⟨rfl, hB⟩
    · rcases Bool.eq_false_or_eq_true (isW l) with hw | hw
      · obtain ⟨hw1, hw2, hwe⟩ := isW_iff.1 hw
        refine CW.region ?_
        refine RG.vl rfl rfl rfl (Ev.move rfl rfl) ?_
        refine RG.call rfl rfl rfl rfl rfl rfl rfl en_11 (lent_ret _ _ _ (hl) (by omega)) ?_
        have hpre158 := hB0
        rintro _ w158 ⟨g158, c158, rfl, hol158, hx158⟩
        have hE159 := hx158
        refine RG.vl rfl rfl rfl (Ev.assign rfl rfl) ?_
        refine RG.done ?_
        refine QW.then_ ?_
        refine CW.seq ?_
        refine CW.region ?_
        refine RG.vl rfl rfl rfl (Ev.move rfl rfl) ?_
        refine RG.call rfl rfl rfl rfl rfl rfl rfl en_23 (encX _ _ l ((lent_rdl (by rw [List.length_append, mks_len]) hol158)) hlen hok) ?_
        rintro _ w160 ⟨rfl, hx160⟩
        replace hE159 := Ex.tr hE159 hx160
        have hE161 := hx160
        refine RG.vl rfl rfl rfl (Ev.move rfl rfl) ?_
        refine RG.vl rfl rfl rfl (Ev.extract rfl rfl rfl) ?_
        refine RG.vl rfl rfl rfl (Ev.extract rfl rfl rfl) ?_
        refine RG.vl rfl rfl rfl (Ev.assign rfl rfl) ?_
        refine RG.vl rfl rfl rfl (Ev.assign rfl rfl) ?_
        refine RG.done ?_
        refine QW.sub (S' := [(0, _), (2, _), (3, _), (4, _), (5, _)]) ⟨rfl, rfl, rfl, rfl, rfl, trivial⟩ ?_
        refine QW.then_ ?_
        refine CW.seq ?_
        refine CW.region ?_
        refine RG.vl rfl rfl rfl (Ev.move rfl rfl) ?_
        refine RG.call rfl rfl rfl rfl rfl rfl rfl en_24 (synd_own _ _ l ((lent_rdl (by rw [List.length_append, mks_len]) (Own.ext hol158 hE161))) hw) ?_
        have hpre162 := (Ex.tr hB0 hE159)
        rintro _ w162 ⟨g5, rfl, ho5, hx162⟩
        have hsep163 : Sep (Value.slice (some ⟨g5, 0, none⟩) 4 4) _ := Sep.of_new (Own.ext hol158 hE161) (fun k h => Own.ge ho5 h)
        replace hE159 := Ex.tr hE159 hx162
        replace hE161 := Ex.tr hE161 hx162
        have hE164 := hx162
        refine RG.vl rfl rfl rfl (Ev.move rfl rfl) ?_
        refine RG.vl rfl rfl rfl (Ev.extract rfl rfl rfl) ?_
        refine RG.vl rfl rfl rfl (Ev.extract rfl rfl rfl) ?_
        refine RG.vl rfl rfl rfl (Ev.assign rfl rfl) ?_
        refine RG.vl rfl rfl rfl (Ev.assign rfl rfl) ?_
        refine RG.done ?_
        refine QW.then_ ?_
        refine CW.seq ?_
        refine CW.region ?_
        refine RG.vl rfl rfl rfl (Ev.move rfl rfl) ?_
        refine RG.call rfl rfl rfl rfl rfl rfl rfl en_25 (valid_ret _ l _ ((lent_rdl (by rw [List.length_append, mks_len]) (Own.ext hol158 hE161))) hlen) ?_
        rintro _ w165 ⟨rfl, hx165⟩
        replace hE159 := Ex.tr hE159 hx165
        replace hE161 := Ex.tr hE161 hx165
        replace hE164 := Ex.tr hE164 hx165
        have hE166 := hx165
        refine RG.vl rfl rfl rfl (Ev.assign rfl rfl) ?_
        refine RG.done ?_
        refine QW.then_ ?_
        refine CW.seq ?_
        refine CW.seq ?_
        refine CW.region ?_
        refine RG.vl rfl rfl rfl (Ev.move rfl rfl) ?_
        refine RG.vl rfl rfl rfl (Ev.move rfl rfl) ?_
        refine RG.call rfl rfl rfl rfl rfl rfl rfl en_14 (kept_ret _ _ _ _ _ (lent_big (Own.ext hol158 hE161)) (hl.ext hE159) (lent_cap (Own.ext hol158 hE161)) (by omega)) ?_
        rintro _ w167 ⟨rfl, hx167⟩
        replace hE159 := Ex.tr hE159 hx167
        replace hE161 := Ex.tr hE161 hx167
        replace hE164 := Ex.tr hE164 hx167
        replace hE166 := Ex.tr hE166 hx167
        have hE168 := hx167
        refine RG.vl rfl rfl rfl (Ev.notF rfl rfl) ?_
        refine RG.done ?_
        refine QW.sub (S' := [(0, _), (2, _), (3, _), (4, _), (5, _), (6, _), (7, _), (8, _), (31, _)]) ⟨rfl, rfl, rfl, rfl, rfl, rfl, rfl, rfl, rfl, trivial⟩ ?_
        refine QW.then_ ?_
        refine CW.condF rfl ?_
        refine CW.skip ?_
        refine QW.then_ ?_
        refine CW.seq ?_
        refine CW.region ?_
        refine RG.vl rfl rfl rfl (Ev.move rfl rfl) ?_
        refine RG.call rfl rfl rfl rfl rfl rfl rfl en_16 (over_ret w _ _ _ _ _ (Ex.tr hB0 hE159) (lent_norm (Own.ext hol158 hE161)) (lent_cap2 (Own.ext hol158 hE161)) (lent_len _) (by omega)) ?_
        rintro _ w169 ⟨ys169, hown170, hgr171⟩
        have hown172 := Own.grown (Own.ext ho5 hE166) hgr171 (fun k a b => (Sep.symm hsep163) k b a)
        replace hE159 := own_block (Own.ext hol158 hE161) hE159 hgr171 (Nat.le_refl _) hE159.size
        refine RG.done ?_
        refine QW.then_ ?_
        refine CW.seq ?_
        refine CW.seq ?_
        refine CW.region ?_
        refine RG.vl rfl rfl rfl (Ev.move rfl rfl) ?_
        refine RG.call rfl rfl rfl rfl rfl rfl rfl en_26 ((by have k := rword_ret _ l _ ((hl.ext hE159)) hlen; rw [hw] at k; exact k)) ?_
        rintro _ w173 ⟨rfl, hx173⟩
        replace hE159 := Ex.tr hE159 hx173
        have hE174 := hx173
        refine RG.done ?_
        refine QW.then_ ?_
        refine CW.condT rfl ?_
        refine CW.seq ?_
        refine CW.region ?_
        refine RG.vl rfl rfl rfl (Ev.move rfl rfl) ?_
        refine RG.vl rfl rfl rfl (Ev.isF (Ev.neI rfl rfl rfl) (fun h => h rfl)) ?_
        refine RG.vl rfl rfl rfl (Ev.move rfl rfl) ?_
        refine RG.vl rfl rfl rfl (Ev.move rfl rfl) ?_
        refine RG.vl rfl rfl rfl (Ev.move rfl rfl) ?_
        refine RG.call rfl rfl rfl rfl rfl rfl rfl en_27 (rsynd_ret _ _ _ ((hl.ext hE159)) (by omega) (by exact hwe)) ?_
        have hpre175 := (Ex.tr hB0 hE159)
        rintro rs175 w175 ⟨hrs175, hx175⟩
        have hsep176 : Sep rs175 _ := Sep.of_new (Own.ext hown172 hE174) (fun k h => Own.ge hrs175 h)
        have hsep177 : Sep rs175 _ := Sep.of_new (Own.ext hown170 hE174) (fun k h => Own.ge hrs175 h)
        replace hE159 := Ex.tr hE159 hx175
        replace hE174 := Ex.tr hE174 hx175
        have hE178 := hx175
        refine RG.call rfl rfl rfl rfl rfl rfl rfl en_19 (sameBt_ret _ _ (syL l) _ (((Own.ext hown172 hE174).rdl encN_len)) ((hrs175.rdl encN_len)) (by first | omega | (show 4 ≤ _; omega))) ?_
        rintro _ w179 ⟨rfl, hx179⟩
        replace hE159 := Ex.tr hE159 hx179
        replace hE174 := Ex.tr hE174 hx179
        replace hE178 := Ex.tr hE178 hx179
        have hE180 := hx179
        refine RG.vl rfl rfl rfl (Ev.notF rfl rfl) ?_
        refine RG.vl rfl rfl rfl (Ev.pickF rfl rfl rfl) ?_
        refine RG.vl rfl rfl rfl (Ev.move rfl rfl) ?_
        refine RG.vl rfl rfl rfl (Ev.move rfl rfl) ?_
        refine RG.vl rfl rfl rfl (Ev.move rfl rfl) ?_
        refine RG.call rfl rfl rfl rfl rfl rfl rfl en_28 (rvalid_ret _ _ _ ((hl.ext hE159)) (by omega)) ?_
        rintro _ w181 ⟨rfl, hx181⟩
        replace hE159 := Ex.tr hE159 hx181
        replace hE174 := Ex.tr hE174 hx181
        replace hE178 := Ex.tr hE178 hx181
        replace hE180 := Ex.tr hE180 hx181
        have hE182 := hx181
        refine RG.vl rfl rfl rfl (Ev.isF (Ev.neB rfl rfl rfl Try.underlying4) (fun h => h rfl)) ?_
        refine RG.vl rfl rfl rfl (Ev.pickF rfl rfl rfl) ?_
        refine RG.done ?_
        refine QW.sub (S' := [(0, _), (2, _), (4, _), (5, _), (50, _)]) ⟨rfl, rfl, rfl, rfl, rfl, trivial⟩ ?_
        refine QW.then_ ?_
        refine CW.condF rfl ?_
        refine CW.skip ?_
        refine QW.then_ ?_
        refine CW.seq ?_
        refine CW.region ?_
        refine RG.build0O (enc := encN) rfl rfl rfl rfl rfl Try.underlying22 sz_5 (fun v183 wk184 hxwk184 hown185 hnew186 => ?_)
        have hsep187 : Sep v183 _ := Sep.of_new (Own.ext hown172 hE174) hnew186
        have hsep188 : Sep v183 _ := Sep.of_new (Own.ext hown170 hE174) hnew186
        have hsep189 : Sep v183 _ := Sep.of_new (Own.ext hrs175 hE180) hnew186
        replace hown185 := Own.low (B' := w.heap.size) hown185 (by have := (Ex.tr hB0 hE159).size; omega)
        replace hE159 := Ex.tr hE159 hxwk184
        replace hE174 := Ex.tr hE174 hxwk184
        replace hE178 := Ex.tr hE178 hxwk184
        replace hE180 := Ex.tr hE180 hxwk184
        replace hE182 := Ex.tr hE182 hxwk184
        have hE190 := hxwk184
        refine RG.vl rfl rfl rfl (Ev.move rfl rfl) ?_
        refine RG.appO rfl rfl rfl rfl rfl rfl rfl Try.underlying22 inf_5 rfl rfl encN_len (fun _ => rfl) hown185 ((hl.ext hE159)) (by show 0 + _ ≤ maxLen; simp only [maxLen]; omega) (by show (0 + _) * _ ≤ _; omega) (hE159.size) (fun v191 wa192 hown193 hgr194 hat195 => ?_)
        have hsep197 := Sep.app hsep187 (Own.ext hown172 hE174) hat195
        have hown196 := Own.grown (Own.ext hown172 hE174) hgr194 (fun k a b => hsep187 k b a)
        have hsep199 := Sep.app hsep188 (Own.ext hown170 hE174) hat195
        have hown198 := Own.grown (Own.ext hown170 hE174) hgr194 (fun k a b => hsep188 k b a)
        have hsep201 := Sep.app hsep189 (Own.ext hrs175 hE180) hat195
        have hown200 := Own.grown (Own.ext hrs175 hE180) hgr194 (fun k a b => hsep189 k b a)
        replace hE159 := own_block hown185 hE159 hgr194 (Nat.le_refl _) hE159.size
        rw [List.nil_append] at hown193
        refine RG.litO (os := [_, _, _, _]) (enc := encN) ([0, 0, 0, 0]) rfl rfl rfl rfl rfl rfl rfl Try.underlying22 inf_5 rfl rfl rfl rfl rfl encN_len rfl rfl (fun v202 wk203 hxwk203 hown204 hnew205 => ?_)
        have hsep206 : Sep v202 _ := Sep.of_new hown196 hnew205
        have hsep207 : Sep v202 _ := Sep.of_new hown198 hnew205
        have hsep208 : Sep v202 _ := Sep.of_new hown200 hnew205
        have hsep209 : Sep v202 _ := Sep.of_new hown193 hnew205
        replace hE159 := Ex.tr hE159 hxwk203
        have hE210 := hxwk203
        refine RG.appO rfl rfl rfl rfl rfl rfl rfl Try.underlying22 inf_5 rfl rfl encN_len (fun _ => rfl) (Own.ext hown193 hE210) ((hown204.rdl encN_len)) (by show _ + 4 ≤ maxLen; simp only [maxLen]; omega) (by show (_ + 4) * _ ≤ _; omega) (hE159.size) (fun v211 wa212 hown213 hgr214 hat215 => ?_)
        have hsep217 := Sep.app hsep197 (Own.ext hown196 hE210) hat215
        have hown216 := Own.grown (Own.ext hown196 hE210) hgr214 (fun k a b => hsep197 k b a)
        have hsep219 := Sep.app hsep199 (Own.ext hown198 hE210) hat215
        have hown218 := Own.grown (Own.ext hown198 hE210) hgr214 (fun k a b => hsep199 k b a)
        have hsep221 := Sep.app hsep201 (Own.ext hown200 hE210) hat215
        have hown220 := Own.grown (Own.ext hown200 hE210) hgr214 (fun k a b => hsep201 k b a)
        have hsep223 := Sep.app (Sep.symm hsep209) hown204 hat215
        have hown222 := Own.grown hown204 hgr214 (fun k a b => (Sep.symm hsep209) k b a)
        replace hE159 := own_block (Own.ext hown193 hE210) hE159 hgr214 (Nat.le_refl _) hE159.size
        refine RG.vl rfl rfl rfl (Ev.assign rfl rfl) ?_
        refine RG.done ?_
        refine QW.then_ ?_
        refine CW.seq ?_
        refine CW.seq ?_
        refine CW.region ?_
        refine RG.vl rfl rfl rfl (Ev.move rfl rfl) ?_
        refine RG.call rfl rfl rfl rfl rfl rfl rfl en_26 ((by have k := rword_ret _ (l ++ [0, 0, 0, 0]) _ ((hown213.rdl encN_len)) (by rw [List.length_append]; show _ + 4 ≤ _; omega); rw [want_no hok] at k; exact k)) ?_
        rintro _ w224 ⟨rfl, hx224⟩
        replace hE159 := Ex.tr hE159 hx224
        have hE225 := hx224
        refine RG.vl rfl rfl rfl (Ev.notT rfl rfl) ?_
        refine RG.vl rfl rfl rfl (Ev.move rfl rfl) ?_
        refine RG.pass rfl rfl rfl ?_
        refine RG.pass rfl rfl rfl ?_
        refine RG.pass rfl rfl rfl ?_
        refine RG.vl rfl rfl rfl (Ev.pickT rfl rfl rfl) ?_
        refine RG.done ?_
        refine QW.sub (S' := [(0, _), (2, _), (4, _), (5, _), (73, _)]) ⟨rfl, rfl, rfl, rfl, rfl, trivial⟩ ?_
        refine QW.then_ ?_
        refine CW.condT rfl ?_
        refine CW.seq ?_
        refine CW.region ?_
        refine RG.vl rfl rfl rfl (Ev.move rfl rfl) ?_
        refine RG.vl rfl rfl rfl (Ev.isT (Ev.eqI rfl rfl rfl) (rfl)) ?_
        refine RG.vl rfl rfl rfl (Ev.move rfl rfl) ?_
        refine RG.vl rfl rfl rfl (Ev.move rfl rfl) ?_
        refine RG.vl rfl rfl rfl (Ev.lenSlice rfl rfl rfl Try.underlying22) ?_
        refine RG.vl rfl rfl rfl (Ev.isT (Ev.eqI rfl rfl rfl) (rfl)) ?_
        refine RG.vl rfl rfl rfl (Ev.pickT rfl rfl rfl) ?_
        refine RG.vl rfl rfl rfl (Ev.move rfl rfl) ?_
        refine RG.call rfl rfl rfl rfl rfl rfl rfl en_10 (awake_ret _) ?_
        rintro _ w226 ⟨rfl, hx226⟩
        replace hE159 := Ex.tr hE159 hx226
        replace hE225 := Ex.tr hE225 hx226
        have hE227 := hx226
        refine RG.vl rfl rfl rfl (Ev.pickT rfl rfl rfl) ?_
        refine RG.vl rfl rfl rfl (Ev.assign rfl rfl) ?_
        refine RG.done ?_
        refine QW.then_ ?_
        refine CW.ret ?_
        refine QW.thenRet ?_
        refine QW.ret1 rfl rfl ?_
        have hB := (Ex.tr hB0 hE159)
        exact ⟨rfl, hB⟩
      · refine CW.region ?_
        refine RG.vl rfl rfl rfl (Ev.move rfl rfl) ?_
        refine RG.call rfl rfl rfl rfl rfl rfl rfl en_11 (lent_ret _ _ _ (hl) (by omega)) ?_
        have hpre228 := hB0
        rintro _ w228 ⟨g228, c228, rfl, hol228, hx228⟩
        have hE229 := hx228
        refine RG.vl rfl rfl rfl (Ev.assign rfl rfl) ?_
        refine RG.done ?_
        refine QW.then_ ?_
        refine CW.seq ?_
        refine CW.region ?_
        refine RG.vl rfl rfl rfl (Ev.move rfl rfl) ?_
        refine RG.call rfl rfl rfl rfl rfl rfl rfl en_23 (encX _ _ l ((lent_rdl (by rw [List.length_append, mks_len]) hol228)) hlen hok) ?_
        rintro _ w230 ⟨rfl, hx230⟩
        replace hE229 := Ex.tr hE229 hx230
        have hE231 := hx230
        refine RG.vl rfl rfl rfl (Ev.move rfl rfl) ?_
        refine RG.vl rfl rfl rfl (Ev.extract rfl rfl rfl) ?_
        refine RG.vl rfl rfl rfl (Ev.extract rfl rfl rfl) ?_
        refine RG.vl rfl rfl rfl (Ev.assign rfl rfl) ?_
        refine RG.vl rfl rfl rfl (Ev.assign rfl rfl) ?_
        refine RG.done ?_
        refine QW.sub (S' := [(0, _), (2, _), (3, _), (4, _), (5, _)]) ⟨rfl, rfl, rfl, rfl, rfl, trivial⟩ ?_
        refine QW.then_ ?_
        refine CW.seq ?_
        refine CW.region ?_
        refine RG.vl rfl rfl rfl (Ev.move rfl rfl) ?_
        refine RG.call rfl rfl rfl rfl rfl rfl rfl en_24 (syndX _ _ l ((lent_rdl (by rw [List.length_append, mks_len]) (Own.ext hol228 hE231))) hlen hw) ?_
        rintro _ w232 ⟨rfl, hx232⟩
        replace hE229 := Ex.tr hE229 hx232
        replace hE231 := Ex.tr hE231 hx232
        have hE233 := hx232
        refine RG.vl rfl rfl rfl (Ev.move rfl rfl) ?_
        refine RG.vl rfl rfl rfl (Ev.extract rfl rfl rfl) ?_
        refine RG.vl rfl rfl rfl (Ev.extract rfl rfl rfl) ?_
        refine RG.vl rfl rfl rfl (Ev.assign rfl rfl) ?_
        refine RG.vl rfl rfl rfl (Ev.assign rfl rfl) ?_
        refine RG.done ?_
        refine QW.then_ ?_
        refine CW.seq ?_
        refine CW.region ?_
        refine RG.vl rfl rfl rfl (Ev.move rfl rfl) ?_
        refine RG.call rfl rfl rfl rfl rfl rfl rfl en_25 ((by have k := valid_ret _ l _ ((lent_rdl (by rw [List.length_append, mks_len]) (Own.ext hol228 hE231))) hlen; rw [isW_no hw] at k; exact k)) ?_
        rintro _ w234 ⟨rfl, hx234⟩
        replace hE229 := Ex.tr hE229 hx234
        replace hE231 := Ex.tr hE231 hx234
        replace hE233 := Ex.tr hE233 hx234
        have hE235 := hx234
        refine RG.vl rfl rfl rfl (Ev.assign rfl rfl) ?_
        refine RG.done ?_
        refine QW.then_ ?_
        refine CW.seq ?_
        refine CW.seq ?_
        refine CW.region ?_
        refine RG.vl rfl rfl rfl (Ev.move rfl rfl) ?_
        refine RG.vl rfl rfl rfl (Ev.move rfl rfl) ?_
        refine RG.call rfl rfl rfl rfl rfl rfl rfl en_14 (kept_ret _ _ _ _ _ (lent_big (Own.ext hol228 hE231)) (hl.ext hE229) (lent_cap (Own.ext hol228 hE231)) (by omega)) ?_
        rintro _ w236 ⟨rfl, hx236⟩
        replace hE229 := Ex.tr hE229 hx236
        replace hE231 := Ex.tr hE231 hx236
        replace hE233 := Ex.tr hE233 hx236
        replace hE235 := Ex.tr hE235 hx236
        have hE237 := hx236
        refine RG.vl rfl rfl rfl (Ev.notF rfl rfl) ?_
        refine RG.done ?_
        refine QW.sub (S' := [(0, _), (2, _), (3, _), (4, _), (5, _), (6, _), (7, _), (8, _), (31, _)]) ⟨rfl, rfl, rfl, rfl, rfl, rfl, rfl, rfl, rfl, trivial⟩ ?_
        refine QW.then_ ?_
        refine CW.condF rfl ?_
        refine CW.skip ?_
        refine QW.then_ ?_
        refine CW.seq ?_
        refine CW.region ?_
        refine RG.vl rfl rfl rfl (Ev.move rfl rfl) ?_
        refine RG.call rfl rfl rfl rfl rfl rfl rfl en_16 (over_ret w _ _ _ _ _ (Ex.tr hB0 hE229) (lent_norm (Own.ext hol228 hE231)) (lent_cap2 (Own.ext hol228 hE231)) (lent_len _) (by omega)) ?_
        rintro _ w238 ⟨ys238, hown239, hgr240⟩
        replace hE229 := own_block (Own.ext hol228 hE231) hE229 hgr240 (Nat.le_refl _) hE229.size
        refine RG.done ?_
        refine QW.then_ ?_
        refine CW.seq ?_
        refine CW.seq ?_
        refine CW.region ?_
        refine RG.vl rfl rfl rfl (Ev.move rfl rfl) ?_
        refine RG.call rfl rfl rfl rfl rfl rfl rfl en_26 ((by have k := rword_ret _ l _ ((hl.ext hE229)) hlen; rw [hw] at k; exact k)) ?_
        rintro _ w241 ⟨rfl, hx241⟩
        replace hE229 := Ex.tr hE229 hx241
        have hE242 := hx241
        refine RG.done ?_
        refine QW.then_ ?_
        refine CW.condF rfl ?_
        refine CW.seq ?_
        refine CW.region ?_
        refine RG.vl rfl rfl rfl (Ev.move rfl rfl) ?_
        refine RG.vl rfl rfl rfl (Ev.isF (Ev.neI rfl rfl rfl) (fun h => h rfl)) ?_
        refine RG.vl rfl rfl rfl (Ev.move rfl rfl) ?_
        refine RG.vl rfl rfl rfl (Ev.move rfl rfl) ?_
        refine RG.vl rfl rfl rfl (Ev.lenSlice rfl rfl rfl Try.underlying22) ?_
        refine RG.vl rfl rfl rfl (Ev.isF (Ev.neI rfl rfl rfl) (by decide)) ?_
        refine RG.vl rfl rfl rfl (Ev.pickF rfl rfl rfl) ?_
        refine RG.vl rfl rfl rfl (Ev.move rfl rfl) ?_
        refine RG.vl rfl rfl rfl (Ev.move rfl rfl) ?_
        refine RG.vl rfl rfl rfl (Ev.pickF rfl rfl rfl) ?_
        refine RG.done ?_
        refine QW.sub (S' := [(0, _), (2, _), (4, _), (5, _), (60, _)]) ⟨rfl, rfl, rfl, rfl, rfl, trivial⟩ ?_
        refine QW.then_ ?_
        refine CW.condF rfl ?_
        refine CW.skip ?_
        refine QW.then_ ?_
        refine CW.seq ?_
        refine CW.region ?_
        refine RG.build0O (enc := encN) rfl rfl rfl rfl rfl Try.underlying22 sz_5 (fun v243 wk244 hxwk244 hown245 hnew246 => ?_)
        have hsep247 : Sep v243 _ := Sep.of_new (Own.ext hown239 hE242) hnew246
        replace hown245 := Own.low (B' := w.heap.size) hown245 (by have := (Ex.tr hB0 hE229).size; omega)
        replace hE229 := Ex.tr hE229 hxwk244
        replace hE242 := Ex.tr hE242 hxwk244
        have hE248 := hxwk244
        refine RG.vl rfl rfl rfl (Ev.move rfl rfl) ?_
        refine RG.appO rfl rfl rfl rfl rfl rfl rfl Try.underlying22 inf_5 rfl rfl encN_len (fun _ => rfl) hown245 ((hl.ext hE229)) (by show 0 + _ ≤ maxLen; simp only [maxLen]; omega) (by show (0 + _) * _ ≤ _; omega) (hE229.size) (fun v249 wa250 hown251 hgr252 hat253 => ?_)
        have hsep255 := Sep.app hsep247 (Own.ext hown239 hE242) hat253
        have hown254 := Own.grown (Own.ext hown239 hE242) hgr252 (fun k a b => hsep247 k b a)
        replace hE229 := own_block hown245 hE229 hgr252 (Nat.le_refl _) hE229.size
        rw [List.nil_append] at hown251
        refine RG.litO (os := [_, _, _, _]) (enc := encN) ([0, 0, 0, 0]) rfl rfl rfl rfl rfl rfl rfl Try.underlying22 inf_5 rfl rfl rfl rfl rfl encN_len rfl rfl (fun v256 wk257 hxwk257 hown258 hnew259 => ?_)
        have hsep260 : Sep v256 _ := Sep.of_new hown254 hnew259
        have hsep261 : Sep v256 _ := Sep.of_new hown251 hnew259
        replace hE229 := Ex.tr hE229 hxwk257
        have hE262 := hxwk257
        refine RG.appO rfl rfl rfl rfl rfl rfl rfl Try.underlying22 inf_5 rfl rfl encN_len (fun _ => rfl) (Own.ext hown251 hE262) ((hown258.rdl encN_len)) (by show _ + 4 ≤ maxLen; simp only [maxLen]; omega) (by show (_ + 4) * _ ≤ _; omega) (hE229.size) (fun v263 wa264 hown265 hgr266 hat267 => ?_)
        have hsep269 := Sep.app hsep255 (Own.ext hown254 hE262) hat267
        have hown268 := Own.grown (Own.ext hown254 hE262) hgr266 (fun k a b => hsep255 k b a)
        have hsep271 := Sep.app (Sep.symm hsep261) hown258 hat267
        have hown270 := Own.grown hown258 hgr266 (fun k a b => (Sep.symm hsep261) k b a)
        replace hE229 := own_block (Own.ext hown251 hE262) hE229 hgr266 (Nat.le_refl _) hE229.size
        refine RG.vl rfl rfl rfl (Ev.assign rfl rfl) ?_
        refine RG.done ?_
        refine QW.then_ ?_
        refine CW.seq ?_
        refine CW.seq ?_
        refine CW.region ?_
        refine RG.vl rfl rfl rfl (Ev.move rfl rfl) ?_
        refine RG.call rfl rfl rfl rfl rfl rfl rfl en_26 ((by have k := rword_ret _ (l ++ [0, 0, 0, 0]) _ ((hown265.rdl encN_len)) (by rw [List.length_append]; show _ + 4 ≤ _; omega); rw [want_no hok] at k; exact k)) ?_
        rintro _ w272 ⟨rfl, hx272⟩
        replace hE229 := Ex.tr hE229 hx272
        have hE273 := hx272
        refine RG.vl rfl rfl rfl (Ev.notT rfl rfl) ?_
        refine RG.vl rfl rfl rfl (Ev.move rfl rfl) ?_
        refine RG.pass rfl rfl rfl ?_
        refine RG.pass rfl rfl rfl ?_
        refine RG.pass rfl rfl rfl ?_
        refine RG.vl rfl rfl rfl (Ev.pickT rfl rfl rfl) ?_
        refine RG.done ?_
        refine QW.sub (S' := [(0, _), (2, _), (4, _), (5, _), (73, _)]) ⟨rfl, rfl, rfl, rfl, rfl, trivial⟩ ?_
        refine QW.then_ ?_
        refine CW.condT rfl ?_
        refine CW.seq ?_
        refine CW.region ?_
        refine RG.vl rfl rfl rfl (Ev.move rfl rfl) ?_
        refine RG.vl rfl rfl rfl (Ev.isT (Ev.eqI rfl rfl rfl) (rfl)) ?_
        refine RG.vl rfl rfl rfl (Ev.move rfl rfl) ?_
        refine RG.vl rfl rfl rfl (Ev.move rfl rfl) ?_
        refine RG.vl rfl rfl rfl (Ev.lenSlice rfl rfl rfl Try.underlying22) ?_
        refine RG.vl rfl rfl rfl (Ev.isT (Ev.eqI rfl rfl rfl) (rfl)) ?_
        refine RG.vl rfl rfl rfl (Ev.pickT rfl rfl rfl) ?_
        refine RG.vl rfl rfl rfl (Ev.move rfl rfl) ?_
        refine RG.call rfl rfl rfl rfl rfl rfl rfl en_10 (awake_ret _) ?_
        rintro _ w274 ⟨rfl, hx274⟩
        replace hE229 := Ex.tr hE229 hx274
        replace hE273 := Ex.tr hE273 hx274
        have hE275 := hx274
        refine RG.vl rfl rfl rfl (Ev.pickT rfl rfl rfl) ?_
        refine RG.vl rfl rfl rfl (Ev.assign rfl rfl) ?_
        refine RG.done ?_
        refine QW.then_ ?_
        refine CW.ret ?_
        refine QW.thenRet ?_
        refine QW.ret1 rfl rfl ?_
        have hB := (Ex.tr hB0 hE229)
        exact ⟨rfl, hB⟩

end Go.Proofs.Ytjhgihgggofocaa
