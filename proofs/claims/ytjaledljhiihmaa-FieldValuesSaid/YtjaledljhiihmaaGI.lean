/- Walks (GI). Written by program. -/
import Derived.Test.YtjaledljhiihmaaT
import Derived.Test.YtjaledljhiihmaaGH
namespace Go.Proofs.Ytjaledljhiihmaa
open Go.RowKit
set_option maxRecDepth 100000 in
set_option maxHeartbeats 32000000 in
theorem fieldValues_ret (u0 u2 u3 : Value) (p : List Nat) (x0 : Int) (y z : List Nat) (w : World) (hl : RdL w 1 encN u0 p) (_ : ∀ c ∈ p, c < 256) (hx : 0 ≤ x0 ∧ x0 ≤ 255) (hm : RdL w 1 encN u2 y) (_ : ∀ c ∈ y, c < 256) (hn : RdL w 1 encN u3 z) (_ : ∀ c ∈ z, c < 256) :
    Ret Try.prog 5 [u0, .int .u8 x0, u2, u3] w (fun v w' => v = .bool true ∧ Ex w w') := by
  obtain ⟨x, rfl⟩ : ∃ a : Nat, x0 = (a : Int) := ⟨x0.toNat, by omega⟩
  have hB0 : Ex w w := Ex.rfl_ _
  refine Ret.of Try.func5 rfl Try.ntmps5 rfl ?_
  refine CW.seq ?_
  refine CW.region ?_
  refine RG.vl rfl rfl rfl (Ev.assign rfl rfl) ?_
  refine RG.done ?_
  refine QW.then_ ?_
  refine CW.seq ?_
  refine CW.seq ?_
  refine CW.region ?_
  refine RG.vl rfl rfl rfl (Ev.move rfl rfl) ?_
  refine RG.vl rfl rfl rfl (Ev.lenL rfl rfl rfl Try.underlying39 (hl)) ?_
  refine RG.vl rfl rfl rfl (Ev.gtr rfl rfl rfl) ?_
  refine RG.vl rfl rfl rfl (Ev.move rfl rfl) ?_
  refine RG.split (d := 26) rfl (fun hg1 => ?_) (fun hg1 => ?_)
  · refine RG.pass rfl rfl rfl ?_
    refine RG.pass rfl rfl rfl ?_
    refine RG.pass rfl rfl rfl ?_
    refine RG.vl rfl rfl rfl (Ev.pickT rfl rfl rfl) ?_
    refine RG.vl rfl rfl rfl (Ev.move rfl rfl) ?_
    refine RG.pass rfl rfl rfl ?_
    refine RG.pass rfl rfl rfl ?_
    refine RG.pass rfl rfl rfl ?_
    refine RG.vl rfl rfl rfl (Ev.pickT rfl rfl rfl) ?_
    refine RG.done ?_
    refine QW.sub (S' := [(0, _), (1, _), (2, _), (3, _), (8, _), (35, _)]) ⟨rfl, rfl, rfl, rfl, rfl, rfl, trivial⟩ ?_
    refine QW.then_ ?_
    refine CW.condT rfl ?_
    refine CW.seq ?_
    refine CW.region ?_
    refine RG.call rfl rfl rfl rfl rfl rfl rfl en_13 (awake_ret _) ?_
    rintro _ w2 ⟨rfl, hx2⟩
    have hE3 := hx2
    refine RG.vl rfl rfl rfl (Ev.assign rfl rfl) ?_
    refine RG.done ?_
    refine QW.then_ ?_
    refine CW.ret ?_
    refine QW.thenRet ?_
    refine QW.ret1 rfl rfl ?_
    have hB := (Ex.tr hB0 hE3)
    exact ⟨rfl, hB⟩
  · refine RG.vl rfl rfl rfl (Ev.move rfl rfl) ?_
    refine RG.vl rfl rfl rfl (Ev.lenL rfl rfl rfl Try.underlying39 (hm)) ?_
    refine RG.vl rfl rfl rfl (Ev.gtr rfl rfl rfl) ?_
    refine RG.vl rfl rfl rfl (Ev.pickF rfl rfl rfl) ?_
    refine RG.vl rfl rfl rfl (Ev.move rfl rfl) ?_
    refine RG.split (d := 31) rfl (fun hg4 => ?_) (fun hg4 => ?_)
    · refine RG.pass rfl rfl rfl ?_
      refine RG.pass rfl rfl rfl ?_
      refine RG.pass rfl rfl rfl ?_
      refine RG.vl rfl rfl rfl (Ev.pickT rfl rfl rfl) ?_
      refine RG.done ?_
      refine QW.sub (S' := [(0, _), (1, _), (2, _), (3, _), (8, _), (35, _)]) ⟨rfl, rfl, rfl, rfl, rfl, rfl, trivial⟩ ?_
      refine QW.then_ ?_
      refine CW.condT rfl ?_
      refine CW.seq ?_
      refine CW.region ?_
      refine RG.call rfl rfl rfl rfl rfl rfl rfl en_13 (awake_ret _) ?_
      rintro _ w5 ⟨rfl, hx5⟩
      have hE6 := hx5
      refine RG.vl rfl rfl rfl (Ev.assign rfl rfl) ?_
      refine RG.done ?_
      refine QW.then_ ?_
      refine CW.ret ?_
      refine QW.thenRet ?_
      refine QW.ret1 rfl rfl ?_
      have hB := (Ex.tr hB0 hE6)
      exact ⟨rfl, hB⟩
    · refine RG.vl rfl rfl rfl (Ev.move rfl rfl) ?_
      refine RG.vl rfl rfl rfl (Ev.lenL rfl rfl rfl Try.underlying39 (hn)) ?_
      refine RG.vl rfl rfl rfl (Ev.gtr rfl rfl rfl) ?_
      refine RG.vl rfl rfl rfl (Ev.pickF rfl rfl rfl) ?_
      refine RG.done ?_
      refine QW.sub (S' := [(0, _), (1, _), (2, _), (3, _), (8, _), (35, _)]) ⟨rfl, rfl, rfl, rfl, rfl, rfl, trivial⟩ ?_
      refine QW.then_ ?_
      refine CW.condP rfl (fun hc7 => ?_) (fun hc7 => ?_)
      · refine CW.seq ?_
        refine CW.region ?_
        refine RG.call rfl rfl rfl rfl rfl rfl rfl en_13 (awake_ret _) ?_
        rintro _ w8 ⟨rfl, hx8⟩
        have hE9 := hx8
        refine RG.vl rfl rfl rfl (Ev.assign rfl rfl) ?_
        refine RG.done ?_
        refine QW.then_ ?_
        refine CW.ret ?_
        refine QW.thenRet ?_
        refine QW.ret1 rfl rfl ?_
        have hB := (Ex.tr hB0 hE9)
        exact ⟨rfl, hB⟩
      · refine CW.skip ?_
        refine QW.then_ ?_
        refine CW.seq ?_
        refine CW.region ?_
        refine RG.vl rfl rfl rfl (Ev.move rfl rfl) ?_
        refine RG.call rfl rfl rfl rfl rfl rfl rfl en_22 (lent_ret _ _ _ (hl) (by omega)) ?_
        have hpre10 := hB0
        rintro _ w10 ⟨g10, c10, rfl, hol10, hx10⟩
        have hE11 := hx10
        refine RG.vl rfl rfl rfl (Ev.move rfl rfl) ?_
        refine RG.call rfl rfl rfl rfl rfl rfl rfl en_22 (lent_ret _ _ _ ((hm.ext hE11)) (by omega)) ?_
        have hpre12 := (Ex.tr hB0 hE11)
        rintro _ w12 ⟨g12, c12, rfl, hol12, hx12⟩
        have hsep13 : Sep (Value.slice (some ⟨g12, 0, none⟩) (_ + 12) c12) _ := Sep.of_new hol10 (fun k h => Own.ge hol12 h)
        replace hol12 := Own.low (B' := w.heap.size) hol12 (by have := (Ex.tr hB0 hE11).size; omega)
        replace hE11 := Ex.tr hE11 hx12
        have hE14 := hx12
        refine RG.vl rfl rfl rfl (Ev.move rfl rfl) ?_
        refine RG.call rfl rfl rfl rfl rfl rfl rfl en_22 (lent_ret _ _ _ ((hn.ext hE11)) (by omega)) ?_
        have hpre15 := (Ex.tr hB0 hE11)
        rintro _ w15 ⟨g15, c15, rfl, hol15, hx15⟩
        have hsep16 : Sep (Value.slice (some ⟨g15, 0, none⟩) (_ + 12) c15) _ := Sep.of_new (Own.ext hol10 hE14) (fun k h => Own.ge hol15 h)
        have hsep17 : Sep (Value.slice (some ⟨g15, 0, none⟩) (_ + 12) c15) _ := Sep.of_new hol12 (fun k h => Own.ge hol15 h)
        replace hol15 := Own.low (B' := w.heap.size) hol15 (by have := (Ex.tr hB0 hE11).size; omega)
        replace hE11 := Ex.tr hE11 hx15
        replace hE14 := Ex.tr hE14 hx15
        have hE18 := hx15
        refine RG.vl rfl rfl rfl (Ev.assign rfl rfl) ?_
        refine RG.vl rfl rfl rfl (Ev.assign rfl rfl) ?_
        refine RG.vl rfl rfl rfl (Ev.assign rfl rfl) ?_
        refine RG.done ?_
        refine QW.then_ ?_
        refine CW.seq ?_
        refine CW.region ?_
        refine RG.vl rfl rfl rfl (Ev.move rfl rfl) ?_
        refine RG.vl rfl rfl rfl (Ev.move rfl rfl) ?_
        refine RG.call rfl rfl rfl rfl rfl rfl rfl en_23 (Eval_ret _ p x _ ((lent_rdl (by rw [List.length_append, mks_len]) (Own.ext hol10 hE14))) (by omega)) ?_
        rintro _ w19 ⟨rfl, hx19⟩
        replace hE11 := Ex.tr hE11 hx19
        replace hE14 := Ex.tr hE14 hx19
        replace hE18 := Ex.tr hE18 hx19
        have hE20 := hx19
        refine RG.vl rfl rfl rfl (Ev.move rfl rfl) ?_
        refine RG.vl rfl rfl rfl (Ev.extract rfl rfl rfl) ?_
        refine RG.vl rfl rfl rfl (Ev.extract rfl rfl rfl) ?_
        refine RG.vl rfl rfl rfl (Ev.assign rfl rfl) ?_
        refine RG.vl rfl rfl rfl (Ev.assign rfl rfl) ?_
        refine RG.done ?_
        refine QW.sub (S' := [(0, _), (1, _), (2, _), (3, _), (8, _), (9, _), (10, _), (11, _), (12, _), (13, _)]) ⟨rfl, rfl, rfl, rfl, rfl, rfl, rfl, rfl, rfl, rfl, trivial⟩ ?_
        refine QW.then_ ?_
        refine CW.seq ?_
        refine CW.region ?_
        refine RG.vl rfl rfl rfl (Ev.move rfl rfl) ?_
        refine RG.call rfl rfl rfl rfl rfl rfl rfl en_24 (roots_ret _ _ _ ((lent_rdl (by rw [List.length_append, mks_len]) (Own.ext hol10 hE14))) (by omega)) ?_
        have hpre21 := (Ex.tr hB0 hE11)
        rintro _ w21 ⟨r21, rfl, hor21, hx21⟩
        have hsep22 : Sep r21 _ := Sep.of_new (Own.ext hol10 hE14) (fun k h => Own.ge hor21 h)
        have hsep23 : Sep r21 _ := Sep.of_new (Own.ext hol12 hE18) (fun k h => Own.ge hor21 h)
        have hsep24 : Sep r21 _ := Sep.of_new (Own.ext hol15 hE20) (fun k h => Own.ge hor21 h)
        replace hE11 := Ex.tr hE11 hx21
        replace hE14 := Ex.tr hE14 hx21
        replace hE18 := Ex.tr hE18 hx21
        replace hE20 := Ex.tr hE20 hx21
        have hE25 := hx21
        refine RG.vl rfl rfl rfl (Ev.move rfl rfl) ?_
        refine RG.vl rfl rfl rfl (Ev.extract rfl rfl rfl) ?_
        refine RG.vl rfl rfl rfl (Ev.extract rfl rfl rfl) ?_
        refine RG.vl rfl rfl rfl (Ev.assign rfl rfl) ?_
        refine RG.vl rfl rfl rfl (Ev.assign rfl rfl) ?_
        refine RG.done ?_
        refine QW.then_ ?_
        refine CW.seq ?_
        refine CW.region ?_
        refine RG.vl rfl rfl rfl (Ev.move rfl rfl) ?_
        refine RG.vl rfl rfl rfl (Ev.move rfl rfl) ?_
        refine RG.call rfl rfl rfl rfl rfl rfl rfl en_25 (through_ret _ _ _ _ _ ((lent_rdl (by rw [List.length_append, mks_len]) (Own.ext hol12 hE18))) ((lent_rdl (by rw [List.length_append, mks_len]) (Own.ext hol15 hE20))) (by omega)) ?_
        have hpre26 := (Ex.tr hB0 hE11)
        rintro _ w26 ⟨r26, t26, rfl, hot26, hth26, hnt26, hx26⟩
        have hsep27 : Sep r26 _ := Sep.of_new (Own.ext hol10 hE14) (fun k h => Own.ge hot26 h)
        have hsep28 : Sep r26 _ := Sep.of_new (Own.ext hol12 hE18) (fun k h => Own.ge hot26 h)
        have hsep29 : Sep r26 _ := Sep.of_new (Own.ext hol15 hE20) (fun k h => Own.ge hot26 h)
        have hsep30 : Sep r26 _ := Sep.of_new hor21 (fun k h => Own.ge hot26 h)
        replace hE11 := Ex.tr hE11 hx26
        replace hE14 := Ex.tr hE14 hx26
        replace hE18 := Ex.tr hE18 hx26
        replace hE20 := Ex.tr hE20 hx26
        replace hE25 := Ex.tr hE25 hx26
        have hE31 := hx26
        refine RG.vl rfl rfl rfl (Ev.move rfl rfl) ?_
        refine RG.vl rfl rfl rfl (Ev.extract rfl rfl rfl) ?_
        refine RG.vl rfl rfl rfl (Ev.extract rfl rfl rfl) ?_
        refine RG.vl rfl rfl rfl (Ev.assign rfl rfl) ?_
        refine RG.vl rfl rfl rfl (Ev.assign rfl rfl) ?_
        refine RG.done ?_
        refine QW.sub (S' := [(0, _), (1, _), (2, _), (3, _), (8, _), (9, _), (10, _), (11, _), (12, _), (13, _), (14, _), (15, _), (16, _), (17, _)]) ⟨rfl, rfl, rfl, rfl, rfl, rfl, rfl, rfl, rfl, rfl, rfl, rfl, rfl, rfl, trivial⟩ ?_
        refine QW.then_ ?_
        refine CW.seq ?_
        refine CW.seq ?_
        refine CW.region ?_
        refine RG.vl rfl rfl rfl (Ev.move rfl rfl) ?_
        refine RG.vl rfl rfl rfl (Ev.move rfl rfl) ?_
        refine RG.call rfl rfl rfl rfl rfl rfl rfl en_26 (kept_ret _ _ _ _ _ (lent_big (Own.ext hol10 hE14)) (hl.ext hE11) (lent_cap (Own.ext hol10 hE14)) (by omega)) ?_
        rintro _ w32 ⟨rfl, hx32⟩
        replace hE11 := Ex.tr hE11 hx32
        replace hE14 := Ex.tr hE14 hx32
        replace hE18 := Ex.tr hE18 hx32
        replace hE20 := Ex.tr hE20 hx32
        replace hE25 := Ex.tr hE25 hx32
        replace hE31 := Ex.tr hE31 hx32
        have hE33 := hx32
        refine RG.vl rfl rfl rfl (Ev.notF rfl rfl) ?_
        refine RG.vl rfl rfl rfl (Ev.move rfl rfl) ?_
        refine RG.vl rfl rfl rfl (Ev.move rfl rfl) ?_
        refine RG.vl rfl rfl rfl (Ev.move rfl rfl) ?_
        refine RG.call rfl rfl rfl rfl rfl rfl rfl en_26 (kept_ret _ _ _ _ _ (lent_big (Own.ext hol12 hE18)) (hm.ext hE11) (lent_cap (Own.ext hol12 hE18)) (by omega)) ?_
        rintro _ w34 ⟨rfl, hx34⟩
        replace hE11 := Ex.tr hE11 hx34
        replace hE14 := Ex.tr hE14 hx34
        replace hE18 := Ex.tr hE18 hx34
        replace hE20 := Ex.tr hE20 hx34
        replace hE25 := Ex.tr hE25 hx34
        replace hE31 := Ex.tr hE31 hx34
        replace hE33 := Ex.tr hE33 hx34
        have hE35 := hx34
        refine RG.vl rfl rfl rfl (Ev.notF rfl rfl) ?_
        refine RG.vl rfl rfl rfl (Ev.pickF rfl rfl rfl) ?_
        refine RG.vl rfl rfl rfl (Ev.move rfl rfl) ?_
        refine RG.vl rfl rfl rfl (Ev.move rfl rfl) ?_
        refine RG.vl rfl rfl rfl (Ev.move rfl rfl) ?_
        refine RG.call rfl rfl rfl rfl rfl rfl rfl en_26 (kept_ret _ _ _ _ _ (lent_big (Own.ext hol15 hE20)) (hn.ext hE11) (lent_cap (Own.ext hol15 hE20)) (by omega)) ?_
        rintro _ w36 ⟨rfl, hx36⟩
        replace hE11 := Ex.tr hE11 hx36
        replace hE14 := Ex.tr hE14 hx36
        replace hE18 := Ex.tr hE18 hx36
        replace hE20 := Ex.tr hE20 hx36
        replace hE25 := Ex.tr hE25 hx36
        replace hE31 := Ex.tr hE31 hx36
        replace hE33 := Ex.tr hE33 hx36
        replace hE35 := Ex.tr hE35 hx36
        have hE37 := hx36
        refine RG.vl rfl rfl rfl (Ev.notF rfl rfl) ?_
        refine RG.vl rfl rfl rfl (Ev.pickF rfl rfl rfl) ?_
        refine RG.done ?_
        refine QW.sub (S' := [(0, _), (1, _), (2, _), (3, _), (8, _), (10, _), (11, _), (12, _), (13, _), (14, _), (15, _), (16, _), (17, _), (75, _)]) ⟨rfl, rfl, rfl, rfl, rfl, rfl, rfl, rfl, rfl, rfl, rfl, rfl, rfl, rfl, trivial⟩ ?_
        refine QW.then_ ?_
        refine CW.condF rfl ?_
        refine CW.skip ?_
        refine QW.then_ ?_
        refine CW.seq ?_
        refine CW.region ?_
        refine RG.vl rfl rfl rfl (Ev.move rfl rfl) ?_
        refine RG.call rfl rfl rfl rfl rfl rfl rfl en_27 (over_ret w _ _ _ _ _ (Ex.tr hB0 hE11) (lent_norm (Own.ext hol12 hE18)) (lent_cap2 (Own.ext hol12 hE18)) (lent_len _) (by omega)) ?_
        rintro _ w38 ⟨ys38, hown39, hgr40⟩
        have hown41 := Own.grown (Own.ext hol10 hE14) hgr40 (fun k a b => hsep13 k b a)
        have hown42 := Own.grown (Own.ext hol15 hE20) hgr40 (fun k a b => (Sep.symm hsep17) k b a)
        have hown43 := Own.grown (Own.ext hor21 hE31) hgr40 (fun k a b => (Sep.symm hsep23) k b a)
        have hown44 := Own.grown (Own.ext hot26 hE33) hgr40 (fun k a b => (Sep.symm hsep28) k b a)
        replace hE11 := own_block (Own.ext hol12 hE18) hE11 hgr40 (Nat.le_refl _) hE11.size
        refine RG.done ?_
        refine QW.then_ ?_
        refine CW.seq ?_
        refine CW.region ?_
        refine RG.vl rfl rfl rfl (Ev.move rfl rfl) ?_
        refine RG.call rfl rfl rfl rfl rfl rfl rfl en_27 (over_ret w _ _ _ _ _ (Ex.tr hB0 hE11) (lent_norm hown42) (lent_cap2 hown42) (lent_len _) (by omega)) ?_
        rintro _ w45 ⟨ys45, hown46, hgr47⟩
        have hown48 := Own.grown hown41 hgr47 (fun k a b => hsep16 k b a)
        have hown49 := Own.grown hown43 hgr47 (fun k a b => (Sep.symm hsep24) k b a)
        have hown50 := Own.grown hown44 hgr47 (fun k a b => (Sep.symm hsep29) k b a)
        have hown51 := Own.grown hown39 hgr47 (fun k a b => hsep17 k b a)
        replace hE11 := own_block hown42 hE11 hgr47 (Nat.le_refl _) hE11.size
        refine RG.done ?_
        refine QW.then_ ?_
        refine CW.seq ?_
        refine CW.seq ?_
        refine CW.region ?_
        refine RG.vl rfl rfl rfl (Ev.move rfl rfl) ?_
        refine RG.vl rfl rfl rfl (Ev.move rfl rfl) ?_
        refine RG.litO (os := [.tmp 81]) (enc := encN) ([x]) rfl rfl rfl rfl rfl rfl rfl Try.underlying39 inf_5 rfl rfl rfl rfl rfl encN_len rfl rfl (fun v52 wk53 hxwk53 hown54 hnew55 => ?_)
        have hsep56 : Sep v52 _ := Sep.of_new hown48 hnew55
        have hsep57 : Sep v52 _ := Sep.of_new hown49 hnew55
        have hsep58 : Sep v52 _ := Sep.of_new hown50 hnew55
        have hsep59 : Sep v52 _ := Sep.of_new hown51 hnew55
        have hsep60 : Sep v52 _ := Sep.of_new hown46 hnew55
        replace hE11 := Ex.tr hE11 hxwk53
        have hE61 := hxwk53
        refine RG.call rfl rfl rfl rfl rfl rfl rfl en_28 (rerr_ret _ _ p [x] _ ((hl.ext hE11)) ((hown54.rdl encN_len)) (by omega) (by simp)) ?_
        rintro _ w62 ⟨rfl, hx62⟩
        replace hE11 := Ex.tr hE11 hx62
        replace hE61 := Ex.tr hE61 hx62
        have hE63 := hx62
        refine RG.vl rfl rfl rfl (Ev.assign rfl rfl) ?_
        refine RG.done ?_
        refine QW.then_ ?_
        refine CW.seq ?_
        refine CW.region ?_
        refine RG.vl rfl rfl rfl (Ev.move rfl rfl) ?_
        refine RG.vl rfl rfl rfl (Ev.move rfl rfl) ?_
        refine RG.vl rfl rfl rfl (Ev.isF (Ev.neI rfl rfl rfl) (fun h => h rfl)) ?_
        refine RG.vl rfl rfl rfl (Ev.move rfl rfl) ?_
        refine RG.vl rfl rfl rfl (Ev.move rfl rfl) ?_
        refine RG.vl rfl rfl rfl (Ev.neI rfl rfl rfl) ?_
        refine RG.vl rfl rfl rfl (Ev.move rfl rfl) ?_
        refine RG.split (d := 90) rfl (fun hg64 => ?_) (fun hg64 => ?_)
        · refine RG.vl rfl rfl rfl (Ev.move rfl rfl) ?_
          refine RG.vl rfl rfl rfl (Ev.isF (Ev.neI rfl rfl rfl) (by rw [if_neg (show ¬ errL [p, [x]] = 0 by omega)]; exact fun h => h rfl)) ?_
          refine RG.vl rfl rfl rfl (Ev.pickT rfl rfl rfl) ?_
          refine RG.vl rfl rfl rfl (Ev.pickF rfl rfl rfl) ?_
          refine RG.vl rfl rfl rfl (Ev.move rfl rfl) ?_
          refine RG.vl rfl rfl rfl (Ev.move rfl rfl) ?_
          refine RG.vl rfl rfl rfl (Ev.isF (Ev.eqI rfl rfl rfl) (by omega)) ?_
          refine RG.vl rfl rfl rfl (Ev.move rfl rfl) ?_
          refine RG.pass rfl rfl rfl ?_
          refine RG.pass rfl rfl rfl ?_
          refine RG.pass rfl rfl rfl ?_
          refine RG.pass rfl rfl rfl ?_
          refine RG.pass rfl rfl rfl ?_
          refine RG.vl rfl rfl rfl (Ev.pickF rfl rfl rfl) ?_
          refine RG.vl rfl rfl rfl (Ev.pickF rfl rfl rfl) ?_
          refine RG.done ?_
          refine QW.sub (S' := [(0, _), (2, _), (3, _), (8, _), (14, _), (15, _), (16, _), (17, _), (105, _)]) ⟨rfl, rfl, rfl, rfl, rfl, rfl, rfl, rfl, rfl, trivial⟩ ?_
          refine QW.then_ ?_
          refine CW.condF rfl ?_
          refine CW.skip ?_
          refine QW.then_ ?_
          refine CW.seq ?_
          refine CW.seq ?_
          refine CW.region ?_
          refine RG.vl rfl rfl rfl (Ev.move rfl rfl) ?_
          refine RG.call rfl rfl rfl rfl rfl rfl rfl en_28 (rerr1 _ p _ ((hl.ext hE11)) (by omega)) ?_
          rintro _ w65 ⟨rfl, hx65⟩
          replace hE11 := Ex.tr hE11 hx65
          replace hE61 := Ex.tr hE61 hx65
          replace hE63 := Ex.tr hE63 hx65
          have hE66 := hx65
          refine RG.vl rfl rfl rfl (Ev.assign rfl rfl) ?_
          refine RG.done ?_
          refine QW.then_ ?_
          refine CW.block ?_
          refine CW.seq ?_
          refine CW.region ?_
          refine RG.vl rfl rfl rfl (Ev.move rfl rfl) ?_
          refine RG.vl rfl rfl rfl (Ev.neI rfl rfl rfl) ?_
          refine RG.vl rfl rfl rfl (Ev.assign rfl rfl) ?_
          refine RG.done ?_
          refine QW.then_ ?_
          refine CW.condP rfl (fun hc67 => ?_) (fun hc67 => ?_)
          · refine CW.seq ?_
            refine CW.region ?_
            refine RG.vl rfl rfl rfl (Ev.move rfl rfl) ?_
            refine RG.vl rfl rfl rfl (Ev.move rfl rfl) ?_
            refine RG.vl rfl rfl rfl (Ev.isF (Ev.neI rfl rfl rfl) (by rw [if_neg (show ¬ errL [p] = 0 by omega)]; exact fun h => h rfl)) ?_
            refine RG.vl rfl rfl rfl (Ev.move rfl rfl) ?_
            refine RG.vl rfl rfl rfl (Ev.move rfl rfl) ?_
            refine RG.vl rfl rfl rfl (Ev.lenL rfl rfl rfl Try.underlying39 (((Own.ext hown49 hE61).rdl encN_len))) ?_
            refine RG.vl rfl rfl rfl (Ev.isF (Ev.neI rfl rfl rfl) (by rw [if_neg (by rintro ⟨h, _⟩; omega)]; exact fun h => h rfl)) ?_
            refine RG.vl rfl rfl rfl (Ev.pickF rfl rfl rfl) ?_
            refine RG.done ?_
            refine QW.sub (S' := [(2, _), (3, _), (8, _), (16, _), (17, _), (127, _)]) ⟨rfl, rfl, rfl, rfl, rfl, rfl, trivial⟩ ?_
            refine QW.then_ ?_
            refine CW.condF rfl ?_
            refine CW.skip ?_
            refine QW.blockN ?_
            refine QW.then_ ?_
            refine CW.seq ?_
            refine CW.region ?_
            refine RG.vl rfl rfl rfl (Ev.move rfl rfl) ?_
            refine RG.vl rfl rfl rfl (Ev.move rfl rfl) ?_
            refine RG.call rfl rfl rfl rfl rfl rfl rfl en_28 (rerr_ret _ _ _ _ _ ((hm.ext hE11)) ((hn.ext hE11)) (by omega) (by omega)) ?_
            rintro _ w68 ⟨rfl, hx68⟩
            replace hE11 := Ex.tr hE11 hx68
            replace hE61 := Ex.tr hE61 hx68
            replace hE63 := Ex.tr hE63 hx68
            replace hE66 := Ex.tr hE66 hx68
            have hE69 := hx68
            refine RG.vl rfl rfl rfl (Ev.assign rfl rfl) ?_
            refine RG.done ?_
            refine QW.then_ ?_
            refine CW.seq ?_
            refine CW.seq ?_
            refine CW.region ?_
            refine RG.vl rfl rfl rfl (Ev.move rfl rfl) ?_
            refine RG.vl rfl rfl rfl (Ev.eqI rfl rfl rfl) ?_
            refine RG.vl rfl rfl rfl (Ev.move rfl rfl) ?_
            refine RG.split (d := 144) rfl (fun hg70 => ?_) (fun hg70 => ?_)
            · refine RG.vl rfl rfl rfl (Ev.move rfl rfl) ?_
              refine RG.vl rfl rfl rfl (Ev.lenL rfl rfl rfl Try.underlying39 ((hm.ext hE11))) ?_
              refine RG.vl rfl rfl rfl (Ev.move rfl rfl) ?_
              refine RG.vl rfl rfl rfl (Ev.lenL rfl rfl rfl Try.underlying39 ((hn.ext hE11))) ?_
              refine RG.vl rfl rfl rfl (Ev.neI rfl rfl rfl) ?_
              refine RG.vl rfl rfl rfl (Ev.pickT rfl rfl rfl) ?_
              refine RG.done ?_
              refine QW.then_ ?_
              refine CW.condP rfl (fun hc71 => ?_) (fun hc71 => ?_)
              · refine CW.region ?_
                refine RG.vl rfl rfl rfl (Ev.assign rfl rfl) ?_
                refine RG.done ?_
                refine QW.sub (S' := [(2, _), (3, _), (8, _), (16, _), (17, _), (20, _)]) ⟨rfl, rfl, rfl, rfl, rfl, rfl, trivial⟩ ?_
                refine QW.then_ ?_
                refine CW.seq ?_
                refine CW.seq ?_
                refine CW.region ?_
                refine RG.vl rfl rfl rfl (Ev.move rfl rfl) ?_
                refine RG.vl rfl rfl rfl (Ev.isT (Ev.neI rfl rfl rfl) (by decide)) ?_
                refine RG.done ?_
                refine QW.then_ ?_
                refine CW.condT rfl ?_
                refine CW.seq ?_
                have hE : thrE y z = 2 := by unfold thrE; rw [if_pos (by omega), if_neg (by omega)]
                obtain rfl := hnt26 (by rw [hE]; decide)
                refine CW.region ?_
                refine RG.vl rfl rfl rfl (Ev.move rfl rfl) ?_
                refine RG.vl rfl rfl rfl (Ev.move rfl rfl) ?_
                refine RG.vl rfl rfl rfl (Ev.isT (Ev.eqI rfl rfl rfl) (hE)) ?_
                refine RG.vl rfl rfl rfl (Ev.move rfl rfl) ?_
                refine RG.vl rfl rfl rfl (Ev.move rfl rfl) ?_
                refine RG.vl rfl rfl rfl (Ev.lenL rfl rfl rfl Try.underlying39 (((Own.ext hown50 hE61).rdl encN_len))) ?_
                refine RG.vl rfl rfl rfl (Ev.isT (Ev.eqI rfl rfl rfl) (rfl)) ?_
                refine RG.vl rfl rfl rfl (Ev.pickT rfl rfl rfl) ?_
                refine RG.vl rfl rfl rfl (Ev.move rfl rfl) ?_
                refine RG.call rfl rfl rfl rfl rfl rfl rfl en_13 (awake_ret _) ?_
                rintro _ w72 ⟨rfl, hx72⟩
                replace hE11 := Ex.tr hE11 hx72
                replace hE61 := Ex.tr hE61 hx72
                replace hE63 := Ex.tr hE63 hx72
                replace hE66 := Ex.tr hE66 hx72
                replace hE69 := Ex.tr hE69 hx72
                have hE73 := hx72
                refine RG.vl rfl rfl rfl (Ev.pickT rfl rfl rfl) ?_
                refine RG.vl rfl rfl rfl (Ev.assign rfl rfl) ?_
                refine RG.done ?_
                refine QW.sub (S' := [(2, _), (3, _), (8, _), (16, _), (17, _)]) ⟨rfl, rfl, rfl, rfl, rfl, trivial⟩ ?_
                refine QW.then_ ?_
                refine CW.ret ?_
                refine QW.thenRet ?_
                refine QW.ret1 rfl rfl ?_
                have hB := (Ex.tr hB0 hE11)
                exact ⟨rfl, hB⟩
              · refine CW.skip ?_
                refine QW.then_ ?_
                refine CW.seq ?_
                refine CW.seq ?_
                refine CW.region ?_
                refine RG.vl rfl rfl rfl (Ev.move rfl rfl) ?_
                refine RG.vl rfl rfl rfl (Ev.isF (Ev.neI rfl rfl rfl) (by omega)) ?_
                refine RG.done ?_
                refine QW.sub (S' := [(2, _), (3, _), (8, _), (16, _), (17, _), (20, _), (152, _)]) ⟨rfl, rfl, rfl, rfl, rfl, rfl, rfl, trivial⟩ ?_
                refine QW.then_ ?_
                refine CW.condF rfl ?_
                refine CW.skip ?_
                refine QW.then_ ?_
                refine CW.seq ?_
                have he3 : errL [y, z] = 0 := by omega
                obtain ⟨⟨hy128, hye⟩, hz128, hze⟩ := errL2 he3
                refine CW.region ?_
                refine RG.vl rfl rfl rfl (Ev.move rfl rfl) ?_
                refine RG.vl rfl rfl rfl (Ev.move rfl rfl) ?_
                refine RG.call rfl rfl rfl rfl rfl rfl rfl en_33 (rthr_ret _ _ _ _ _ ((hm.ext hE11)) ((hn.ext hE11)) (by omega) (by omega) (by assumption) (by assumption)) ?_
                rintro _ w74 ⟨r74, O74, rfl, hoO74, hOt74, hx74⟩
                replace hE11 := Ex.tr hE11 hx74
                replace hE61 := Ex.tr hE61 hx74
                replace hE63 := Ex.tr hE63 hx74
                replace hE66 := Ex.tr hE66 hx74
                replace hE69 := Ex.tr hE69 hx74
                have hE75 := hx74
                refine RG.vl rfl rfl rfl (Ev.move rfl rfl) ?_
                refine RG.vl rfl rfl rfl (Ev.extract rfl rfl rfl) ?_
                refine RG.vl rfl rfl rfl (Ev.extract rfl rfl rfl) ?_
                refine RG.vl rfl rfl rfl (Ev.assign rfl rfl) ?_
                refine RG.vl rfl rfl rfl (Ev.assign rfl rfl) ?_
                refine RG.done ?_
                refine QW.then_ ?_
                refine CW.seq ?_
                refine CW.seq ?_
                refine CW.region ?_
                refine RG.vl rfl rfl rfl (Ev.move rfl rfl) ?_
                refine RG.vl rfl rfl rfl (Ev.notP rfl rfl) ?_
                refine RG.done ?_
                refine QW.then_ ?_
                refine CW.condP rfl (fun hc76 => ?_) (fun hc76 => ?_)
                · refine CW.seq ?_
                  have hE : thrE y z = 2 := by unfold thrE; rw [if_pos he3, if_pos (by omega), if_neg (by assumption)]
                  obtain rfl := hnt26 (by rw [hE]; decide)
                  refine CW.region ?_
                  refine RG.vl rfl rfl rfl (Ev.move rfl rfl) ?_
                  refine RG.vl rfl rfl rfl (Ev.isT (Ev.eqI rfl rfl rfl) (hE)) ?_
                  refine RG.vl rfl rfl rfl (Ev.move rfl rfl) ?_
                  refine RG.vl rfl rfl rfl (Ev.move rfl rfl) ?_
                  refine RG.vl rfl rfl rfl (Ev.lenL rfl rfl rfl Try.underlying39 (((Own.ext hown50 hE61).rdl encN_len))) ?_
                  refine RG.vl rfl rfl rfl (Ev.isT (Ev.eqI rfl rfl rfl) (rfl)) ?_
                  refine RG.vl rfl rfl rfl (Ev.pickT rfl rfl rfl) ?_
                  refine RG.vl rfl rfl rfl (Ev.move rfl rfl) ?_
                  refine RG.call rfl rfl rfl rfl rfl rfl rfl en_13 (awake_ret _) ?_
                  rintro _ w77 ⟨rfl, hx77⟩
                  replace hE11 := Ex.tr hE11 hx77
                  replace hE61 := Ex.tr hE61 hx77
                  replace hE63 := Ex.tr hE63 hx77
                  replace hE66 := Ex.tr hE66 hx77
                  replace hE69 := Ex.tr hE69 hx77
                  replace hE75 := Ex.tr hE75 hx77
                  have hE78 := hx77
                  refine RG.vl rfl rfl rfl (Ev.pickT rfl rfl rfl) ?_
                  refine RG.vl rfl rfl rfl (Ev.assign rfl rfl) ?_
                  refine RG.done ?_
                  refine QW.sub (S' := [(8, _), (16, _), (17, _), (21, _)]) ⟨rfl, rfl, rfl, rfl, trivial⟩ ?_
                  refine QW.then_ ?_
                  refine CW.ret ?_
                  refine QW.thenRet ?_
                  refine QW.ret1 rfl rfl ?_
                  have hB := (Ex.tr hB0 hE11)
                  exact ⟨rfl, hB⟩
                · refine CW.skip ?_
                  refine QW.then_ ?_
                  refine CW.seq ?_
                  have hnd : y.Nodup := Decidable.not_not.1 (by assumption)
                  have hE : thrE y z = 0 := by unfold thrE; rw [if_pos he3, if_pos (by omega), if_pos hnd]
                  refine CW.region ?_
                  refine RG.vl rfl rfl rfl (Ev.move rfl rfl) ?_
                  refine RG.vl rfl rfl rfl (Ev.isT (Ev.eqI rfl rfl rfl) (hE)) ?_
                  refine RG.vl rfl rfl rfl (Ev.move rfl rfl) ?_
                  refine RG.vl rfl rfl rfl (Ev.move rfl rfl) ?_
                  refine RG.vl rfl rfl rfl (Ev.move rfl rfl) ?_
                  refine RG.call rfl rfl rfl rfl rfl rfl rfl en_31 (sameT _ _ _ _ _ (((Own.ext hown50 hE61).rdl encN_len)) (hoO74) (by have := (hth26 hE).le; omega) (isThr_uniq hye hnd (by omega) (hth26 hE) (hOt74 hnd))) ?_
                  rintro _ w79 ⟨rfl, hx79⟩
                  replace hE11 := Ex.tr hE11 hx79
                  replace hE61 := Ex.tr hE61 hx79
                  replace hE63 := Ex.tr hE63 hx79
                  replace hE66 := Ex.tr hE66 hx79
                  replace hE69 := Ex.tr hE69 hx79
                  replace hE75 := Ex.tr hE75 hx79
                  have hE80 := hx79
                  refine RG.vl rfl rfl rfl (Ev.pickT rfl rfl rfl) ?_
                  refine RG.vl rfl rfl rfl (Ev.move rfl rfl) ?_
                  refine RG.call rfl rfl rfl rfl rfl rfl rfl en_13 (awake_ret _) ?_
                  rintro _ w81 ⟨rfl, hx81⟩
                  replace hE11 := Ex.tr hE11 hx81
                  replace hE61 := Ex.tr hE61 hx81
                  replace hE63 := Ex.tr hE63 hx81
                  replace hE66 := Ex.tr hE66 hx81
                  replace hE69 := Ex.tr hE69 hx81
                  replace hE75 := Ex.tr hE75 hx81
                  replace hE80 := Ex.tr hE80 hx81
                  have hE82 := hx81
                  refine RG.vl rfl rfl rfl (Ev.pickT rfl rfl rfl) ?_
                  refine RG.vl rfl rfl rfl (Ev.assign rfl rfl) ?_
                  refine RG.done ?_
                  refine QW.sub (S' := [(8, _)]) ⟨rfl, trivial⟩ ?_
                  refine QW.then_ ?_
                  refine CW.ret ?_
                  refine QW.ret1 rfl rfl ?_
                  have hB := (Ex.tr hB0 hE11)
                  exact ⟨rfl, hB⟩
            · refine RG.pass rfl rfl rfl ?_
              refine RG.pass rfl rfl rfl ?_
              refine RG.pass rfl rfl rfl ?_
              refine RG.pass rfl rfl rfl ?_
              refine RG.pass rfl rfl rfl ?_
              refine RG.vl rfl rfl rfl (Ev.pickF rfl rfl rfl) ?_
              refine RG.done ?_
              refine QW.then_ ?_
              refine CW.condF rfl ?_
              refine CW.skip ?_
              refine QW.then_ ?_
              refine CW.seq ?_
              refine CW.seq ?_
              refine CW.region ?_
              refine RG.vl rfl rfl rfl (Ev.move rfl rfl) ?_
              refine RG.vl rfl rfl rfl (Ev.isT (Ev.neI rfl rfl rfl) (by omega)) ?_
              refine RG.done ?_
              refine QW.sub (S' := [(2, _), (3, _), (8, _), (16, _), (17, _), (20, _), (152, _)]) ⟨rfl, rfl, rfl, rfl, rfl, rfl, rfl, trivial⟩ ?_
              refine QW.then_ ?_
              refine CW.condT rfl ?_
              refine CW.seq ?_
              have hE : thrE y z = errL [y, z] := by unfold thrE; rw [if_neg (by omega)]
              obtain rfl := hnt26 (by rw [hE]; omega)
              refine CW.region ?_
              refine RG.vl rfl rfl rfl (Ev.move rfl rfl) ?_
              refine RG.vl rfl rfl rfl (Ev.move rfl rfl) ?_
              refine RG.vl rfl rfl rfl (Ev.isT (Ev.eqI rfl rfl rfl) (hE)) ?_
              refine RG.vl rfl rfl rfl (Ev.move rfl rfl) ?_
              refine RG.vl rfl rfl rfl (Ev.move rfl rfl) ?_
              refine RG.vl rfl rfl rfl (Ev.lenL rfl rfl rfl Try.underlying39 (((Own.ext hown50 hE61).rdl encN_len))) ?_
              refine RG.vl rfl rfl rfl (Ev.isT (Ev.eqI rfl rfl rfl) (rfl)) ?_
              refine RG.vl rfl rfl rfl (Ev.pickT rfl rfl rfl) ?_
              refine RG.vl rfl rfl rfl (Ev.move rfl rfl) ?_
              refine RG.call rfl rfl rfl rfl rfl rfl rfl en_13 (awake_ret _) ?_
              rintro _ w83 ⟨rfl, hx83⟩
              replace hE11 := Ex.tr hE11 hx83
              replace hE61 := Ex.tr hE61 hx83
              replace hE63 := Ex.tr hE63 hx83
              replace hE66 := Ex.tr hE66 hx83
              replace hE69 := Ex.tr hE69 hx83
              have hE84 := hx83
              refine RG.vl rfl rfl rfl (Ev.pickT rfl rfl rfl) ?_
              refine RG.vl rfl rfl rfl (Ev.assign rfl rfl) ?_
              refine RG.done ?_
              refine QW.then_ ?_
              refine CW.ret ?_
              refine QW.thenRet ?_
              refine QW.ret1 rfl rfl ?_
              have hB := (Ex.tr hB0 hE11)
              exact ⟨rfl, hB⟩
          · refine CW.seq ?_
            refine CW.region ?_
            refine RG.vl rfl rfl rfl (Ev.move rfl rfl) ?_
            refine RG.call rfl rfl rfl rfl rfl rfl rfl en_30 (rdeg_ret _ _ _ ((hl.ext hE11)) (by omega)) ?_
            rintro _ w85 ⟨rfl, hx85⟩
            replace hE11 := Ex.tr hE11 hx85
            replace hE61 := Ex.tr hE61 hx85
            replace hE63 := Ex.tr hE63 hx85
            replace hE66 := Ex.tr hE66 hx85
            have hE86 := hx85
            refine RG.vl rfl rfl rfl (Ev.lss rfl rfl rfl) ?_
            refine RG.vl rfl rfl rfl (Ev.assign rfl rfl) ?_
            refine RG.done ?_
            refine QW.then_ ?_
            refine CW.condP rfl (fun hc87 => ?_) (fun hc87 => ?_)
            · refine CW.seq ?_
              refine CW.region ?_
              refine RG.vl rfl rfl rfl (Ev.move rfl rfl) ?_
              refine RG.vl rfl rfl rfl (Ev.isF (Ev.neI rfl rfl rfl) (by rw [if_pos (show errL [p] = 0 by omega), if_pos (by omega)]; exact fun h => h rfl)) ?_
              refine RG.vl rfl rfl rfl (Ev.move rfl rfl) ?_
              refine RG.vl rfl rfl rfl (Ev.move rfl rfl) ?_
              refine RG.vl rfl rfl rfl (Ev.lenL rfl rfl rfl Try.underlying39 (((Own.ext hown49 hE61).rdl encN_len))) ?_
              refine RG.vl rfl rfl rfl (Ev.isF (Ev.neI rfl rfl rfl) (by rw [if_neg (by rintro ⟨_, h⟩; omega)]; exact fun h => h rfl)) ?_
              refine RG.vl rfl rfl rfl (Ev.pickF rfl rfl rfl) ?_
              refine RG.done ?_
              refine QW.sub (S' := [(2, _), (3, _), (8, _), (16, _), (17, _), (138, _)]) ⟨rfl, rfl, rfl, rfl, rfl, rfl, trivial⟩ ?_
              refine QW.then_ ?_
              refine CW.condF rfl ?_
              refine CW.skip ?_
              refine QW.blockN ?_
              refine QW.then_ ?_
              refine CW.seq ?_
              refine CW.region ?_
              refine RG.vl rfl rfl rfl (Ev.move rfl rfl) ?_
              refine RG.vl rfl rfl rfl (Ev.move rfl rfl) ?_
              refine RG.call rfl rfl rfl rfl rfl rfl rfl en_28 (rerr_ret _ _ _ _ _ ((hm.ext hE11)) ((hn.ext hE11)) (by omega) (by omega)) ?_
              rintro _ w88 ⟨rfl, hx88⟩
              replace hE11 := Ex.tr hE11 hx88
              replace hE61 := Ex.tr hE61 hx88
              replace hE63 := Ex.tr hE63 hx88
              replace hE66 := Ex.tr hE66 hx88
              replace hE86 := Ex.tr hE86 hx88
              have hE89 := hx88
              refine RG.vl rfl rfl rfl (Ev.assign rfl rfl) ?_
              refine RG.done ?_
              refine QW.then_ ?_
              refine CW.seq ?_
              refine CW.seq ?_
              refine CW.region ?_
              refine RG.vl rfl rfl rfl (Ev.move rfl rfl) ?_
              refine RG.vl rfl rfl rfl (Ev.eqI rfl rfl rfl) ?_
              refine RG.vl rfl rfl rfl (Ev.move rfl rfl) ?_
              refine RG.split (d := 144) rfl (fun hg90 => ?_) (fun hg90 => ?_)
              · refine RG.vl rfl rfl rfl (Ev.move rfl rfl) ?_
                refine RG.vl rfl rfl rfl (Ev.lenL rfl rfl rfl Try.underlying39 ((hm.ext hE11))) ?_
                refine RG.vl rfl rfl rfl (Ev.move rfl rfl) ?_
                refine RG.vl rfl rfl rfl (Ev.lenL rfl rfl rfl Try.underlying39 ((hn.ext hE11))) ?_
                refine RG.vl rfl rfl rfl (Ev.neI rfl rfl rfl) ?_
                refine RG.vl rfl rfl rfl (Ev.pickT rfl rfl rfl) ?_
                refine RG.done ?_
                refine QW.then_ ?_
                refine CW.condP rfl (fun hc91 => ?_) (fun hc91 => ?_)
                · refine CW.region ?_
                  refine RG.vl rfl rfl rfl (Ev.assign rfl rfl) ?_
                  refine RG.done ?_
                  refine QW.sub (S' := [(2, _), (3, _), (8, _), (16, _), (17, _), (20, _)]) ⟨rfl, rfl, rfl, rfl, rfl, rfl, trivial⟩ ?_
                  refine QW.then_ ?_
                  refine CW.seq ?_
                  refine CW.seq ?_
                  refine CW.region ?_
                  refine RG.vl rfl rfl rfl (Ev.move rfl rfl) ?_
                  refine RG.vl rfl rfl rfl (Ev.isT (Ev.neI rfl rfl rfl) (by decide)) ?_
                  refine RG.done ?_
                  refine QW.then_ ?_
                  refine CW.condT rfl ?_
                  refine CW.seq ?_
                  have hE : thrE y z = 2 := by unfold thrE; rw [if_pos (by omega), if_neg (by omega)]
                  obtain rfl := hnt26 (by rw [hE]; decide)
                  refine CW.region ?_
                  refine RG.vl rfl rfl rfl (Ev.move rfl rfl) ?_
                  refine RG.vl rfl rfl rfl (Ev.move rfl rfl) ?_
                  refine RG.vl rfl rfl rfl (Ev.isT (Ev.eqI rfl rfl rfl) (hE)) ?_
                  refine RG.vl rfl rfl rfl (Ev.move rfl rfl) ?_
                  refine RG.vl rfl rfl rfl (Ev.move rfl rfl) ?_
                  refine RG.vl rfl rfl rfl (Ev.lenL rfl rfl rfl Try.underlying39 (((Own.ext hown50 hE61).rdl encN_len))) ?_
                  refine RG.vl rfl rfl rfl (Ev.isT (Ev.eqI rfl rfl rfl) (rfl)) ?_
                  refine RG.vl rfl rfl rfl (Ev.pickT rfl rfl rfl) ?_
                  refine RG.vl rfl rfl rfl (Ev.move rfl rfl) ?_
                  refine RG.call rfl rfl rfl rfl rfl rfl rfl en_13 (awake_ret _) ?_
                  rintro _ w92 ⟨rfl, hx92⟩
                  replace hE11 := Ex.tr hE11 hx92
                  replace hE61 := Ex.tr hE61 hx92
                  replace hE63 := Ex.tr hE63 hx92
                  replace hE66 := Ex.tr hE66 hx92
                  replace hE86 := Ex.tr hE86 hx92
                  replace hE89 := Ex.tr hE89 hx92
                  have hE93 := hx92
                  refine RG.vl rfl rfl rfl (Ev.pickT rfl rfl rfl) ?_
                  refine RG.vl rfl rfl rfl (Ev.assign rfl rfl) ?_
                  refine RG.done ?_
                  refine QW.sub (S' := [(2, _), (3, _), (8, _), (16, _), (17, _)]) ⟨rfl, rfl, rfl, rfl, rfl, trivial⟩ ?_
                  refine QW.then_ ?_
                  refine CW.ret ?_
                  refine QW.thenRet ?_
                  refine QW.ret1 rfl rfl ?_
                  have hB := (Ex.tr hB0 hE11)
                  exact ⟨rfl, hB⟩
                · refine CW.skip ?_
                  refine QW.then_ ?_
                  refine CW.seq ?_
                  refine CW.seq ?_
                  refine CW.region ?_
                  refine RG.vl rfl rfl rfl (Ev.move rfl rfl) ?_
                  refine RG.vl rfl rfl rfl (Ev.isF (Ev.neI rfl rfl rfl) (by omega)) ?_
                  refine RG.done ?_
                  refine QW.sub (S' := [(2, _), (3, _), (8, _), (16, _), (17, _), (20, _), (152, _)]) ⟨rfl, rfl, rfl, rfl, rfl, rfl, rfl, trivial⟩ ?_
                  refine QW.then_ ?_
                  refine CW.condF rfl ?_
                  refine CW.skip ?_
                  refine QW.then_ ?_
                  refine CW.seq ?_
                  have he3 : errL [y, z] = 0 := by omega
                  obtain ⟨⟨hy128, hye⟩, hz128, hze⟩ := errL2 he3
                  refine CW.region ?_
                  refine RG.vl rfl rfl rfl (Ev.move rfl rfl) ?_
                  refine RG.vl rfl rfl rfl (Ev.move rfl rfl) ?_
                  refine RG.call rfl rfl rfl rfl rfl rfl rfl en_33 (rthr_ret _ _ _ _ _ ((hm.ext hE11)) ((hn.ext hE11)) (by omega) (by omega) (by assumption) (by assumption)) ?_
                  rintro _ w94 ⟨r94, O94, rfl, hoO94, hOt94, hx94⟩
                  replace hE11 := Ex.tr hE11 hx94
                  replace hE61 := Ex.tr hE61 hx94
                  replace hE63 := Ex.tr hE63 hx94
                  replace hE66 := Ex.tr hE66 hx94
                  replace hE86 := Ex.tr hE86 hx94
                  replace hE89 := Ex.tr hE89 hx94
                  have hE95 := hx94
                  refine RG.vl rfl rfl rfl (Ev.move rfl rfl) ?_
                  refine RG.vl rfl rfl rfl (Ev.extract rfl rfl rfl) ?_
                  refine RG.vl rfl rfl rfl (Ev.extract rfl rfl rfl) ?_
                  refine RG.vl rfl rfl rfl (Ev.assign rfl rfl) ?_
                  refine RG.vl rfl rfl rfl (Ev.assign rfl rfl) ?_
                  refine RG.done ?_
                  refine QW.then_ ?_
                  refine CW.seq ?_
                  refine CW.seq ?_
                  refine CW.region ?_
                  refine RG.vl rfl rfl rfl (Ev.move rfl rfl) ?_
                  refine RG.vl rfl rfl rfl (Ev.notP rfl rfl) ?_
                  refine RG.done ?_
                  refine QW.then_ ?_
                  refine CW.condP rfl (fun hc96 => ?_) (fun hc96 => ?_)
                  · refine CW.seq ?_
                    have hE : thrE y z = 2 := by unfold thrE; rw [if_pos he3, if_pos (by omega), if_neg (by assumption)]
                    obtain rfl := hnt26 (by rw [hE]; decide)
                    refine CW.region ?_
                    refine RG.vl rfl rfl rfl (Ev.move rfl rfl) ?_
                    refine RG.vl rfl rfl rfl (Ev.isT (Ev.eqI rfl rfl rfl) (hE)) ?_
                    refine RG.vl rfl rfl rfl (Ev.move rfl rfl) ?_
                    refine RG.vl rfl rfl rfl (Ev.move rfl rfl) ?_
                    refine RG.vl rfl rfl rfl (Ev.lenL rfl rfl rfl Try.underlying39 (((Own.ext hown50 hE61).rdl encN_len))) ?_
                    refine RG.vl rfl rfl rfl (Ev.isT (Ev.eqI rfl rfl rfl) (rfl)) ?_
                    refine RG.vl rfl rfl rfl (Ev.pickT rfl rfl rfl) ?_
                    refine RG.vl rfl rfl rfl (Ev.move rfl rfl) ?_
                    refine RG.call rfl rfl rfl rfl rfl rfl rfl en_13 (awake_ret _) ?_
                    rintro _ w97 ⟨rfl, hx97⟩
                    replace hE11 := Ex.tr hE11 hx97
                    replace hE61 := Ex.tr hE61 hx97
                    replace hE63 := Ex.tr hE63 hx97
                    replace hE66 := Ex.tr hE66 hx97
                    replace hE86 := Ex.tr hE86 hx97
                    replace hE89 := Ex.tr hE89 hx97
                    replace hE95 := Ex.tr hE95 hx97
                    have hE98 := hx97
                    refine RG.vl rfl rfl rfl (Ev.pickT rfl rfl rfl) ?_
                    refine RG.vl rfl rfl rfl (Ev.assign rfl rfl) ?_
                    refine RG.done ?_
                    refine QW.sub (S' := [(8, _), (16, _), (17, _), (21, _)]) ⟨rfl, rfl, rfl, rfl, trivial⟩ ?_
                    refine QW.then_ ?_
                    refine CW.ret ?_
                    refine QW.thenRet ?_
                    refine QW.ret1 rfl rfl ?_
                    have hB := (Ex.tr hB0 hE11)
                    exact ⟨rfl, hB⟩
                  · refine CW.skip ?_
                    refine QW.then_ ?_
                    refine CW.seq ?_
                    have hnd : y.Nodup := Decidable.not_not.1 (by assumption)
                    have hE : thrE y z = 0 := by unfold thrE; rw [if_pos he3, if_pos (by omega), if_pos hnd]
                    refine CW.region ?_
                    refine RG.vl rfl rfl rfl (Ev.move rfl rfl) ?_
                    refine RG.vl rfl rfl rfl (Ev.isT (Ev.eqI rfl rfl rfl) (hE)) ?_
                    refine RG.vl rfl rfl rfl (Ev.move rfl rfl) ?_
                    refine RG.vl rfl rfl rfl (Ev.move rfl rfl) ?_
                    refine RG.vl rfl rfl rfl (Ev.move rfl rfl) ?_
                    refine RG.call rfl rfl rfl rfl rfl rfl rfl en_31 (sameT _ _ _ _ _ (((Own.ext hown50 hE61).rdl encN_len)) (hoO94) (by have := (hth26 hE).le; omega) (isThr_uniq hye hnd (by omega) (hth26 hE) (hOt94 hnd))) ?_
                    rintro _ w99 ⟨rfl, hx99⟩
                    replace hE11 := Ex.tr hE11 hx99
                    replace hE61 := Ex.tr hE61 hx99
                    replace hE63 := Ex.tr hE63 hx99
                    replace hE66 := Ex.tr hE66 hx99
                    replace hE86 := Ex.tr hE86 hx99
                    replace hE89 := Ex.tr hE89 hx99
                    replace hE95 := Ex.tr hE95 hx99
                    have hE100 := hx99
                    refine RG.vl rfl rfl rfl (Ev.pickT rfl rfl rfl) ?_
                    refine RG.vl rfl rfl rfl (Ev.move rfl rfl) ?_
                    refine RG.call rfl rfl rfl rfl rfl rfl rfl en_13 (awake_ret _) ?_
                    rintro _ w101 ⟨rfl, hx101⟩
                    replace hE11 := Ex.tr hE11 hx101
                    replace hE61 := Ex.tr hE61 hx101
                    replace hE63 := Ex.tr hE63 hx101
                    replace hE66 := Ex.tr hE66 hx101
                    replace hE86 := Ex.tr hE86 hx101
                    replace hE89 := Ex.tr hE89 hx101
                    replace hE95 := Ex.tr hE95 hx101
                    replace hE100 := Ex.tr hE100 hx101
                    have hE102 := hx101
                    refine RG.vl rfl rfl rfl (Ev.pickT rfl rfl rfl) ?_
                    refine RG.vl rfl rfl rfl (Ev.assign rfl rfl) ?_
                    refine RG.done ?_
                    refine QW.sub (S' := [(8, _)]) ⟨rfl, trivial⟩ ?_
                    refine QW.then_ ?_
                    refine CW.ret ?_
                    refine QW.ret1 rfl rfl ?_
                    have hB := (Ex.tr hB0 hE11)
                    exact ⟨rfl, hB⟩
              · refine RG.pass rfl rfl rfl ?_
                refine RG.pass rfl rfl rfl ?_
                refine RG.pass rfl rfl rfl ?_
                refine RG.pass rfl rfl rfl ?_
                refine RG.pass rfl rfl rfl ?_
                refine RG.vl rfl rfl rfl (Ev.pickF rfl rfl rfl) ?_
                refine RG.done ?_
                refine QW.then_ ?_
                refine CW.condF rfl ?_
                refine CW.skip ?_
                refine QW.then_ ?_
                refine CW.seq ?_
                refine CW.seq ?_
                refine CW.region ?_
                refine RG.vl rfl rfl rfl (Ev.move rfl rfl) ?_
                refine RG.vl rfl rfl rfl (Ev.isT (Ev.neI rfl rfl rfl) (by omega)) ?_
                refine RG.done ?_
                refine QW.sub (S' := [(2, _), (3, _), (8, _), (16, _), (17, _), (20, _), (152, _)]) ⟨rfl, rfl, rfl, rfl, rfl, rfl, rfl, trivial⟩ ?_
                refine QW.then_ ?_
                refine CW.condT rfl ?_
                refine CW.seq ?_
                have hE : thrE y z = errL [y, z] := by unfold thrE; rw [if_neg (by omega)]
                obtain rfl := hnt26 (by rw [hE]; omega)
                refine CW.region ?_
                refine RG.vl rfl rfl rfl (Ev.move rfl rfl) ?_
                refine RG.vl rfl rfl rfl (Ev.move rfl rfl) ?_
                refine RG.vl rfl rfl rfl (Ev.isT (Ev.eqI rfl rfl rfl) (hE)) ?_
                refine RG.vl rfl rfl rfl (Ev.move rfl rfl) ?_
                refine RG.vl rfl rfl rfl (Ev.move rfl rfl) ?_
                refine RG.vl rfl rfl rfl (Ev.lenL rfl rfl rfl Try.underlying39 (((Own.ext hown50 hE61).rdl encN_len))) ?_
                refine RG.vl rfl rfl rfl (Ev.isT (Ev.eqI rfl rfl rfl) (rfl)) ?_
                refine RG.vl rfl rfl rfl (Ev.pickT rfl rfl rfl) ?_
                refine RG.vl rfl rfl rfl (Ev.move rfl rfl) ?_
                refine RG.call rfl rfl rfl rfl rfl rfl rfl en_13 (awake_ret _) ?_
                rintro _ w103 ⟨rfl, hx103⟩
                replace hE11 := Ex.tr hE11 hx103
                replace hE61 := Ex.tr hE61 hx103
                replace hE63 := Ex.tr hE63 hx103
                replace hE66 := Ex.tr hE66 hx103
                replace hE86 := Ex.tr hE86 hx103
                replace hE89 := Ex.tr hE89 hx103
                have hE104 := hx103
                refine RG.vl rfl rfl rfl (Ev.pickT rfl rfl rfl) ?_
                refine RG.vl rfl rfl rfl (Ev.assign rfl rfl) ?_
                refine RG.done ?_
                refine QW.then_ ?_
                refine CW.ret ?_
                refine QW.thenRet ?_
                refine QW.ret1 rfl rfl ?_
                have hB := (Ex.tr hB0 hE11)
                exact ⟨rfl, hB⟩
            · refine CW.seq ?_
              have he1 : errL [p] = 0 := by omega
              obtain ⟨hp128, hpe⟩ := errL1 he1
              refine CW.region ?_
              refine RG.vl rfl rfl rfl (Ev.move rfl rfl) ?_
              refine RG.vl rfl rfl rfl (Ev.isF (Ev.neI rfl rfl rfl) (by rw [if_pos (show errL [p] = 0 by omega), if_neg (by omega)]; exact fun h => h rfl)) ?_
              refine RG.vl rfl rfl rfl (Ev.move rfl rfl) ?_
              refine RG.vl rfl rfl rfl (Ev.move rfl rfl) ?_
              refine RG.vl rfl rfl rfl (Ev.move rfl rfl) ?_
              refine RG.call rfl rfl rfl rfl rfl rfl rfl en_32 (rroots_ret _ _ _ ((hl.ext hE11)) (by omega) (by assumption)) ?_
              have hpre105 := (Ex.tr hB0 hE11)
              rintro vrr105 w105 ⟨hrr105, hx105⟩
              have hsep106 : Sep vrr105 _ := Sep.of_new (Own.ext hown48 hE61) (fun k h => Own.ge hrr105 h)
              have hsep107 : Sep vrr105 _ := Sep.of_new (Own.ext hown49 hE61) (fun k h => Own.ge hrr105 h)
              have hsep108 : Sep vrr105 _ := Sep.of_new (Own.ext hown50 hE61) (fun k h => Own.ge hrr105 h)
              have hsep109 : Sep vrr105 _ := Sep.of_new (Own.ext hown51 hE61) (fun k h => Own.ge hrr105 h)
              have hsep110 : Sep vrr105 _ := Sep.of_new (Own.ext hown46 hE61) (fun k h => Own.ge hrr105 h)
              have hsep111 : Sep vrr105 _ := Sep.of_new (Own.ext hown54 hE63) (fun k h => Own.ge hrr105 h)
              replace hE11 := Ex.tr hE11 hx105
              replace hE61 := Ex.tr hE61 hx105
              replace hE63 := Ex.tr hE63 hx105
              replace hE66 := Ex.tr hE66 hx105
              replace hE86 := Ex.tr hE86 hx105
              have hE112 := hx105
              refine RG.call rfl rfl rfl rfl rfl rfl rfl en_31 (sameT _ _ _ _ _ (((Own.ext hown49 hE61).rdl encN_len)) ((hrr105.rdl encN_len)) (by rw [if_pos ⟨he1, by omega⟩]; have := rootsTo_len p 64; exact Nat.le_trans this (by omega)) (by rw [if_pos ⟨he1, by omega⟩])) ?_
              rintro _ w113 ⟨rfl, hx113⟩
              replace hE11 := Ex.tr hE11 hx113
              replace hE61 := Ex.tr hE61 hx113
              replace hE63 := Ex.tr hE63 hx113
              replace hE66 := Ex.tr hE66 hx113
              replace hE86 := Ex.tr hE86 hx113
              replace hE112 := Ex.tr hE112 hx113
              have hE114 := hx113
              refine RG.vl rfl rfl rfl (Ev.notF rfl rfl) ?_
              refine RG.vl rfl rfl rfl (Ev.pickF rfl rfl rfl) ?_
              refine RG.done ?_
              refine QW.sub (S' := [(2, _), (3, _), (8, _), (16, _), (17, _), (116, _)]) ⟨rfl, rfl, rfl, rfl, rfl, rfl, trivial⟩ ?_
              refine QW.then_ ?_
              refine CW.condF rfl ?_
              refine CW.skip ?_
              refine QW.blockN ?_
              refine QW.then_ ?_
              refine CW.seq ?_
              refine CW.region ?_
              refine RG.vl rfl rfl rfl (Ev.move rfl rfl) ?_
              refine RG.vl rfl rfl rfl (Ev.move rfl rfl) ?_
              refine RG.call rfl rfl rfl rfl rfl rfl rfl en_28 (rerr_ret _ _ _ _ _ ((hm.ext hE11)) ((hn.ext hE11)) (by omega) (by omega)) ?_
              rintro _ w115 ⟨rfl, hx115⟩
              replace hE11 := Ex.tr hE11 hx115
              replace hE61 := Ex.tr hE61 hx115
              replace hE63 := Ex.tr hE63 hx115
              replace hE66 := Ex.tr hE66 hx115
              replace hE86 := Ex.tr hE86 hx115
              replace hE112 := Ex.tr hE112 hx115
              replace hE114 := Ex.tr hE114 hx115
              have hE116 := hx115
              refine RG.vl rfl rfl rfl (Ev.assign rfl rfl) ?_
              refine RG.done ?_
              refine QW.then_ ?_
              refine CW.seq ?_
              refine CW.seq ?_
              refine CW.region ?_
              refine RG.vl rfl rfl rfl (Ev.move rfl rfl) ?_
              refine RG.vl rfl rfl rfl (Ev.eqI rfl rfl rfl) ?_
              refine RG.vl rfl rfl rfl (Ev.move rfl rfl) ?_
              refine RG.split (d := 144) rfl (fun hg117 => ?_) (fun hg117 => ?_)
              · refine RG.vl rfl rfl rfl (Ev.move rfl rfl) ?_
                refine RG.vl rfl rfl rfl (Ev.lenL rfl rfl rfl Try.underlying39 ((hm.ext hE11))) ?_
                refine RG.vl rfl rfl rfl (Ev.move rfl rfl) ?_
                refine RG.vl rfl rfl rfl (Ev.lenL rfl rfl rfl Try.underlying39 ((hn.ext hE11))) ?_
                refine RG.vl rfl rfl rfl (Ev.neI rfl rfl rfl) ?_
                refine RG.vl rfl rfl rfl (Ev.pickT rfl rfl rfl) ?_
                refine RG.done ?_
                refine QW.then_ ?_
                refine CW.condP rfl (fun hc118 => ?_) (fun hc118 => ?_)
                · refine CW.region ?_
                  refine RG.vl rfl rfl rfl (Ev.assign rfl rfl) ?_
                  refine RG.done ?_
                  refine QW.sub (S' := [(2, _), (3, _), (8, _), (16, _), (17, _), (20, _)]) ⟨rfl, rfl, rfl, rfl, rfl, rfl, trivial⟩ ?_
                  refine QW.then_ ?_
                  refine CW.seq ?_
                  refine CW.seq ?_
                  refine CW.region ?_
                  refine RG.vl rfl rfl rfl (Ev.move rfl rfl) ?_
                  refine RG.vl rfl rfl rfl (Ev.isT (Ev.neI rfl rfl rfl) (by decide)) ?_
                  refine RG.done ?_
                  refine QW.then_ ?_
                  refine CW.condT rfl ?_
                  refine CW.seq ?_
                  have hE : thrE y z = 2 := by unfold thrE; rw [if_pos (by omega), if_neg (by omega)]
                  obtain rfl := hnt26 (by rw [hE]; decide)
                  refine CW.region ?_
                  refine RG.vl rfl rfl rfl (Ev.move rfl rfl) ?_
                  refine RG.vl rfl rfl rfl (Ev.move rfl rfl) ?_
                  refine RG.vl rfl rfl rfl (Ev.isT (Ev.eqI rfl rfl rfl) (hE)) ?_
                  refine RG.vl rfl rfl rfl (Ev.move rfl rfl) ?_
                  refine RG.vl rfl rfl rfl (Ev.move rfl rfl) ?_
                  refine RG.vl rfl rfl rfl (Ev.lenL rfl rfl rfl Try.underlying39 (((Own.ext hown50 hE61).rdl encN_len))) ?_
                  refine RG.vl rfl rfl rfl (Ev.isT (Ev.eqI rfl rfl rfl) (rfl)) ?_
                  refine RG.vl rfl rfl rfl (Ev.pickT rfl rfl rfl) ?_
                  refine RG.vl rfl rfl rfl (Ev.move rfl rfl) ?_
                  refine RG.call rfl rfl rfl rfl rfl rfl rfl en_13 (awake_ret _) ?_
                  rintro _ w119 ⟨rfl, hx119⟩
                  replace hE11 := Ex.tr hE11 hx119
                  replace hE61 := Ex.tr hE61 hx119
                  replace hE63 := Ex.tr hE63 hx119
                  replace hE66 := Ex.tr hE66 hx119
                  replace hE86 := Ex.tr hE86 hx119
                  replace hE112 := Ex.tr hE112 hx119
                  replace hE114 := Ex.tr hE114 hx119
                  replace hE116 := Ex.tr hE116 hx119
                  have hE120 := hx119
                  refine RG.vl rfl rfl rfl (Ev.pickT rfl rfl rfl) ?_
                  refine RG.vl rfl rfl rfl (Ev.assign rfl rfl) ?_
                  refine RG.done ?_
                  refine QW.sub (S' := [(2, _), (3, _), (8, _), (16, _), (17, _)]) ⟨rfl, rfl, rfl, rfl, rfl, trivial⟩ ?_
                  refine QW.then_ ?_
                  refine CW.ret ?_
                  refine QW.thenRet ?_
                  refine QW.ret1 rfl rfl ?_
                  have hB := (Ex.tr hB0 hE11)
                  exact ⟨rfl, hB⟩
                · refine CW.skip ?_
                  refine QW.then_ ?_
                  refine CW.seq ?_
                  refine CW.seq ?_
                  refine CW.region ?_
                  refine RG.vl rfl rfl rfl (Ev.move rfl rfl) ?_
                  refine RG.vl rfl rfl rfl (Ev.isF (Ev.neI rfl rfl rfl) (by omega)) ?_
                  refine RG.done ?_
                  refine QW.sub (S' := [(2, _), (3, _), (8, _), (16, _), (17, _), (20, _), (152, _)]) ⟨rfl, rfl, rfl, rfl, rfl, rfl, rfl, trivial⟩ ?_
                  refine QW.then_ ?_
                  refine CW.condF rfl ?_
                  refine CW.skip ?_
                  refine QW.then_ ?_
                  refine CW.seq ?_
                  have he3 : errL [y, z] = 0 := by omega
                  obtain ⟨⟨hy128, hye⟩, hz128, hze⟩ := errL2 he3
                  refine CW.region ?_
                  refine RG.vl rfl rfl rfl (Ev.move rfl rfl) ?_
                  refine RG.vl rfl rfl rfl (Ev.move rfl rfl) ?_
                  refine RG.call rfl rfl rfl rfl rfl rfl rfl en_33 (rthr_ret _ _ _ _ _ ((hm.ext hE11)) ((hn.ext hE11)) (by omega) (by omega) (by assumption) (by assumption)) ?_
                  rintro _ w121 ⟨r121, O121, rfl, hoO121, hOt121, hx121⟩
                  replace hE11 := Ex.tr hE11 hx121
                  replace hE61 := Ex.tr hE61 hx121
                  replace hE63 := Ex.tr hE63 hx121
                  replace hE66 := Ex.tr hE66 hx121
                  replace hE86 := Ex.tr hE86 hx121
                  replace hE112 := Ex.tr hE112 hx121
                  replace hE114 := Ex.tr hE114 hx121
                  replace hE116 := Ex.tr hE116 hx121
                  have hE122 := hx121
                  refine RG.vl rfl rfl rfl (Ev.move rfl rfl) ?_
                  refine RG.vl rfl rfl rfl (Ev.extract rfl rfl rfl) ?_
                  refine RG.vl rfl rfl rfl (Ev.extract rfl rfl rfl) ?_
                  refine RG.vl rfl rfl rfl (Ev.assign rfl rfl) ?_
                  refine RG.vl rfl rfl rfl (Ev.assign rfl rfl) ?_
                  refine RG.done ?_
                  refine QW.then_ ?_
                  refine CW.seq ?_
                  refine CW.seq ?_
                  refine CW.region ?_
                  refine RG.vl rfl rfl rfl (Ev.move rfl rfl) ?_
                  refine RG.vl rfl rfl rfl (Ev.notP rfl rfl) ?_
                  refine RG.done ?_
                  refine QW.then_ ?_
                  refine CW.condP rfl (fun hc123 => ?_) (fun hc123 => ?_)
                  · refine CW.seq ?_
                    have hE : thrE y z = 2 := by unfold thrE; rw [if_pos he3, if_pos (by omega), if_neg (by assumption)]
                    obtain rfl := hnt26 (by rw [hE]; decide)
                    refine CW.region ?_
                    refine RG.vl rfl rfl rfl (Ev.move rfl rfl) ?_
                    refine RG.vl rfl rfl rfl (Ev.isT (Ev.eqI rfl rfl rfl) (hE)) ?_
                    refine RG.vl rfl rfl rfl (Ev.move rfl rfl) ?_
                    refine RG.vl rfl rfl rfl (Ev.move rfl rfl) ?_
                    refine RG.vl rfl rfl rfl (Ev.lenL rfl rfl rfl Try.underlying39 (((Own.ext hown50 hE61).rdl encN_len))) ?_
                    refine RG.vl rfl rfl rfl (Ev.isT (Ev.eqI rfl rfl rfl) (rfl)) ?_
                    refine RG.vl rfl rfl rfl (Ev.pickT rfl rfl rfl) ?_
                    refine RG.vl rfl rfl rfl (Ev.move rfl rfl) ?_
                    refine RG.call rfl rfl rfl rfl rfl rfl rfl en_13 (awake_ret _) ?_
                    rintro _ w124 ⟨rfl, hx124⟩
                    replace hE11 := Ex.tr hE11 hx124
                    replace hE61 := Ex.tr hE61 hx124
                    replace hE63 := Ex.tr hE63 hx124
                    replace hE66 := Ex.tr hE66 hx124
                    replace hE86 := Ex.tr hE86 hx124
                    replace hE112 := Ex.tr hE112 hx124
                    replace hE114 := Ex.tr hE114 hx124
                    replace hE116 := Ex.tr hE116 hx124
                    replace hE122 := Ex.tr hE122 hx124
                    have hE125 := hx124
                    refine RG.vl rfl rfl rfl (Ev.pickT rfl rfl rfl) ?_
                    refine RG.vl rfl rfl rfl (Ev.assign rfl rfl) ?_
                    refine RG.done ?_
                    refine QW.sub (S' := [(8, _), (16, _), (17, _), (21, _)]) ⟨rfl, rfl, rfl, rfl, trivial⟩ ?_
                    refine QW.then_ ?_
                    refine CW.ret ?_
                    refine QW.thenRet ?_
                    refine QW.ret1 rfl rfl ?_
                    have hB := (Ex.tr hB0 hE11)
                    exact ⟨rfl, hB⟩
                  · refine CW.skip ?_
                    refine QW.then_ ?_
                    refine CW.seq ?_
                    have hnd : y.Nodup := Decidable.not_not.1 (by assumption)
                    have hE : thrE y z = 0 := by unfold thrE; rw [if_pos he3, if_pos (by omega), if_pos hnd]
                    refine CW.region ?_
                    refine RG.vl rfl rfl rfl (Ev.move rfl rfl) ?_
                    refine RG.vl rfl rfl rfl (Ev.isT (Ev.eqI rfl rfl rfl) (hE)) ?_
                    refine RG.vl rfl rfl rfl (Ev.move rfl rfl) ?_
                    refine RG.vl rfl rfl rfl (Ev.move rfl rfl) ?_
                    refine RG.vl rfl rfl rfl (Ev.move rfl rfl) ?_
                    refine RG.call rfl rfl rfl rfl rfl rfl rfl en_31 (sameT _ _ _ _ _ (((Own.ext hown50 hE61).rdl encN_len)) (hoO121) (by have := (hth26 hE).le; omega) (isThr_uniq hye hnd (by omega) (hth26 hE) (hOt121 hnd))) ?_
                    rintro _ w126 ⟨rfl, hx126⟩
                    replace hE11 := Ex.tr hE11 hx126
                    replace hE61 := Ex.tr hE61 hx126
                    replace hE63 := Ex.tr hE63 hx126
                    replace hE66 := Ex.tr hE66 hx126
                    replace hE86 := Ex.tr hE86 hx126
                    replace hE112 := Ex.tr hE112 hx126
                    replace hE114 := Ex.tr hE114 hx126
                    replace hE116 := Ex.tr hE116 hx126
                    replace hE122 := Ex.tr hE122 hx126
                    have hE127 := hx126
                    refine RG.vl rfl rfl rfl (Ev.pickT rfl rfl rfl) ?_
                    refine RG.vl rfl rfl rfl (Ev.move rfl rfl) ?_
                    refine RG.call rfl rfl rfl rfl rfl rfl rfl en_13 (awake_ret _) ?_
                    rintro _ w128 ⟨rfl, hx128⟩
                    replace hE11 := Ex.tr hE11 hx128
                    replace hE61 := Ex.tr hE61 hx128
                    replace hE63 := Ex.tr hE63 hx128
                    replace hE66 := Ex.tr hE66 hx128
                    replace hE86 := Ex.tr hE86 hx128
                    replace hE112 := Ex.tr hE112 hx128
                    replace hE114 := Ex.tr hE114 hx128
                    replace hE116 := Ex.tr hE116 hx128
                    replace hE122 := Ex.tr hE122 hx128
                    replace hE127 := Ex.tr hE127 hx128
                    have hE129 := hx128
                    refine RG.vl rfl rfl rfl (Ev.pickT rfl rfl rfl) ?_
                    refine RG.vl rfl rfl rfl (Ev.assign rfl rfl) ?_
                    refine RG.done ?_
                    refine QW.sub (S' := [(8, _)]) ⟨rfl, trivial⟩ ?_
                    refine QW.then_ ?_
                    refine CW.ret ?_
                    refine QW.ret1 rfl rfl ?_
                    have hB := (Ex.tr hB0 hE11)
                    exact ⟨rfl, hB⟩
              · refine RG.pass rfl rfl rfl ?_
                refine RG.pass rfl rfl rfl ?_
                refine RG.pass rfl rfl rfl ?_
                refine RG.pass rfl rfl rfl ?_
                refine RG.pass rfl rfl rfl ?_
                refine RG.vl rfl rfl rfl (Ev.pickF rfl rfl rfl) ?_
                refine RG.done ?_
                refine QW.then_ ?_
                refine CW.condF rfl ?_
                refine CW.skip ?_
                refine QW.then_ ?_
                refine CW.seq ?_
                refine CW.seq ?_
                refine CW.region ?_
                refine RG.vl rfl rfl rfl (Ev.move rfl rfl) ?_
                refine RG.vl rfl rfl rfl (Ev.isT (Ev.neI rfl rfl rfl) (by omega)) ?_
                refine RG.done ?_
                refine QW.sub (S' := [(2, _), (3, _), (8, _), (16, _), (17, _), (20, _), (152, _)]) ⟨rfl, rfl, rfl, rfl, rfl, rfl, rfl, trivial⟩ ?_
                refine QW.then_ ?_
                refine CW.condT rfl ?_
                refine CW.seq ?_
                have hE : thrE y z = errL [y, z] := by unfold thrE; rw [if_neg (by omega)]
                obtain rfl := hnt26 (by rw [hE]; omega)
                refine CW.region ?_
                refine RG.vl rfl rfl rfl (Ev.move rfl rfl) ?_
                refine RG.vl rfl rfl rfl (Ev.move rfl rfl) ?_
                refine RG.vl rfl rfl rfl (Ev.isT (Ev.eqI rfl rfl rfl) (hE)) ?_
                refine RG.vl rfl rfl rfl (Ev.move rfl rfl) ?_
                refine RG.vl rfl rfl rfl (Ev.move rfl rfl) ?_
                refine RG.vl rfl rfl rfl (Ev.lenL rfl rfl rfl Try.underlying39 (((Own.ext hown50 hE61).rdl encN_len))) ?_
                refine RG.vl rfl rfl rfl (Ev.isT (Ev.eqI rfl rfl rfl) (rfl)) ?_
                refine RG.vl rfl rfl rfl (Ev.pickT rfl rfl rfl) ?_
                refine RG.vl rfl rfl rfl (Ev.move rfl rfl) ?_
                refine RG.call rfl rfl rfl rfl rfl rfl rfl en_13 (awake_ret _) ?_
                rintro _ w130 ⟨rfl, hx130⟩
                replace hE11 := Ex.tr hE11 hx130
                replace hE61 := Ex.tr hE61 hx130
                replace hE63 := Ex.tr hE63 hx130
                replace hE66 := Ex.tr hE66 hx130
                replace hE86 := Ex.tr hE86 hx130
                replace hE112 := Ex.tr hE112 hx130
                replace hE114 := Ex.tr hE114 hx130
                replace hE116 := Ex.tr hE116 hx130
                have hE131 := hx130
                refine RG.vl rfl rfl rfl (Ev.pickT rfl rfl rfl) ?_
                refine RG.vl rfl rfl rfl (Ev.assign rfl rfl) ?_
                refine RG.done ?_
                refine QW.then_ ?_
                refine CW.ret ?_
                refine QW.thenRet ?_
                refine QW.ret1 rfl rfl ?_
                have hB := (Ex.tr hB0 hE11)
                exact ⟨rfl, hB⟩
        · refine RG.pass rfl rfl rfl ?_
          refine RG.pass rfl rfl rfl ?_
          refine RG.vl rfl rfl rfl (Ev.pickF rfl rfl rfl) ?_
          refine RG.vl rfl rfl rfl (Ev.pickF rfl rfl rfl) ?_
          refine RG.vl rfl rfl rfl (Ev.move rfl rfl) ?_
          refine RG.vl rfl rfl rfl (Ev.move rfl rfl) ?_
          refine RG.vl rfl rfl rfl (Ev.isT (Ev.eqI rfl rfl rfl) (by omega)) ?_
          refine RG.vl rfl rfl rfl (Ev.move rfl rfl) ?_
          refine RG.vl rfl rfl rfl (Ev.move rfl rfl) ?_
          refine RG.vl rfl rfl rfl (Ev.move rfl rfl) ?_
          refine RG.vl rfl rfl rfl (Ev.move rfl rfl) ?_
          refine RG.call rfl rfl rfl rfl rfl rfl rfl en_29 (reval_ret _ _ _ _ ((hl.ext hE11)) (by omega) (by exact (errL2 (show errL [p, [x]] = 0 by omega)).1.2) (by exact ((errL2 (show errL [p, [x]] = 0 by omega)).2.2).head)) ?_
          rintro _ w132 ⟨rfl, hx132⟩
          replace hE11 := Ex.tr hE11 hx132
          replace hE61 := Ex.tr hE61 hx132
          replace hE63 := Ex.tr hE63 hx132
          have hE133 := hx132
          refine RG.vl rfl rfl rfl (Ev.isF (Ev.neI rfl rfl rfl) (by rw [if_pos (show errL [p, [x]] = 0 by omega)]; exact fun h => h rfl)) ?_
          refine RG.vl rfl rfl rfl (Ev.pickT rfl rfl rfl) ?_
          refine RG.vl rfl rfl rfl (Ev.pickF rfl rfl rfl) ?_
          refine RG.done ?_
          refine QW.sub (S' := [(0, _), (2, _), (3, _), (8, _), (14, _), (15, _), (16, _), (17, _), (105, _)]) ⟨rfl, rfl, rfl, rfl, rfl, rfl, rfl, rfl, rfl, trivial⟩ ?_
          refine QW.then_ ?_
          refine CW.condF rfl ?_
          refine CW.skip ?_
          refine QW.then_ ?_
          refine CW.seq ?_
          refine CW.seq ?_
          refine CW.region ?_
          refine RG.vl rfl rfl rfl (Ev.move rfl rfl) ?_
          refine RG.call rfl rfl rfl rfl rfl rfl rfl en_28 (rerr1 _ p _ ((hl.ext hE11)) (by omega)) ?_
          rintro _ w134 ⟨rfl, hx134⟩
          replace hE11 := Ex.tr hE11 hx134
          replace hE61 := Ex.tr hE61 hx134
          replace hE63 := Ex.tr hE63 hx134
          replace hE133 := Ex.tr hE133 hx134
          have hE135 := hx134
          refine RG.vl rfl rfl rfl (Ev.assign rfl rfl) ?_
          refine RG.done ?_
          refine QW.then_ ?_
          refine CW.block ?_
          refine CW.seq ?_
          refine CW.region ?_
          refine RG.vl rfl rfl rfl (Ev.move rfl rfl) ?_
          refine RG.vl rfl rfl rfl (Ev.neI rfl rfl rfl) ?_
          refine RG.vl rfl rfl rfl (Ev.assign rfl rfl) ?_
          refine RG.done ?_
          refine QW.then_ ?_
          refine CW.condP rfl (fun hc136 => ?_) (fun hc136 => ?_)
          · refine CW.seq ?_
            refine CW.region ?_
            refine RG.vl rfl rfl rfl (Ev.move rfl rfl) ?_
            refine RG.vl rfl rfl rfl (Ev.move rfl rfl) ?_
            refine RG.vl rfl rfl rfl (Ev.isF (Ev.neI rfl rfl rfl) (by rw [if_neg (show ¬ errL [p] = 0 by omega)]; exact fun h => h rfl)) ?_
            refine RG.vl rfl rfl rfl (Ev.move rfl rfl) ?_
            refine RG.vl rfl rfl rfl (Ev.move rfl rfl) ?_
            refine RG.vl rfl rfl rfl (Ev.lenL rfl rfl rfl Try.underlying39 (((Own.ext hown49 hE61).rdl encN_len))) ?_
            refine RG.vl rfl rfl rfl (Ev.isF (Ev.neI rfl rfl rfl) (by rw [if_neg (by rintro ⟨h, _⟩; omega)]; exact fun h => h rfl)) ?_
            refine RG.vl rfl rfl rfl (Ev.pickF rfl rfl rfl) ?_
            refine RG.done ?_
            refine QW.sub (S' := [(2, _), (3, _), (8, _), (16, _), (17, _), (127, _)]) ⟨rfl, rfl, rfl, rfl, rfl, rfl, trivial⟩ ?_
            refine QW.then_ ?_
            refine CW.condF rfl ?_
            refine CW.skip ?_
            refine QW.blockN ?_
            refine QW.then_ ?_
            refine CW.seq ?_
            refine CW.region ?_
            refine RG.vl rfl rfl rfl (Ev.move rfl rfl) ?_
            refine RG.vl rfl rfl rfl (Ev.move rfl rfl) ?_
            refine RG.call rfl rfl rfl rfl rfl rfl rfl en_28 (rerr_ret _ _ _ _ _ ((hm.ext hE11)) ((hn.ext hE11)) (by omega) (by omega)) ?_
            rintro _ w137 ⟨rfl, hx137⟩
            replace hE11 := Ex.tr hE11 hx137
            replace hE61 := Ex.tr hE61 hx137
            replace hE63 := Ex.tr hE63 hx137
            replace hE133 := Ex.tr hE133 hx137
            replace hE135 := Ex.tr hE135 hx137
            have hE138 := hx137
            refine RG.vl rfl rfl rfl (Ev.assign rfl rfl) ?_
            refine RG.done ?_
            refine QW.then_ ?_
            refine CW.seq ?_
            refine CW.seq ?_
            refine CW.region ?_
            refine RG.vl rfl rfl rfl (Ev.move rfl rfl) ?_
            refine RG.vl rfl rfl rfl (Ev.eqI rfl rfl rfl) ?_
            refine RG.vl rfl rfl rfl (Ev.move rfl rfl) ?_
            refine RG.split (d := 144) rfl (fun hg139 => ?_) (fun hg139 => ?_)
            · refine RG.vl rfl rfl rfl (Ev.move rfl rfl) ?_
              refine RG.vl rfl rfl rfl (Ev.lenL rfl rfl rfl Try.underlying39 ((hm.ext hE11))) ?_
              refine RG.vl rfl rfl rfl (Ev.move rfl rfl) ?_
              refine RG.vl rfl rfl rfl (Ev.lenL rfl rfl rfl Try.underlying39 ((hn.ext hE11))) ?_
              refine RG.vl rfl rfl rfl (Ev.neI rfl rfl rfl) ?_
              refine RG.vl rfl rfl rfl (Ev.pickT rfl rfl rfl) ?_
              refine RG.done ?_
              refine QW.then_ ?_
              refine CW.condP rfl (fun hc140 => ?_) (fun hc140 => ?_)
              · refine CW.region ?_
                refine RG.vl rfl rfl rfl (Ev.assign rfl rfl) ?_
                refine RG.done ?_
                refine QW.sub (S' := [(2, _), (3, _), (8, _), (16, _), (17, _), (20, _)]) ⟨rfl, rfl, rfl, rfl, rfl, rfl, trivial⟩ ?_
                refine QW.then_ ?_
                refine CW.seq ?_
                refine CW.seq ?_
                refine CW.region ?_
                refine RG.vl rfl rfl rfl (Ev.move rfl rfl) ?_
                refine RG.vl rfl rfl rfl (Ev.isT (Ev.neI rfl rfl rfl) (by decide)) ?_
                refine RG.done ?_
                refine QW.then_ ?_
                refine CW.condT rfl ?_
                refine CW.seq ?_
                have hE : thrE y z = 2 := by unfold thrE; rw [if_pos (by omega), if_neg (by omega)]
                obtain rfl := hnt26 (by rw [hE]; decide)
                refine CW.region ?_
                refine RG.vl rfl rfl rfl (Ev.move rfl rfl) ?_
                refine RG.vl rfl rfl rfl (Ev.move rfl rfl) ?_
                refine RG.vl rfl rfl rfl (Ev.isT (Ev.eqI rfl rfl rfl) (hE)) ?_
                refine RG.vl rfl rfl rfl (Ev.move rfl rfl) ?_
                refine RG.vl rfl rfl rfl (Ev.move rfl rfl) ?_
                refine RG.vl rfl rfl rfl (Ev.lenL rfl rfl rfl Try.underlying39 (((Own.ext hown50 hE61).rdl encN_len))) ?_
                refine RG.vl rfl rfl rfl (Ev.isT (Ev.eqI rfl rfl rfl) (rfl)) ?_
                refine RG.vl rfl rfl rfl (Ev.pickT rfl rfl rfl) ?_
                refine RG.vl rfl rfl rfl (Ev.move rfl rfl) ?_
                refine RG.call rfl rfl rfl rfl rfl rfl rfl en_13 (awake_ret _) ?_
                rintro _ w141 ⟨rfl, hx141⟩
                replace hE11 := Ex.tr hE11 hx141
                replace hE61 := Ex.tr hE61 hx141
                replace hE63 := Ex.tr hE63 hx141
                replace hE133 := Ex.tr hE133 hx141
                replace hE135 := Ex.tr hE135 hx141
                replace hE138 := Ex.tr hE138 hx141
                have hE142 := hx141
                refine RG.vl rfl rfl rfl (Ev.pickT rfl rfl rfl) ?_
                refine RG.vl rfl rfl rfl (Ev.assign rfl rfl) ?_
                refine RG.done ?_
                refine QW.sub (S' := [(2, _), (3, _), (8, _), (16, _), (17, _)]) ⟨rfl, rfl, rfl, rfl, rfl, trivial⟩ ?_
                refine QW.then_ ?_
                refine CW.ret ?_
                refine QW.thenRet ?_
                refine QW.ret1 rfl rfl ?_
                have hB := (Ex.tr hB0 hE11)
                exact ⟨rfl, hB⟩
              · refine CW.skip ?_
                refine QW.then_ ?_
                refine CW.seq ?_
                refine CW.seq ?_
                refine CW.region ?_
                refine RG.vl rfl rfl rfl (Ev.move rfl rfl) ?_
                refine RG.vl rfl rfl rfl (Ev.isF (Ev.neI rfl rfl rfl) (by omega)) ?_
                refine RG.done ?_
                refine QW.sub (S' := [(2, _), (3, _), (8, _), (16, _), (17, _), (20, _), (152, _)]) ⟨rfl, rfl, rfl, rfl, rfl, rfl, rfl, trivial⟩ ?_
                refine QW.then_ ?_
                refine CW.condF rfl ?_
                refine CW.skip ?_
                refine QW.then_ ?_
                refine CW.seq ?_
                have he3 : errL [y, z] = 0 := by omega
                obtain ⟨⟨hy128, hye⟩, hz128, hze⟩ := errL2 he3
                refine CW.region ?_
                refine RG.vl rfl rfl rfl (Ev.move rfl rfl) ?_
                refine RG.vl rfl rfl rfl (Ev.move rfl rfl) ?_
                refine RG.call rfl rfl rfl rfl rfl rfl rfl en_33 (rthr_ret _ _ _ _ _ ((hm.ext hE11)) ((hn.ext hE11)) (by omega) (by omega) (by assumption) (by assumption)) ?_
                rintro _ w143 ⟨r143, O143, rfl, hoO143, hOt143, hx143⟩
                replace hE11 := Ex.tr hE11 hx143
                replace hE61 := Ex.tr hE61 hx143
                replace hE63 := Ex.tr hE63 hx143
                replace hE133 := Ex.tr hE133 hx143
                replace hE135 := Ex.tr hE135 hx143
                replace hE138 := Ex.tr hE138 hx143
                have hE144 := hx143
                refine RG.vl rfl rfl rfl (Ev.move rfl rfl) ?_
                refine RG.vl rfl rfl rfl (Ev.extract rfl rfl rfl) ?_
                refine RG.vl rfl rfl rfl (Ev.extract rfl rfl rfl) ?_
                refine RG.vl rfl rfl rfl (Ev.assign rfl rfl) ?_
                refine RG.vl rfl rfl rfl (Ev.assign rfl rfl) ?_
                refine RG.done ?_
                refine QW.then_ ?_
                refine CW.seq ?_
                refine CW.seq ?_
                refine CW.region ?_
                refine RG.vl rfl rfl rfl (Ev.move rfl rfl) ?_
                refine RG.vl rfl rfl rfl (Ev.notP rfl rfl) ?_
                refine RG.done ?_
                refine QW.then_ ?_
                refine CW.condP rfl (fun hc145 => ?_) (fun hc145 => ?_)
                · refine CW.seq ?_
                  have hE : thrE y z = 2 := by unfold thrE; rw [if_pos he3, if_pos (by omega), if_neg (by assumption)]
                  obtain rfl := hnt26 (by rw [hE]; decide)
                  refine CW.region ?_
                  refine RG.vl rfl rfl rfl (Ev.move rfl rfl) ?_
                  refine RG.vl rfl rfl rfl (Ev.isT (Ev.eqI rfl rfl rfl) (hE)) ?_
                  refine RG.vl rfl rfl rfl (Ev.move rfl rfl) ?_
                  refine RG.vl rfl rfl rfl (Ev.move rfl rfl) ?_
                  refine RG.vl rfl rfl rfl (Ev.lenL rfl rfl rfl Try.underlying39 (((Own.ext hown50 hE61).rdl encN_len))) ?_
                  refine RG.vl rfl rfl rfl (Ev.isT (Ev.eqI rfl rfl rfl) (rfl)) ?_
                  refine RG.vl rfl rfl rfl (Ev.pickT rfl rfl rfl) ?_
                  refine RG.vl rfl rfl rfl (Ev.move rfl rfl) ?_
                  refine RG.call rfl rfl rfl rfl rfl rfl rfl en_13 (awake_ret _) ?_
                  rintro _ w146 ⟨rfl, hx146⟩
                  replace hE11 := Ex.tr hE11 hx146
                  replace hE61 := Ex.tr hE61 hx146
                  replace hE63 := Ex.tr hE63 hx146
                  replace hE133 := Ex.tr hE133 hx146
                  replace hE135 := Ex.tr hE135 hx146
                  replace hE138 := Ex.tr hE138 hx146
                  replace hE144 := Ex.tr hE144 hx146
                  have hE147 := hx146
                  refine RG.vl rfl rfl rfl (Ev.pickT rfl rfl rfl) ?_
                  refine RG.vl rfl rfl rfl (Ev.assign rfl rfl) ?_
                  refine RG.done ?_
                  refine QW.sub (S' := [(8, _), (16, _), (17, _), (21, _)]) ⟨rfl, rfl, rfl, rfl, trivial⟩ ?_
                  refine QW.then_ ?_
                  refine CW.ret ?_
                  refine QW.thenRet ?_
                  refine QW.ret1 rfl rfl ?_
                  have hB := (Ex.tr hB0 hE11)
                  exact ⟨rfl, hB⟩
                · refine CW.skip ?_
                  refine QW.then_ ?_
                  refine CW.seq ?_
                  have hnd : y.Nodup := Decidable.not_not.1 (by assumption)
                  have hE : thrE y z = 0 := by unfold thrE; rw [if_pos he3, if_pos (by omega), if_pos hnd]
                  refine CW.region ?_
                  refine RG.vl rfl rfl rfl (Ev.move rfl rfl) ?_
                  refine RG.vl rfl rfl rfl (Ev.isT (Ev.eqI rfl rfl rfl) (hE)) ?_
                  refine RG.vl rfl rfl rfl (Ev.move rfl rfl) ?_
                  refine RG.vl rfl rfl rfl (Ev.move rfl rfl) ?_
                  refine RG.vl rfl rfl rfl (Ev.move rfl rfl) ?_
                  refine RG.call rfl rfl rfl rfl rfl rfl rfl en_31 (sameT _ _ _ _ _ (((Own.ext hown50 hE61).rdl encN_len)) (hoO143) (by have := (hth26 hE).le; omega) (isThr_uniq hye hnd (by omega) (hth26 hE) (hOt143 hnd))) ?_
                  rintro _ w148 ⟨rfl, hx148⟩
                  replace hE11 := Ex.tr hE11 hx148
                  replace hE61 := Ex.tr hE61 hx148
                  replace hE63 := Ex.tr hE63 hx148
                  replace hE133 := Ex.tr hE133 hx148
                  replace hE135 := Ex.tr hE135 hx148
                  replace hE138 := Ex.tr hE138 hx148
                  replace hE144 := Ex.tr hE144 hx148
                  have hE149 := hx148
                  refine RG.vl rfl rfl rfl (Ev.pickT rfl rfl rfl) ?_
                  refine RG.vl rfl rfl rfl (Ev.move rfl rfl) ?_
                  refine RG.call rfl rfl rfl rfl rfl rfl rfl en_13 (awake_ret _) ?_
                  rintro _ w150 ⟨rfl, hx150⟩
                  replace hE11 := Ex.tr hE11 hx150
                  replace hE61 := Ex.tr hE61 hx150
                  replace hE63 := Ex.tr hE63 hx150
                  replace hE133 := Ex.tr hE133 hx150
                  replace hE135 := Ex.tr hE135 hx150
                  replace hE138 := Ex.tr hE138 hx150
                  replace hE144 := Ex.tr hE144 hx150
                  replace hE149 := Ex.tr hE149 hx150
                  have hE151 := hx150
                  refine RG.vl rfl rfl rfl (Ev.pickT rfl rfl rfl) ?_
                  refine RG.vl rfl rfl rfl (Ev.assign rfl rfl) ?_
                  refine RG.done ?_
                  refine QW.sub (S' := [(8, _)]) ⟨rfl, trivial⟩ ?_
                  refine QW.then_ ?_
                  refine CW.ret ?_
                  refine QW.ret1 rfl rfl ?_
                  have hB := (Ex.tr hB0 hE11)
                  exact ⟨rfl, hB⟩
            · refine RG.pass rfl rfl rfl ?_
              refine RG.pass rfl rfl rfl ?_
              refine RG.pass rfl rfl rfl ?_
              refine RG.pass rfl rfl rfl ?_
              refine RG.pass rfl rfl rfl ?_
              refine RG.vl rfl rfl rfl (Ev.pickF rfl rfl rfl) ?_
              refine RG.done ?_
              refine QW.then_ ?_
              refine CW.condF rfl ?_
              refine CW.skip ?_
              refine QW.then_ ?_
              refine CW.seq ?_
              refine CW.seq ?_
              refine CW.region ?_
              refine RG.vl rfl rfl rfl (Ev.move rfl rfl) ?_
              refine RG.vl rfl rfl rfl (Ev.isT (Ev.neI rfl rfl rfl) (by omega)) ?_
              refine RG.done ?_
              refine QW.sub (S' := [(2, _), (3, _), (8, _), (16, _), (17, _), (20, _), (152, _)]) ⟨rfl, rfl, rfl, rfl, rfl, rfl, rfl, trivial⟩ ?_
              refine QW.then_ ?_
              refine CW.condT rfl ?_
              refine CW.seq ?_
              have hE : thrE y z = errL [y, z] := by unfold thrE; rw [if_neg (by omega)]
              obtain rfl := hnt26 (by rw [hE]; omega)
              refine CW.region ?_
              refine RG.vl rfl rfl rfl (Ev.move rfl rfl) ?_
              refine RG.vl rfl rfl rfl (Ev.move rfl rfl) ?_
              refine RG.vl rfl rfl rfl (Ev.isT (Ev.eqI rfl rfl rfl) (hE)) ?_
              refine RG.vl rfl rfl rfl (Ev.move rfl rfl) ?_
              refine RG.vl rfl rfl rfl (Ev.move rfl rfl) ?_
              refine RG.vl rfl rfl rfl (Ev.lenL rfl rfl rfl Try.underlying39 (((Own.ext hown50 hE61).rdl encN_len))) ?_
              refine RG.vl rfl rfl rfl (Ev.isT (Ev.eqI rfl rfl rfl) (rfl)) ?_
              refine RG.vl rfl rfl rfl (Ev.pickT rfl rfl rfl) ?_
              refine RG.vl rfl rfl rfl (Ev.move rfl rfl) ?_
              refine RG.call rfl rfl rfl rfl rfl rfl rfl en_13 (awake_ret _) ?_
              rintro _ w152 ⟨rfl, hx152⟩
              replace hE11 := Ex.tr hE11 hx152
              replace hE61 := Ex.tr hE61 hx152
              replace hE63 := Ex.tr hE63 hx152
              replace hE133 := Ex.tr hE133 hx152
              replace hE135 := Ex.tr hE135 hx152
              replace hE138 := Ex.tr hE138 hx152
              have hE153 := hx152
              refine RG.vl rfl rfl rfl (Ev.pickT rfl rfl rfl) ?_
              refine RG.vl rfl rfl rfl (Ev.assign rfl rfl) ?_
              refine RG.done ?_
              refine QW.then_ ?_
              refine CW.ret ?_
              refine QW.thenRet ?_
              refine QW.ret1 rfl rfl ?_
              have hB := (Ex.tr hB0 hE11)
              exact ⟨rfl, hB⟩
          · refine CW.seq ?_
            refine CW.region ?_
            refine RG.vl rfl rfl rfl (Ev.move rfl rfl) ?_
            refine RG.call rfl rfl rfl rfl rfl rfl rfl en_30 (rdeg_ret _ _ _ ((hl.ext hE11)) (by omega)) ?_
            rintro _ w154 ⟨rfl, hx154⟩
            replace hE11 := Ex.tr hE11 hx154
            replace hE61 := Ex.tr hE61 hx154
            replace hE63 := Ex.tr hE63 hx154
            replace hE133 := Ex.tr hE133 hx154
            replace hE135 := Ex.tr hE135 hx154
            have hE155 := hx154
            refine RG.vl rfl rfl rfl (Ev.lss rfl rfl rfl) ?_
            refine RG.vl rfl rfl rfl (Ev.assign rfl rfl) ?_
            refine RG.done ?_
            refine QW.then_ ?_
            refine CW.condP rfl (fun hc156 => ?_) (fun hc156 => ?_)
            · refine CW.seq ?_
              refine CW.region ?_
              refine RG.vl rfl rfl rfl (Ev.move rfl rfl) ?_
              refine RG.vl rfl rfl rfl (Ev.isF (Ev.neI rfl rfl rfl) (by rw [if_pos (show errL [p] = 0 by omega), if_pos (by omega)]; exact fun h => h rfl)) ?_
              refine RG.vl rfl rfl rfl (Ev.move rfl rfl) ?_
              refine RG.vl rfl rfl rfl (Ev.move rfl rfl) ?_
              refine RG.vl rfl rfl rfl (Ev.lenL rfl rfl rfl Try.underlying39 (((Own.ext hown49 hE61).rdl encN_len))) ?_
              refine RG.vl rfl rfl rfl (Ev.isF (Ev.neI rfl rfl rfl) (by rw [if_neg (by rintro ⟨_, h⟩; omega)]; exact fun h => h rfl)) ?_
              refine RG.vl rfl rfl rfl (Ev.pickF rfl rfl rfl) ?_
              refine RG.done ?_
              refine QW.sub (S' := [(2, _), (3, _), (8, _), (16, _), (17, _), (138, _)]) ⟨rfl, rfl, rfl, rfl, rfl, rfl, trivial⟩ ?_
              refine QW.then_ ?_
              refine CW.condF rfl ?_
              refine CW.skip ?_
              refine QW.blockN ?_
              refine QW.then_ ?_
              refine CW.seq ?_
              refine CW.region ?_
              refine RG.vl rfl rfl rfl (Ev.move rfl rfl) ?_
              refine RG.vl rfl rfl rfl (Ev.move rfl rfl) ?_
              refine RG.call rfl rfl rfl rfl rfl rfl rfl en_28 (rerr_ret _ _ _ _ _ ((hm.ext hE11)) ((hn.ext hE11)) (by omega) (by omega)) ?_
              rintro _ w157 ⟨rfl, hx157⟩
              replace hE11 := Ex.tr hE11 hx157
              replace hE61 := Ex.tr hE61 hx157
              replace hE63 := Ex.tr hE63 hx157
              replace hE133 := Ex.tr hE133 hx157
              replace hE135 := Ex.tr hE135 hx157
              replace hE155 := Ex.tr hE155 hx157
              have hE158 := hx157
              refine RG.vl rfl rfl rfl (Ev.assign rfl rfl) ?_
              refine RG.done ?_
              refine QW.then_ ?_
              refine CW.seq ?_
              refine CW.seq ?_
              refine CW.region ?_
              refine RG.vl rfl rfl rfl (Ev.move rfl rfl) ?_
              refine RG.vl rfl rfl rfl (Ev.eqI rfl rfl rfl) ?_
              refine RG.vl rfl rfl rfl (Ev.move rfl rfl) ?_
              refine RG.split (d := 144) rfl (fun hg159 => ?_) (fun hg159 => ?_)
              · refine RG.vl rfl rfl rfl (Ev.move rfl rfl) ?_
                refine RG.vl rfl rfl rfl (Ev.lenL rfl rfl rfl Try.underlying39 ((hm.ext hE11))) ?_
                refine RG.vl rfl rfl rfl (Ev.move rfl rfl) ?_
                refine RG.vl rfl rfl rfl (Ev.lenL rfl rfl rfl Try.underlying39 ((hn.ext hE11))) ?_
                refine RG.vl rfl rfl rfl (Ev.neI rfl rfl rfl) ?_
                refine RG.vl rfl rfl rfl (Ev.pickT rfl rfl rfl) ?_
                refine RG.done ?_
                refine QW.then_ ?_
                refine CW.condP rfl (fun hc160 => ?_) (fun hc160 => ?_)
                · refine CW.region ?_
                  refine RG.vl rfl rfl rfl (Ev.assign rfl rfl) ?_
                  refine RG.done ?_
                  refine QW.sub (S' := [(2, _), (3, _), (8, _), (16, _), (17, _), (20, _)]) ⟨rfl, rfl, rfl, rfl, rfl, rfl, trivial⟩ ?_
                  refine QW.then_ ?_
                  refine CW.seq ?_
                  refine CW.seq ?_
                  refine CW.region ?_
                  refine RG.vl rfl rfl rfl (Ev.move rfl rfl) ?_
                  refine RG.vl rfl rfl rfl (Ev.isT (Ev.neI rfl rfl rfl) (by decide)) ?_
                  refine RG.done ?_
                  refine QW.then_ ?_
                  refine CW.condT rfl ?_
                  refine CW.seq ?_
                  have hE : thrE y z = 2 := by unfold thrE; rw [if_pos (by omega), if_neg (by omega)]
                  obtain rfl := hnt26 (by rw [hE]; decide)
                  refine CW.region ?_
                  refine RG.vl rfl rfl rfl (Ev.move rfl rfl) ?_
                  refine RG.vl rfl rfl rfl (Ev.move rfl rfl) ?_
                  refine RG.vl rfl rfl rfl (Ev.isT (Ev.eqI rfl rfl rfl) (hE)) ?_
                  refine RG.vl rfl rfl rfl (Ev.move rfl rfl) ?_
                  refine RG.vl rfl rfl rfl (Ev.move rfl rfl) ?_
                  refine RG.vl rfl rfl rfl (Ev.lenL rfl rfl rfl Try.underlying39 (((Own.ext hown50 hE61).rdl encN_len))) ?_
                  refine RG.vl rfl rfl rfl (Ev.isT (Ev.eqI rfl rfl rfl) (rfl)) ?_
                  refine RG.vl rfl rfl rfl (Ev.pickT rfl rfl rfl) ?_
                  refine RG.vl rfl rfl rfl (Ev.move rfl rfl) ?_
                  refine RG.call rfl rfl rfl rfl rfl rfl rfl en_13 (awake_ret _) ?_
                  rintro _ w161 ⟨rfl, hx161⟩
                  replace hE11 := Ex.tr hE11 hx161
                  replace hE61 := Ex.tr hE61 hx161
                  replace hE63 := Ex.tr hE63 hx161
                  replace hE133 := Ex.tr hE133 hx161
                  replace hE135 := Ex.tr hE135 hx161
                  replace hE155 := Ex.tr hE155 hx161
                  replace hE158 := Ex.tr hE158 hx161
                  have hE162 := hx161
                  refine RG.vl rfl rfl rfl (Ev.pickT rfl rfl rfl) ?_
                  refine RG.vl rfl rfl rfl (Ev.assign rfl rfl) ?_
                  refine RG.done ?_
                  refine QW.sub (S' := [(2, _), (3, _), (8, _), (16, _), (17, _)]) ⟨rfl, rfl, rfl, rfl, rfl, trivial⟩ ?_
                  refine QW.then_ ?_
                  refine CW.ret ?_
                  refine QW.thenRet ?_
                  refine QW.ret1 rfl rfl ?_
                  have hB := (Ex.tr hB0 hE11)
                  exact ⟨rfl, hB⟩
                · refine CW.skip ?_
                  refine QW.then_ ?_
                  refine CW.seq ?_
                  refine CW.seq ?_
                  refine CW.region ?_
                  refine RG.vl rfl rfl rfl (Ev.move rfl rfl) ?_
                  refine RG.vl rfl rfl rfl (Ev.isF (Ev.neI rfl rfl rfl) (by omega)) ?_
                  refine RG.done ?_
                  refine QW.sub (S' := [(2, _), (3, _), (8, _), (16, _), (17, _), (20, _), (152, _)]) ⟨rfl, rfl, rfl, rfl, rfl, rfl, rfl, trivial⟩ ?_
                  refine QW.then_ ?_
                  refine CW.condF rfl ?_
                  refine CW.skip ?_
                  refine QW.then_ ?_
                  refine CW.seq ?_
                  have he3 : errL [y, z] = 0 := by omega
                  obtain ⟨⟨hy128, hye⟩, hz128, hze⟩ := errL2 he3
                  refine CW.region ?_
                  refine RG.vl rfl rfl rfl (Ev.move rfl rfl) ?_
                  refine RG.vl rfl rfl rfl (Ev.move rfl rfl) ?_
                  refine RG.call rfl rfl rfl rfl rfl rfl rfl en_33 (rthr_ret _ _ _ _ _ ((hm.ext hE11)) ((hn.ext hE11)) (by omega) (by omega) (by assumption) (by assumption)) ?_
                  rintro _ w163 ⟨r163, O163, rfl, hoO163, hOt163, hx163⟩
                  replace hE11 := Ex.tr hE11 hx163
                  replace hE61 := Ex.tr hE61 hx163
                  replace hE63 := Ex.tr hE63 hx163
                  replace hE133 := Ex.tr hE133 hx163
                  replace hE135 := Ex.tr hE135 hx163
                  replace hE155 := Ex.tr hE155 hx163
                  replace hE158 := Ex.tr hE158 hx163
                  have hE164 := hx163
                  refine RG.vl rfl rfl rfl (Ev.move rfl rfl) ?_
                  refine RG.vl rfl rfl rfl (Ev.extract rfl rfl rfl) ?_
                  refine RG.vl rfl rfl rfl (Ev.extract rfl rfl rfl) ?_
                  refine RG.vl rfl rfl rfl (Ev.assign rfl rfl) ?_
                  refine RG.vl rfl rfl rfl (Ev.assign rfl rfl) ?_
                  refine RG.done ?_
                  refine QW.then_ ?_
                  refine CW.seq ?_
                  refine CW.seq ?_
                  refine CW.region ?_
                  refine RG.vl rfl rfl rfl (Ev.move rfl rfl) ?_
                  refine RG.vl rfl rfl rfl (Ev.notP rfl rfl) ?_
                  refine RG.done ?_
                  refine QW.then_ ?_
                  refine CW.condP rfl (fun hc165 => ?_) (fun hc165 => ?_)
                  · refine CW.seq ?_
                    have hE : thrE y z = 2 := by unfold thrE; rw [if_pos he3, if_pos (by omega), if_neg (by assumption)]
                    obtain rfl := hnt26 (by rw [hE]; decide)
                    refine CW.region ?_
                    refine RG.vl rfl rfl rfl (Ev.move rfl rfl) ?_
                    refine RG.vl rfl rfl rfl (Ev.isT (Ev.eqI rfl rfl rfl) (hE)) ?_
                    refine RG.vl rfl rfl rfl (Ev.move rfl rfl) ?_
                    refine RG.vl rfl rfl rfl (Ev.move rfl rfl) ?_
                    refine RG.vl rfl rfl rfl (Ev.lenL rfl rfl rfl Try.underlying39 (((Own.ext hown50 hE61).rdl encN_len))) ?_
                    refine RG.vl rfl rfl rfl (Ev.isT (Ev.eqI rfl rfl rfl) (rfl)) ?_
                    refine RG.vl rfl rfl rfl (Ev.pickT rfl rfl rfl) ?_
                    refine RG.vl rfl rfl rfl (Ev.move rfl rfl) ?_
                    refine RG.call rfl rfl rfl rfl rfl rfl rfl en_13 (awake_ret _) ?_
                    rintro _ w166 ⟨rfl, hx166⟩
                    replace hE11 := Ex.tr hE11 hx166
                    replace hE61 := Ex.tr hE61 hx166
                    replace hE63 := Ex.tr hE63 hx166
                    replace hE133 := Ex.tr hE133 hx166
                    replace hE135 := Ex.tr hE135 hx166
                    replace hE155 := Ex.tr hE155 hx166
                    replace hE158 := Ex.tr hE158 hx166
                    replace hE164 := Ex.tr hE164 hx166
                    have hE167 := hx166
                    refine RG.vl rfl rfl rfl (Ev.pickT rfl rfl rfl) ?_
                    refine RG.vl rfl rfl rfl (Ev.assign rfl rfl) ?_
                    refine RG.done ?_
                    refine QW.sub (S' := [(8, _), (16, _), (17, _), (21, _)]) ⟨rfl, rfl, rfl, rfl, trivial⟩ ?_
                    refine QW.then_ ?_
                    refine CW.ret ?_
                    refine QW.thenRet ?_
                    refine QW.ret1 rfl rfl ?_
                    have hB := (Ex.tr hB0 hE11)
                    exact ⟨rfl, hB⟩
                  · refine CW.skip ?_
                    refine QW.then_ ?_
                    refine CW.seq ?_
                    have hnd : y.Nodup := Decidable.not_not.1 (by assumption)
                    have hE : thrE y z = 0 := by unfold thrE; rw [if_pos he3, if_pos (by omega), if_pos hnd]
                    refine CW.region ?_
                    refine RG.vl rfl rfl rfl (Ev.move rfl rfl) ?_
                    refine RG.vl rfl rfl rfl (Ev.isT (Ev.eqI rfl rfl rfl) (hE)) ?_
                    refine RG.vl rfl rfl rfl (Ev.move rfl rfl) ?_
                    refine RG.vl rfl rfl rfl (Ev.move rfl rfl) ?_
                    refine RG.vl rfl rfl rfl (Ev.move rfl rfl) ?_
                    refine RG.call rfl rfl rfl rfl rfl rfl rfl en_31 (sameT _ _ _ _ _ (((Own.ext hown50 hE61).rdl encN_len)) (hoO163) (by have := (hth26 hE).le; omega) (isThr_uniq hye hnd (by omega) (hth26 hE) (hOt163 hnd))) ?_
                    rintro _ w168 ⟨rfl, hx168⟩
                    replace hE11 := Ex.tr hE11 hx168
                    replace hE61 := Ex.tr hE61 hx168
                    replace hE63 := Ex.tr hE63 hx168
                    replace hE133 := Ex.tr hE133 hx168
                    replace hE135 := Ex.tr hE135 hx168
                    replace hE155 := Ex.tr hE155 hx168
                    replace hE158 := Ex.tr hE158 hx168
                    replace hE164 := Ex.tr hE164 hx168
                    have hE169 := hx168
                    refine RG.vl rfl rfl rfl (Ev.pickT rfl rfl rfl) ?_
                    refine RG.vl rfl rfl rfl (Ev.move rfl rfl) ?_
                    refine RG.call rfl rfl rfl rfl rfl rfl rfl en_13 (awake_ret _) ?_
                    rintro _ w170 ⟨rfl, hx170⟩
                    replace hE11 := Ex.tr hE11 hx170
                    replace hE61 := Ex.tr hE61 hx170
                    replace hE63 := Ex.tr hE63 hx170
                    replace hE133 := Ex.tr hE133 hx170
                    replace hE135 := Ex.tr hE135 hx170
                    replace hE155 := Ex.tr hE155 hx170
                    replace hE158 := Ex.tr hE158 hx170
                    replace hE164 := Ex.tr hE164 hx170
                    replace hE169 := Ex.tr hE169 hx170
                    have hE171 := hx170
                    refine RG.vl rfl rfl rfl (Ev.pickT rfl rfl rfl) ?_
                    refine RG.vl rfl rfl rfl (Ev.assign rfl rfl) ?_
                    refine RG.done ?_
                    refine QW.sub (S' := [(8, _)]) ⟨rfl, trivial⟩ ?_
                    refine QW.then_ ?_
                    refine CW.ret ?_
                    refine QW.ret1 rfl rfl ?_
                    have hB := (Ex.tr hB0 hE11)
                    exact ⟨rfl, hB⟩
              · refine RG.pass rfl rfl rfl ?_
                refine RG.pass rfl rfl rfl ?_
                refine RG.pass rfl rfl rfl ?_
                refine RG.pass rfl rfl rfl ?_
                refine RG.pass rfl rfl rfl ?_
                refine RG.vl rfl rfl rfl (Ev.pickF rfl rfl rfl) ?_
                refine RG.done ?_
                refine QW.then_ ?_
                refine CW.condF rfl ?_
                refine CW.skip ?_
                refine QW.then_ ?_
                refine CW.seq ?_
                refine CW.seq ?_
                refine CW.region ?_
                refine RG.vl rfl rfl rfl (Ev.move rfl rfl) ?_
                refine RG.vl rfl rfl rfl (Ev.isT (Ev.neI rfl rfl rfl) (by omega)) ?_
                refine RG.done ?_
                refine QW.sub (S' := [(2, _), (3, _), (8, _), (16, _), (17, _), (20, _), (152, _)]) ⟨rfl, rfl, rfl, rfl, rfl, rfl, rfl, trivial⟩ ?_
                refine QW.then_ ?_
                refine CW.condT rfl ?_
                refine CW.seq ?_
                have hE : thrE y z = errL [y, z] := by unfold thrE; rw [if_neg (by omega)]
                obtain rfl := hnt26 (by rw [hE]; omega)
                refine CW.region ?_
                refine RG.vl rfl rfl rfl (Ev.move rfl rfl) ?_
                refine RG.vl rfl rfl rfl (Ev.move rfl rfl) ?_
                refine RG.vl rfl rfl rfl (Ev.isT (Ev.eqI rfl rfl rfl) (hE)) ?_
                refine RG.vl rfl rfl rfl (Ev.move rfl rfl) ?_
                refine RG.vl rfl rfl rfl (Ev.move rfl rfl) ?_
                refine RG.vl rfl rfl rfl (Ev.lenL rfl rfl rfl Try.underlying39 (((Own.ext hown50 hE61).rdl encN_len))) ?_
                refine RG.vl rfl rfl rfl (Ev.isT (Ev.eqI rfl rfl rfl) (rfl)) ?_
                refine RG.vl rfl rfl rfl (Ev.pickT rfl rfl rfl) ?_
                refine RG.vl rfl rfl rfl (Ev.move rfl rfl) ?_
                refine RG.call rfl rfl rfl rfl rfl rfl rfl en_13 (awake_ret _) ?_
                rintro _ w172 ⟨rfl, hx172⟩
                replace hE11 := Ex.tr hE11 hx172
                replace hE61 := Ex.tr hE61 hx172
                replace hE63 := Ex.tr hE63 hx172
                replace hE133 := Ex.tr hE133 hx172
                replace hE135 := Ex.tr hE135 hx172
                replace hE155 := Ex.tr hE155 hx172
                replace hE158 := Ex.tr hE158 hx172
                have hE173 := hx172
                refine RG.vl rfl rfl rfl (Ev.pickT rfl rfl rfl) ?_
                refine RG.vl rfl rfl rfl (Ev.assign rfl rfl) ?_
                refine RG.done ?_
                refine QW.then_ ?_
                refine CW.ret ?_
                refine QW.thenRet ?_
                refine QW.ret1 rfl rfl ?_
                have hB := (Ex.tr hB0 hE11)
                exact ⟨rfl, hB⟩
            · refine CW.seq ?_
              have he1 : errL [p] = 0 := by omega
              obtain ⟨hp128, hpe⟩ := errL1 he1
              refine CW.region ?_
              refine RG.vl rfl rfl rfl (Ev.move rfl rfl) ?_
              refine RG.vl rfl rfl rfl (Ev.isF (Ev.neI rfl rfl rfl) (by rw [if_pos (show errL [p] = 0 by omega), if_neg (by omega)]; exact fun h => h rfl)) ?_
              refine RG.vl rfl rfl rfl (Ev.move rfl rfl) ?_
              refine RG.vl rfl rfl rfl (Ev.move rfl rfl) ?_
              refine RG.vl rfl rfl rfl (Ev.move rfl rfl) ?_
              refine RG.call rfl rfl rfl rfl rfl rfl rfl en_32 (rroots_ret _ _ _ ((hl.ext hE11)) (by omega) (by assumption)) ?_
              have hpre174 := (Ex.tr hB0 hE11)
              rintro vrr174 w174 ⟨hrr174, hx174⟩
              have hsep175 : Sep vrr174 _ := Sep.of_new (Own.ext hown48 hE61) (fun k h => Own.ge hrr174 h)
              have hsep176 : Sep vrr174 _ := Sep.of_new (Own.ext hown49 hE61) (fun k h => Own.ge hrr174 h)
              have hsep177 : Sep vrr174 _ := Sep.of_new (Own.ext hown50 hE61) (fun k h => Own.ge hrr174 h)
              have hsep178 : Sep vrr174 _ := Sep.of_new (Own.ext hown51 hE61) (fun k h => Own.ge hrr174 h)
              have hsep179 : Sep vrr174 _ := Sep.of_new (Own.ext hown46 hE61) (fun k h => Own.ge hrr174 h)
              have hsep180 : Sep vrr174 _ := Sep.of_new (Own.ext hown54 hE63) (fun k h => Own.ge hrr174 h)
              replace hE11 := Ex.tr hE11 hx174
              replace hE61 := Ex.tr hE61 hx174
              replace hE63 := Ex.tr hE63 hx174
              replace hE133 := Ex.tr hE133 hx174
              replace hE135 := Ex.tr hE135 hx174
              replace hE155 := Ex.tr hE155 hx174
              have hE181 := hx174
              refine RG.call rfl rfl rfl rfl rfl rfl rfl en_31 (sameT _ _ _ _ _ (((Own.ext hown49 hE61).rdl encN_len)) ((hrr174.rdl encN_len)) (by rw [if_pos ⟨he1, by omega⟩]; have := rootsTo_len p 64; exact Nat.le_trans this (by omega)) (by rw [if_pos ⟨he1, by omega⟩])) ?_
              rintro _ w182 ⟨rfl, hx182⟩
              replace hE11 := Ex.tr hE11 hx182
              replace hE61 := Ex.tr hE61 hx182
              replace hE63 := Ex.tr hE63 hx182
              replace hE133 := Ex.tr hE133 hx182
              replace hE135 := Ex.tr hE135 hx182
              replace hE155 := Ex.tr hE155 hx182
              replace hE181 := Ex.tr hE181 hx182
              have hE183 := hx182
              refine RG.vl rfl rfl rfl (Ev.notF rfl rfl) ?_
              refine RG.vl rfl rfl rfl (Ev.pickF rfl rfl rfl) ?_
              refine RG.done ?_
              refine QW.sub (S' := [(2, _), (3, _), (8, _), (16, _), (17, _), (116, _)]) ⟨rfl, rfl, rfl, rfl, rfl, rfl, trivial⟩ ?_
              refine QW.then_ ?_
              refine CW.condF rfl ?_
              refine CW.skip ?_
              refine QW.blockN ?_
              refine QW.then_ ?_
              refine CW.seq ?_
              refine CW.region ?_
              refine RG.vl rfl rfl rfl (Ev.move rfl rfl) ?_
              refine RG.vl rfl rfl rfl (Ev.move rfl rfl) ?_
              refine RG.call rfl rfl rfl rfl rfl rfl rfl en_28 (rerr_ret _ _ _ _ _ ((hm.ext hE11)) ((hn.ext hE11)) (by omega) (by omega)) ?_
              rintro _ w184 ⟨rfl, hx184⟩
              replace hE11 := Ex.tr hE11 hx184
              replace hE61 := Ex.tr hE61 hx184
              replace hE63 := Ex.tr hE63 hx184
              replace hE133 := Ex.tr hE133 hx184
              replace hE135 := Ex.tr hE135 hx184
              replace hE155 := Ex.tr hE155 hx184
              replace hE181 := Ex.tr hE181 hx184
              replace hE183 := Ex.tr hE183 hx184
              have hE185 := hx184
              refine RG.vl rfl rfl rfl (Ev.assign rfl rfl) ?_
              refine RG.done ?_
              refine QW.then_ ?_
              refine CW.seq ?_
              refine CW.seq ?_
              refine CW.region ?_
              refine RG.vl rfl rfl rfl (Ev.move rfl rfl) ?_
              refine RG.vl rfl rfl rfl (Ev.eqI rfl rfl rfl) ?_
              refine RG.vl rfl rfl rfl (Ev.move rfl rfl) ?_
              refine RG.split (d := 144) rfl (fun hg186 => ?_) (fun hg186 => ?_)
              · refine RG.vl rfl rfl rfl (Ev.move rfl rfl) ?_
                refine RG.vl rfl rfl rfl (Ev.lenL rfl rfl rfl Try.underlying39 ((hm.ext hE11))) ?_
                refine RG.vl rfl rfl rfl (Ev.move rfl rfl) ?_
                refine RG.vl rfl rfl rfl (Ev.lenL rfl rfl rfl Try.underlying39 ((hn.ext hE11))) ?_
                refine RG.vl rfl rfl rfl (Ev.neI rfl rfl rfl) ?_
                refine RG.vl rfl rfl rfl (Ev.pickT rfl rfl rfl) ?_
                refine RG.done ?_
                refine QW.then_ ?_
                refine CW.condP rfl (fun hc187 => ?_) (fun hc187 => ?_)
                · refine CW.region ?_
                  refine RG.vl rfl rfl rfl (Ev.assign rfl rfl) ?_
                  refine RG.done ?_
                  refine QW.sub (S' := [(2, _), (3, _), (8, _), (16, _), (17, _), (20, _)]) ⟨rfl, rfl, rfl, rfl, rfl, rfl, trivial⟩ ?_
                  refine QW.then_ ?_
                  refine CW.seq ?_
                  refine CW.seq ?_
                  refine CW.region ?_
                  refine RG.vl rfl rfl rfl (Ev.move rfl rfl) ?_
                  refine RG.vl rfl rfl rfl (Ev.isT (Ev.neI rfl rfl rfl) (by decide)) ?_
                  refine RG.done ?_
                  refine QW.then_ ?_
                  refine CW.condT rfl ?_
                  refine CW.seq ?_
                  have hE : thrE y z = 2 := by unfold thrE; rw [if_pos (by omega), if_neg (by omega)]
                  obtain rfl := hnt26 (by rw [hE]; decide)
                  refine CW.region ?_
                  refine RG.vl rfl rfl rfl (Ev.move rfl rfl) ?_
                  refine RG.vl rfl rfl rfl (Ev.move rfl rfl) ?_
                  refine RG.vl rfl rfl rfl (Ev.isT (Ev.eqI rfl rfl rfl) (hE)) ?_
                  refine RG.vl rfl rfl rfl (Ev.move rfl rfl) ?_
                  refine RG.vl rfl rfl rfl (Ev.move rfl rfl) ?_
                  refine RG.vl rfl rfl rfl (Ev.lenL rfl rfl rfl Try.underlying39 (((Own.ext hown50 hE61).rdl encN_len))) ?_
                  refine RG.vl rfl rfl rfl (Ev.isT (Ev.eqI rfl rfl rfl) (rfl)) ?_
                  refine RG.vl rfl rfl rfl (Ev.pickT rfl rfl rfl) ?_
                  refine RG.vl rfl rfl rfl (Ev.move rfl rfl) ?_
                  refine RG.call rfl rfl rfl rfl rfl rfl rfl en_13 (awake_ret _) ?_
                  rintro _ w188 ⟨rfl, hx188⟩
                  replace hE11 := Ex.tr hE11 hx188
                  replace hE61 := Ex.tr hE61 hx188
                  replace hE63 := Ex.tr hE63 hx188
                  replace hE133 := Ex.tr hE133 hx188
                  replace hE135 := Ex.tr hE135 hx188
                  replace hE155 := Ex.tr hE155 hx188
                  replace hE181 := Ex.tr hE181 hx188
                  replace hE183 := Ex.tr hE183 hx188
                  replace hE185 := Ex.tr hE185 hx188
                  have hE189 := hx188
                  refine RG.vl rfl rfl rfl (Ev.pickT rfl rfl rfl) ?_
                  refine RG.vl rfl rfl rfl (Ev.assign rfl rfl) ?_
                  refine RG.done ?_
                  refine QW.sub (S' := [(2, _), (3, _), (8, _), (16, _), (17, _)]) ⟨rfl, rfl, rfl, rfl, rfl, trivial⟩ ?_
                  refine QW.then_ ?_
                  refine CW.ret ?_
                  refine QW.thenRet ?_
                  refine QW.ret1 rfl rfl ?_
                  have hB := (Ex.tr hB0 hE11)
                  exact ⟨rfl, hB⟩
                · refine CW.skip ?_
                  refine QW.then_ ?_
                  refine CW.seq ?_
                  refine CW.seq ?_
                  refine CW.region ?_
                  refine RG.vl rfl rfl rfl (Ev.move rfl rfl) ?_
                  refine RG.vl rfl rfl rfl (Ev.isF (Ev.neI rfl rfl rfl) (by omega)) ?_
                  refine RG.done ?_
                  refine QW.sub (S' := [(2, _), (3, _), (8, _), (16, _), (17, _), (20, _), (152, _)]) ⟨rfl, rfl, rfl, rfl, rfl, rfl, rfl, trivial⟩ ?_
                  refine QW.then_ ?_
                  refine CW.condF rfl ?_
                  refine CW.skip ?_
                  refine QW.then_ ?_
                  refine CW.seq ?_
                  have he3 : errL [y, z] = 0 := by omega
                  obtain ⟨⟨hy128, hye⟩, hz128, hze⟩ := errL2 he3
                  refine CW.region ?_
                  refine RG.vl rfl rfl rfl (Ev.move rfl rfl) ?_
                  refine RG.vl rfl rfl rfl (Ev.move rfl rfl) ?_
                  refine RG.call rfl rfl rfl rfl rfl rfl rfl en_33 (rthr_ret _ _ _ _ _ ((hm.ext hE11)) ((hn.ext hE11)) (by omega) (by omega) (by assumption) (by assumption)) ?_
                  rintro _ w190 ⟨r190, O190, rfl, hoO190, hOt190, hx190⟩
                  replace hE11 := Ex.tr hE11 hx190
                  replace hE61 := Ex.tr hE61 hx190
                  replace hE63 := Ex.tr hE63 hx190
                  replace hE133 := Ex.tr hE133 hx190
                  replace hE135 := Ex.tr hE135 hx190
                  replace hE155 := Ex.tr hE155 hx190
                  replace hE181 := Ex.tr hE181 hx190
                  replace hE183 := Ex.tr hE183 hx190
                  replace hE185 := Ex.tr hE185 hx190
                  have hE191 := hx190
                  refine RG.vl rfl rfl rfl (Ev.move rfl rfl) ?_
                  refine RG.vl rfl rfl rfl (Ev.extract rfl rfl rfl) ?_
                  refine RG.vl rfl rfl rfl (Ev.extract rfl rfl rfl) ?_
                  refine RG.vl rfl rfl rfl (Ev.assign rfl rfl) ?_
                  refine RG.vl rfl rfl rfl (Ev.assign rfl rfl) ?_
                  refine RG.done ?_
                  refine QW.then_ ?_
                  refine CW.seq ?_
                  refine CW.seq ?_
                  refine CW.region ?_
                  refine RG.vl rfl rfl rfl (Ev.move rfl rfl) ?_
                  refine RG.vl rfl rfl rfl (Ev.notP rfl rfl) ?_
                  refine RG.done ?_
                  refine QW.then_ ?_
                  refine CW.condP rfl (fun hc192 => ?_) (fun hc192 => ?_)
                  · refine CW.seq ?_
                    have hE : thrE y z = 2 := by unfold thrE; rw [if_pos he3, if_pos (by omega), if_neg (by assumption)]
                    obtain rfl := hnt26 (by rw [hE]; decide)
                    refine CW.region ?_
                    refine RG.vl rfl rfl rfl (Ev.move rfl rfl) ?_
                    refine RG.vl rfl rfl rfl (Ev.isT (Ev.eqI rfl rfl rfl) (hE)) ?_
                    refine RG.vl rfl rfl rfl (Ev.move rfl rfl) ?_
                    refine RG.vl rfl rfl rfl (Ev.move rfl rfl) ?_
                    refine RG.vl rfl rfl rfl (Ev.lenL rfl rfl rfl Try.underlying39 (((Own.ext hown50 hE61).rdl encN_len))) ?_
                    refine RG.vl rfl rfl rfl (Ev.isT (Ev.eqI rfl rfl rfl) (rfl)) ?_
                    refine RG.vl rfl rfl rfl (Ev.pickT rfl rfl rfl) ?_
                    refine RG.vl rfl rfl rfl (Ev.move rfl rfl) ?_
                    refine RG.call rfl rfl rfl rfl rfl rfl rfl en_13 (awake_ret _) ?_
                    rintro _ w193 ⟨rfl, hx193⟩
                    replace hE11 := Ex.tr hE11 hx193
                    replace hE61 := Ex.tr hE61 hx193
                    replace hE63 := Ex.tr hE63 hx193
                    replace hE133 := Ex.tr hE133 hx193
                    replace hE135 := Ex.tr hE135 hx193
                    replace hE155 := Ex.tr hE155 hx193
                    replace hE181 := Ex.tr hE181 hx193
                    replace hE183 := Ex.tr hE183 hx193
                    replace hE185 := Ex.tr hE185 hx193
                    replace hE191 := Ex.tr hE191 hx193
                    have hE194 := hx193
                    refine RG.vl rfl rfl rfl (Ev.pickT rfl rfl rfl) ?_
                    refine RG.vl rfl rfl rfl (Ev.assign rfl rfl) ?_
                    refine RG.done ?_
                    refine QW.sub (S' := [(8, _), (16, _), (17, _), (21, _)]) ⟨rfl, rfl, rfl, rfl, trivial⟩ ?_
                    refine QW.then_ ?_
                    refine CW.ret ?_
                    refine QW.thenRet ?_
                    refine QW.ret1 rfl rfl ?_
                    have hB := (Ex.tr hB0 hE11)
                    exact ⟨rfl, hB⟩
                  · refine CW.skip ?_
                    refine QW.then_ ?_
                    refine CW.seq ?_
                    have hnd : y.Nodup := Decidable.not_not.1 (by assumption)
                    have hE : thrE y z = 0 := by unfold thrE; rw [if_pos he3, if_pos (by omega), if_pos hnd]
                    refine CW.region ?_
                    refine RG.vl rfl rfl rfl (Ev.move rfl rfl) ?_
                    refine RG.vl rfl rfl rfl (Ev.isT (Ev.eqI rfl rfl rfl) (hE)) ?_
                    refine RG.vl rfl rfl rfl (Ev.move rfl rfl) ?_
                    refine RG.vl rfl rfl rfl (Ev.move rfl rfl) ?_
                    refine RG.vl rfl rfl rfl (Ev.move rfl rfl) ?_
                    refine RG.call rfl rfl rfl rfl rfl rfl rfl en_31 (sameT _ _ _ _ _ (((Own.ext hown50 hE61).rdl encN_len)) (hoO190) (by have := (hth26 hE).le; omega) (isThr_uniq hye hnd (by omega) (hth26 hE) (hOt190 hnd))) ?_
                    rintro _ w195 ⟨rfl, hx195⟩
                    replace hE11 := Ex.tr hE11 hx195
                    replace hE61 := Ex.tr hE61 hx195
                    replace hE63 := Ex.tr hE63 hx195
                    replace hE133 := Ex.tr hE133 hx195
                    replace hE135 := Ex.tr hE135 hx195
                    replace hE155 := Ex.tr hE155 hx195
                    replace hE181 := Ex.tr hE181 hx195
                    replace hE183 := Ex.tr hE183 hx195
                    replace hE185 := Ex.tr hE185 hx195
                    replace hE191 := Ex.tr hE191 hx195
                    have hE196 := hx195
                    refine RG.vl rfl rfl rfl (Ev.pickT rfl rfl rfl) ?_
                    refine RG.vl rfl rfl rfl (Ev.move rfl rfl) ?_
                    refine RG.call rfl rfl rfl rfl rfl rfl rfl en_13 (awake_ret _) ?_
                    rintro _ w197 ⟨rfl, hx197⟩
                    replace hE11 := Ex.tr hE11 hx197
                    replace hE61 := Ex.tr hE61 hx197
                    replace hE63 := Ex.tr hE63 hx197
                    replace hE133 := Ex.tr hE133 hx197
                    replace hE135 := Ex.tr hE135 hx197
                    replace hE155 := Ex.tr hE155 hx197
                    replace hE181 := Ex.tr hE181 hx197
                    replace hE183 := Ex.tr hE183 hx197
                    replace hE185 := Ex.tr hE185 hx197
                    replace hE191 := Ex.tr hE191 hx197
                    replace hE196 := Ex.tr hE196 hx197
                    have hE198 := hx197
                    refine RG.vl rfl rfl rfl (Ev.pickT rfl rfl rfl) ?_
                    refine RG.vl rfl rfl rfl (Ev.assign rfl rfl) ?_
                    refine RG.done ?_
                    refine QW.sub (S' := [(8, _)]) ⟨rfl, trivial⟩ ?_
                    refine QW.then_ ?_
                    refine CW.ret ?_
                    refine QW.ret1 rfl rfl ?_
                    have hB := (Ex.tr hB0 hE11)
                    exact ⟨rfl, hB⟩
              · refine RG.pass rfl rfl rfl ?_
                refine RG.pass rfl rfl rfl ?_
                refine RG.pass rfl rfl rfl ?_
                refine RG.pass rfl rfl rfl ?_
                refine RG.pass rfl rfl rfl ?_
                refine RG.vl rfl rfl rfl (Ev.pickF rfl rfl rfl) ?_
                refine RG.done ?_
                refine QW.then_ ?_
                refine CW.condF rfl ?_
                refine CW.skip ?_
                refine QW.then_ ?_
                refine CW.seq ?_
                refine CW.seq ?_
                refine CW.region ?_
                refine RG.vl rfl rfl rfl (Ev.move rfl rfl) ?_
                refine RG.vl rfl rfl rfl (Ev.isT (Ev.neI rfl rfl rfl) (by omega)) ?_
                refine RG.done ?_
                refine QW.sub (S' := [(2, _), (3, _), (8, _), (16, _), (17, _), (20, _), (152, _)]) ⟨rfl, rfl, rfl, rfl, rfl, rfl, rfl, trivial⟩ ?_
                refine QW.then_ ?_
                refine CW.condT rfl ?_
                refine CW.seq ?_
                have hE : thrE y z = errL [y, z] := by unfold thrE; rw [if_neg (by omega)]
                obtain rfl := hnt26 (by rw [hE]; omega)
                refine CW.region ?_
                refine RG.vl rfl rfl rfl (Ev.move rfl rfl) ?_
                refine RG.vl rfl rfl rfl (Ev.move rfl rfl) ?_
                refine RG.vl rfl rfl rfl (Ev.isT (Ev.eqI rfl rfl rfl) (hE)) ?_
                refine RG.vl rfl rfl rfl (Ev.move rfl rfl) ?_
                refine RG.vl rfl rfl rfl (Ev.move rfl rfl) ?_
                refine RG.vl rfl rfl rfl (Ev.lenL rfl rfl rfl Try.underlying39 (((Own.ext hown50 hE61).rdl encN_len))) ?_
                refine RG.vl rfl rfl rfl (Ev.isT (Ev.eqI rfl rfl rfl) (rfl)) ?_
                refine RG.vl rfl rfl rfl (Ev.pickT rfl rfl rfl) ?_
                refine RG.vl rfl rfl rfl (Ev.move rfl rfl) ?_
                refine RG.call rfl rfl rfl rfl rfl rfl rfl en_13 (awake_ret _) ?_
                rintro _ w199 ⟨rfl, hx199⟩
                replace hE11 := Ex.tr hE11 hx199
                replace hE61 := Ex.tr hE61 hx199
                replace hE63 := Ex.tr hE63 hx199
                replace hE133 := Ex.tr hE133 hx199
                replace hE135 := Ex.tr hE135 hx199
                replace hE155 := Ex.tr hE155 hx199
                replace hE181 := Ex.tr hE181 hx199
                replace hE183 := Ex.tr hE183 hx199
                replace hE185 := Ex.tr hE185 hx199
                have hE200 := hx199
                refine RG.vl rfl rfl rfl (Ev.pickT rfl rfl rfl) ?_
                refine RG.vl rfl rfl rfl (Ev.assign rfl rfl) ?_
                refine RG.done ?_
                refine QW.then_ ?_
                refine CW.ret ?_
                refine QW.thenRet ?_
                refine QW.ret1 rfl rfl ?_
                have hB := (Ex.tr hB0 hE11)
                exact ⟨rfl, hB⟩

end Go.Proofs.Ytjaledljhiihmaa
