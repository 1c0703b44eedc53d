/- Walks (GH). Written by program. -/
import Derived.Test.YtjaledljhiihmaaT
import Derived.Test.YtjaledljhiihmaaGJ
namespace Go.Proofs.Ytjaledljhiihmaa
open Go.RowKit
set_option maxRecDepth 100000 in
set_option maxHeartbeats 16000000 in
theorem fieldPolys_ret (u v : Value) (p q : List Nat) (w : World) (hl : RdL w 1 encN u p) (_ : ∀ c ∈ p, c < 256) (hm : RdL w 1 encN v q) (_ : ∀ c ∈ q, c < 256) :
    Ret Try.prog 9 [u, v] w (fun v w' => v = .bool true ∧ Ex w w') := by
  have hB0 : Ex w w := Ex.rfl_ _
  refine Ret.of Try.func9 rfl Try.ntmps9 rfl ?_
  refine CW.seq ?_
  refine CW.region ?_
  refine RG.vl rfl rfl rfl (Ev.assign rfl rfl) ?_
  refine RG.done ?_
  refine QW.then_ ?_
  refine CW.seq ?_
  refine CW.seq ?_
  refine CW.region ?_
  refine RG.vl rfl rfl rfl (Ev.move rfl rfl) ?_
  refine RG.vl rfl rfl rfl (Ev.lenL rfl rfl rfl Try.underlying39 (hl)) ?_
  refine RG.vl rfl rfl rfl (Ev.gtr rfl rfl rfl) ?_
  refine RG.vl rfl rfl rfl (Ev.move rfl rfl) ?_
  refine RG.split (d := 26) rfl (fun hg1 => ?_) (fun hg1 => ?_)
  · refine RG.pass rfl rfl rfl ?_
    refine RG.pass rfl rfl rfl ?_
    refine RG.pass rfl rfl rfl ?_
    refine RG.vl rfl rfl rfl (Ev.pickT rfl rfl rfl) ?_
    refine RG.done ?_
    refine QW.then_ ?_
    refine CW.condT rfl ?_
    refine CW.seq ?_
    refine CW.region ?_
    refine RG.call rfl rfl rfl rfl rfl rfl rfl en_13 (awake_ret _) ?_
    rintro _ w2 ⟨rfl, hx2⟩
    have hE3 := hx2
    refine RG.vl rfl rfl rfl (Ev.assign rfl rfl) ?_
    refine RG.done ?_
    refine QW.then_ ?_
    refine CW.ret ?_
    refine QW.thenRet ?_
    refine QW.ret1 rfl rfl ?_
    have hB := (Ex.tr hB0 hE3)
    exact ⟨rfl, hB⟩
  · refine RG.vl rfl rfl rfl (Ev.move rfl rfl) ?_
    refine RG.vl rfl rfl rfl (Ev.lenL rfl rfl rfl Try.underlying39 (hm)) ?_
    refine RG.vl rfl rfl rfl (Ev.gtr rfl rfl rfl) ?_
    refine RG.vl rfl rfl rfl (Ev.pickF rfl rfl rfl) ?_
    refine RG.done ?_
    refine QW.then_ ?_
    refine CW.condP rfl (fun hc4 => ?_) (fun hc4 => ?_)
    · refine CW.seq ?_
      refine CW.region ?_
      refine RG.call rfl rfl rfl rfl rfl rfl rfl en_13 (awake_ret _) ?_
      rintro _ w5 ⟨rfl, hx5⟩
      have hE6 := hx5
      refine RG.vl rfl rfl rfl (Ev.assign rfl rfl) ?_
      refine RG.done ?_
      refine QW.then_ ?_
      refine CW.ret ?_
      refine QW.thenRet ?_
      refine QW.ret1 rfl rfl ?_
      have hB := (Ex.tr hB0 hE6)
      exact ⟨rfl, hB⟩
    · refine CW.skip ?_
      refine QW.then_ ?_
      refine CW.seq ?_
      refine CW.region ?_
      refine RG.vl rfl rfl rfl (Ev.move rfl rfl) ?_
      refine RG.call rfl rfl rfl rfl rfl rfl rfl en_22 (lent_ret _ _ _ (hl) (by omega)) ?_
      have hpre7 := hB0
      rintro _ w7 ⟨g7, c7, rfl, hol7, hx7⟩
      have hE8 := hx7
      refine RG.vl rfl rfl rfl (Ev.move rfl rfl) ?_
      refine RG.call rfl rfl rfl rfl rfl rfl rfl en_22 (lent_ret _ _ _ ((hm.ext hE8)) (by omega)) ?_
      have hpre9 := (Ex.tr hB0 hE8)
      rintro _ w9 ⟨g9, c9, rfl, hol9, hx9⟩
      have hsep10 : Sep (Value.slice (some ⟨g9, 0, none⟩) (_ + 12) c9) _ := Sep.of_new hol7 (fun k h => Own.ge hol9 h)
      replace hol9 := Own.low (B' := w.heap.size) hol9 (by have := (Ex.tr hB0 hE8).size; omega)
      replace hE8 := Ex.tr hE8 hx9
      have hE11 := hx9
      refine RG.vl rfl rfl rfl (Ev.assign rfl rfl) ?_
      refine RG.vl rfl rfl rfl (Ev.assign rfl rfl) ?_
      refine RG.done ?_
      refine QW.sub (S' := [(0, _), (1, _), (4, _), (5, _), (6, _)]) ⟨rfl, rfl, rfl, rfl, rfl, trivial⟩ ?_
      refine QW.then_ ?_
      refine CW.seq ?_
      refine CW.region ?_
      refine RG.vl rfl rfl rfl (Ev.move rfl rfl) ?_
      refine RG.call rfl rfl rfl rfl rfl rfl rfl en_38 (trim_ret _ _ _ ((lent_rdl (by rw [List.length_append, mks_len]) (Own.ext hol7 hE11))) (by omega)) ?_
      have hpre12 := (Ex.tr hB0 hE8)
      rintro _ w12 ⟨r12, rfl, hot12, hx12⟩
      have hsep13 : Sep r12 _ := Sep.of_new (Own.ext hol7 hE11) (fun k h => Own.ge hot12 h)
      have hsep14 : Sep r12 _ := Sep.of_new hol9 (fun k h => Own.ge hot12 h)
      replace hE8 := Ex.tr hE8 hx12
      replace hE11 := Ex.tr hE11 hx12
      have hE15 := hx12
      refine RG.vl rfl rfl rfl (Ev.move rfl rfl) ?_
      refine RG.vl rfl rfl rfl (Ev.extract rfl rfl rfl) ?_
      refine RG.vl rfl rfl rfl (Ev.extract rfl rfl rfl) ?_
      refine RG.vl rfl rfl rfl (Ev.assign rfl rfl) ?_
      refine RG.vl rfl rfl rfl (Ev.assign rfl rfl) ?_
      refine RG.done ?_
      refine QW.then_ ?_
      refine CW.seq ?_
      refine CW.region ?_
      refine RG.vl rfl rfl rfl (Ev.move rfl rfl) ?_
      refine RG.call rfl rfl rfl rfl rfl rfl rfl en_35 (Degree_ret _ _ _ ((lent_rdl (by rw [List.length_append, mks_len]) (Own.ext hol7 hE11))) (by omega)) ?_
      rintro _ w16 ⟨rfl, hx16⟩
      replace hE8 := Ex.tr hE8 hx16
      replace hE11 := Ex.tr hE11 hx16
      replace hE15 := Ex.tr hE15 hx16
      have hE17 := hx16
      refine RG.vl rfl rfl rfl (Ev.move rfl rfl) ?_
      refine RG.vl rfl rfl rfl (Ev.extract rfl rfl rfl) ?_
      refine RG.vl rfl rfl rfl (Ev.extract rfl rfl rfl) ?_
      refine RG.vl rfl rfl rfl (Ev.assign rfl rfl) ?_
      refine RG.vl rfl rfl rfl (Ev.assign rfl rfl) ?_
      refine RG.done ?_
      refine QW.sub (S' := [(0, _), (1, _), (4, _), (5, _), (6, _), (7, _), (8, _), (9, _), (10, _)]) ⟨rfl, rfl, rfl, rfl, rfl, rfl, rfl, rfl, rfl, trivial⟩ ?_
      refine QW.then_ ?_
      refine CW.seq ?_
      refine CW.region ?_
      refine RG.vl rfl rfl rfl (Ev.move rfl rfl) ?_
      refine RG.vl rfl rfl rfl (Ev.move rfl rfl) ?_
      refine RG.call rfl rfl rfl rfl rfl rfl rfl en_39 (sum_ret _ _ _ _ _ ((lent_rdl (by rw [List.length_append, mks_len]) (Own.ext hol7 hE11))) ((lent_rdl (by rw [List.length_append, mks_len]) (Own.ext hol9 hE15))) (by omega) (by omega)) ?_
      have hpre18 := (Ex.tr hB0 hE8)
      rintro _ w18 ⟨r18, rfl, hos18, hx18⟩
      have hsep19 : Sep r18 _ := Sep.of_new (Own.ext hol7 hE11) (fun k h => Own.ge hos18 h)
      have hsep20 : Sep r18 _ := Sep.of_new (Own.ext hol9 hE15) (fun k h => Own.ge hos18 h)
      have hsep21 : Sep r18 _ := Sep.of_new (Own.ext hot12 hE17) (fun k h => Own.ge hos18 h)
      replace hE8 := Ex.tr hE8 hx18
      replace hE11 := Ex.tr hE11 hx18
      replace hE15 := Ex.tr hE15 hx18
      replace hE17 := Ex.tr hE17 hx18
      have hE22 := hx18
      refine RG.vl rfl rfl rfl (Ev.move rfl rfl) ?_
      refine RG.vl rfl rfl rfl (Ev.extract rfl rfl rfl) ?_
      refine RG.vl rfl rfl rfl (Ev.extract rfl rfl rfl) ?_
      refine RG.vl rfl rfl rfl (Ev.assign rfl rfl) ?_
      refine RG.vl rfl rfl rfl (Ev.assign rfl rfl) ?_
      refine RG.done ?_
      refine QW.then_ ?_
      refine CW.seq ?_
      refine CW.region ?_
      refine RG.vl rfl rfl rfl (Ev.move rfl rfl) ?_
      refine RG.vl rfl rfl rfl (Ev.move rfl rfl) ?_
      refine RG.call rfl rfl rfl rfl rfl rfl rfl en_37 (product_ret _ _ _ _ _ ((lent_rdl (by rw [List.length_append, mks_len]) (Own.ext hol7 hE11))) ((lent_rdl (by rw [List.length_append, mks_len]) (Own.ext hol9 hE15))) (by omega) (by omega)) ?_
      have hpre23 := (Ex.tr hB0 hE8)
      rintro _ w23 ⟨r23, rfl, hop23, hx23⟩
      have hsep24 : Sep r23 _ := Sep.of_new (Own.ext hol7 hE11) (fun k h => Own.ge hop23 h)
      have hsep25 : Sep r23 _ := Sep.of_new (Own.ext hol9 hE15) (fun k h => Own.ge hop23 h)
      have hsep26 : Sep r23 _ := Sep.of_new (Own.ext hot12 hE17) (fun k h => Own.ge hop23 h)
      have hsep27 : Sep r23 _ := Sep.of_new hos18 (fun k h => Own.ge hop23 h)
      replace hE8 := Ex.tr hE8 hx23
      replace hE11 := Ex.tr hE11 hx23
      replace hE15 := Ex.tr hE15 hx23
      replace hE17 := Ex.tr hE17 hx23
      replace hE22 := Ex.tr hE22 hx23
      have hE28 := hx23
      refine RG.vl rfl rfl rfl (Ev.move rfl rfl) ?_
      refine RG.vl rfl rfl rfl (Ev.extract rfl rfl rfl) ?_
      refine RG.vl rfl rfl rfl (Ev.extract rfl rfl rfl) ?_
      refine RG.vl rfl rfl rfl (Ev.assign rfl rfl) ?_
      refine RG.vl rfl rfl rfl (Ev.assign rfl rfl) ?_
      refine RG.done ?_
      refine QW.sub (S' := [(0, _), (1, _), (4, _), (5, _), (6, _), (7, _), (8, _), (9, _), (10, _), (11, _), (12, _), (13, _), (14, _)]) ⟨rfl, rfl, rfl, rfl, rfl, rfl, rfl, rfl, rfl, rfl, rfl, rfl, rfl, trivial⟩ ?_
      refine QW.then_ ?_
      refine CW.seq ?_
      refine CW.region ?_
      refine RG.vl rfl rfl rfl (Ev.move rfl rfl) ?_
      refine RG.vl rfl rfl rfl (Ev.move rfl rfl) ?_
      refine RG.call rfl rfl rfl rfl rfl rfl rfl en_36 (divide_ret _ _ _ _ _ ((lent_rdl (by rw [List.length_append, mks_len]) (Own.ext hol7 hE11))) ((lent_rdl (by rw [List.length_append, mks_len]) (Own.ext hol9 hE15))) (by omega) (by omega)) ?_
      have hpre29 := (Ex.tr hB0 hE8)
      rintro _ w29 ⟨r129, r229, d29, e29, rfl, hod29, hoe29, hsp29, hdv29, hnd29, hx29⟩
      have hsep30 : Sep r129 _ := Sep.of_new (Own.ext hol7 hE11) (fun k h => Own.ge hod29 h)
      have hsep31 : Sep r129 _ := Sep.of_new (Own.ext hol9 hE15) (fun k h => Own.ge hod29 h)
      have hsep32 : Sep r129 _ := Sep.of_new (Own.ext hot12 hE17) (fun k h => Own.ge hod29 h)
      have hsep33 : Sep r129 _ := Sep.of_new (Own.ext hos18 hE28) (fun k h => Own.ge hod29 h)
      have hsep34 : Sep r129 _ := Sep.of_new hop23 (fun k h => Own.ge hod29 h)
      have hsep35 : Sep r229 _ := Sep.of_new (Own.ext hol7 hE11) (fun k h => Own.ge hoe29 h)
      have hsep36 : Sep r229 _ := Sep.of_new (Own.ext hol9 hE15) (fun k h => Own.ge hoe29 h)
      have hsep37 : Sep r229 _ := Sep.of_new (Own.ext hot12 hE17) (fun k h => Own.ge hoe29 h)
      have hsep38 : Sep r229 _ := Sep.of_new (Own.ext hos18 hE28) (fun k h => Own.ge hoe29 h)
      have hsep39 : Sep r229 _ := Sep.of_new hop23 (fun k h => Own.ge hoe29 h)
      replace hE8 := Ex.tr hE8 hx29
      replace hE11 := Ex.tr hE11 hx29
      replace hE15 := Ex.tr hE15 hx29
      replace hE17 := Ex.tr hE17 hx29
      replace hE22 := Ex.tr hE22 hx29
      replace hE28 := Ex.tr hE28 hx29
      have hE40 := hx29
      refine RG.vl rfl rfl rfl (Ev.move rfl rfl) ?_
      refine RG.vl rfl rfl rfl (Ev.extract rfl rfl rfl) ?_
      refine RG.vl rfl rfl rfl (Ev.extract rfl rfl rfl) ?_
      refine RG.vl rfl rfl rfl (Ev.extract rfl rfl rfl) ?_
      refine RG.vl rfl rfl rfl (Ev.assign rfl rfl) ?_
      refine RG.vl rfl rfl rfl (Ev.assign rfl rfl) ?_
      refine RG.vl rfl rfl rfl (Ev.assign rfl rfl) ?_
      refine RG.done ?_
      refine QW.then_ ?_
      refine CW.seq ?_
      refine CW.seq ?_
      refine CW.region ?_
      refine RG.vl rfl rfl rfl (Ev.move rfl rfl) ?_
      refine RG.vl rfl rfl rfl (Ev.move rfl rfl) ?_
      refine RG.call rfl rfl rfl rfl rfl rfl rfl en_26 (kept_ret _ _ _ _ _ (lent_big (Own.ext hol7 hE11)) (hl.ext hE8) (lent_cap (Own.ext hol7 hE11)) (by omega)) ?_
      rintro _ w41 ⟨rfl, hx41⟩
      replace hE8 := Ex.tr hE8 hx41
      replace hE11 := Ex.tr hE11 hx41
      replace hE15 := Ex.tr hE15 hx41
      replace hE17 := Ex.tr hE17 hx41
      replace hE22 := Ex.tr hE22 hx41
      replace hE28 := Ex.tr hE28 hx41
      replace hE40 := Ex.tr hE40 hx41
      have hE42 := hx41
      refine RG.vl rfl rfl rfl (Ev.notF rfl rfl) ?_
      refine RG.vl rfl rfl rfl (Ev.move rfl rfl) ?_
      refine RG.vl rfl rfl rfl (Ev.move rfl rfl) ?_
      refine RG.vl rfl rfl rfl (Ev.move rfl rfl) ?_
      refine RG.call rfl rfl rfl rfl rfl rfl rfl en_26 (kept_ret _ _ _ _ _ (lent_big (Own.ext hol9 hE15)) (hm.ext hE8) (lent_cap (Own.ext hol9 hE15)) (by omega)) ?_
      rintro _ w43 ⟨rfl, hx43⟩
      replace hE8 := Ex.tr hE8 hx43
      replace hE11 := Ex.tr hE11 hx43
      replace hE15 := Ex.tr hE15 hx43
      replace hE17 := Ex.tr hE17 hx43
      replace hE22 := Ex.tr hE22 hx43
      replace hE28 := Ex.tr hE28 hx43
      replace hE40 := Ex.tr hE40 hx43
      replace hE42 := Ex.tr hE42 hx43
      have hE44 := hx43
      refine RG.vl rfl rfl rfl (Ev.notF rfl rfl) ?_
      refine RG.vl rfl rfl rfl (Ev.pickF rfl rfl rfl) ?_
      refine RG.done ?_
      refine QW.sub (S' := [(0, _), (1, _), (4, _), (5, _), (6, _), (7, _), (8, _), (9, _), (10, _), (11, _), (12, _), (13, _), (14, _), (15, _), (16, _), (17, _), (74, _)]) ⟨rfl, rfl, rfl, rfl, rfl, rfl, rfl, rfl, rfl, rfl, rfl, rfl, rfl, rfl, rfl, rfl, rfl, trivial⟩ ?_
      refine QW.then_ ?_
      refine CW.condF rfl ?_
      refine CW.skip ?_
      refine QW.then_ ?_
      refine CW.seq ?_
      refine CW.region ?_
      refine RG.vl rfl rfl rfl (Ev.move rfl rfl) ?_
      refine RG.call rfl rfl rfl rfl rfl rfl rfl en_27 (over_ret w _ _ _ _ _ (Ex.tr hB0 hE8) (lent_norm (Own.ext hol7 hE11)) (lent_cap2 (Own.ext hol7 hE11)) (lent_len _) (by omega)) ?_
      rintro _ w45 ⟨ys45, hown46, hgr47⟩
      have hown48 := Own.grown (Own.ext hol9 hE15) hgr47 (fun k a b => (Sep.symm hsep10) k b a)
      have hown49 := Own.grown (Own.ext hot12 hE17) hgr47 (fun k a b => (Sep.symm hsep13) k b a)
      have hown50 := Own.grown (Own.ext hos18 hE28) hgr47 (fun k a b => (Sep.symm hsep19) k b a)
      have hown51 := Own.grown (Own.ext hop23 hE40) hgr47 (fun k a b => (Sep.symm hsep24) k b a)
      have hown52 := Own.grown (Own.ext hod29 hE42) hgr47 (fun k a b => (Sep.symm hsep30) k b a)
      have hown53 := Own.grown (Own.ext hoe29 hE42) hgr47 (fun k a b => (Sep.symm hsep35) k b a)
      replace hE8 := own_block (Own.ext hol7 hE11) hE8 hgr47 (Nat.le_refl _) hE8.size
      refine RG.done ?_
      refine QW.then_ ?_
      refine CW.seq ?_
      refine CW.region ?_
      refine RG.vl rfl rfl rfl (Ev.move rfl rfl) ?_
      refine RG.call rfl rfl rfl rfl rfl rfl rfl en_27 (over_ret w _ _ _ _ _ (Ex.tr hB0 hE8) (lent_norm hown48) (lent_cap2 hown48) (lent_len _) (by omega)) ?_
      rintro _ w54 ⟨ys54, hown55, hgr56⟩
      have hown57 := Own.grown hown49 hgr56 (fun k a b => (Sep.symm hsep14) k b a)
      have hown58 := Own.grown hown50 hgr56 (fun k a b => (Sep.symm hsep20) k b a)
      have hown59 := Own.grown hown51 hgr56 (fun k a b => (Sep.symm hsep25) k b a)
      have hown60 := Own.grown hown52 hgr56 (fun k a b => (Sep.symm hsep31) k b a)
      have hown61 := Own.grown hown53 hgr56 (fun k a b => (Sep.symm hsep36) k b a)
      have hown62 := Own.grown hown46 hgr56 (fun k a b => hsep10 k b a)
      replace hE8 := own_block hown48 hE8 hgr56 (Nat.le_refl _) hE8.size
      refine RG.done ?_
      refine QW.then_ ?_
      refine CW.seq ?_
      refine CW.region ?_
      refine RG.vl rfl rfl rfl (Ev.move rfl rfl) ?_
      refine RG.call rfl rfl rfl rfl rfl rfl rfl en_28 (rerr1 _ p _ ((hl.ext hE8)) (by omega)) ?_
      rintro _ w63 ⟨rfl, hx63⟩
      replace hE8 := Ex.tr hE8 hx63
      have hE64 := hx63
      refine RG.vl rfl rfl rfl (Ev.move rfl rfl) ?_
      refine RG.vl rfl rfl rfl (Ev.move rfl rfl) ?_
      refine RG.call rfl rfl rfl rfl rfl rfl rfl en_28 (rerr_ret _ _ _ _ _ ((hl.ext hE8)) ((hm.ext hE8)) (by omega) (by omega)) ?_
      rintro _ w65 ⟨rfl, hx65⟩
      replace hE8 := Ex.tr hE8 hx65
      replace hE64 := Ex.tr hE64 hx65
      have hE66 := hx65
      refine RG.vl rfl rfl rfl (Ev.assign rfl rfl) ?_
      refine RG.vl rfl rfl rfl (Ev.assign rfl rfl) ?_
      refine RG.done ?_
      refine QW.then_ ?_
      refine CW.seq ?_
      refine CW.seq ?_
      refine CW.region ?_
      refine RG.vl rfl rfl rfl (Ev.move rfl rfl) ?_
      refine RG.vl rfl rfl rfl (Ev.move rfl rfl) ?_
      refine RG.vl rfl rfl rfl (Ev.isF (Ev.neI rfl rfl rfl) (fun h => h rfl)) ?_
      refine RG.vl rfl rfl rfl (Ev.move rfl rfl) ?_
      refine RG.vl rfl rfl rfl (Ev.move rfl rfl) ?_
      refine RG.vl rfl rfl rfl (Ev.move rfl rfl) ?_
      refine RG.vl rfl rfl rfl (Ev.isF (Ev.neI rfl rfl rfl) (fun h => h rfl)) ?_
      refine RG.vl rfl rfl rfl (Ev.pickF rfl rfl rfl) ?_
      refine RG.vl rfl rfl rfl (Ev.move rfl rfl) ?_
      refine RG.vl rfl rfl rfl (Ev.move rfl rfl) ?_
      refine RG.vl rfl rfl rfl (Ev.move rfl rfl) ?_
      refine RG.vl rfl rfl rfl (Ev.isF (Ev.neI rfl rfl rfl) (fun h => h rfl)) ?_
      refine RG.vl rfl rfl rfl (Ev.pickF rfl rfl rfl) ?_
      refine RG.done ?_
      refine QW.sub (S' := [(0, _), (1, _), (4, _), (7, _), (9, _), (11, _), (13, _), (14, _), (15, _), (16, _), (17, _), (18, _), (19, _), (96, _)]) ⟨rfl, rfl, rfl, rfl, rfl, rfl, rfl, rfl, rfl, rfl, rfl, rfl, rfl, rfl, trivial⟩ ?_
      refine QW.then_ ?_
      refine CW.condF rfl ?_
      refine CW.skip ?_
      refine QW.then_ ?_
      refine CW.seq ?_
      refine CW.seq ?_
      refine CW.region ?_
      refine RG.vl rfl rfl rfl (Ev.move rfl rfl) ?_
      refine RG.vl rfl rfl rfl (Ev.eqI rfl rfl rfl) ?_
      refine RG.done ?_
      refine QW.then_ ?_
      refine CW.condP rfl (fun hc67 => ?_) (fun hc67 => ?_)
      · refine CW.seq ?_
        have he1 : errL [p] = 0 := by omega
        have hdl := dg_len p
        refine CW.region ?_
        refine RG.vl rfl rfl rfl (Ev.move rfl rfl) ?_
        refine RG.vl rfl rfl rfl (Ev.move rfl rfl) ?_
        refine RG.call rfl rfl rfl rfl rfl rfl rfl en_40 (rtrim_ret _ _ _ ((hl.ext hE8)) (by omega)) ?_
        have hpre68 := (Ex.tr hB0 hE8)
        rintro vrt68 w68 ⟨hrt68, hx68⟩
        have hsep69 : Sep vrt68 _ := Sep.of_new (Own.ext hown57 hE64) (fun k h => Own.ge hrt68 h)
        have hsep70 : Sep vrt68 _ := Sep.of_new (Own.ext hown58 hE64) (fun k h => Own.ge hrt68 h)
        have hsep71 : Sep vrt68 _ := Sep.of_new (Own.ext hown59 hE64) (fun k h => Own.ge hrt68 h)
        have hsep72 : Sep vrt68 _ := Sep.of_new (Own.ext hown60 hE64) (fun k h => Own.ge hrt68 h)
        have hsep73 : Sep vrt68 _ := Sep.of_new (Own.ext hown61 hE64) (fun k h => Own.ge hrt68 h)
        have hsep74 : Sep vrt68 _ := Sep.of_new (Own.ext hown62 hE64) (fun k h => Own.ge hrt68 h)
        have hsep75 : Sep vrt68 _ := Sep.of_new (Own.ext hown55 hE64) (fun k h => Own.ge hrt68 h)
        replace hE8 := Ex.tr hE8 hx68
        replace hE64 := Ex.tr hE64 hx68
        replace hE66 := Ex.tr hE66 hx68
        have hE76 := hx68
        refine RG.call rfl rfl rfl rfl rfl rfl rfl en_31 (sameT _ _ _ _ _ (((Own.ext hown57 hE64).rdl encN_len)) ((hrt68.rdl encN_len)) (by rw [if_pos he1, tr_len]; omega) (by rw [if_pos he1])) ?_
        rintro _ w77 ⟨rfl, hx77⟩
        replace hE8 := Ex.tr hE8 hx77
        replace hE64 := Ex.tr hE64 hx77
        replace hE66 := Ex.tr hE66 hx77
        replace hE76 := Ex.tr hE76 hx77
        have hE78 := hx77
        refine RG.vl rfl rfl rfl (Ev.notF rfl rfl) ?_
        refine RG.vl rfl rfl rfl (Ev.move rfl rfl) ?_
        refine RG.vl rfl rfl rfl (Ev.move rfl rfl) ?_
        refine RG.vl rfl rfl rfl (Ev.move rfl rfl) ?_
        refine RG.call rfl rfl rfl rfl rfl rfl rfl en_30 (rdeg_ret _ _ _ ((hl.ext hE8)) (by omega)) ?_
        rintro _ w79 ⟨rfl, hx79⟩
        replace hE8 := Ex.tr hE8 hx79
        replace hE64 := Ex.tr hE64 hx79
        replace hE66 := Ex.tr hE66 hx79
        replace hE76 := Ex.tr hE76 hx79
        replace hE78 := Ex.tr hE78 hx79
        have hE80 := hx79
        refine RG.vl rfl rfl rfl (Ev.isF (Ev.neI rfl rfl rfl) (by rw [if_pos he1]; exact fun h => h rfl)) ?_
        refine RG.vl rfl rfl rfl (Ev.pickF rfl rfl rfl) ?_
        refine RG.done ?_
        refine QW.then_ ?_
        refine CW.condF rfl ?_
        refine CW.skip ?_
        refine QW.then_ ?_
        refine CW.seq ?_
        refine CW.seq ?_
        refine CW.region ?_
        refine RG.vl rfl rfl rfl (Ev.move rfl rfl) ?_
        refine RG.vl rfl rfl rfl (Ev.neI rfl rfl rfl) ?_
        refine RG.done ?_
        refine QW.sub (S' := [(0, _), (1, _), (4, _), (11, _), (13, _), (14, _), (15, _), (16, _), (17, _), (19, _), (118, _)]) ⟨rfl, rfl, rfl, rfl, rfl, rfl, rfl, rfl, rfl, rfl, rfl, trivial⟩ ?_
        refine QW.then_ ?_
        refine CW.condP rfl (fun hc81 => ?_) (fun hc81 => ?_)
        · refine CW.seq ?_
          have he2 : ¬ errL [p, q] = 0 := by omega
          have hmE : ¬ mulE p q = 0 := by unfold mulE; rw [if_neg he2]; exact he2
          have hdE : ¬ divE p q = 0 := by unfold divE; rw [if_neg he2]; exact he2
          rw [if_neg he2] at hown58
          rw [if_neg hmE] at hown59
          obtain ⟨rfl, rfl⟩ := hnd29 hdE
          have hn0 : ([] : List Nat).length = 0 := rfl
          refine CW.region ?_
          refine RG.vl rfl rfl rfl (Ev.move rfl rfl) ?_
          refine RG.vl rfl rfl rfl (Ev.move rfl rfl) ?_
          refine RG.vl rfl rfl rfl (Ev.isT (Ev.eqI rfl rfl rfl) (by unfold mulE; rw [if_neg he2])) ?_
          refine RG.vl rfl rfl rfl (Ev.move rfl rfl) ?_
          refine RG.vl rfl rfl rfl (Ev.move rfl rfl) ?_
          refine RG.vl rfl rfl rfl (Ev.move rfl rfl) ?_
          refine RG.vl rfl rfl rfl (Ev.isT (Ev.eqI rfl rfl rfl) (by unfold divE; rw [if_neg he2])) ?_
          refine RG.vl rfl rfl rfl (Ev.pickT rfl rfl rfl) ?_
          refine RG.vl rfl rfl rfl (Ev.move rfl rfl) ?_
          refine RG.vl rfl rfl rfl (Ev.move rfl rfl) ?_
          refine RG.vl rfl rfl rfl (Ev.lenL rfl rfl rfl Try.underlying39 (((Own.ext hown58 hE64).rdl encN_len))) ?_
          refine RG.vl rfl rfl rfl (Ev.move rfl rfl) ?_
          refine RG.vl rfl rfl rfl (Ev.lenL rfl rfl rfl Try.underlying39 (((Own.ext hown59 hE64).rdl encN_len))) ?_
          refine RG.vl rfl rfl rfl (Ev.addI rfl rfl rfl (by omega)) ?_
          refine RG.vl rfl rfl rfl (Ev.move rfl rfl) ?_
          refine RG.vl rfl rfl rfl (Ev.lenL rfl rfl rfl Try.underlying39 (((Own.ext hown60 hE64).rdl encN_len))) ?_
          refine RG.vl rfl rfl rfl (Ev.addI rfl rfl rfl (by omega)) ?_
          refine RG.vl rfl rfl rfl (Ev.move rfl rfl) ?_
          refine RG.vl rfl rfl rfl (Ev.lenL rfl rfl rfl Try.underlying39 (((Own.ext hown61 hE64).rdl encN_len))) ?_
          refine RG.vl rfl rfl rfl (Ev.addI rfl rfl rfl (by omega)) ?_
          refine RG.vl rfl rfl rfl (Ev.isT (Ev.eqI rfl rfl rfl) (by omega)) ?_
          refine RG.vl rfl rfl rfl (Ev.pickT rfl rfl rfl) ?_
          refine RG.vl rfl rfl rfl (Ev.move rfl rfl) ?_
          refine RG.call rfl rfl rfl rfl rfl rfl rfl en_13 (awake_ret _) ?_
          rintro _ w82 ⟨rfl, hx82⟩
          replace hE8 := Ex.tr hE8 hx82
          replace hE64 := Ex.tr hE64 hx82
          replace hE66 := Ex.tr hE66 hx82
          replace hE76 := Ex.tr hE76 hx82
          replace hE78 := Ex.tr hE78 hx82
          replace hE80 := Ex.tr hE80 hx82
          have hE83 := hx82
          refine RG.vl rfl rfl rfl (Ev.pickT rfl rfl rfl) ?_
          refine RG.vl rfl rfl rfl (Ev.assign rfl rfl) ?_
          refine RG.done ?_
          refine QW.sub (S' := [(0, _), (1, _), (4, _), (11, _), (13, _), (14, _), (15, _), (16, _), (17, _)]) ⟨rfl, rfl, rfl, rfl, rfl, rfl, rfl, rfl, rfl, trivial⟩ ?_
          refine QW.then_ ?_
          refine CW.ret ?_
          refine QW.thenRet ?_
          refine QW.ret1 rfl rfl ?_
          have hB := (Ex.tr hB0 hE8)
          exact ⟨rfl, hB⟩
        · refine CW.skip ?_
          refine QW.then_ ?_
          refine CW.seq ?_
          refine CW.seq ?_
          have he2 : errL [p, q] = 0 := by omega
          obtain ⟨⟨hp128, hpe⟩, hq128, hqe⟩ := errL2 he2
          have hdp := dg_len p
          have hdq := dg_len q
          refine CW.region ?_
          refine RG.vl rfl rfl rfl (Ev.move rfl rfl) ?_
          refine RG.vl rfl rfl rfl (Ev.move rfl rfl) ?_
          refine RG.vl rfl rfl rfl (Ev.move rfl rfl) ?_
          refine RG.call rfl rfl rfl rfl rfl rfl rfl en_41 (rsum_ret _ _ _ _ _ ((hl.ext hE8)) ((hm.ext hE8)) (by omega) (by omega) (by assumption) (by assumption)) ?_
          have hpre84 := (Ex.tr hB0 hE8)
          rintro vrs84 w84 ⟨hrs84, hx84⟩
          have hsep85 : Sep vrs84 _ := Sep.of_new (Own.ext hown57 hE64) (fun k h => Own.ge hrs84 h)
          have hsep86 : Sep vrs84 _ := Sep.of_new (Own.ext hown58 hE64) (fun k h => Own.ge hrs84 h)
          have hsep87 : Sep vrs84 _ := Sep.of_new (Own.ext hown59 hE64) (fun k h => Own.ge hrs84 h)
          have hsep88 : Sep vrs84 _ := Sep.of_new (Own.ext hown60 hE64) (fun k h => Own.ge hrs84 h)
          have hsep89 : Sep vrs84 _ := Sep.of_new (Own.ext hown61 hE64) (fun k h => Own.ge hrs84 h)
          have hsep90 : Sep vrs84 _ := Sep.of_new (Own.ext hown62 hE64) (fun k h => Own.ge hrs84 h)
          have hsep91 : Sep vrs84 _ := Sep.of_new (Own.ext hown55 hE64) (fun k h => Own.ge hrs84 h)
          have hsep92 : Sep vrs84 _ := Sep.of_new (Own.ext hrt68 hE78) (fun k h => Own.ge hrs84 h)
          replace hE8 := Ex.tr hE8 hx84
          replace hE64 := Ex.tr hE64 hx84
          replace hE66 := Ex.tr hE66 hx84
          replace hE76 := Ex.tr hE76 hx84
          replace hE78 := Ex.tr hE78 hx84
          replace hE80 := Ex.tr hE80 hx84
          have hE93 := hx84
          refine RG.call rfl rfl rfl rfl rfl rfl rfl en_31 (sameT _ _ _ _ _ (((Own.ext hown58 hE64).rdl encN_len)) ((hrs84.rdl encN_len)) (by rw [if_pos he2, tr_len]; have := dg_len (pa p q); rw [pa_len] at this; omega) (by rw [if_pos he2])) ?_
          rintro _ w94 ⟨rfl, hx94⟩
          replace hE8 := Ex.tr hE8 hx94
          replace hE64 := Ex.tr hE64 hx94
          replace hE66 := Ex.tr hE66 hx94
          replace hE76 := Ex.tr hE76 hx94
          replace hE78 := Ex.tr hE78 hx94
          replace hE80 := Ex.tr hE80 hx94
          replace hE93 := Ex.tr hE93 hx94
          have hE95 := hx94
          refine RG.vl rfl rfl rfl (Ev.notF rfl rfl) ?_
          refine RG.done ?_
          refine QW.then_ ?_
          refine CW.condF rfl ?_
          refine CW.skip ?_
          refine QW.then_ ?_
          refine CW.seq ?_
          refine CW.region ?_
          refine RG.vl rfl rfl rfl (Ev.move rfl rfl) ?_
          refine RG.vl rfl rfl rfl (Ev.move rfl rfl) ?_
          refine RG.call rfl rfl rfl rfl rfl rfl rfl en_42 (rprod_ret _ _ _ _ _ ((hl.ext hE8)) ((hm.ext hE8)) (by omega) (by omega) (by assumption) (by assumption)) ?_
          have hpre96 := (Ex.tr hB0 hE8)
          rintro vrp96 w96 ⟨hrp96, hx96⟩
          have hsep97 : Sep vrp96 _ := Sep.of_new (Own.ext hown57 hE64) (fun k h => Own.ge hrp96 h)
          have hsep98 : Sep vrp96 _ := Sep.of_new (Own.ext hown58 hE64) (fun k h => Own.ge hrp96 h)
          have hsep99 : Sep vrp96 _ := Sep.of_new (Own.ext hown59 hE64) (fun k h => Own.ge hrp96 h)
          have hsep100 : Sep vrp96 _ := Sep.of_new (Own.ext hown60 hE64) (fun k h => Own.ge hrp96 h)
          have hsep101 : Sep vrp96 _ := Sep.of_new (Own.ext hown61 hE64) (fun k h => Own.ge hrp96 h)
          have hsep102 : Sep vrp96 _ := Sep.of_new (Own.ext hown62 hE64) (fun k h => Own.ge hrp96 h)
          have hsep103 : Sep vrp96 _ := Sep.of_new (Own.ext hown55 hE64) (fun k h => Own.ge hrp96 h)
          have hsep104 : Sep vrp96 _ := Sep.of_new (Own.ext hrt68 hE78) (fun k h => Own.ge hrp96 h)
          have hsep105 : Sep vrp96 _ := Sep.of_new (Own.ext hrs84 hE95) (fun k h => Own.ge hrp96 h)
          replace hE8 := Ex.tr hE8 hx96
          replace hE64 := Ex.tr hE64 hx96
          replace hE66 := Ex.tr hE66 hx96
          replace hE76 := Ex.tr hE76 hx96
          replace hE78 := Ex.tr hE78 hx96
          replace hE80 := Ex.tr hE80 hx96
          replace hE93 := Ex.tr hE93 hx96
          replace hE95 := Ex.tr hE95 hx96
          have hE106 := hx96
          refine RG.vl rfl rfl rfl (Ev.assign rfl rfl) ?_
          refine RG.done ?_
          refine QW.then_ ?_
          refine CW.seq ?_
          refine CW.seq ?_
          have hpml := trpm_len p q
          refine CW.region ?_
          refine RG.vl rfl rfl rfl (Ev.move rfl rfl) ?_
          refine RG.vl rfl rfl rfl (Ev.lenL rfl rfl rfl Try.underlying39 ((hrp96.rdl encN_len))) ?_
          refine RG.vl rfl rfl rfl (Ev.gtr rfl rfl rfl) ?_
          refine RG.done ?_
          refine QW.then_ ?_
          refine CW.condP rfl (fun hc107 => ?_) (fun hc107 => ?_)
          · refine CW.seq ?_
            have hmE : mulE p q = 5 := by unfold mulE; rw [if_pos he2, if_pos]; split at hpml <;> omega
            refine CW.region ?_
            refine RG.vl rfl rfl rfl (Ev.move rfl rfl) ?_
            refine RG.vl rfl rfl rfl (Ev.isF (Ev.neI rfl rfl rfl) (by rw [hmE]; decide)) ?_
            refine RG.vl rfl rfl rfl (Ev.move rfl rfl) ?_
            refine RG.vl rfl rfl rfl (Ev.move rfl rfl) ?_
            refine RG.vl rfl rfl rfl (Ev.lenL rfl rfl rfl Try.underlying39 (((Own.ext hown59 hE64).rdl encN_len))) ?_
            refine RG.vl rfl rfl rfl (Ev.isF (Ev.neI rfl rfl rfl) (by rw [if_neg (by rw [hmE]; decide)]; exact fun h => h rfl)) ?_
            refine RG.vl rfl rfl rfl (Ev.pickF rfl rfl rfl) ?_
            refine RG.done ?_
            refine QW.sub (S' := [(0, _), (1, _), (4, _), (15, _), (16, _), (17, _), (162, _)]) ⟨rfl, rfl, rfl, rfl, rfl, rfl, rfl, trivial⟩ ?_
            refine QW.then_ ?_
            refine CW.condF rfl ?_
            refine CW.skip ?_
            refine QW.then_ ?_
            refine CW.seq ?_
            refine CW.seq ?_
            refine CW.region ?_
            refine RG.vl rfl rfl rfl (Ev.move rfl rfl) ?_
            refine RG.call rfl rfl rfl rfl rfl rfl rfl en_30 (rdeg_ret _ _ _ ((hm.ext hE8)) (by omega)) ?_
            rintro _ w108 ⟨rfl, hx108⟩
            replace hE8 := Ex.tr hE8 hx108
            replace hE64 := Ex.tr hE64 hx108
            replace hE66 := Ex.tr hE66 hx108
            replace hE76 := Ex.tr hE76 hx108
            replace hE78 := Ex.tr hE78 hx108
            replace hE80 := Ex.tr hE80 hx108
            replace hE93 := Ex.tr hE93 hx108
            replace hE95 := Ex.tr hE95 hx108
            replace hE106 := Ex.tr hE106 hx108
            have hE109 := hx108
            refine RG.vl rfl rfl rfl (Ev.lss rfl rfl rfl) ?_
            refine RG.done ?_
            refine QW.then_ ?_
            refine CW.condP rfl (fun hc110 => ?_) (fun hc110 => ?_)
            · refine CW.seq ?_
              have hdE : divE p q = 6 := by unfold divE; rw [if_pos he2, if_pos (by omega)]
              obtain ⟨rfl, rfl⟩ := hnd29 (by rw [hdE]; decide)
              have hn0 : ([] : List Nat).length = 0 := rfl
              refine CW.region ?_
              refine RG.vl rfl rfl rfl (Ev.move rfl rfl) ?_
              refine RG.vl rfl rfl rfl (Ev.isT (Ev.eqI rfl rfl rfl) (hdE)) ?_
              refine RG.vl rfl rfl rfl (Ev.move rfl rfl) ?_
              refine RG.vl rfl rfl rfl (Ev.move rfl rfl) ?_
              refine RG.vl rfl rfl rfl (Ev.lenL rfl rfl rfl Try.underlying39 (((Own.ext hown60 hE64).rdl encN_len))) ?_
              refine RG.vl rfl rfl rfl (Ev.move rfl rfl) ?_
              refine RG.vl rfl rfl rfl (Ev.lenL rfl rfl rfl Try.underlying39 (((Own.ext hown61 hE64).rdl encN_len))) ?_
              refine RG.vl rfl rfl rfl (Ev.addI rfl rfl rfl (by omega)) ?_
              refine RG.vl rfl rfl rfl (Ev.isT (Ev.eqI rfl rfl rfl) (by omega)) ?_
              refine RG.vl rfl rfl rfl (Ev.pickT rfl rfl rfl) ?_
              refine RG.vl rfl rfl rfl (Ev.move rfl rfl) ?_
              refine RG.call rfl rfl rfl rfl rfl rfl rfl en_13 (awake_ret _) ?_
              rintro _ w111 ⟨rfl, hx111⟩
              replace hE8 := Ex.tr hE8 hx111
              replace hE64 := Ex.tr hE64 hx111
              replace hE66 := Ex.tr hE66 hx111
              replace hE76 := Ex.tr hE76 hx111
              replace hE78 := Ex.tr hE78 hx111
              replace hE80 := Ex.tr hE80 hx111
              replace hE93 := Ex.tr hE93 hx111
              replace hE95 := Ex.tr hE95 hx111
              replace hE106 := Ex.tr hE106 hx111
              replace hE109 := Ex.tr hE109 hx111
              have hE112 := hx111
              refine RG.vl rfl rfl rfl (Ev.pickT rfl rfl rfl) ?_
              refine RG.vl rfl rfl rfl (Ev.assign rfl rfl) ?_
              refine RG.done ?_
              refine QW.sub (S' := [(0, _), (1, _), (4, _), (15, _), (16, _), (17, _)]) ⟨rfl, rfl, rfl, rfl, rfl, rfl, trivial⟩ ?_
              refine QW.then_ ?_
              refine CW.ret ?_
              refine QW.thenRet ?_
              refine QW.ret1 rfl rfl ?_
              have hB := (Ex.tr hB0 hE8)
              exact ⟨rfl, hB⟩
            · refine CW.skip ?_
              refine QW.then_ ?_
              refine CW.seq ?_
              refine CW.region ?_
              refine RG.vl rfl rfl rfl (Ev.move rfl rfl) ?_
              refine RG.vl rfl rfl rfl (Ev.move rfl rfl) ?_
              refine RG.call rfl rfl rfl rfl rfl rfl rfl en_43 (rdiv_ret _ _ _ _ _ ((hl.ext hE8)) ((hm.ext hE8)) (by omega) (by omega) (by assumption) (by assumption) (by omega)) ?_
              rintro _ w113 ⟨r1113, r2113, d113, e113, rfl, hod113, hoe113, hdv113, hdt113, het113, hde113, hee113, hx113⟩
              replace hE8 := Ex.tr hE8 hx113
              replace hE64 := Ex.tr hE64 hx113
              replace hE66 := Ex.tr hE66 hx113
              replace hE76 := Ex.tr hE76 hx113
              replace hE78 := Ex.tr hE78 hx113
              replace hE80 := Ex.tr hE80 hx113
              replace hE93 := Ex.tr hE93 hx113
              replace hE95 := Ex.tr hE95 hx113
              replace hE106 := Ex.tr hE106 hx113
              replace hE109 := Ex.tr hE109 hx113
              have hE114 := hx113
              refine RG.vl rfl rfl rfl (Ev.move rfl rfl) ?_
              refine RG.vl rfl rfl rfl (Ev.extract rfl rfl rfl) ?_
              refine RG.vl rfl rfl rfl (Ev.extract rfl rfl rfl) ?_
              refine RG.vl rfl rfl rfl (Ev.assign rfl rfl) ?_
              refine RG.vl rfl rfl rfl (Ev.assign rfl rfl) ?_
              refine RG.done ?_
              refine QW.then_ ?_
              refine CW.seq ?_
              have hdE : divE p q = 0 := by unfold divE; rw [if_pos he2, if_neg (by omega)]
              have hdd := hdv29 hdE
              obtain ⟨hq1, hq2⟩ := isDiv_eq hqe hdd hdv113 hdt113 het113 hde113
              obtain ⟨hq3, hq4⟩ := div_lens (by omega) hdd
              refine CW.region ?_
              refine RG.vl rfl rfl rfl (Ev.move rfl rfl) ?_
              refine RG.vl rfl rfl rfl (Ev.isT (Ev.eqI rfl rfl rfl) (hdE)) ?_
              refine RG.vl rfl rfl rfl (Ev.move rfl rfl) ?_
              refine RG.vl rfl rfl rfl (Ev.move rfl rfl) ?_
              refine RG.vl rfl rfl rfl (Ev.move rfl rfl) ?_
              refine RG.call rfl rfl rfl rfl rfl rfl rfl en_31 (sameT _ _ _ _ _ (((Own.ext hown60 hE64).rdl encN_len)) (hod113) (by omega) (hq1)) ?_
              rintro _ w115 ⟨rfl, hx115⟩
              replace hE8 := Ex.tr hE8 hx115
              replace hE64 := Ex.tr hE64 hx115
              replace hE66 := Ex.tr hE66 hx115
              replace hE76 := Ex.tr hE76 hx115
              replace hE78 := Ex.tr hE78 hx115
              replace hE80 := Ex.tr hE80 hx115
              replace hE93 := Ex.tr hE93 hx115
              replace hE95 := Ex.tr hE95 hx115
              replace hE106 := Ex.tr hE106 hx115
              replace hE109 := Ex.tr hE109 hx115
              replace hE114 := Ex.tr hE114 hx115
              have hE116 := hx115
              refine RG.vl rfl rfl rfl (Ev.pickT rfl rfl rfl) ?_
              refine RG.vl rfl rfl rfl (Ev.move rfl rfl) ?_
              refine RG.vl rfl rfl rfl (Ev.move rfl rfl) ?_
              refine RG.vl rfl rfl rfl (Ev.move rfl rfl) ?_
              refine RG.call rfl rfl rfl rfl rfl rfl rfl en_31 (sameT _ _ _ _ _ (((Own.ext hown61 hE64).rdl encN_len)) ((hoe113.ext hE116)) (by omega) (hq2)) ?_
              rintro _ w117 ⟨rfl, hx117⟩
              replace hE8 := Ex.tr hE8 hx117
              replace hE64 := Ex.tr hE64 hx117
              replace hE66 := Ex.tr hE66 hx117
              replace hE76 := Ex.tr hE76 hx117
              replace hE78 := Ex.tr hE78 hx117
              replace hE80 := Ex.tr hE80 hx117
              replace hE93 := Ex.tr hE93 hx117
              replace hE95 := Ex.tr hE95 hx117
              replace hE106 := Ex.tr hE106 hx117
              replace hE109 := Ex.tr hE109 hx117
              replace hE114 := Ex.tr hE114 hx117
              replace hE116 := Ex.tr hE116 hx117
              have hE118 := hx117
              refine RG.vl rfl rfl rfl (Ev.pickT rfl rfl rfl) ?_
              refine RG.vl rfl rfl rfl (Ev.move rfl rfl) ?_
              refine RG.call rfl rfl rfl rfl rfl rfl rfl en_13 (awake_ret _) ?_
              rintro _ w119 ⟨rfl, hx119⟩
              replace hE8 := Ex.tr hE8 hx119
              replace hE64 := Ex.tr hE64 hx119
              replace hE66 := Ex.tr hE66 hx119
              replace hE76 := Ex.tr hE76 hx119
              replace hE78 := Ex.tr hE78 hx119
              replace hE80 := Ex.tr hE80 hx119
              replace hE93 := Ex.tr hE93 hx119
              replace hE95 := Ex.tr hE95 hx119
              replace hE106 := Ex.tr hE106 hx119
              replace hE109 := Ex.tr hE109 hx119
              replace hE114 := Ex.tr hE114 hx119
              replace hE116 := Ex.tr hE116 hx119
              replace hE118 := Ex.tr hE118 hx119
              have hE120 := hx119
              refine RG.vl rfl rfl rfl (Ev.pickT rfl rfl rfl) ?_
              refine RG.vl rfl rfl rfl (Ev.assign rfl rfl) ?_
              refine RG.done ?_
              refine QW.sub (S' := [(4, _)]) ⟨rfl, trivial⟩ ?_
              refine QW.then_ ?_
              refine CW.ret ?_
              refine QW.ret1 rfl rfl ?_
              have hB := (Ex.tr hB0 hE8)
              exact ⟨rfl, hB⟩
          · refine CW.seq ?_
            have hmE : mulE p q = 0 := by unfold mulE; rw [if_pos he2, if_neg]; split at hpml <;> omega
            have hpml2 : (tr (pm p q)).length ≤ 100000 := by omega
            refine CW.region ?_
            refine RG.vl rfl rfl rfl (Ev.move rfl rfl) ?_
            refine RG.vl rfl rfl rfl (Ev.isF (Ev.neI rfl rfl rfl) (by rw [hmE]; decide)) ?_
            refine RG.vl rfl rfl rfl (Ev.move rfl rfl) ?_
            refine RG.vl rfl rfl rfl (Ev.move rfl rfl) ?_
            refine RG.vl rfl rfl rfl (Ev.move rfl rfl) ?_
            refine RG.call rfl rfl rfl rfl rfl rfl rfl en_31 (sameT _ _ _ _ _ (((Own.ext hown59 hE64).rdl encN_len)) ((hrp96.rdl encN_len)) (by rw [if_pos hmE, hpml]; omega) (by rw [if_pos hmE])) ?_
            rintro _ w121 ⟨rfl, hx121⟩
            replace hE8 := Ex.tr hE8 hx121
            replace hE64 := Ex.tr hE64 hx121
            replace hE66 := Ex.tr hE66 hx121
            replace hE76 := Ex.tr hE76 hx121
            replace hE78 := Ex.tr hE78 hx121
            replace hE80 := Ex.tr hE80 hx121
            replace hE93 := Ex.tr hE93 hx121
            replace hE95 := Ex.tr hE95 hx121
            replace hE106 := Ex.tr hE106 hx121
            have hE122 := hx121
            refine RG.vl rfl rfl rfl (Ev.notF rfl rfl) ?_
            refine RG.vl rfl rfl rfl (Ev.pickF rfl rfl rfl) ?_
            refine RG.done ?_
            refine QW.sub (S' := [(0, _), (1, _), (4, _), (15, _), (16, _), (17, _), (170, _)]) ⟨rfl, rfl, rfl, rfl, rfl, rfl, rfl, trivial⟩ ?_
            refine QW.then_ ?_
            refine CW.condF rfl ?_
            refine CW.skip ?_
            refine QW.then_ ?_
            refine CW.seq ?_
            refine CW.seq ?_
            refine CW.region ?_
            refine RG.vl rfl rfl rfl (Ev.move rfl rfl) ?_
            refine RG.call rfl rfl rfl rfl rfl rfl rfl en_30 (rdeg_ret _ _ _ ((hm.ext hE8)) (by omega)) ?_
            rintro _ w123 ⟨rfl, hx123⟩
            replace hE8 := Ex.tr hE8 hx123
            replace hE64 := Ex.tr hE64 hx123
            replace hE66 := Ex.tr hE66 hx123
            replace hE76 := Ex.tr hE76 hx123
            replace hE78 := Ex.tr hE78 hx123
            replace hE80 := Ex.tr hE80 hx123
            replace hE93 := Ex.tr hE93 hx123
            replace hE95 := Ex.tr hE95 hx123
            replace hE106 := Ex.tr hE106 hx123
            replace hE122 := Ex.tr hE122 hx123
            have hE124 := hx123
            refine RG.vl rfl rfl rfl (Ev.lss rfl rfl rfl) ?_
            refine RG.done ?_
            refine QW.then_ ?_
            refine CW.condP rfl (fun hc125 => ?_) (fun hc125 => ?_)
            · refine CW.seq ?_
              have hdE : divE p q = 6 := by unfold divE; rw [if_pos he2, if_pos (by omega)]
              obtain ⟨rfl, rfl⟩ := hnd29 (by rw [hdE]; decide)
              have hn0 : ([] : List Nat).length = 0 := rfl
              refine CW.region ?_
              refine RG.vl rfl rfl rfl (Ev.move rfl rfl) ?_
              refine RG.vl rfl rfl rfl (Ev.isT (Ev.eqI rfl rfl rfl) (hdE)) ?_
              refine RG.vl rfl rfl rfl (Ev.move rfl rfl) ?_
              refine RG.vl rfl rfl rfl (Ev.move rfl rfl) ?_
              refine RG.vl rfl rfl rfl (Ev.lenL rfl rfl rfl Try.underlying39 (((Own.ext hown60 hE64).rdl encN_len))) ?_
              refine RG.vl rfl rfl rfl (Ev.move rfl rfl) ?_
              refine RG.vl rfl rfl rfl (Ev.lenL rfl rfl rfl Try.underlying39 (((Own.ext hown61 hE64).rdl encN_len))) ?_
              refine RG.vl rfl rfl rfl (Ev.addI rfl rfl rfl (by omega)) ?_
              refine RG.vl rfl rfl rfl (Ev.isT (Ev.eqI rfl rfl rfl) (by omega)) ?_
              refine RG.vl rfl rfl rfl (Ev.pickT rfl rfl rfl) ?_
              refine RG.vl rfl rfl rfl (Ev.move rfl rfl) ?_
              refine RG.call rfl rfl rfl rfl rfl rfl rfl en_13 (awake_ret _) ?_
              rintro _ w126 ⟨rfl, hx126⟩
              replace hE8 := Ex.tr hE8 hx126
              replace hE64 := Ex.tr hE64 hx126
              replace hE66 := Ex.tr hE66 hx126
              replace hE76 := Ex.tr hE76 hx126
              replace hE78 := Ex.tr hE78 hx126
              replace hE80 := Ex.tr hE80 hx126
              replace hE93 := Ex.tr hE93 hx126
              replace hE95 := Ex.tr hE95 hx126
              replace hE106 := Ex.tr hE106 hx126
              replace hE122 := Ex.tr hE122 hx126
              replace hE124 := Ex.tr hE124 hx126
              have hE127 := hx126
              refine RG.vl rfl rfl rfl (Ev.pickT rfl rfl rfl) ?_
              refine RG.vl rfl rfl rfl (Ev.assign rfl rfl) ?_
              refine RG.done ?_
              refine QW.sub (S' := [(0, _), (1, _), (4, _), (15, _), (16, _), (17, _)]) ⟨rfl, rfl, rfl, rfl, rfl, rfl, trivial⟩ ?_
              refine QW.then_ ?_
              refine CW.ret ?_
              refine QW.thenRet ?_
              refine QW.ret1 rfl rfl ?_
              have hB := (Ex.tr hB0 hE8)
              exact ⟨rfl, hB⟩
            · refine CW.skip ?_
              refine QW.then_ ?_
              refine CW.seq ?_
              refine CW.region ?_
              refine RG.vl rfl rfl rfl (Ev.move rfl rfl) ?_
              refine RG.vl rfl rfl rfl (Ev.move rfl rfl) ?_
              refine RG.call rfl rfl rfl rfl rfl rfl rfl en_43 (rdiv_ret _ _ _ _ _ ((hl.ext hE8)) ((hm.ext hE8)) (by omega) (by omega) (by assumption) (by assumption) (by omega)) ?_
              rintro _ w128 ⟨r1128, r2128, d128, e128, rfl, hod128, hoe128, hdv128, hdt128, het128, hde128, hee128, hx128⟩
              replace hE8 := Ex.tr hE8 hx128
              replace hE64 := Ex.tr hE64 hx128
              replace hE66 := Ex.tr hE66 hx128
              replace hE76 := Ex.tr hE76 hx128
              replace hE78 := Ex.tr hE78 hx128
              replace hE80 := Ex.tr hE80 hx128
              replace hE93 := Ex.tr hE93 hx128
              replace hE95 := Ex.tr hE95 hx128
              replace hE106 := Ex.tr hE106 hx128
              replace hE122 := Ex.tr hE122 hx128
              replace hE124 := Ex.tr hE124 hx128
              have hE129 := hx128
              refine RG.vl rfl rfl rfl (Ev.move rfl rfl) ?_
              refine RG.vl rfl rfl rfl (Ev.extract rfl rfl rfl) ?_
              refine RG.vl rfl rfl rfl (Ev.extract rfl rfl rfl) ?_
              refine RG.vl rfl rfl rfl (Ev.assign rfl rfl) ?_
              refine RG.vl rfl rfl rfl (Ev.assign rfl rfl) ?_
              refine RG.done ?_
              refine QW.then_ ?_
              refine CW.seq ?_
              have hdE : divE p q = 0 := by unfold divE; rw [if_pos he2, if_neg (by omega)]
              have hdd := hdv29 hdE
              obtain ⟨hq1, hq2⟩ := isDiv_eq hqe hdd hdv128 hdt128 het128 hde128
              obtain ⟨hq3, hq4⟩ := div_lens (by omega) hdd
              refine CW.region ?_
              refine RG.vl rfl rfl rfl (Ev.move rfl rfl) ?_
              refine RG.vl rfl rfl rfl (Ev.isT (Ev.eqI rfl rfl rfl) (hdE)) ?_
              refine RG.vl rfl rfl rfl (Ev.move rfl rfl) ?_
              refine RG.vl rfl rfl rfl (Ev.move rfl rfl) ?_
              refine RG.vl rfl rfl rfl (Ev.move rfl rfl) ?_
              refine RG.call rfl rfl rfl rfl rfl rfl rfl en_31 (sameT _ _ _ _ _ (((Own.ext hown60 hE64).rdl encN_len)) (hod128) (by omega) (hq1)) ?_
              rintro _ w130 ⟨rfl, hx130⟩
              replace hE8 := Ex.tr hE8 hx130
              replace hE64 := Ex.tr hE64 hx130
              replace hE66 := Ex.tr hE66 hx130
              replace hE76 := Ex.tr hE76 hx130
              replace hE78 := Ex.tr hE78 hx130
              replace hE80 := Ex.tr hE80 hx130
              replace hE93 := Ex.tr hE93 hx130
              replace hE95 := Ex.tr hE95 hx130
              replace hE106 := Ex.tr hE106 hx130
              replace hE122 := Ex.tr hE122 hx130
              replace hE124 := Ex.tr hE124 hx130
              replace hE129 := Ex.tr hE129 hx130
              have hE131 := hx130
              refine RG.vl rfl rfl rfl (Ev.pickT rfl rfl rfl) ?_
              refine RG.vl rfl rfl rfl (Ev.move rfl rfl) ?_
              refine RG.vl rfl rfl rfl (Ev.move rfl rfl) ?_
              refine RG.vl rfl rfl rfl (Ev.move rfl rfl) ?_
              refine RG.call rfl rfl rfl rfl rfl rfl rfl en_31 (sameT _ _ _ _ _ (((Own.ext hown61 hE64).rdl encN_len)) ((hoe128.ext hE131)) (by omega) (hq2)) ?_
              rintro _ w132 ⟨rfl, hx132⟩
              replace hE8 := Ex.tr hE8 hx132
              replace hE64 := Ex.tr hE64 hx132
              replace hE66 := Ex.tr hE66 hx132
              replace hE76 := Ex.tr hE76 hx132
              replace hE78 := Ex.tr hE78 hx132
              replace hE80 := Ex.tr hE80 hx132
              replace hE93 := Ex.tr hE93 hx132
              replace hE95 := Ex.tr hE95 hx132
              replace hE106 := Ex.tr hE106 hx132
              replace hE122 := Ex.tr hE122 hx132
              replace hE124 := Ex.tr hE124 hx132
              replace hE129 := Ex.tr hE129 hx132
              replace hE131 := Ex.tr hE131 hx132
              have hE133 := hx132
              refine RG.vl rfl rfl rfl (Ev.pickT rfl rfl rfl) ?_
              refine RG.vl rfl rfl rfl (Ev.move rfl rfl) ?_
              refine RG.call rfl rfl rfl rfl rfl rfl rfl en_13 (awake_ret _) ?_
              rintro _ w134 ⟨rfl, hx134⟩
              replace hE8 := Ex.tr hE8 hx134
              replace hE64 := Ex.tr hE64 hx134
              replace hE66 := Ex.tr hE66 hx134
              replace hE76 := Ex.tr hE76 hx134
              replace hE78 := Ex.tr hE78 hx134
              replace hE80 := Ex.tr hE80 hx134
              replace hE93 := Ex.tr hE93 hx134
              replace hE95 := Ex.tr hE95 hx134
              replace hE106 := Ex.tr hE106 hx134
              replace hE122 := Ex.tr hE122 hx134
              replace hE124 := Ex.tr hE124 hx134
              replace hE129 := Ex.tr hE129 hx134
              replace hE131 := Ex.tr hE131 hx134
              replace hE133 := Ex.tr hE133 hx134
              have hE135 := hx134
              refine RG.vl rfl rfl rfl (Ev.pickT rfl rfl rfl) ?_
              refine RG.vl rfl rfl rfl (Ev.assign rfl rfl) ?_
              refine RG.done ?_
              refine QW.sub (S' := [(4, _)]) ⟨rfl, trivial⟩ ?_
              refine QW.then_ ?_
              refine CW.ret ?_
              refine QW.ret1 rfl rfl ?_
              have hB := (Ex.tr hB0 hE8)
              exact ⟨rfl, hB⟩
      · refine CW.seq ?_
        have he1 : ¬ errL [p] = 0 := by omega
        refine CW.region ?_
        refine RG.vl rfl rfl rfl (Ev.move rfl rfl) ?_
        refine RG.vl rfl rfl rfl (Ev.lenL rfl rfl rfl Try.underlying39 (((Own.ext hown57 hE64).rdl encN_len))) ?_
        refine RG.vl rfl rfl rfl (Ev.isF (Ev.neI rfl rfl rfl) (by rw [if_neg he1]; exact fun h => h rfl)) ?_
        refine RG.vl rfl rfl rfl (Ev.move rfl rfl) ?_
        refine RG.vl rfl rfl rfl (Ev.move rfl rfl) ?_
        refine RG.vl rfl rfl rfl (Ev.isF (Ev.neI rfl rfl rfl) (by rw [if_neg he1]; exact fun h => h rfl)) ?_
        refine RG.vl rfl rfl rfl (Ev.pickF rfl rfl rfl) ?_
        refine RG.done ?_
        refine QW.then_ ?_
        refine CW.condF rfl ?_
        refine CW.skip ?_
        refine QW.then_ ?_
        refine CW.seq ?_
        refine CW.seq ?_
        refine CW.region ?_
        refine RG.vl rfl rfl rfl (Ev.move rfl rfl) ?_
        refine RG.vl rfl rfl rfl (Ev.neI rfl rfl rfl) ?_
        refine RG.done ?_
        refine QW.then_ ?_
        refine CW.condP rfl (fun hc136 => ?_) (fun hc136 => ?_)
        · refine CW.seq ?_
          have he2 : ¬ errL [p, q] = 0 := by omega
          have hmE : ¬ mulE p q = 0 := by unfold mulE; rw [if_neg he2]; exact he2
          have hdE : ¬ divE p q = 0 := by unfold divE; rw [if_neg he2]; exact he2
          rw [if_neg he2] at hown58
          rw [if_neg hmE] at hown59
          obtain ⟨rfl, rfl⟩ := hnd29 hdE
          have hn0 : ([] : List Nat).length = 0 := rfl
          refine CW.region ?_
          refine RG.vl rfl rfl rfl (Ev.move rfl rfl) ?_
          refine RG.vl rfl rfl rfl (Ev.move rfl rfl) ?_
          refine RG.vl rfl rfl rfl (Ev.isT (Ev.eqI rfl rfl rfl) (by unfold mulE; rw [if_neg he2])) ?_
          refine RG.vl rfl rfl rfl (Ev.move rfl rfl) ?_
          refine RG.vl rfl rfl rfl (Ev.move rfl rfl) ?_
          refine RG.vl rfl rfl rfl (Ev.move rfl rfl) ?_
          refine RG.vl rfl rfl rfl (Ev.isT (Ev.eqI rfl rfl rfl) (by unfold divE; rw [if_neg he2])) ?_
          refine RG.vl rfl rfl rfl (Ev.pickT rfl rfl rfl) ?_
          refine RG.vl rfl rfl rfl (Ev.move rfl rfl) ?_
          refine RG.vl rfl rfl rfl (Ev.move rfl rfl) ?_
          refine RG.vl rfl rfl rfl (Ev.lenL rfl rfl rfl Try.underlying39 (((Own.ext hown58 hE64).rdl encN_len))) ?_
          refine RG.vl rfl rfl rfl (Ev.move rfl rfl) ?_
          refine RG.vl rfl rfl rfl (Ev.lenL rfl rfl rfl Try.underlying39 (((Own.ext hown59 hE64).rdl encN_len))) ?_
          refine RG.vl rfl rfl rfl (Ev.addI rfl rfl rfl (by omega)) ?_
          refine RG.vl rfl rfl rfl (Ev.move rfl rfl) ?_
          refine RG.vl rfl rfl rfl (Ev.lenL rfl rfl rfl Try.underlying39 (((Own.ext hown60 hE64).rdl encN_len))) ?_
          refine RG.vl rfl rfl rfl (Ev.addI rfl rfl rfl (by omega)) ?_
          refine RG.vl rfl rfl rfl (Ev.move rfl rfl) ?_
          refine RG.vl rfl rfl rfl (Ev.lenL rfl rfl rfl Try.underlying39 (((Own.ext hown61 hE64).rdl encN_len))) ?_
          refine RG.vl rfl rfl rfl (Ev.addI rfl rfl rfl (by omega)) ?_
          refine RG.vl rfl rfl rfl (Ev.isT (Ev.eqI rfl rfl rfl) (by omega)) ?_
          refine RG.vl rfl rfl rfl (Ev.pickT rfl rfl rfl) ?_
          refine RG.vl rfl rfl rfl (Ev.move rfl rfl) ?_
          refine RG.call rfl rfl rfl rfl rfl rfl rfl en_13 (awake_ret _) ?_
          rintro _ w137 ⟨rfl, hx137⟩
          replace hE8 := Ex.tr hE8 hx137
          replace hE64 := Ex.tr hE64 hx137
          replace hE66 := Ex.tr hE66 hx137
          have hE138 := hx137
          refine RG.vl rfl rfl rfl (Ev.pickT rfl rfl rfl) ?_
          refine RG.vl rfl rfl rfl (Ev.assign rfl rfl) ?_
          refine RG.done ?_
          refine QW.sub (S' := [(0, _), (1, _), (4, _), (11, _), (13, _), (14, _), (15, _), (16, _), (17, _)]) ⟨rfl, rfl, rfl, rfl, rfl, rfl, rfl, rfl, rfl, trivial⟩ ?_
          refine QW.then_ ?_
          refine CW.ret ?_
          refine QW.thenRet ?_
          refine QW.ret1 rfl rfl ?_
          have hB := (Ex.tr hB0 hE8)
          exact ⟨rfl, hB⟩
        · refine CW.skip ?_
          refine QW.then_ ?_
          refine CW.seq ?_
          refine CW.seq ?_
          have he2 : errL [p, q] = 0 := by omega
          obtain ⟨⟨hp128, hpe⟩, hq128, hqe⟩ := errL2 he2
          have hdp := dg_len p
          have hdq := dg_len q
          refine CW.region ?_
          refine RG.vl rfl rfl rfl (Ev.move rfl rfl) ?_
          refine RG.vl rfl rfl rfl (Ev.move rfl rfl) ?_
          refine RG.vl rfl rfl rfl (Ev.move rfl rfl) ?_
          refine RG.call rfl rfl rfl rfl rfl rfl rfl en_41 (rsum_ret _ _ _ _ _ ((hl.ext hE8)) ((hm.ext hE8)) (by omega) (by omega) (by assumption) (by assumption)) ?_
          have hpre139 := (Ex.tr hB0 hE8)
          rintro vrs139 w139 ⟨hrs139, hx139⟩
          have hsep140 : Sep vrs139 _ := Sep.of_new (Own.ext hown57 hE64) (fun k h => Own.ge hrs139 h)
          have hsep141 : Sep vrs139 _ := Sep.of_new (Own.ext hown58 hE64) (fun k h => Own.ge hrs139 h)
          have hsep142 : Sep vrs139 _ := Sep.of_new (Own.ext hown59 hE64) (fun k h => Own.ge hrs139 h)
          have hsep143 : Sep vrs139 _ := Sep.of_new (Own.ext hown60 hE64) (fun k h => Own.ge hrs139 h)
          have hsep144 : Sep vrs139 _ := Sep.of_new (Own.ext hown61 hE64) (fun k h => Own.ge hrs139 h)
          have hsep145 : Sep vrs139 _ := Sep.of_new (Own.ext hown62 hE64) (fun k h => Own.ge hrs139 h)
          have hsep146 : Sep vrs139 _ := Sep.of_new (Own.ext hown55 hE64) (fun k h => Own.ge hrs139 h)
          replace hE8 := Ex.tr hE8 hx139
          replace hE64 := Ex.tr hE64 hx139
          replace hE66 := Ex.tr hE66 hx139
          have hE147 := hx139
          refine RG.call rfl rfl rfl rfl rfl rfl rfl en_31 (sameT _ _ _ _ _ (((Own.ext hown58 hE64).rdl encN_len)) ((hrs139.rdl encN_len)) (by rw [if_pos he2, tr_len]; have := dg_len (pa p q); rw [pa_len] at this; omega) (by rw [if_pos he2])) ?_
          rintro _ w148 ⟨rfl, hx148⟩
          replace hE8 := Ex.tr hE8 hx148
          replace hE64 := Ex.tr hE64 hx148
          replace hE66 := Ex.tr hE66 hx148
          replace hE147 := Ex.tr hE147 hx148
          have hE149 := hx148
          refine RG.vl rfl rfl rfl (Ev.notF rfl rfl) ?_
          refine RG.done ?_
          refine QW.sub (S' := [(0, _), (1, _), (4, _), (13, _), (14, _), (15, _), (16, _), (17, _), (149, _)]) ⟨rfl, rfl, rfl, rfl, rfl, rfl, rfl, rfl, rfl, trivial⟩ ?_
          refine QW.then_ ?_
          refine CW.condF rfl ?_
          refine CW.skip ?_
          refine QW.then_ ?_
          refine CW.seq ?_
          refine CW.region ?_
          refine RG.vl rfl rfl rfl (Ev.move rfl rfl) ?_
          refine RG.vl rfl rfl rfl (Ev.move rfl rfl) ?_
          refine RG.call rfl rfl rfl rfl rfl rfl rfl en_42 (rprod_ret _ _ _ _ _ ((hl.ext hE8)) ((hm.ext hE8)) (by omega) (by omega) (by assumption) (by assumption)) ?_
          have hpre150 := (Ex.tr hB0 hE8)
          rintro vrp150 w150 ⟨hrp150, hx150⟩
          have hsep151 : Sep vrp150 _ := Sep.of_new (Own.ext hown57 hE64) (fun k h => Own.ge hrp150 h)
          have hsep152 : Sep vrp150 _ := Sep.of_new (Own.ext hown58 hE64) (fun k h => Own.ge hrp150 h)
          have hsep153 : Sep vrp150 _ := Sep.of_new (Own.ext hown59 hE64) (fun k h => Own.ge hrp150 h)
          have hsep154 : Sep vrp150 _ := Sep.of_new (Own.ext hown60 hE64) (fun k h => Own.ge hrp150 h)
          have hsep155 : Sep vrp150 _ := Sep.of_new (Own.ext hown61 hE64) (fun k h => Own.ge hrp150 h)
          have hsep156 : Sep vrp150 _ := Sep.of_new (Own.ext hown62 hE64) (fun k h => Own.ge hrp150 h)
          have hsep157 : Sep vrp150 _ := Sep.of_new (Own.ext hown55 hE64) (fun k h => Own.ge hrp150 h)
          have hsep158 : Sep vrp150 _ := Sep.of_new (Own.ext hrs139 hE149) (fun k h => Own.ge hrp150 h)
          replace hE8 := Ex.tr hE8 hx150
          replace hE64 := Ex.tr hE64 hx150
          replace hE66 := Ex.tr hE66 hx150
          replace hE147 := Ex.tr hE147 hx150
          replace hE149 := Ex.tr hE149 hx150
          have hE159 := hx150
          refine RG.vl rfl rfl rfl (Ev.assign rfl rfl) ?_
          refine RG.done ?_
          refine QW.then_ ?_
          refine CW.seq ?_
          refine CW.seq ?_
          have hpml := trpm_len p q
          refine CW.region ?_
          refine RG.vl rfl rfl rfl (Ev.move rfl rfl) ?_
          refine RG.vl rfl rfl rfl (Ev.lenL rfl rfl rfl Try.underlying39 ((hrp150.rdl encN_len))) ?_
          refine RG.vl rfl rfl rfl (Ev.gtr rfl rfl rfl) ?_
          refine RG.done ?_
          refine QW.then_ ?_
          refine CW.condP rfl (fun hc160 => ?_) (fun hc160 => ?_)
          · refine CW.seq ?_
            have hmE : mulE p q = 5 := by unfold mulE; rw [if_pos he2, if_pos]; split at hpml <;> omega
            refine CW.region ?_
            refine RG.vl rfl rfl rfl (Ev.move rfl rfl) ?_
            refine RG.vl rfl rfl rfl (Ev.isF (Ev.neI rfl rfl rfl) (by rw [hmE]; decide)) ?_
            refine RG.vl rfl rfl rfl (Ev.move rfl rfl) ?_
            refine RG.vl rfl rfl rfl (Ev.move rfl rfl) ?_
            refine RG.vl rfl rfl rfl (Ev.lenL rfl rfl rfl Try.underlying39 (((Own.ext hown59 hE64).rdl encN_len))) ?_
            refine RG.vl rfl rfl rfl (Ev.isF (Ev.neI rfl rfl rfl) (by rw [if_neg (by rw [hmE]; decide)]; exact fun h => h rfl)) ?_
            refine RG.vl rfl rfl rfl (Ev.pickF rfl rfl rfl) ?_
            refine RG.done ?_
            refine QW.sub (S' := [(0, _), (1, _), (4, _), (15, _), (16, _), (17, _), (162, _)]) ⟨rfl, rfl, rfl, rfl, rfl, rfl, rfl, trivial⟩ ?_
            refine QW.then_ ?_
            refine CW.condF rfl ?_
            refine CW.skip ?_
            refine QW.then_ ?_
            refine CW.seq ?_
            refine CW.seq ?_
            refine CW.region ?_
            refine RG.vl rfl rfl rfl (Ev.move rfl rfl) ?_
            refine RG.call rfl rfl rfl rfl rfl rfl rfl en_30 (rdeg_ret _ _ _ ((hm.ext hE8)) (by omega)) ?_
            rintro _ w161 ⟨rfl, hx161⟩
            replace hE8 := Ex.tr hE8 hx161
            replace hE64 := Ex.tr hE64 hx161
            replace hE66 := Ex.tr hE66 hx161
            replace hE147 := Ex.tr hE147 hx161
            replace hE149 := Ex.tr hE149 hx161
            replace hE159 := Ex.tr hE159 hx161
            have hE162 := hx161
            refine RG.vl rfl rfl rfl (Ev.lss rfl rfl rfl) ?_
            refine RG.done ?_
            refine QW.then_ ?_
            refine CW.condP rfl (fun hc163 => ?_) (fun hc163 => ?_)
            · refine CW.seq ?_
              have hdE : divE p q = 6 := by unfold divE; rw [if_pos he2, if_pos (by omega)]
              obtain ⟨rfl, rfl⟩ := hnd29 (by rw [hdE]; decide)
              have hn0 : ([] : List Nat).length = 0 := rfl
              refine CW.region ?_
              refine RG.vl rfl rfl rfl (Ev.move rfl rfl) ?_
              refine RG.vl rfl rfl rfl (Ev.isT (Ev.eqI rfl rfl rfl) (hdE)) ?_
              refine RG.vl rfl rfl rfl (Ev.move rfl rfl) ?_
              refine RG.vl rfl rfl rfl (Ev.move rfl rfl) ?_
              refine RG.vl rfl rfl rfl (Ev.lenL rfl rfl rfl Try.underlying39 (((Own.ext hown60 hE64).rdl encN_len))) ?_
              refine RG.vl rfl rfl rfl (Ev.move rfl rfl) ?_
              refine RG.vl rfl rfl rfl (Ev.lenL rfl rfl rfl Try.underlying39 (((Own.ext hown61 hE64).rdl encN_len))) ?_
              refine RG.vl rfl rfl rfl (Ev.addI rfl rfl rfl (by omega)) ?_
              refine RG.vl rfl rfl rfl (Ev.isT (Ev.eqI rfl rfl rfl) (by omega)) ?_
              refine RG.vl rfl rfl rfl (Ev.pickT rfl rfl rfl) ?_
              refine RG.vl rfl rfl rfl (Ev.move rfl rfl) ?_
              refine RG.call rfl rfl rfl rfl rfl rfl rfl en_13 (awake_ret _) ?_
              rintro _ w164 ⟨rfl, hx164⟩
              replace hE8 := Ex.tr hE8 hx164
              replace hE64 := Ex.tr hE64 hx164
              replace hE66 := Ex.tr hE66 hx164
              replace hE147 := Ex.tr hE147 hx164
              replace hE149 := Ex.tr hE149 hx164
              replace hE159 := Ex.tr hE159 hx164
              replace hE162 := Ex.tr hE162 hx164
              have hE165 := hx164
              refine RG.vl rfl rfl rfl (Ev.pickT rfl rfl rfl) ?_
              refine RG.vl rfl rfl rfl (Ev.assign rfl rfl) ?_
              refine RG.done ?_
              refine QW.sub (S' := [(0, _), (1, _), (4, _), (15, _), (16, _), (17, _)]) ⟨rfl, rfl, rfl, rfl, rfl, rfl, trivial⟩ ?_
              refine QW.then_ ?_
              refine CW.ret ?_
              refine QW.thenRet ?_
              refine QW.ret1 rfl rfl ?_
              have hB := (Ex.tr hB0 hE8)
              exact ⟨rfl, hB⟩
            · refine CW.skip ?_
              refine QW.then_ ?_
              refine CW.seq ?_
              refine CW.region ?_
              refine RG.vl rfl rfl rfl (Ev.move rfl rfl) ?_
              refine RG.vl rfl rfl rfl (Ev.move rfl rfl) ?_
              refine RG.call rfl rfl rfl rfl rfl rfl rfl en_43 (rdiv_ret _ _ _ _ _ ((hl.ext hE8)) ((hm.ext hE8)) (by omega) (by omega) (by assumption) (by assumption) (by omega)) ?_
              rintro _ w166 ⟨r1166, r2166, d166, e166, rfl, hod166, hoe166, hdv166, hdt166, het166, hde166, hee166, hx166⟩
              replace hE8 := Ex.tr hE8 hx166
              replace hE64 := Ex.tr hE64 hx166
              replace hE66 := Ex.tr hE66 hx166
              replace hE147 := Ex.tr hE147 hx166
              replace hE149 := Ex.tr hE149 hx166
              replace hE159 := Ex.tr hE159 hx166
              replace hE162 := Ex.tr hE162 hx166
              have hE167 := hx166
              refine RG.vl rfl rfl rfl (Ev.move rfl rfl) ?_
              refine RG.vl rfl rfl rfl (Ev.extract rfl rfl rfl) ?_
              refine RG.vl rfl rfl rfl (Ev.extract rfl rfl rfl) ?_
              refine RG.vl rfl rfl rfl (Ev.assign rfl rfl) ?_
              refine RG.vl rfl rfl rfl (Ev.assign rfl rfl) ?_
              refine RG.done ?_
              refine QW.then_ ?_
              refine CW.seq ?_
              have hdE : divE p q = 0 := by unfold divE; rw [if_pos he2, if_neg (by omega)]
              have hdd := hdv29 hdE
              obtain ⟨hq1, hq2⟩ := isDiv_eq hqe hdd hdv166 hdt166 het166 hde166
              obtain ⟨hq3, hq4⟩ := div_lens (by omega) hdd
              refine CW.region ?_
              refine RG.vl rfl rfl rfl (Ev.move rfl rfl) ?_
              refine RG.vl rfl rfl rfl (Ev.isT (Ev.eqI rfl rfl rfl) (hdE)) ?_
              refine RG.vl rfl rfl rfl (Ev.move rfl rfl) ?_
              refine RG.vl rfl rfl rfl (Ev.move rfl rfl) ?_
              refine RG.vl rfl rfl rfl (Ev.move rfl rfl) ?_
              refine RG.call rfl rfl rfl rfl rfl rfl rfl en_31 (sameT _ _ _ _ _ (((Own.ext hown60 hE64).rdl encN_len)) (hod166) (by omega) (hq1)) ?_
              rintro _ w168 ⟨rfl, hx168⟩
              replace hE8 := Ex.tr hE8 hx168
              replace hE64 := Ex.tr hE64 hx168
              replace hE66 := Ex.tr hE66 hx168
              replace hE147 := Ex.tr hE147 hx168
              replace hE149 := Ex.tr hE149 hx168
              replace hE159 := Ex.tr hE159 hx168
              replace hE162 := Ex.tr hE162 hx168
              replace hE167 := Ex.tr hE167 hx168
              have hE169 := hx168
              refine RG.vl rfl rfl rfl (Ev.pickT rfl rfl rfl) ?_
              refine RG.vl rfl rfl rfl (Ev.move rfl rfl) ?_
              refine RG.vl rfl rfl rfl (Ev.move rfl rfl) ?_
              refine RG.vl rfl rfl rfl (Ev.move rfl rfl) ?_
              refine RG.call rfl rfl rfl rfl rfl rfl rfl en_31 (sameT _ _ _ _ _ (((Own.ext hown61 hE64).rdl encN_len)) ((hoe166.ext hE169)) (by omega) (hq2)) ?_
              rintro _ w170 ⟨rfl, hx170⟩
              replace hE8 := Ex.tr hE8 hx170
              replace hE64 := Ex.tr hE64 hx170
              replace hE66 := Ex.tr hE66 hx170
              replace hE147 := Ex.tr hE147 hx170
              replace hE149 := Ex.tr hE149 hx170
              replace hE159 := Ex.tr hE159 hx170
              replace hE162 := Ex.tr hE162 hx170
              replace hE167 := Ex.tr hE167 hx170
              replace hE169 := Ex.tr hE169 hx170
              have hE171 := hx170
              refine RG.vl rfl rfl rfl (Ev.pickT rfl rfl rfl) ?_
              refine RG.vl rfl rfl rfl (Ev.move rfl rfl) ?_
              refine RG.call rfl rfl rfl rfl rfl rfl rfl en_13 (awake_ret _) ?_
              rintro _ w172 ⟨rfl, hx172⟩
              replace hE8 := Ex.tr hE8 hx172
              replace hE64 := Ex.tr hE64 hx172
              replace hE66 := Ex.tr hE66 hx172
              replace hE147 := Ex.tr hE147 hx172
              replace hE149 := Ex.tr hE149 hx172
              replace hE159 := Ex.tr hE159 hx172
              replace hE162 := Ex.tr hE162 hx172
              replace hE167 := Ex.tr hE167 hx172
              replace hE169 := Ex.tr hE169 hx172
              replace hE171 := Ex.tr hE171 hx172
              have hE173 := hx172
              refine RG.vl rfl rfl rfl (Ev.pickT rfl rfl rfl) ?_
              refine RG.vl rfl rfl rfl (Ev.assign rfl rfl) ?_
              refine RG.done ?_
              refine QW.sub (S' := [(4, _)]) ⟨rfl, trivial⟩ ?_
              refine QW.then_ ?_
              refine CW.ret ?_
              refine QW.ret1 rfl rfl ?_
              have hB := (Ex.tr hB0 hE8)
              exact ⟨rfl, hB⟩
          · refine CW.seq ?_
            have hmE : mulE p q = 0 := by unfold mulE; rw [if_pos he2, if_neg]; split at hpml <;> omega
            have hpml2 : (tr (pm p q)).length ≤ 100000 := by omega
            refine CW.region ?_
            refine RG.vl rfl rfl rfl (Ev.move rfl rfl) ?_
            refine RG.vl rfl rfl rfl (Ev.isF (Ev.neI rfl rfl rfl) (by rw [hmE]; decide)) ?_
            refine RG.vl rfl rfl rfl (Ev.move rfl rfl) ?_
            refine RG.vl rfl rfl rfl (Ev.move rfl rfl) ?_
            refine RG.vl rfl rfl rfl (Ev.move rfl rfl) ?_
            refine RG.call rfl rfl rfl rfl rfl rfl rfl en_31 (sameT _ _ _ _ _ (((Own.ext hown59 hE64).rdl encN_len)) ((hrp150.rdl encN_len)) (by rw [if_pos hmE, hpml]; omega) (by rw [if_pos hmE])) ?_
            rintro _ w174 ⟨rfl, hx174⟩
            replace hE8 := Ex.tr hE8 hx174
            replace hE64 := Ex.tr hE64 hx174
            replace hE66 := Ex.tr hE66 hx174
            replace hE147 := Ex.tr hE147 hx174
            replace hE149 := Ex.tr hE149 hx174
            replace hE159 := Ex.tr hE159 hx174
            have hE175 := hx174
            refine RG.vl rfl rfl rfl (Ev.notF rfl rfl) ?_
            refine RG.vl rfl rfl rfl (Ev.pickF rfl rfl rfl) ?_
            refine RG.done ?_
            refine QW.sub (S' := [(0, _), (1, _), (4, _), (15, _), (16, _), (17, _), (170, _)]) ⟨rfl, rfl, rfl, rfl, rfl, rfl, rfl, trivial⟩ ?_
            refine QW.then_ ?_
            refine CW.condF rfl ?_
            refine CW.skip ?_
            refine QW.then_ ?_
            refine CW.seq ?_
            refine CW.seq ?_
            refine CW.region ?_
            refine RG.vl rfl rfl rfl (Ev.move rfl rfl) ?_
            refine RG.call rfl rfl rfl rfl rfl rfl rfl en_30 (rdeg_ret _ _ _ ((hm.ext hE8)) (by omega)) ?_
            rintro _ w176 ⟨rfl, hx176⟩
            replace hE8 := Ex.tr hE8 hx176
            replace hE64 := Ex.tr hE64 hx176
            replace hE66 := Ex.tr hE66 hx176
            replace hE147 := Ex.tr hE147 hx176
            replace hE149 := Ex.tr hE149 hx176
            replace hE159 := Ex.tr hE159 hx176
            replace hE175 := Ex.tr hE175 hx176
            have hE177 := hx176
            refine RG.vl rfl rfl rfl (Ev.lss rfl rfl rfl) ?_
            refine RG.done ?_
            refine QW.then_ ?_
            refine CW.condP rfl (fun hc178 => ?_) (fun hc178 => ?_)
            · refine CW.seq ?_
              have hdE : divE p q = 6 := by unfold divE; rw [if_pos he2, if_pos (by omega)]
              obtain ⟨rfl, rfl⟩ := hnd29 (by rw [hdE]; decide)
              have hn0 : ([] : List Nat).length = 0 := rfl
              refine CW.region ?_
              refine RG.vl rfl rfl rfl (Ev.move rfl rfl) ?_
              refine RG.vl rfl rfl rfl (Ev.isT (Ev.eqI rfl rfl rfl) (hdE)) ?_
              refine RG.vl rfl rfl rfl (Ev.move rfl rfl) ?_
              refine RG.vl rfl rfl rfl (Ev.move rfl rfl) ?_
              refine RG.vl rfl rfl rfl (Ev.lenL rfl rfl rfl Try.underlying39 (((Own.ext hown60 hE64).rdl encN_len))) ?_
              refine RG.vl rfl rfl rfl (Ev.move rfl rfl) ?_
              refine RG.vl rfl rfl rfl (Ev.lenL rfl rfl rfl Try.underlying39 (((Own.ext hown61 hE64).rdl encN_len))) ?_
              refine RG.vl rfl rfl rfl (Ev.addI rfl rfl rfl (by omega)) ?_
              refine RG.vl rfl rfl rfl (Ev.isT (Ev.eqI rfl rfl rfl) (by omega)) ?_
              refine RG.vl rfl rfl rfl (Ev.pickT rfl rfl rfl) ?_
              refine RG.vl rfl rfl rfl (Ev.move rfl rfl) ?_
              refine RG.call rfl rfl rfl rfl rfl rfl rfl en_13 (awake_ret _) ?_
              rintro _ w179 ⟨rfl, hx179⟩
              replace hE8 := Ex.tr hE8 hx179
              replace hE64 := Ex.tr hE64 hx179
              replace hE66 := Ex.tr hE66 hx179
              replace hE147 := Ex.tr hE147 hx179
              replace hE149 := Ex.tr hE149 hx179
              replace hE159 := Ex.tr hE159 hx179
              replace hE175 := Ex.tr hE175 hx179
              replace hE177 := Ex.tr hE177 hx179
              have hE180 := hx179
              refine RG.vl rfl rfl rfl (Ev.pickT rfl rfl rfl) ?_
              refine RG.vl rfl rfl rfl (Ev.assign rfl rfl) ?_
              refine RG.done ?_
              refine QW.sub (S' := [(0, _), (1, _), (4, _), (15, _), (16, _), (17, _)]) ⟨rfl, rfl, rfl, rfl, rfl, rfl, trivial⟩ ?_
              refine QW.then_ ?_
              refine CW.ret ?_
              refine QW.thenRet ?_
              refine QW.ret1 rfl rfl ?_
              have hB := (Ex.tr hB0 hE8)
              exact ⟨rfl, hB⟩
            · refine CW.skip ?_
              refine QW.then_ ?_
              refine CW.seq ?_
              refine CW.region ?_
              refine RG.vl rfl rfl rfl (Ev.move rfl rfl) ?_
              refine RG.vl rfl rfl rfl (Ev.move rfl rfl) ?_
              refine RG.call rfl rfl rfl rfl rfl rfl rfl en_43 (rdiv_ret _ _ _ _ _ ((hl.ext hE8)) ((hm.ext hE8)) (by omega) (by omega) (by assumption) (by assumption) (by omega)) ?_
              rintro _ w181 ⟨r1181, r2181, d181, e181, rfl, hod181, hoe181, hdv181, hdt181, het181, hde181, hee181, hx181⟩
              replace hE8 := Ex.tr hE8 hx181
              replace hE64 := Ex.tr hE64 hx181
              replace hE66 := Ex.tr hE66 hx181
              replace hE147 := Ex.tr hE147 hx181
              replace hE149 := Ex.tr hE149 hx181
              replace hE159 := Ex.tr hE159 hx181
              replace hE175 := Ex.tr hE175 hx181
              replace hE177 := Ex.tr hE177 hx181
              have hE182 := hx181
              refine RG.vl rfl rfl rfl (Ev.move rfl rfl) ?_
              refine RG.vl rfl rfl rfl (Ev.extract rfl rfl rfl) ?_
              refine RG.vl rfl rfl rfl (Ev.extract rfl rfl rfl) ?_
              refine RG.vl rfl rfl rfl (Ev.assign rfl rfl) ?_
              refine RG.vl rfl rfl rfl (Ev.assign rfl rfl) ?_
              refine RG.done ?_
              refine QW.then_ ?_
              refine CW.seq ?_
              have hdE : divE p q = 0 := by unfold divE; rw [if_pos he2, if_neg (by omega)]
              have hdd := hdv29 hdE
              obtain ⟨hq1, hq2⟩ := isDiv_eq hqe hdd hdv181 hdt181 het181 hde181
              obtain ⟨hq3, hq4⟩ := div_lens (by omega) hdd
              refine CW.region ?_
              refine RG.vl rfl rfl rfl (Ev.move rfl rfl) ?_
              refine RG.vl rfl rfl rfl (Ev.isT (Ev.eqI rfl rfl rfl) (hdE)) ?_
              refine RG.vl rfl rfl rfl (Ev.move rfl rfl) ?_
              refine RG.vl rfl rfl rfl (Ev.move rfl rfl) ?_
              refine RG.vl rfl rfl rfl (Ev.move rfl rfl) ?_
              refine RG.call rfl rfl rfl rfl rfl rfl rfl en_31 (sameT _ _ _ _ _ (((Own.ext hown60 hE64).rdl encN_len)) (hod181) (by omega) (hq1)) ?_
              rintro _ w183 ⟨rfl, hx183⟩
              replace hE8 := Ex.tr hE8 hx183
              replace hE64 := Ex.tr hE64 hx183
              replace hE66 := Ex.tr hE66 hx183
              replace hE147 := Ex.tr hE147 hx183
              replace hE149 := Ex.tr hE149 hx183
              replace hE159 := Ex.tr hE159 hx183
              replace hE175 := Ex.tr hE175 hx183
              replace hE177 := Ex.tr hE177 hx183
              replace hE182 := Ex.tr hE182 hx183
              have hE184 := hx183
              refine RG.vl rfl rfl rfl (Ev.pickT rfl rfl rfl) ?_
              refine RG.vl rfl rfl rfl (Ev.move rfl rfl) ?_
              refine RG.vl rfl rfl rfl (Ev.move rfl rfl) ?_
              refine RG.vl rfl rfl rfl (Ev.move rfl rfl) ?_
              refine RG.call rfl rfl rfl rfl rfl rfl rfl en_31 (sameT _ _ _ _ _ (((Own.ext hown61 hE64).rdl encN_len)) ((hoe181.ext hE184)) (by omega) (hq2)) ?_
              rintro _ w185 ⟨rfl, hx185⟩
              replace hE8 := Ex.tr hE8 hx185
              replace hE64 := Ex.tr hE64 hx185
              replace hE66 := Ex.tr hE66 hx185
              replace hE147 := Ex.tr hE147 hx185
              replace hE149 := Ex.tr hE149 hx185
              replace hE159 := Ex.tr hE159 hx185
              replace hE175 := Ex.tr hE175 hx185
              replace hE177 := Ex.tr hE177 hx185
              replace hE182 := Ex.tr hE182 hx185
              replace hE184 := Ex.tr hE184 hx185
              have hE186 := hx185
              refine RG.vl rfl rfl rfl (Ev.pickT rfl rfl rfl) ?_
              refine RG.vl rfl rfl rfl (Ev.move rfl rfl) ?_
              refine RG.call rfl rfl rfl rfl rfl rfl rfl en_13 (awake_ret _) ?_
              rintro _ w187 ⟨rfl, hx187⟩
              replace hE8 := Ex.tr hE8 hx187
              replace hE64 := Ex.tr hE64 hx187
              replace hE66 := Ex.tr hE66 hx187
              replace hE147 := Ex.tr hE147 hx187
              replace hE149 := Ex.tr hE149 hx187
              replace hE159 := Ex.tr hE159 hx187
              replace hE175 := Ex.tr hE175 hx187
              replace hE177 := Ex.tr hE177 hx187
              replace hE182 := Ex.tr hE182 hx187
              replace hE184 := Ex.tr hE184 hx187
              replace hE186 := Ex.tr hE186 hx187
              have hE188 := hx187
              refine RG.vl rfl rfl rfl (Ev.pickT rfl rfl rfl) ?_
              refine RG.vl rfl rfl rfl (Ev.assign rfl rfl) ?_
              refine RG.done ?_
              refine QW.sub (S' := [(4, _)]) ⟨rfl, trivial⟩ ?_
              refine QW.then_ ?_
              refine CW.ret ?_
              refine QW.ret1 rfl rfl ?_
              have hB := (Ex.tr hB0 hE8)
              exact ⟨rfl, hB⟩

end Go.Proofs.Ytjaledljhiihmaa
