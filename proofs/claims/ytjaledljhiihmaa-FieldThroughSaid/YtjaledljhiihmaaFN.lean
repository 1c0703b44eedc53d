/- Walks (FN). Written by program. -/
import Derived.Test.YtjaledljhiihmaaT
import Derived.Test.YtjaledljhiihmaaFM
namespace Go.Proofs.Ytjaledljhiihmaa
open Go.RowKit
set_option maxRecDepth 100000 in
set_option maxHeartbeats 4000000 in
theorem fieldThrough_ret (u : Value) (l : List Nat) (fr0 : Int) (w : World) (hl : RdL w 1 encN u l) (hb : ∀ c ∈ l, c < 256) (hf : 0 ≤ fr0 ∧ fr0 ≤ 255) :
    Ret Try.prog 8 [u, .int .u8 fr0] w (fun v w' => v = .bool true ∧ Ex w w') := by
  obtain ⟨fr, rfl⟩ : ∃ a : Nat, fr0 = (a : Int) := ⟨fr0.toNat, by omega⟩
  have hpe := elsOf_el l 20
  have hpl := elsOf_len l 20
  generalize hP : elsOf l 20 = p at hpe hpl
  have hdp := dg_len p
  have hB0 : Ex w w := Ex.rfl_ _
  refine Ret.of Try.func8 rfl Try.ntmps8 rfl ?_
  refine CW.seq ?_
  refine CW.region ?_
  refine RG.vl rfl rfl rfl (Ev.assign rfl rfl) ?_
  refine RG.done ?_
  refine QW.then_ ?_
  refine CW.seq ?_
  refine CW.region ?_
  refine RG.vl rfl rfl rfl (Ev.move rfl rfl) ?_
  refine RG.call rfl rfl rfl rfl rfl rfl rfl en_34 (elements_ret _ _ 20 _ (hl) hb (by decide)) ?_
  have hpre1 := hB0
  rintro vp w1 ⟨hp, hx1⟩
  have hE2 := hx1
  rw [hP] at hp
  refine RG.vl rfl rfl rfl (Ev.assign rfl rfl) ?_
  refine RG.done ?_
  refine QW.then_ ?_
  refine CW.seq ?_
  refine CW.region ?_
  refine RG.vl rfl rfl rfl (Ev.assign rfl rfl) ?_
  refine RG.vl rfl rfl rfl (Ev.assign rfl rfl) ?_
  refine RG.done ?_
  refine QW.then_ ?_
  refine CW.seq ?_
  refine CW.seq ?_
  refine CW.region ?_
  refine RG.vl rfl rfl rfl (Ev.move rfl rfl) ?_
  refine RG.vl rfl rfl rfl (Ev.lenL rfl rfl rfl Try.underlying39 ((hp.rdl encN_len))) ?_
  refine RG.vl rfl rfl rfl (Ev.move rfl rfl) ?_
  refine RG.done ?_
  refine QW.then_ ?_
  refine CW.block ?_
  replace hl := (hl.ext hE2)
  have hR3 := (Ex.tr hB0 hE2)
  refine CW.loop3 [(1, _), (5, _), (19, _)] ⟨rfl, rfl, rfl, trivial⟩ (fun (k : Nat) (ux : Value) (uy : Value) => [(20, .int .i64 k), (6, ux), (7, uy)]) (fun k ux uy w' => (k ≤ p.length ∧ Own w' w1.heap.size 5 1 encN ux (ptX fr k) ∧ Own w' w1.heap.size 5 1 encN uy (ptY p fr k) ∧ Sep ux uy) ∧ Ex w1 w') (fun k ux uy => p.length - k) (0) (.slice none 0 0) (.slice none 0 0) ⟨rfl, rfl, rfl, trivial⟩ ⟨⟨Nat.zero_le _, Own.nil_ _ _ _ _ _, Own.nil_ _ _ _ _ _, Sep.nil_ _⟩, (Ex.rfl_ _)⟩ ?_
  rintro k ux uy wl4 ⟨⟨hk, hox, hoy, hsxy⟩, hxwl4⟩
  refine CW.sub (S' := [(20, _), (6, _), (7, _), (1, _), (5, _), (19, _)]) ⟨rfl, rfl, rfl, rfl, rfl, rfl, trivial⟩ ?_
  refine CW.seq ?_
  refine CW.region ?_
  refine RG.vl rfl rfl rfl (Ev.lss rfl rfl rfl) ?_
  refine RG.done ?_
  refine QW.then_ ?_
  refine CW.seq ?_
  refine CW.condP rfl (fun hc5 => ?_) (fun hc5 => ?_)
  · refine CW.skip ?_
    refine QW.then_ ?_
    refine CW.seq ?_
    refine CW.block ?_
    refine CW.seq ?_
    refine CW.region ?_
    refine RG.vl rfl rfl rfl (Ev.move rfl rfl) ?_
    refine RG.vl rfl rfl rfl (Ev.assign rfl rfl) ?_
    refine RG.done ?_
    refine QW.then_ ?_
    refine CW.seq ?_
    refine CW.region ?_
    refine RG.vl rfl rfl rfl (Ev.move rfl rfl) ?_
    refine RG.vl rfl rfl rfl (Ev.to64 rfl rfl Try.underlying5 Try.underlying3 (by omega)) ?_
    refine RG.vl rfl rfl rfl (Ev.move rfl rfl) ?_
    refine RG.vl rfl rfl rfl ((Ev.mulI rfl rfl rfl (by omega)).conv (congrArg (Value.int .i64) (show (5 : Int) * (k : Int) = ((5 * k : Nat) : Int) by omega))) ?_
    refine RG.vl rfl rfl rfl ((Ev.addI rfl rfl rfl (by omega)).conv (congrArg (Value.int .i64) (show (fr : Int) + ((5 * k : Nat) : Int) = ((fr + 5 * k : Nat) : Int) by omega))) ?_
    refine RG.vl rfl rfl rfl ((Ev.remI rfl rfl rfl (by omega)).conv (congrArg (Value.int .i64) (show ((fr + 5 * k : Nat) : Int) % 64 = (((fr + 5 * k) % 64 : Nat) : Int) by omega))) ?_
    refine RG.vl rfl rfl rfl (Ev.to8 rfl rfl Try.underlying3 Try.underlying5 (by omega)) ?_
    refine RG.vl rfl rfl rfl (Ev.assign rfl rfl) ?_
    refine RG.done ?_
    refine QW.then_ ?_
    refine CW.seq ?_
    have hat : ((fr + 5 * k) % 64) < 64 := Nat.mod_lt _ (by omega)
    have hxl := ptX_len fr k
    have hyl := ptY_len p fr k
    refine CW.region ?_
    refine RG.vl rfl rfl rfl (Ev.move rfl rfl) ?_
    refine RG.vl rfl rfl rfl (Ev.move rfl rfl) ?_
    refine RG.call rfl rfl rfl rfl rfl rfl rfl en_23 (Eval_el _ p _ ((fr + 5 * k) % 64) (((Own.ext hp hxwl4).rdl encN_len)) (by omega) hpe hat) ?_
    rintro _ w6 ⟨rfl, hx6⟩
    replace hxwl4 := Ex.tr hxwl4 hx6
    have hE7 := hx6
    refine RG.vl rfl rfl rfl (Ev.move rfl rfl) ?_
    refine RG.vl rfl rfl rfl (Ev.extract rfl rfl rfl) ?_
    refine RG.vl rfl rfl rfl (Ev.extract rfl rfl rfl) ?_
    refine RG.vl rfl rfl rfl (Ev.assign rfl rfl) ?_
    refine RG.vl rfl rfl rfl (Ev.assign rfl rfl) ?_
    refine RG.done ?_
    refine QW.sub (S' := [(1, _), (5, _), (6, _), (7, _), (9, _), (10, _), (11, _), (19, _), (20, _)]) ⟨rfl, rfl, rfl, rfl, rfl, rfl, rfl, rfl, rfl, trivial⟩ ?_
    refine QW.then_ ?_
    refine CW.seq ?_
    refine CW.seq ?_
    refine CW.region ?_
    refine RG.vl rfl rfl rfl (Ev.move rfl rfl) ?_
    refine RG.vl rfl rfl rfl (Ev.isF (Ev.neI rfl rfl rfl) (by decide)) ?_
    refine RG.done ?_
    refine QW.then_ ?_
    refine CW.condF rfl ?_
    refine CW.skip ?_
    refine QW.then_ ?_
    refine CW.region ?_
    refine RG.vl rfl rfl rfl (Ev.move rfl rfl) ?_
    refine RG.vl rfl rfl rfl (Ev.move rfl rfl) ?_
    refine RG.litO (os := [.tmp 39]) (enc := encN) ([((fr + 5 * k) % 64)]) rfl rfl rfl rfl rfl rfl rfl Try.underlying39 inf_5 rfl rfl rfl rfl rfl encN_len rfl rfl (fun v8 wk9 hxwk9 hown10 hnew11 => ?_)
    have hsep12 : Sep v8 _ := Sep.of_new (Own.ext hp hxwl4) hnew11
    have hsep13 : Sep v8 _ := Sep.of_new (Own.ext hox hE7) hnew11
    have hsep14 : Sep v8 _ := Sep.of_new (Own.ext hoy hE7) hnew11
    replace hxwl4 := Ex.tr hxwl4 hxwk9
    replace hE7 := Ex.tr hE7 hxwk9
    have hE15 := hxwk9
    refine RG.appO rfl rfl rfl rfl rfl rfl rfl Try.underlying39 inf_5 rfl rfl encN_len (fun _ => rfl) (Own.ext hox hE7) ((hown10.rdl encN_len)) (by show _ + 1 ≤ maxLen; simp only [maxLen]; omega) (by show (_ + 1) * _ ≤ _; omega) (hxwl4.size) (fun vx2 wa16 hown17 hgr18 hat19 => ?_)
    have hsep21 := Sep.app hsxy (Own.ext hoy hE7) hat19
    have hown20 := Own.grown (Own.ext hoy hE7) hgr18 (fun k a b => hsxy k b a)
    have hsep23 := Sep.app (Sep.symm hsep13) hown10 hat19
    have hown22 := Own.grown hown10 hgr18 (fun k a b => (Sep.symm hsep13) k b a)
    replace hxwl4 := own_block (Own.ext hox hE7) hxwl4 hgr18 (Nat.le_refl _) hxwl4.size
    refine RG.vl rfl rfl rfl (Ev.move rfl rfl) ?_
    refine RG.vl rfl rfl rfl (Ev.move rfl rfl) ?_
    refine RG.litO (os := [.tmp 43]) (enc := encN) ([evl p ((fr + 5 * k) % 64)]) rfl rfl rfl rfl rfl rfl rfl Try.underlying39 inf_5 rfl rfl rfl rfl rfl encN_len rfl rfl (fun v24 wk25 hxwk25 hown26 hnew27 => ?_)
    have hsep28 : Sep v24 _ := Sep.of_new (Own.ext hp hxwl4) hnew27
    have hsep29 : Sep v24 _ := Sep.of_new hown20 hnew27
    have hsep30 : Sep v24 _ := Sep.of_new hown22 hnew27
    have hsep31 : Sep v24 _ := Sep.of_new hown17 hnew27
    replace hxwl4 := Ex.tr hxwl4 hxwk25
    have hE32 := hxwk25
    refine RG.appO rfl rfl rfl rfl rfl rfl rfl Try.underlying39 inf_5 rfl rfl encN_len (fun _ => rfl) (Own.ext hown20 hE32) ((hown26.rdl encN_len)) (by show _ + 1 ≤ maxLen; simp only [maxLen]; omega) (by show (_ + 1) * _ ≤ _; omega) (hxwl4.size) (fun vy2 wa33 hown34 hgr35 hat36 => ?_)
    have hsep38 := Sep.app (Sep.symm hsep14) (Own.ext hown22 hE32) hat36
    have hown37 := Own.grown (Own.ext hown22 hE32) hgr35 (fun k a b => (Sep.symm hsep14) k b a)
    have hsep40 := Sep.app (Sep.symm hsep21) (Own.ext hown17 hE32) hat36
    have hown39 := Own.grown (Own.ext hown17 hE32) hgr35 (fun k a b => (Sep.symm hsep21) k b a)
    have hsep42 := Sep.app (Sep.symm hsep29) hown26 hat36
    have hown41 := Own.grown hown26 hgr35 (fun k a b => (Sep.symm hsep29) k b a)
    replace hxwl4 := own_block (Own.ext hown20 hE32) hxwl4 hgr35 (Nat.le_refl _) hxwl4.size
    refine RG.vl rfl rfl rfl (Ev.assign rfl rfl) ?_
    refine RG.vl rfl rfl rfl (Ev.assign rfl rfl) ?_
    refine RG.done ?_
    refine QW.blockN ?_
    refine QW.then_ ?_
    refine CW.region ?_
    refine RG.vl rfl rfl rfl (Ev.addI rfl rfl rfl (by omega)) ?_
    refine RG.vl rfl rfl rfl (Ev.move rfl rfl) ?_
    refine RG.done ?_
    refine QW.sub (S' := [(1, _), (5, _), (6, _), (7, _), (19, _), (20, _)]) ⟨rfl, rfl, rfl, rfl, rfl, rfl, trivial⟩ ?_
    refine QW.round3 (k + 1) (vx2) (vy2) ⟨rfl, rfl, rfl, trivial⟩ ⟨rfl, rfl, rfl, trivial⟩ ⟨⟨by omega, by rw [ptX_more]; exact hown39, by rw [ptY_more]; exact hown34, (Sep.symm hsep40)⟩, hxwl4⟩ (by omega)
  · refine CW.exit ?_
    refine QW.thenExit ?_
    refine QW.thenExit ?_
    refine QW.blockHit ?_
    refine QW.then_ ?_
    refine CW.seq ?_
    obtain rfl : k = p.length := by omega
    refine CW.region ?_
    refine RG.vl rfl rfl rfl (Ev.move rfl rfl) ?_
    refine RG.vl rfl rfl rfl (Ev.move rfl rfl) ?_
    refine RG.call rfl rfl rfl rfl rfl rfl rfl en_25 (Through_el _ _ _ _ _ ((hox.rdl encN_len)) ((hoy.rdl encN_len)) (by rw [ptX_len]; omega) (ptX_el _ _) (by rw [ptY_len]; omega) (ptY_el _ _ _ hpe) (by rw [ptX_len, ptY_len]) (ptX_nodup _ _ (by omega))) ?_
    have hpre43 := (Ex.tr hR3 hxwl4)
    rintro _ w43 ⟨rt, tt, rfl, hot, hth, hx43⟩
    have hsep44 : Sep rt _ := Sep.of_new (Own.ext hp hxwl4) (fun k h => Own.ge hot h)
    have hsep45 : Sep rt _ := Sep.of_new hox (fun k h => Own.ge hot h)
    have hsep46 : Sep rt _ := Sep.of_new hoy (fun k h => Own.ge hot h)
    replace hxwl4 := Ex.tr hxwl4 hx43
    have hE47 := hx43
    refine RG.vl rfl rfl rfl (Ev.move rfl rfl) ?_
    refine RG.vl rfl rfl rfl (Ev.extract rfl rfl rfl) ?_
    refine RG.vl rfl rfl rfl (Ev.extract rfl rfl rfl) ?_
    refine RG.vl rfl rfl rfl (Ev.assign rfl rfl) ?_
    refine RG.vl rfl rfl rfl (Ev.assign rfl rfl) ?_
    refine RG.done ?_
    refine QW.then_ ?_
    refine CW.seq ?_
    refine CW.region ?_
    refine RG.vl rfl rfl rfl (Ev.move rfl rfl) ?_
    refine RG.call rfl rfl rfl rfl rfl rfl rfl en_38 (Trim_el _ p _ (((Own.ext hp hxwl4).rdl encN_len)) (by omega) hpe) ?_
    have hpre48 := (Ex.tr hR3 hxwl4)
    rintro _ w48 ⟨r48, rfl, hoz48, hx48⟩
    have hsep49 : Sep r48 _ := Sep.of_new (Own.ext hp hxwl4) (fun k h => Own.ge hoz48 h)
    have hsep50 : Sep r48 _ := Sep.of_new (Own.ext hox hE47) (fun k h => Own.ge hoz48 h)
    have hsep51 : Sep r48 _ := Sep.of_new (Own.ext hoy hE47) (fun k h => Own.ge hoz48 h)
    have hsep52 : Sep r48 _ := Sep.of_new hot (fun k h => Own.ge hoz48 h)
    replace hxwl4 := Ex.tr hxwl4 hx48
    replace hE47 := Ex.tr hE47 hx48
    have hE53 := hx48
    refine RG.vl rfl rfl rfl (Ev.move rfl rfl) ?_
    refine RG.vl rfl rfl rfl (Ev.extract rfl rfl rfl) ?_
    refine RG.vl rfl rfl rfl (Ev.extract rfl rfl rfl) ?_
    refine RG.vl rfl rfl rfl (Ev.assign rfl rfl) ?_
    refine RG.vl rfl rfl rfl (Ev.assign rfl rfl) ?_
    refine RG.done ?_
    refine QW.sub (S' := [(12, _), (13, _), (14, _), (15, _)]) ⟨rfl, rfl, rfl, rfl, trivial⟩ ?_
    refine QW.then_ ?_
    refine CW.seq ?_
    refine CW.region ?_
    refine RG.vl rfl rfl rfl (Ev.move rfl rfl) ?_
    refine RG.vl rfl rfl rfl (Ev.isT (Ev.eqI rfl rfl rfl) (rfl)) ?_
    refine RG.vl rfl rfl rfl (Ev.move rfl rfl) ?_
    refine RG.vl rfl rfl rfl (Ev.move rfl rfl) ?_
    refine RG.vl rfl rfl rfl (Ev.isT (Ev.eqI rfl rfl rfl) (rfl)) ?_
    refine RG.vl rfl rfl rfl (Ev.pickT rfl rfl rfl) ?_
    refine RG.vl rfl rfl rfl (Ev.move rfl rfl) ?_
    refine RG.vl rfl rfl rfl (Ev.move rfl rfl) ?_
    refine RG.vl rfl rfl rfl (Ev.move rfl rfl) ?_
    refine RG.call rfl rfl rfl rfl rfl rfl rfl en_31 (sameT _ _ _ _ _ (((Own.ext hot hE53).rdl encN_len)) ((hoz48.rdl encN_len)) (by have := hth.le; rw [ptX_len] at this; omega) (isThr_uniq (ptX_el _ _) (ptX_nodup _ _ (by omega)) (by rw [ptX_len, ptY_len]) hth (pts_thr p fr hpe))) ?_
    rintro _ w54 ⟨rfl, hx54⟩
    replace hxwl4 := Ex.tr hxwl4 hx54
    replace hE47 := Ex.tr hE47 hx54
    replace hE53 := Ex.tr hE53 hx54
    have hE55 := hx54
    refine RG.vl rfl rfl rfl (Ev.pickT rfl rfl rfl) ?_
    refine RG.vl rfl rfl rfl (Ev.move rfl rfl) ?_
    refine RG.call rfl rfl rfl rfl rfl rfl rfl en_13 (awake_ret _) ?_
    rintro _ w56 ⟨rfl, hx56⟩
    replace hxwl4 := Ex.tr hxwl4 hx56
    replace hE47 := Ex.tr hE47 hx56
    replace hE53 := Ex.tr hE53 hx56
    replace hE55 := Ex.tr hE55 hx56
    have hE57 := hx56
    refine RG.vl rfl rfl rfl (Ev.pickT rfl rfl rfl) ?_
    refine RG.vl rfl rfl rfl (Ev.assign rfl rfl) ?_
    refine RG.done ?_
    refine QW.sub (S' := [(4, _)]) ⟨rfl, trivial⟩ ?_
    refine QW.then_ ?_
    refine CW.ret ?_
    refine QW.ret1 rfl rfl ?_
    have hB := (Ex.tr hR3 hxwl4)
    exact ⟨rfl, hB⟩

end Go.Proofs.Ytjaledljhiihmaa
