/- Walks (DI). Written by program. -/
import Derived.Test.YtnhkhpnkhkagaaaDoorT
import Derived.Test.YtnhkhpnkhkagaaaDoorDH
namespace Go.Proofs.YtnhkhpnkhkagaaaDoor
open Go.RowKit
set_option maxRecDepth 100000 in
set_option maxHeartbeats 4000000 in
theorem Fill_ret (k : Nat) (wv : Value) (ws : List Int) (t : List UInt8) (w : World) (hws : RdL w 1 encI wv ws) (hwl : ws.length ≤ 100000) (hlen : t.length ≤ 100000) :
    Ret Tryd.prog 31 [.agg #[.int .u8 (k : Int), wv], .string ⟨t.toArray⟩] w (fun v w' => v = .tuple #[.string ⟨(fillR k ws t).1.toArray⟩, .int .i64 (fillR k ws t).2] ∧ Ex w w') := by
  obtain ⟨wA, wC, rfl⟩ := hws.shape
  have hsz := sbytes t
  have hB0 : Ex w w := Ex.rfl_ _
  refine Ret.of Tryd.func31 rfl Tryd.ntmps31 rfl ?_
  refine CW.seq ?_
  refine CW.region ?_
  refine RG.box rfl rfl rfl rfl rfl (fun g1 w1 eg1 hx1 hb1 => ?_)
  have hle2 : w.heap.size ≤ g1 := by have := (Ex.rfl_ w).size; omega
  have hE3 := hx1
  refine RG.vl rfl rfl rfl (Ev.assign rfl rfl) ?_
  refine RG.vl rfl rfl rfl (Ev.assign rfl rfl) ?_
  refine RG.done ?_
  refine QW.then_ ?_
  refine CW.seq ?_
  refine CW.seq ?_
  refine CW.region ?_
  refine RG.vl rfl rfl rfl (Ev.ldAgg rfl rfl Tryd.underlying24 rfl sz_24 rfl (hb1.cells)) ?_
  refine RG.call rfl rfl rfl rfl rfl rfl rfl en_22 (right_ret k _ ws _ (hws.ext hE3) (by omega)) ?_
  rintro _ w4 ⟨rfl, hx4⟩
  replace hE3 := Ex.tr hE3 hx4
  have hE5 := hx4
  refine RG.vl rfl rfl rfl (Ev.not rfl rfl) ?_
  refine RG.done ?_
  refine QW.then_ ?_
  refine CW.cond rfl (fun hc6 => ?_) (fun hc6 => ?_)
  · refine CW.seq ?_
    refine CW.region ?_
    refine RG.vl rfl rfl rfl (Ev.assign rfl rfl) ?_
    refine RG.vl rfl rfl rfl (Ev.assign rfl rfl) ?_
    refine RG.done ?_
    refine QW.then_ ?_
    refine CW.ret ?_
    refine QW.thenRet ?_
    refine QW.ret2 rfl rfl rfl ?_
    have hB := (Ex.tr hB0 hE3)
    exact ⟨by unfold fillR; rw [show rightD k ws = false from not_t (by assumption)]; rfl, hB⟩
  · refine CW.skip ?_
    refine QW.then_ ?_
    refine CW.seq ?_
    refine CW.seq ?_
    refine CW.region ?_
    refine RG.vl rfl rfl rfl (Ev.move rfl rfl) ?_
    refine RG.vl rfl rfl rfl (Ev.lenStr rfl rfl rfl Tryd.underlying9) ?_
    refine RG.vl rfl rfl rfl (Ev.gtr rfl rfl rfl) ?_
    refine RG.done ?_
    refine QW.then_ ?_
    refine CW.condP rfl (fun hc7 => ?_) (fun hc7 => ?_)
    · refine CW.seq ?_
      refine CW.region ?_
      refine RG.vl rfl rfl rfl (Ev.assign rfl rfl) ?_
      refine RG.vl rfl rfl rfl (Ev.assign rfl rfl) ?_
      refine RG.done ?_
      refine QW.then_ ?_
      refine CW.ret ?_
      refine QW.thenRet ?_
      refine QW.ret2 rfl rfl rfl ?_
      have hB := (Ex.tr hB0 hE3)
      exact ⟨by unfold fillR; rw [show rightD k ws = true from not_f (by assumption), if_neg (by decide), if_pos (by omega)], hB⟩
    · refine CW.skip ?_
      refine QW.then_ ?_
      refine CW.seq ?_
      refine CW.region ?_
      refine RG.vl rfl rfl rfl (Ev.move rfl rfl) ?_
      refine RG.call rfl rfl rfl rfl rfl rfl rfl en_46 (repl_ret _ _ (by omega)) ?_
      rintro _ w8 ⟨rfl, hx8⟩
      replace hE3 := Ex.tr hE3 hx8
      replace hE5 := Ex.tr hE5 hx8
      have hE9 := hx8
      refine RG.vl rfl rfl rfl (Ev.assign rfl rfl) ?_
      refine RG.done ?_
      refine QW.then_ ?_
      refine CW.seq ?_
      refine CW.seq ?_
      have hzl := zeroQ_len t
      refine CW.region ?_
      refine RG.vl rfl rfl rfl (Ev.move rfl rfl) ?_
      refine RG.call rfl rfl rfl rfl rfl rfl rfl en_47 (count_ret t 63 _) ?_
      rintro _ w10 ⟨rfl, hx10⟩
      replace hE3 := Ex.tr hE3 hx10
      replace hE5 := Ex.tr hE5 hx10
      replace hE9 := Ex.tr hE9 hx10
      have hE11 := hx10
      refine RG.vl rfl rfl rfl (Ev.neI rfl rfl rfl) ?_
      refine RG.vl rfl rfl rfl (Ev.move rfl rfl) ?_
      refine RG.split (d := 23) rfl (fun hg12 => ?_) (fun hg12 => ?_)
      · refine RG.pass rfl rfl rfl ?_
        refine RG.pass rfl rfl rfl ?_
        refine RG.pass rfl rfl rfl ?_
        refine RG.pass rfl rfl rfl ?_
        refine RG.vl rfl rfl rfl (Ev.pickT rfl rfl rfl) ?_
        refine RG.done ?_
        refine QW.sub (S' := [(1, _), (2, _), (4, _), (5, _), (6, _), (28, _)]) ⟨rfl, rfl, rfl, rfl, rfl, rfl, trivial⟩ ?_
        refine QW.then_ ?_
        refine CW.condT rfl ?_
        refine CW.seq ?_
        refine CW.region ?_
        refine RG.vl rfl rfl rfl (Ev.assign rfl rfl) ?_
        refine RG.vl rfl rfl rfl (Ev.assign rfl rfl) ?_
        refine RG.done ?_
        refine QW.then_ ?_
        refine CW.ret ?_
        refine QW.thenRet ?_
        refine QW.ret2 rfl rfl rfl ?_
        have hB := (Ex.tr hB0 hE3)
        first
          | exact ⟨by unfold fillR; rw [show rightD k ws = true from not_f (by assumption), if_neg (by decide), if_neg (by omega), if_pos (.inl (by omega))], hB⟩
          | exact ⟨by unfold fillR; rw [show rightD k ws = true from not_f (by assumption), if_neg (by decide), if_neg (by omega), if_pos (.inr (not_t (by assumption)))], hB⟩
      · refine RG.vl rfl rfl rfl (Ev.ldAgg rfl rfl Tryd.underlying24 rfl sz_24 rfl ((hb1.ext hE5).cells)) ?_
        refine RG.vl rfl rfl rfl (Ev.move rfl rfl) ?_
        refine RG.call rfl rfl rfl rfl rfl rfl rfl en_39 (isChk_ret k _ _ _ (by omega)) ?_
        rintro _ w13 ⟨rfl, hx13⟩
        replace hE3 := Ex.tr hE3 hx13
        replace hE5 := Ex.tr hE5 hx13
        replace hE9 := Ex.tr hE9 hx13
        replace hE11 := Ex.tr hE11 hx13
        have hE14 := hx13
        refine RG.vl rfl rfl rfl (Ev.not rfl rfl) ?_
        refine RG.vl rfl rfl rfl (Ev.pickF rfl rfl rfl) ?_
        refine RG.done ?_
        refine QW.sub (S' := [(1, _), (2, _), (4, _), (5, _), (6, _), (28, _)]) ⟨rfl, rfl, rfl, rfl, rfl, rfl, trivial⟩ ?_
        refine QW.then_ ?_
        refine CW.cond rfl (fun hc15 => ?_) (fun hc15 => ?_)
        · refine CW.seq ?_
          refine CW.region ?_
          refine RG.vl rfl rfl rfl (Ev.assign rfl rfl) ?_
          refine RG.vl rfl rfl rfl (Ev.assign rfl rfl) ?_
          refine RG.done ?_
          refine QW.then_ ?_
          refine CW.ret ?_
          refine QW.thenRet ?_
          refine QW.ret2 rfl rfl rfl ?_
          have hB := (Ex.tr hB0 hE3)
          first
            | exact ⟨by unfold fillR; rw [show rightD k ws = true from not_f (by assumption), if_neg (by decide), if_neg (by omega), if_pos (.inl (by omega))], hB⟩
            | exact ⟨by unfold fillR; rw [show rightD k ws = true from not_f (by assumption), if_neg (by decide), if_neg (by omega), if_pos (.inr (not_t (by assumption)))], hB⟩
        · refine CW.skip ?_
          refine QW.then_ ?_
          refine CW.seq ?_
          have hr : rightD k ws = true := not_f (by assumption)
          have hc1 : t.count 63 = 1 := by omega
          have hck : isChk k (zeroQ t) = true := not_f (by assumption)
          obtain ⟨A, B, rfl, hA, hAB⟩ := one_q hc1
          have hab : (A ++ 63 :: B).length = A.length + B.length + 1 := by simp; omega
          have hvl := vals_len (zeroQ (A ++ 63 :: B))
          obtain ⟨x00, hx00⟩ := setp_self (l := vals (zeroQ (A ++ 63 :: B))) (i := B.length) (by omega)
          have hm9 := mostD_ge k
          have hm10 := mostD_le k
          refine CW.region ?_
          refine RG.vl rfl rfl rfl (Ev.move rfl rfl) ?_
          replace hws := (hws.ext hE3)
          replace hb1 := (hb1.ext hE5)
          have hR16 := (Ex.tr hB0 hE3)
          have hR17 := hE5
          have hR18 := hE9
          have hR19 := hE11
          have hR20 := hE14
          refine RG.call rfl rfl rfl rfl rfl rfl rfl en_36 (vals_ret (zeroQ (A ++ 63 :: B)) _ (by omega) (chk_ok hck)) ?_
          have hpre21 := hR16
          rintro r21 w21 ⟨hov21, hx21⟩
          have hsb22 := fun e => sep_blk hb1 (Nat.le_refl _) hov21 e
          have hE23 := hx21
          refine RG.vl rfl rfl rfl (Ev.assign rfl rfl) ?_
          refine RG.done ?_
          refine QW.then_ ?_
          refine CW.seq ?_
          refine CW.region ?_
          refine RG.vl rfl rfl rfl (Ev.move rfl rfl) ?_
          refine RG.vl rfl rfl rfl (Ev.lenStr rfl rfl rfl Tryd.underlying9) ?_
          refine RG.vl rfl rfl rfl (Ev.subI rfl rfl rfl (by omega)) ?_
          refine RG.vl rfl rfl rfl (Ev.move rfl rfl) ?_
          refine RG.call rfl rfl rfl rfl rfl rfl rfl en_48 (idxb1_ret (A ++ 63 :: B) 63 _) ?_
          rintro _ w24 ⟨rfl, hx24⟩
          replace hE23 := Ex.tr hE23 hx24
          have hE25 := hx24
          refine RG.vl rfl rfl rfl ((Ev.subI rfl rfl rfl (by rw [idx_at hA]; omega)).conv (congrArg (Value.int .i64) (show ((⟨(A ++ 63 :: B).toArray⟩ : ByteArray).size : Int) - 1 - Lib.indexByte (A ++ 63 :: B) 63 = (B.length : Nat) by rw [sbytes, idx_at hA]; omega))) ?_
          refine RG.vl rfl rfl rfl (Ev.assign rfl rfl) ?_
          refine RG.done ?_
          refine QW.then_ ?_
          refine CW.seq ?_
          refine CW.region ?_
          refine RG.vl rfl rfl rfl (Ev.assign rfl rfl) ?_
          refine RG.done ?_
          refine QW.then_ ?_
          refine CW.seq ?_
          refine CW.seq ?_
          refine CW.region ?_
          refine RG.vl rfl rfl rfl (Ev.move rfl rfl) ?_
          refine RG.vl rfl rfl rfl (Ev.eqI rfl rfl rfl) ?_
          refine RG.done ?_
          refine QW.then_ ?_
          refine CW.condP rfl (fun hc26 => ?_) (fun hc26 => ?_)
          · refine CW.region ?_
            refine RG.vl rfl rfl rfl (Ev.ldAgg rfl rfl Tryd.underlying24 rfl sz_24 rfl ((hb1.ext hE23).cells)) ?_
            refine RG.call rfl rfl rfl rfl rfl rfl rfl en_49 (most_ret k _ _) ?_
            rintro _ w27 ⟨rfl, hx27⟩
            replace hE23 := Ex.tr hE23 hx27
            replace hE25 := Ex.tr hE25 hx27
            have hE28 := hx27
            refine RG.vl rfl rfl rfl (Ev.assign rfl rfl) ?_
            refine RG.done ?_
            refine QW.sub (S' := [(2, _), (4, _), (5, _), (7, _), (8, _), (9, _)]) ⟨rfl, rfl, rfl, rfl, rfl, rfl, trivial⟩ ?_
            refine QW.then_ ?_
            refine CW.seq ?_
            refine CW.region ?_
            refine RG.vl rfl rfl rfl (Ev.assign rfl rfl) ?_
            refine RG.done ?_
            refine QW.then_ ?_
            refine CW.seq ?_
            refine CW.seq ?_
            refine CW.region ?_
            refine RG.vl rfl rfl rfl (Ev.assign rfl rfl) ?_
            refine RG.done ?_
            refine QW.then_ ?_
            refine CW.block ?_
            refine CW.loop3 [(2, _), (4, _), (5, _), (7, _), (8, _), (9, _)] ⟨rfl, rfl, rfl, rfl, rfl, rfl, trivial⟩ (fun (v : Nat) (x : Nat) (u : Value) => [(11, .int .i64 (v : Int)), (10, u)]) (fun v x u w' => (v ≤ mostD k + 1 ∧ Own w' w13.heap.size 3 1 encZ r21 ((vals (zeroQ (A ++ 63 :: B))).set B.length x) ∧ Own w' w13.heap.size 5 1 encB u (chs (fun x => passD k ws ((vals (zeroQ (A ++ 63 :: B))).set B.length x)) 0 v) ∧ Sep u r21) ∧ Ex w13 w') (fun v x u => mostD k + 1 - v) (0) (x00) (.slice none 0 0) ⟨rfl, rfl, trivial⟩ ⟨⟨by omega, by rw [hx00]; exact (Own.ext hov21 hE25), Own.nil_ _ _ _ _ _, Sep.nil_ _⟩, hE23⟩ ?_
            rintro v x u wl29 ⟨⟨hv, hown, hou, hsp⟩, hxwl29⟩
            refine CW.sub (S' := [(11, _), (10, _), (2, _), (4, _), (5, _), (7, _), (8, _), (9, _)]) ⟨rfl, rfl, rfl, rfl, rfl, rfl, rfl, rfl, trivial⟩ ?_
            refine CW.seq ?_
            refine CW.seq ?_
            refine CW.region ?_
            refine RG.vl rfl rfl rfl (Ev.move rfl rfl) ?_
            refine RG.vl rfl rfl rfl (Ev.move rfl rfl) ?_
            refine RG.vl rfl rfl rfl (Ev.leq rfl rfl rfl) ?_
            refine RG.done ?_
            refine QW.then_ ?_
            refine CW.condP rfl (fun hc30 => ?_) (fun hc30 => ?_)
            · refine CW.skip ?_
              refine QW.then_ ?_
              refine CW.seq ?_
              refine CW.block ?_
              refine CW.seq ?_
              refine CW.region ?_
              refine RG.vl rfl rfl rfl (Ev.move rfl rfl) ?_
              refine RG.vl rfl rfl rfl (Ev.move rfl rfl) ?_
              refine RG.vl rfl rfl rfl (Ev.move rfl rfl) ?_
              refine RG.idxO rfl rfl rfl rfl rfl rfl Tryd.underlying22 sz_3 encZ_len (hown) (List.getElem?_eq_getElem (show B.length < _ by (repeat rw [List.length_set]); omega)) (fun g32 hg32 hBg32 hp31b hp31 => ?_)
              refine RG.stOw0 (g := g32) (v) rfl rfl rfl rfl rfl sz_3 rfl (fun _ => rfl) hown hg32 (List.getElem?_eq_getElem (show B.length < _ by (repeat rw [List.length_set]); omega)) rfl (rfl) (fun ws33 hwws33 hown34 => ?_)
              rw [List.set_set] at hown34
              replace hou := Own.far hou hwws33 (fun e => (Sep.symm hsp) _ hg32 e)
              replace hxwl29 := Wr.below hxwl29 hwws33 hBg32
              refine RG.done ?_
              refine QW.then_ ?_
              refine CW.seq ?_
              refine CW.region ?_
              refine RG.vl rfl rfl rfl (Ev.ldAgg rfl rfl Tryd.underlying24 rfl sz_24 rfl ((hb1.ext hxwl29).cells)) ?_
              refine RG.vl rfl rfl rfl (Ev.move rfl rfl) ?_
              refine RG.call rfl rfl rfl rfl rfl rfl rfl en_40 (passes_ret k _ _ ws _ _ (hws.ext hxwl29) ((hown34.rdl encZ_len)) hr (by rw [List.length_set]; omega) (all_set (chk_most hck) (by omega))) ?_
              rintro _ w35 ⟨rfl, hx35⟩
              replace hxwl29 := Ex.tr hxwl29 hx35
              have hE36 := hx35
              refine RG.done ?_
              refine QW.then_ ?_
              refine CW.cond rfl (fun hc37 => ?_) (fun hc37 => ?_)
              · have hcl := chs_len (fun x => passD k ws ((vals (zeroQ (A ++ 63 :: B))).set B.length x)) v 0
                refine CW.region ?_
                refine RG.vl rfl rfl rfl (Ev.move rfl rfl) ?_
                refine RG.vl rfl rfl rfl (Ev.move rfl rfl) ?_
                refine RG.call rfl rfl rfl rfl rfl rfl rfl en_38 (chr_ret _ _ (by omega)) ?_
                rintro _ w38 ⟨rfl, hx38⟩
                replace hxwl29 := Ex.tr hxwl29 hx38
                replace hE36 := Ex.tr hE36 hx38
                have hE39 := hx38
                refine RG.litO (os := [.tmp 55]) (enc := encB) ([chr v]) rfl rfl rfl rfl rfl rfl rfl Tryd.underlying39 inf_5 rfl rfl rfl rfl rfl encB_len rfl rfl (fun v40 wk41 hxwk41 hown42 hnew43 => ?_)
                have hsep44 : Sep v40 _ := Sep.of_new (Own.ext hou hE36) hnew43
                have hsep45 : Sep v40 _ := Sep.of_new (Own.ext hown34 hE36) hnew43
                replace hxwl29 := Ex.tr hxwl29 hxwk41
                replace hE36 := Ex.tr hE36 hxwk41
                replace hE39 := Ex.tr hE39 hxwk41
                have hE46 := hxwk41
                refine RG.appO rfl rfl rfl rfl rfl rfl rfl Tryd.underlying39 inf_5 rfl rfl encB_len (fun _ => rfl) (Own.ext hou hE36) ((hown42.rdl encB_len)) (by show _ + 1 ≤ maxLen; simp only [maxLen]; omega) (by show (_ + 1) * _ ≤ _; omega) (hxwl29.size) (fun v47 wa48 hown49 hgr50 hat51 => ?_)
                have hsep53 := Sep.app hsp (Own.ext hown34 hE36) hat51
                have hown52 := Own.grown (Own.ext hown34 hE36) hgr50 (fun k a b => hsp k b a)
                have hsep55 := Sep.app (Sep.symm hsep44) hown42 hat51
                have hown54 := Own.grown hown42 hgr50 (fun k a b => (Sep.symm hsep44) k b a)
                replace hxwl29 := own_block (Own.ext hou hE36) hxwl29 hgr50 (Nat.le_refl _) hxwl29.size
                refine RG.vl rfl rfl rfl (Ev.assign rfl rfl) ?_
                refine RG.done ?_
                refine QW.sub (S' := [(2, _), (4, _), (5, _), (7, _), (8, _), (9, _), (10, _), (11, _)]) ⟨rfl, rfl, rfl, rfl, rfl, rfl, rfl, rfl, trivial⟩ ?_
                refine QW.blockN ?_
                refine QW.then_ ?_
                refine CW.region ?_
                refine RG.vl rfl rfl rfl (Ev.move rfl rfl) ?_
                refine RG.vl rfl rfl rfl (Ev.addI rfl rfl rfl (by omega)) ?_
                refine RG.vl rfl rfl rfl (Ev.assign rfl rfl) ?_
                refine RG.done ?_
                refine QW.round3 (v + 1) (v) (v47) ⟨rfl, rfl, trivial⟩ ⟨rfl, rfl, rfl, rfl, rfl, rfl, trivial⟩ ⟨⟨by omega, hown52, by rw [chs_hit (by assumption)]; exact hown49, hsep53⟩, hxwl29⟩ (by omega)
              · refine CW.skip ?_
                refine QW.blockN ?_
                refine QW.then_ ?_
                refine CW.region ?_
                refine RG.vl rfl rfl rfl (Ev.move rfl rfl) ?_
                refine RG.vl rfl rfl rfl (Ev.addI rfl rfl rfl (by omega)) ?_
                refine RG.vl rfl rfl rfl (Ev.assign rfl rfl) ?_
                refine RG.done ?_
                refine QW.round3 (v + 1) (v) (u) ⟨rfl, rfl, trivial⟩ ⟨rfl, rfl, rfl, rfl, rfl, rfl, trivial⟩ ⟨⟨by omega, (Own.ext hown34 hE36), by rw [chs_miss (by assumption)]; exact (Own.ext hou hE36), hsp⟩, hxwl29⟩ (by omega)
            · refine CW.exit ?_
              refine QW.thenExit ?_
              refine QW.thenExit ?_
              refine QW.blockHit ?_
              refine QW.then_ ?_
              refine CW.seq ?_
              refine CW.region ?_
              refine RG.vl rfl rfl rfl (Ev.move rfl rfl) ?_
              refine RG.vl rfl rfl rfl (Ev.toStr rfl rfl Tryd.underlying39 Tryd.underlying5 Tryd.underlying9 ((Own.rdl hou encB_len))) ?_
              refine RG.vl rfl rfl rfl (Ev.assign rfl rfl) ?_
              refine RG.vl rfl rfl rfl (Ev.assign rfl rfl) ?_
              refine RG.done ?_
              refine QW.then_ ?_
              refine CW.ret ?_
              refine QW.ret2 rfl rfl rfl ?_
              have hB := (Ex.tr hR16 hxwl29)
              obtain rfl : v = mostD k + 1 := by omega
              exact ⟨by unfold fillR; rw [hr, if_neg (by decide), if_neg (by omega), if_neg (by rintro (h | h); exact h hc1; rw [hck] at h; cases h), qAt_at hA, show (A ++ 63 :: B).length - 1 - A.length = B.length by omega, if_pos (by omega)], hB⟩
          · refine CW.skip ?_
            refine QW.then_ ?_
            refine CW.seq ?_
            refine CW.region ?_
            refine RG.vl rfl rfl rfl (Ev.assign rfl rfl) ?_
            refine RG.done ?_
            refine QW.sub (S' := [(2, _), (4, _), (5, _), (7, _), (8, _), (9, _), (10, _)]) ⟨rfl, rfl, rfl, rfl, rfl, rfl, rfl, trivial⟩ ?_
            refine QW.then_ ?_
            refine CW.seq ?_
            refine CW.seq ?_
            refine CW.region ?_
            refine RG.vl rfl rfl rfl (Ev.assign rfl rfl) ?_
            refine RG.done ?_
            refine QW.then_ ?_
            refine CW.block ?_
            refine CW.loop3 [(2, _), (4, _), (5, _), (7, _), (8, _), (9, _)] ⟨rfl, rfl, rfl, rfl, rfl, rfl, trivial⟩ (fun (v : Nat) (x : Nat) (u : Value) => [(11, .int .i64 (v : Int)), (10, u)]) (fun v x u w' => (v ≤ 9 + 1 ∧ Own w' w13.heap.size 3 1 encZ r21 ((vals (zeroQ (A ++ 63 :: B))).set B.length x) ∧ Own w' w13.heap.size 5 1 encB u (chs (fun x => passD k ws ((vals (zeroQ (A ++ 63 :: B))).set B.length x)) 0 v) ∧ Sep u r21) ∧ Ex w13 w') (fun v x u => 9 + 1 - v) (0) (x00) (.slice none 0 0) ⟨rfl, rfl, trivial⟩ ⟨⟨by omega, by rw [hx00]; exact (Own.ext hov21 hE25), Own.nil_ _ _ _ _ _, Sep.nil_ _⟩, hE23⟩ ?_
            rintro v x u wl56 ⟨⟨hv, hown, hou, hsp⟩, hxwl56⟩
            refine CW.sub (S' := [(11, _), (10, _), (2, _), (4, _), (5, _), (7, _), (8, _), (9, _)]) ⟨rfl, rfl, rfl, rfl, rfl, rfl, rfl, rfl, trivial⟩ ?_
            refine CW.seq ?_
            refine CW.seq ?_
            refine CW.region ?_
            refine RG.vl rfl rfl rfl (Ev.move rfl rfl) ?_
            refine RG.vl rfl rfl rfl (Ev.move rfl rfl) ?_
            refine RG.vl rfl rfl rfl (Ev.leq rfl rfl rfl) ?_
            refine RG.done ?_
            refine QW.then_ ?_
            refine CW.condP rfl (fun hc57 => ?_) (fun hc57 => ?_)
            · refine CW.skip ?_
              refine QW.then_ ?_
              refine CW.seq ?_
              refine CW.block ?_
              refine CW.seq ?_
              refine CW.region ?_
              refine RG.vl rfl rfl rfl (Ev.move rfl rfl) ?_
              refine RG.vl rfl rfl rfl (Ev.move rfl rfl) ?_
              refine RG.vl rfl rfl rfl (Ev.move rfl rfl) ?_
              refine RG.idxO rfl rfl rfl rfl rfl rfl Tryd.underlying22 sz_3 encZ_len (hown) (List.getElem?_eq_getElem (show B.length < _ by (repeat rw [List.length_set]); omega)) (fun g59 hg59 hBg59 hp58b hp58 => ?_)
              refine RG.stOw0 (g := g59) (v) rfl rfl rfl rfl rfl sz_3 rfl (fun _ => rfl) hown hg59 (List.getElem?_eq_getElem (show B.length < _ by (repeat rw [List.length_set]); omega)) rfl (rfl) (fun ws60 hwws60 hown61 => ?_)
              rw [List.set_set] at hown61
              replace hou := Own.far hou hwws60 (fun e => (Sep.symm hsp) _ hg59 e)
              replace hxwl56 := Wr.below hxwl56 hwws60 hBg59
              refine RG.done ?_
              refine QW.then_ ?_
              refine CW.seq ?_
              refine CW.region ?_
              refine RG.vl rfl rfl rfl (Ev.ldAgg rfl rfl Tryd.underlying24 rfl sz_24 rfl ((hb1.ext hxwl56).cells)) ?_
              refine RG.vl rfl rfl rfl (Ev.move rfl rfl) ?_
              refine RG.call rfl rfl rfl rfl rfl rfl rfl en_40 (passes_ret k _ _ ws _ _ (hws.ext hxwl56) ((hown61.rdl encZ_len)) hr (by rw [List.length_set]; omega) (all_set (chk_most hck) (by omega))) ?_
              rintro _ w62 ⟨rfl, hx62⟩
              replace hxwl56 := Ex.tr hxwl56 hx62
              have hE63 := hx62
              refine RG.done ?_
              refine QW.then_ ?_
              refine CW.cond rfl (fun hc64 => ?_) (fun hc64 => ?_)
              · have hcl := chs_len (fun x => passD k ws ((vals (zeroQ (A ++ 63 :: B))).set B.length x)) v 0
                refine CW.region ?_
                refine RG.vl rfl rfl rfl (Ev.move rfl rfl) ?_
                refine RG.vl rfl rfl rfl (Ev.move rfl rfl) ?_
                refine RG.call rfl rfl rfl rfl rfl rfl rfl en_38 (chr_ret _ _ (by omega)) ?_
                rintro _ w65 ⟨rfl, hx65⟩
                replace hxwl56 := Ex.tr hxwl56 hx65
                replace hE63 := Ex.tr hE63 hx65
                have hE66 := hx65
                refine RG.litO (os := [.tmp 55]) (enc := encB) ([chr v]) rfl rfl rfl rfl rfl rfl rfl Tryd.underlying39 inf_5 rfl rfl rfl rfl rfl encB_len rfl rfl (fun v67 wk68 hxwk68 hown69 hnew70 => ?_)
                have hsep71 : Sep v67 _ := Sep.of_new (Own.ext hou hE63) hnew70
                have hsep72 : Sep v67 _ := Sep.of_new (Own.ext hown61 hE63) hnew70
                replace hxwl56 := Ex.tr hxwl56 hxwk68
                replace hE63 := Ex.tr hE63 hxwk68
                replace hE66 := Ex.tr hE66 hxwk68
                have hE73 := hxwk68
                refine RG.appO rfl rfl rfl rfl rfl rfl rfl Tryd.underlying39 inf_5 rfl rfl encB_len (fun _ => rfl) (Own.ext hou hE63) ((hown69.rdl encB_len)) (by show _ + 1 ≤ maxLen; simp only [maxLen]; omega) (by show (_ + 1) * _ ≤ _; omega) (hxwl56.size) (fun v74 wa75 hown76 hgr77 hat78 => ?_)
                have hsep80 := Sep.app hsp (Own.ext hown61 hE63) hat78
                have hown79 := Own.grown (Own.ext hown61 hE63) hgr77 (fun k a b => hsp k b a)
                have hsep82 := Sep.app (Sep.symm hsep71) hown69 hat78
                have hown81 := Own.grown hown69 hgr77 (fun k a b => (Sep.symm hsep71) k b a)
                replace hxwl56 := own_block (Own.ext hou hE63) hxwl56 hgr77 (Nat.le_refl _) hxwl56.size
                refine RG.vl rfl rfl rfl (Ev.assign rfl rfl) ?_
                refine RG.done ?_
                refine QW.sub (S' := [(2, _), (4, _), (5, _), (7, _), (8, _), (9, _), (10, _), (11, _)]) ⟨rfl, rfl, rfl, rfl, rfl, rfl, rfl, rfl, trivial⟩ ?_
                refine QW.blockN ?_
                refine QW.then_ ?_
                refine CW.region ?_
                refine RG.vl rfl rfl rfl (Ev.move rfl rfl) ?_
                refine RG.vl rfl rfl rfl (Ev.addI rfl rfl rfl (by omega)) ?_
                refine RG.vl rfl rfl rfl (Ev.assign rfl rfl) ?_
                refine RG.done ?_
                refine QW.round3 (v + 1) (v) (v74) ⟨rfl, rfl, trivial⟩ ⟨rfl, rfl, rfl, rfl, rfl, rfl, trivial⟩ ⟨⟨by omega, hown79, by rw [chs_hit (by assumption)]; exact hown76, hsep80⟩, hxwl56⟩ (by omega)
              · refine CW.skip ?_
                refine QW.blockN ?_
                refine QW.then_ ?_
                refine CW.region ?_
                refine RG.vl rfl rfl rfl (Ev.move rfl rfl) ?_
                refine RG.vl rfl rfl rfl (Ev.addI rfl rfl rfl (by omega)) ?_
                refine RG.vl rfl rfl rfl (Ev.assign rfl rfl) ?_
                refine RG.done ?_
                refine QW.round3 (v + 1) (v) (u) ⟨rfl, rfl, trivial⟩ ⟨rfl, rfl, rfl, rfl, rfl, rfl, trivial⟩ ⟨⟨by omega, (Own.ext hown61 hE63), by rw [chs_miss (by assumption)]; exact (Own.ext hou hE63), hsp⟩, hxwl56⟩ (by omega)
            · refine CW.exit ?_
              refine QW.thenExit ?_
              refine QW.thenExit ?_
              refine QW.blockHit ?_
              refine QW.then_ ?_
              refine CW.seq ?_
              refine CW.region ?_
              refine RG.vl rfl rfl rfl (Ev.move rfl rfl) ?_
              refine RG.vl rfl rfl rfl (Ev.toStr rfl rfl Tryd.underlying39 Tryd.underlying5 Tryd.underlying9 ((Own.rdl hou encB_len))) ?_
              refine RG.vl rfl rfl rfl (Ev.assign rfl rfl) ?_
              refine RG.vl rfl rfl rfl (Ev.assign rfl rfl) ?_
              refine RG.done ?_
              refine QW.then_ ?_
              refine CW.ret ?_
              refine QW.ret2 rfl rfl rfl ?_
              have hB := (Ex.tr hR16 hxwl56)
              obtain rfl : v = 9 + 1 := by omega
              exact ⟨by unfold fillR; rw [hr, if_neg (by decide), if_neg (by omega), if_neg (by rintro (h | h); exact h hc1; rw [hck] at h; cases h), qAt_at hA, show (A ++ 63 :: B).length - 1 - A.length = B.length by omega, if_neg (by omega)], hB⟩

end Go.Proofs.YtnhkhpnkhkagaaaDoor
