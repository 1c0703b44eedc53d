/- Walks (EC). Written by program. -/
import Derived.Test.YtnhkhpnkhkagaaaDoorT
import Derived.Test.YtnhkhpnkhkagaaaDoorEB
namespace Go.Proofs.YtnhkhpnkhkagaaaDoor
open Go.RowKit
set_option maxRecDepth 100000 in
set_option maxHeartbeats 4000000 in
theorem rvals_ret (k : Nat) (wv : Value) (ws : List Int) (t : List UInt8) (w : World) (hws : RdL w 1 encI wv ws) (hwl : ws.length ≤ 100000) (hlen : t.length ≤ 100000) :
    Ret Tryd.prog 57 [.int .u8 (k : Int), wv, .string ⟨t.toArray⟩] w (fun v w' => ∃ u, v = .tuple #[u, .int .i64 (valR k ws t).2] ∧ Own w' w.heap.size 3 1 encZ u (valR k ws t).1 ∧ Ex w w') := by
  obtain ⟨wA, wC, rfl⟩ := hws.shape
  have hsz := sbytes t
  have hB0 : Ex w w := Ex.rfl_ _
  refine Ret.of Tryd.func57 rfl Tryd.ntmps57 rfl ?_
  refine CW.seq ?_
  refine CW.region ?_
  refine RG.vl rfl rfl rfl (Ev.assign rfl rfl) ?_
  refine RG.vl rfl rfl rfl (Ev.assign rfl rfl) ?_
  refine RG.done ?_
  refine QW.then_ ?_
  refine CW.seq ?_
  refine CW.seq ?_
  refine CW.region ?_
  refine RG.vl rfl rfl rfl (Ev.move rfl rfl) ?_
  refine RG.vl rfl rfl rfl (Ev.move rfl rfl) ?_
  refine RG.call rfl rfl rfl rfl rfl rfl rfl en_23 (rright_ret k _ ws _ hws (by omega)) ?_
  rintro _ w1 ⟨rfl, hx1⟩
  have hE2 := hx1
  refine RG.vl rfl rfl rfl (Ev.not rfl rfl) ?_
  refine RG.done ?_
  refine QW.then_ ?_
  refine CW.cond rfl (fun hc3 => ?_) (fun hc3 => ?_)
  · refine CW.seq ?_
    refine CW.region ?_
    refine RG.vl rfl rfl rfl (Ev.assign rfl rfl) ?_
    refine RG.vl rfl rfl rfl (Ev.assign rfl rfl) ?_
    refine RG.done ?_
    refine QW.then_ ?_
    refine CW.ret ?_
    refine QW.thenRet ?_
    refine QW.ret2 rfl rfl rfl ?_
    have hB := (Ex.tr hB0 hE2)
    have e : valR k ws t = ([], 160) := by unfold valR; rw [show rightD k ws = false from not_t (by assumption)]; rfl
    exact ⟨_, by rw [e], by rw [e]; exact Own.nil_ _ _ _ _ _, hB⟩
  · refine CW.skip ?_
    refine QW.then_ ?_
    refine CW.seq ?_
    refine CW.seq ?_
    refine CW.region ?_
    refine RG.vl rfl rfl rfl (Ev.move rfl rfl) ?_
    refine RG.vl rfl rfl rfl (Ev.lenStr rfl rfl rfl Tryd.underlying9) ?_
    refine RG.vl rfl rfl rfl (Ev.gtr rfl rfl rfl) ?_
    refine RG.done ?_
    refine QW.then_ ?_
    refine CW.condP rfl (fun hc4 => ?_) (fun hc4 => ?_)
    · refine CW.seq ?_
      refine CW.region ?_
      refine RG.vl rfl rfl rfl (Ev.assign rfl rfl) ?_
      refine RG.vl rfl rfl rfl (Ev.assign rfl rfl) ?_
      refine RG.done ?_
      refine QW.then_ ?_
      refine CW.ret ?_
      refine QW.thenRet ?_
      refine QW.ret2 rfl rfl rfl ?_
      have hB := (Ex.tr hB0 hE2)
      have e : valR k ws t = ([], 3) := by unfold valR; rw [show rightD k ws = true from not_f (by assumption), if_neg (by decide), if_pos (by omega)]
      exact ⟨_, by rw [e], by rw [e]; exact Own.nil_ _ _ _ _ _, hB⟩
    · refine CW.skip ?_
      refine QW.then_ ?_
      refine CW.seq ?_
      refine CW.seq ?_
      refine CW.region ?_
      refine RG.vl rfl rfl rfl (Ev.move rfl rfl) ?_
      refine RG.vl rfl rfl rfl (Ev.lenStr rfl rfl rfl Tryd.underlying9) ?_
      refine RG.vl rfl rfl rfl (Ev.lss rfl rfl rfl) ?_
      refine RG.done ?_
      refine QW.then_ ?_
      refine CW.condP rfl (fun hc5 => ?_) (fun hc5 => ?_)
      · refine CW.seq ?_
        refine CW.region ?_
        refine RG.vl rfl rfl rfl (Ev.assign rfl rfl) ?_
        refine RG.vl rfl rfl rfl (Ev.assign rfl rfl) ?_
        refine RG.done ?_
        refine QW.sub (S' := [(0, _), (2, _), (6, _), (7, _)]) ⟨rfl, rfl, rfl, rfl, trivial⟩ ?_
        refine QW.then_ ?_
        refine CW.ret ?_
        refine QW.thenRet ?_
        refine QW.ret2 rfl rfl rfl ?_
        have hB := (Ex.tr hB0 hE2)
        have e : valR k ws t = ([], 161) := by unfold valR; rw [show rightD k ws = true from not_f (by assumption), if_neg (by decide), if_neg (by omega), chk_short (by omega)]; rfl
        exact ⟨_, by rw [e], by rw [e]; exact Own.nil_ _ _ _ _ _, hB⟩
      · refine CW.skip ?_
        refine QW.then_ ?_
        refine CW.seq ?_
        have hr : rightD k ws = true := not_f (by assumption)
        refine CW.region ?_
        refine RG.vl rfl rfl rfl (Ev.assign rfl rfl) ?_
        refine RG.done ?_
        refine QW.then_ ?_
        refine CW.seq ?_
        refine CW.seq ?_
        refine CW.region ?_
        refine RG.vl rfl rfl rfl (Ev.assign rfl rfl) ?_
        refine RG.done ?_
        refine QW.sub (S' := [(0, _), (2, _), (6, _), (7, _), (8, _), (9, _)]) ⟨rfl, rfl, rfl, rfl, rfl, rfl, trivial⟩ ?_
        refine QW.then_ ?_
        refine CW.block ?_
        replace hws := (hws.ext hE2)
        have hR6 := (Ex.tr hB0 hE2)
        refine CW.loop2 [(0, _), (2, _)] ⟨rfl, rfl, trivial⟩ (fun (i : Nat) (u : Value) => [(9, .int .i64 (i : Int)), (8, u)]) (fun i u w' => ((i ≤ t.length ∧ ∀ j, j < i → ∀ c, t[t.length - 1 - j]? = some c → okAt k j c = true) ∧ Own w' w1.heap.size 3 1 encZ u ((vals t).take i)) ∧ Ex w1 w') (fun i u => t.length - i) (0) (.slice none 0 0) ⟨rfl, rfl, trivial⟩ ⟨⟨⟨by omega, fun j h => by omega⟩, Own.nil_ _ _ _ _ _⟩, (Ex.rfl_ _)⟩ ?_
        rintro i u wl7 ⟨⟨⟨hi, hall⟩, hown⟩, hxwl7⟩
        refine CW.sub (S' := [(9, _), (8, _), (0, _), (2, _)]) ⟨rfl, rfl, rfl, rfl, trivial⟩ ?_
        refine CW.seq ?_
        refine CW.seq ?_
        refine CW.region ?_
        refine RG.vl rfl rfl rfl (Ev.move rfl rfl) ?_
        refine RG.vl rfl rfl rfl (Ev.move rfl rfl) ?_
        refine RG.vl rfl rfl rfl (Ev.lenStr rfl rfl rfl Tryd.underlying9) ?_
        refine RG.vl rfl rfl rfl (Ev.lss rfl rfl rfl) ?_
        refine RG.done ?_
        refine QW.then_ ?_
        refine CW.condP rfl (fun hc8 => ?_) (fun hc8 => ?_)
        · refine CW.skip ?_
          refine QW.then_ ?_
          refine CW.seq ?_
          refine CW.block ?_
          refine CW.seq ?_
          obtain ⟨c, hc⟩ : ∃ c, t[t.length - 1 - i]? = some c := ⟨_, List.getElem?_eq_getElem (by omega)⟩
          have hc8 := c.toNat_lt
          have htk := vals_take (show i < t.length by omega) hc
          have hvl : ((vals t).take i).length = i := by rw [List.length_take, vals_len]; omega
          refine CW.region ?_
          refine RG.vl rfl rfl rfl (Ev.move rfl rfl) ?_
          refine RG.vl rfl rfl rfl (Ev.move rfl rfl) ?_
          refine RG.vl rfl rfl rfl (Ev.lenStr rfl rfl rfl Tryd.underlying9) ?_
          refine RG.vl rfl rfl rfl (Ev.subI rfl rfl rfl (by omega)) ?_
          refine RG.vl rfl rfl rfl (Ev.move rfl rfl) ?_
          refine RG.vl rfl rfl rfl ((Ev.subI rfl rfl rfl (by omega)).conv (congrArg (Value.int .i64) (show (⟨t.toArray⟩ : ByteArray).size - 1 - (i : Int) = ((t.length - 1 - i : Nat) : Int) by omega))) ?_
          refine RG.vl rfl rfl rfl (Ev.byteAt rfl rfl rfl Tryd.underlying9 (by omega) ((show t[t.length - 1 - i]? = some c from hc))) ?_
          refine RG.vl rfl rfl rfl (Ev.assign rfl rfl) ?_
          refine RG.done ?_
          refine QW.then_ ?_
          refine CW.seq ?_
          refine CW.region ?_
          refine RG.vl rfl rfl rfl (Ev.move rfl rfl) ?_
          refine RG.vl rfl rfl rfl (Ev.geq rfl rfl rfl) ?_
          refine RG.vl rfl rfl rfl (Ev.move rfl rfl) ?_
          refine RG.split (d := 36) rfl (fun hg9 => ?_) (fun hg9 => ?_)
          · refine RG.vl rfl rfl rfl (Ev.move rfl rfl) ?_
            refine RG.vl rfl rfl rfl (Ev.leq rfl rfl rfl) ?_
            refine RG.vl rfl rfl rfl (Ev.pickT rfl rfl rfl) ?_
            refine RG.done ?_
            refine QW.sub (S' := [(0, _), (2, _), (8, _), (9, _), (10, _), (39, _)]) ⟨rfl, rfl, rfl, rfl, rfl, rfl, trivial⟩ ?_
            refine QW.then_ ?_
            refine CW.condP rfl (fun hc10 => ?_) (fun hc10 => ?_)
            · have hvc : ((c.toNat : Int) - 48) = (valC c : Nat) := (valC_dig (show isDig c = true by unfold isDig; simp; omega)).2.symm
              refine CW.region ?_
              refine RG.vl rfl rfl rfl (Ev.move rfl rfl) ?_
              refine RG.vl rfl rfl rfl (Ev.move rfl rfl) ?_
              refine RG.vl rfl rfl rfl (Ev.to64 rfl rfl Tryd.underlying5 Tryd.underlying3 (by omega)) ?_
              refine RG.vl rfl rfl rfl ((Ev.subI rfl rfl rfl (by omega)).conv (congrArg (Value.int .i64) hvc)) ?_
              refine RG.litO (os := [.tmp 43]) (enc := encZ) ([valC c]) rfl rfl rfl rfl rfl rfl rfl Tryd.underlying22 inf_3 rfl rfl rfl rfl rfl encZ_len rfl rfl (fun v11 wk12 hxwk12 hown13 hnew14 => ?_)
              have hsep15 : Sep v11 _ := Sep.of_new hown hnew14
              replace hxwl7 := Ex.tr hxwl7 hxwk12
              have hE16 := hxwk12
              refine RG.appO rfl rfl rfl rfl rfl rfl rfl Tryd.underlying22 inf_3 rfl rfl encZ_len (fun _ => rfl) (Own.ext hown hE16) ((hown13.rdl encZ_len)) (by show _ + 1 ≤ maxLen; simp only [maxLen]; omega) (by show (_ + 1) * _ ≤ _; omega) (hxwl7.size) (fun v17 wa18 hown19 hgr20 hat21 => ?_)
              have hsep23 := Sep.app (Sep.symm hsep15) hown13 hat21
              have hown22 := Own.grown hown13 hgr20 (fun k a b => (Sep.symm hsep15) k b a)
              replace hxwl7 := own_block (Own.ext hown hE16) hxwl7 hgr20 (Nat.le_refl _) hxwl7.size
              refine RG.vl rfl rfl rfl (Ev.assign rfl rfl) ?_
              refine RG.done ?_
              refine QW.blockN ?_
              refine QW.then_ ?_
              refine CW.region ?_
              refine RG.vl rfl rfl rfl (Ev.move rfl rfl) ?_
              refine RG.vl rfl rfl rfl (Ev.addI rfl rfl rfl (by omega)) ?_
              refine RG.vl rfl rfl rfl (Ev.assign rfl rfl) ?_
              refine RG.done ?_
              refine QW.round2 (i + 1) (v17) ⟨rfl, rfl, trivial⟩ ⟨rfl, rfl, trivial⟩ ⟨⟨⟨by omega, ok_upto hall hc (by rw [okAt_eq]; exact decide_eq_true (by omega))⟩, by rw [htk]; exact hown19⟩, hxwl7⟩ (by omega)
            · refine CW.seq ?_
              refine CW.region ?_
              refine RG.vl rfl rfl rfl (Ev.move rfl rfl) ?_
              refine RG.vl rfl rfl rfl (Ev.eqI rfl rfl rfl) ?_
              refine RG.vl rfl rfl rfl (Ev.move rfl rfl) ?_
              refine RG.split (d := 48) rfl (fun hg24 => ?_) (fun hg24 => ?_)
              · refine RG.vl rfl rfl rfl (Ev.move rfl rfl) ?_
                refine RG.vl rfl rfl rfl (Ev.eqI rfl rfl rfl) ?_
                refine RG.vl rfl rfl rfl (Ev.pickT rfl rfl rfl) ?_
                refine RG.vl rfl rfl rfl (Ev.move rfl rfl) ?_
                refine RG.split (d := 52) rfl (fun hg25 => ?_) (fun hg25 => ?_)
                · refine RG.vl rfl rfl rfl (Ev.move rfl rfl) ?_
                  refine RG.vl rfl rfl rfl (Ev.eqI rfl rfl rfl) ?_
                  refine RG.vl rfl rfl rfl (Ev.pickT rfl rfl rfl) ?_
                  refine RG.done ?_
                  refine QW.then_ ?_
                  refine CW.condP rfl (fun hc26 => ?_) (fun hc26 => ?_)
                  · have hvc : valC c = 10 := if_pos (by omega)
                    refine CW.region ?_
                    refine RG.vl rfl rfl rfl (Ev.move rfl rfl) ?_
                    refine RG.litO (os := [_]) (enc := encZ) ([10]) rfl rfl rfl rfl rfl rfl rfl Tryd.underlying22 inf_3 rfl rfl rfl rfl rfl encZ_len rfl rfl (fun v27 wk28 hxwk28 hown29 hnew30 => ?_)
                    have hsep31 : Sep v27 _ := Sep.of_new hown hnew30
                    replace hxwl7 := Ex.tr hxwl7 hxwk28
                    have hE32 := hxwk28
                    refine RG.appO rfl rfl rfl rfl rfl rfl rfl Tryd.underlying22 inf_3 rfl rfl encZ_len (fun _ => rfl) (Own.ext hown hE32) ((hown29.rdl encZ_len)) (by show _ + 1 ≤ maxLen; simp only [maxLen]; omega) (by show (_ + 1) * _ ≤ _; omega) (hxwl7.size) (fun v33 wa34 hown35 hgr36 hat37 => ?_)
                    have hsep39 := Sep.app (Sep.symm hsep31) hown29 hat37
                    have hown38 := Own.grown hown29 hgr36 (fun k a b => (Sep.symm hsep31) k b a)
                    replace hxwl7 := own_block (Own.ext hown hE32) hxwl7 hgr36 (Nat.le_refl _) hxwl7.size
                    refine RG.vl rfl rfl rfl (Ev.assign rfl rfl) ?_
                    refine RG.done ?_
                    refine QW.sub (S' := [(0, _), (2, _), (8, _), (9, _)]) ⟨rfl, rfl, rfl, rfl, trivial⟩ ?_
                    refine QW.blockN ?_
                    refine QW.then_ ?_
                    refine CW.region ?_
                    refine RG.vl rfl rfl rfl (Ev.move rfl rfl) ?_
                    refine RG.vl rfl rfl rfl (Ev.addI rfl rfl rfl (by omega)) ?_
                    refine RG.vl rfl rfl rfl (Ev.assign rfl rfl) ?_
                    refine RG.done ?_
                    refine QW.round2 (i + 1) (v33) ⟨rfl, rfl, trivial⟩ ⟨rfl, rfl, trivial⟩ ⟨⟨⟨by omega, ok_upto hall hc (by rw [okAt_eq]; exact decide_eq_true (by omega))⟩, by rw [htk, hvc]; exact hown35⟩, hxwl7⟩ (by omega)
                  · refine CW.seq ?_
                    refine CW.region ?_
                    refine RG.vl rfl rfl rfl (Ev.assign rfl rfl) ?_
                    refine RG.vl rfl rfl rfl (Ev.assign rfl rfl) ?_
                    refine RG.done ?_
                    refine QW.then_ ?_
                    refine CW.ret ?_
                    refine QW.blockR ?_
                    refine QW.thenRet ?_
                    refine QW.thenRet ?_
                    refine QW.blockR ?_
                    refine QW.thenRet ?_
                    refine QW.ret2 rfl rfl rfl ?_
                    have hB := (Ex.tr hR6 hxwl7)
                    have e : valR k ws t = ([], 161) := by unfold valR; rw [hr, if_neg (by decide), if_neg (by omega), chk_not (by omega) hc (by rw [okAt_eq]; exact decide_eq_false (by omega))]; rfl
                    exact ⟨_, by rw [e], by rw [e]; exact Own.nil_ _ _ _ _ _, hB⟩
                · refine RG.pass rfl rfl rfl ?_
                  refine RG.pass rfl rfl rfl ?_
                  refine RG.vl rfl rfl rfl (Ev.pickF rfl rfl rfl) ?_
                  refine RG.done ?_
                  refine QW.then_ ?_
                  refine CW.condF rfl ?_
                  refine CW.seq ?_
                  refine CW.region ?_
                  refine RG.vl rfl rfl rfl (Ev.assign rfl rfl) ?_
                  refine RG.vl rfl rfl rfl (Ev.assign rfl rfl) ?_
                  refine RG.done ?_
                  refine QW.then_ ?_
                  refine CW.ret ?_
                  refine QW.blockR ?_
                  refine QW.thenRet ?_
                  refine QW.thenRet ?_
                  refine QW.blockR ?_
                  refine QW.thenRet ?_
                  refine QW.ret2 rfl rfl rfl ?_
                  have hB := (Ex.tr hR6 hxwl7)
                  have e : valR k ws t = ([], 161) := by unfold valR; rw [hr, if_neg (by decide), if_neg (by omega), chk_not (by omega) hc (by rw [okAt_eq]; exact decide_eq_false (by omega))]; rfl
                  exact ⟨_, by rw [e], by rw [e]; exact Own.nil_ _ _ _ _ _, hB⟩
              · refine RG.pass rfl rfl rfl ?_
                refine RG.pass rfl rfl rfl ?_
                refine RG.vl rfl rfl rfl (Ev.pickF rfl rfl rfl) ?_
                refine RG.vl rfl rfl rfl (Ev.move rfl rfl) ?_
                refine RG.pass rfl rfl rfl ?_
                refine RG.pass rfl rfl rfl ?_
                refine RG.vl rfl rfl rfl (Ev.pickF rfl rfl rfl) ?_
                refine RG.done ?_
                refine QW.then_ ?_
                refine CW.condF rfl ?_
                refine CW.seq ?_
                refine CW.region ?_
                refine RG.vl rfl rfl rfl (Ev.assign rfl rfl) ?_
                refine RG.vl rfl rfl rfl (Ev.assign rfl rfl) ?_
                refine RG.done ?_
                refine QW.then_ ?_
                refine CW.ret ?_
                refine QW.blockR ?_
                refine QW.thenRet ?_
                refine QW.thenRet ?_
                refine QW.blockR ?_
                refine QW.thenRet ?_
                refine QW.ret2 rfl rfl rfl ?_
                have hB := (Ex.tr hR6 hxwl7)
                have e : valR k ws t = ([], 161) := by unfold valR; rw [hr, if_neg (by decide), if_neg (by omega), chk_not (by omega) hc (by rw [okAt_eq]; exact decide_eq_false (by omega))]; rfl
                exact ⟨_, by rw [e], by rw [e]; exact Own.nil_ _ _ _ _ _, hB⟩
          · refine RG.pass rfl rfl rfl ?_
            refine RG.pass rfl rfl rfl ?_
            refine RG.vl rfl rfl rfl (Ev.pickF rfl rfl rfl) ?_
            refine RG.done ?_
            refine QW.sub (S' := [(0, _), (2, _), (8, _), (9, _), (10, _), (39, _)]) ⟨rfl, rfl, rfl, rfl, rfl, rfl, trivial⟩ ?_
            refine QW.then_ ?_
            refine CW.condF rfl ?_
            refine CW.seq ?_
            refine CW.region ?_
            refine RG.vl rfl rfl rfl (Ev.move rfl rfl) ?_
            refine RG.vl rfl rfl rfl (Ev.eqI rfl rfl rfl) ?_
            refine RG.vl rfl rfl rfl (Ev.move rfl rfl) ?_
            refine RG.split (d := 48) rfl (fun hg40 => ?_) (fun hg40 => ?_)
            · refine RG.vl rfl rfl rfl (Ev.move rfl rfl) ?_
              refine RG.vl rfl rfl rfl (Ev.eqI rfl rfl rfl) ?_
              refine RG.vl rfl rfl rfl (Ev.pickT rfl rfl rfl) ?_
              refine RG.vl rfl rfl rfl (Ev.move rfl rfl) ?_
              refine RG.split (d := 52) rfl (fun hg41 => ?_) (fun hg41 => ?_)
              · refine RG.vl rfl rfl rfl (Ev.move rfl rfl) ?_
                refine RG.vl rfl rfl rfl (Ev.eqI rfl rfl rfl) ?_
                refine RG.vl rfl rfl rfl (Ev.pickT rfl rfl rfl) ?_
                refine RG.done ?_
                refine QW.then_ ?_
                refine CW.condP rfl (fun hc42 => ?_) (fun hc42 => ?_)
                · have hvc : valC c = 10 := if_pos (by omega)
                  refine CW.region ?_
                  refine RG.vl rfl rfl rfl (Ev.move rfl rfl) ?_
                  refine RG.litO (os := [_]) (enc := encZ) ([10]) rfl rfl rfl rfl rfl rfl rfl Tryd.underlying22 inf_3 rfl rfl rfl rfl rfl encZ_len rfl rfl (fun v43 wk44 hxwk44 hown45 hnew46 => ?_)
                  have hsep47 : Sep v43 _ := Sep.of_new hown hnew46
                  replace hxwl7 := Ex.tr hxwl7 hxwk44
                  have hE48 := hxwk44
                  refine RG.appO rfl rfl rfl rfl rfl rfl rfl Tryd.underlying22 inf_3 rfl rfl encZ_len (fun _ => rfl) (Own.ext hown hE48) ((hown45.rdl encZ_len)) (by show _ + 1 ≤ maxLen; simp only [maxLen]; omega) (by show (_ + 1) * _ ≤ _; omega) (hxwl7.size) (fun v49 wa50 hown51 hgr52 hat53 => ?_)
                  have hsep55 := Sep.app (Sep.symm hsep47) hown45 hat53
                  have hown54 := Own.grown hown45 hgr52 (fun k a b => (Sep.symm hsep47) k b a)
                  replace hxwl7 := own_block (Own.ext hown hE48) hxwl7 hgr52 (Nat.le_refl _) hxwl7.size
                  refine RG.vl rfl rfl rfl (Ev.assign rfl rfl) ?_
                  refine RG.done ?_
                  refine QW.sub (S' := [(0, _), (2, _), (8, _), (9, _)]) ⟨rfl, rfl, rfl, rfl, trivial⟩ ?_
                  refine QW.blockN ?_
                  refine QW.then_ ?_
                  refine CW.region ?_
                  refine RG.vl rfl rfl rfl (Ev.move rfl rfl) ?_
                  refine RG.vl rfl rfl rfl (Ev.addI rfl rfl rfl (by omega)) ?_
                  refine RG.vl rfl rfl rfl (Ev.assign rfl rfl) ?_
                  refine RG.done ?_
                  refine QW.round2 (i + 1) (v49) ⟨rfl, rfl, trivial⟩ ⟨rfl, rfl, trivial⟩ ⟨⟨⟨by omega, ok_upto hall hc (by rw [okAt_eq]; exact decide_eq_true (by omega))⟩, by rw [htk, hvc]; exact hown51⟩, hxwl7⟩ (by omega)
                · refine CW.seq ?_
                  refine CW.region ?_
                  refine RG.vl rfl rfl rfl (Ev.assign rfl rfl) ?_
                  refine RG.vl rfl rfl rfl (Ev.assign rfl rfl) ?_
                  refine RG.done ?_
                  refine QW.then_ ?_
                  refine CW.ret ?_
                  refine QW.blockR ?_
                  refine QW.thenRet ?_
                  refine QW.thenRet ?_
                  refine QW.blockR ?_
                  refine QW.thenRet ?_
                  refine QW.ret2 rfl rfl rfl ?_
                  have hB := (Ex.tr hR6 hxwl7)
                  have e : valR k ws t = ([], 161) := by unfold valR; rw [hr, if_neg (by decide), if_neg (by omega), chk_not (by omega) hc (by rw [okAt_eq]; exact decide_eq_false (by omega))]; rfl
                  exact ⟨_, by rw [e], by rw [e]; exact Own.nil_ _ _ _ _ _, hB⟩
              · refine RG.pass rfl rfl rfl ?_
                refine RG.pass rfl rfl rfl ?_
                refine RG.vl rfl rfl rfl (Ev.pickF rfl rfl rfl) ?_
                refine RG.done ?_
                refine QW.then_ ?_
                refine CW.condF rfl ?_
                refine CW.seq ?_
                refine CW.region ?_
                refine RG.vl rfl rfl rfl (Ev.assign rfl rfl) ?_
                refine RG.vl rfl rfl rfl (Ev.assign rfl rfl) ?_
                refine RG.done ?_
                refine QW.then_ ?_
                refine CW.ret ?_
                refine QW.blockR ?_
                refine QW.thenRet ?_
                refine QW.thenRet ?_
                refine QW.blockR ?_
                refine QW.thenRet ?_
                refine QW.ret2 rfl rfl rfl ?_
                have hB := (Ex.tr hR6 hxwl7)
                have e : valR k ws t = ([], 161) := by unfold valR; rw [hr, if_neg (by decide), if_neg (by omega), chk_not (by omega) hc (by rw [okAt_eq]; exact decide_eq_false (by omega))]; rfl
                exact ⟨_, by rw [e], by rw [e]; exact Own.nil_ _ _ _ _ _, hB⟩
            · refine RG.pass rfl rfl rfl ?_
              refine RG.pass rfl rfl rfl ?_
              refine RG.vl rfl rfl rfl (Ev.pickF rfl rfl rfl) ?_
              refine RG.vl rfl rfl rfl (Ev.move rfl rfl) ?_
              refine RG.pass rfl rfl rfl ?_
              refine RG.pass rfl rfl rfl ?_
              refine RG.vl rfl rfl rfl (Ev.pickF rfl rfl rfl) ?_
              refine RG.done ?_
              refine QW.then_ ?_
              refine CW.condF rfl ?_
              refine CW.seq ?_
              refine CW.region ?_
              refine RG.vl rfl rfl rfl (Ev.assign rfl rfl) ?_
              refine RG.vl rfl rfl rfl (Ev.assign rfl rfl) ?_
              refine RG.done ?_
              refine QW.then_ ?_
              refine CW.ret ?_
              refine QW.blockR ?_
              refine QW.thenRet ?_
              refine QW.thenRet ?_
              refine QW.blockR ?_
              refine QW.thenRet ?_
              refine QW.ret2 rfl rfl rfl ?_
              have hB := (Ex.tr hR6 hxwl7)
              have e : valR k ws t = ([], 161) := by unfold valR; rw [hr, if_neg (by decide), if_neg (by omega), chk_not (by omega) hc (by rw [okAt_eq]; exact decide_eq_false (by omega))]; rfl
              exact ⟨_, by rw [e], by rw [e]; exact Own.nil_ _ _ _ _ _, hB⟩
        · refine CW.exit ?_
          refine QW.thenExit ?_
          refine QW.thenExit ?_
          refine QW.blockHit ?_
          refine QW.then_ ?_
          refine CW.seq ?_
          refine CW.region ?_
          refine RG.vl rfl rfl rfl (Ev.move rfl rfl) ?_
          refine RG.vl rfl rfl rfl (Ev.assign rfl rfl) ?_
          refine RG.vl rfl rfl rfl (Ev.assign rfl rfl) ?_
          refine RG.done ?_
          refine QW.then_ ?_
          refine CW.ret ?_
          refine QW.ret2 rfl rfl rfl ?_
          have hB := (Ex.tr hR6 hxwl7)
          obtain rfl : i = t.length := by omega
          rw [List.take_of_length_le (by rw [vals_len]; omega)] at hown
          have e : valR k ws t = (vals t, 0) := by unfold valR; rw [hr, if_neg (by decide), if_neg (by omega), chk_all (by omega) hall]; rfl
          exact ⟨_, by rw [e], by rw [e]; exact hown.low (by have := hR6.size; omega), hB⟩

set_option maxRecDepth 100000 in
set_option maxHeartbeats 1000000 in
theorem rtest_ret (k : Nat) (wv : Value) (ws : List Int) (t : List UInt8) (w : World) (hws : RdL w 1 encI wv ws) (hwl : ws.length ≤ 100000) (hlen : t.length ≤ 100000) :
    Ret Tryd.prog 44 [.int .u8 (k : Int), wv, .string ⟨t.toArray⟩] w (fun v w' => v = .tuple #[.bool (testR k ws t).1, .int .i64 (testR k ws t).2] ∧ Ex w w') := by
  obtain ⟨wA, wC, rfl⟩ := hws.shape
  have hsz := sbytes t
  have hB0 : Ex w w := Ex.rfl_ _
  refine Ret.of Tryd.func44 rfl Tryd.ntmps44 rfl ?_
  refine CW.seq ?_
  refine CW.region ?_
  refine RG.vl rfl rfl rfl (Ev.assign rfl rfl) ?_
  refine RG.vl rfl rfl rfl (Ev.assign rfl rfl) ?_
  refine RG.done ?_
  refine QW.then_ ?_
  refine CW.seq ?_
  refine CW.region ?_
  refine RG.vl rfl rfl rfl (Ev.move rfl rfl) ?_
  refine RG.vl rfl rfl rfl (Ev.move rfl rfl) ?_
  refine RG.vl rfl rfl rfl (Ev.move rfl rfl) ?_
  refine RG.call rfl rfl rfl rfl rfl rfl rfl en_57 (rvals_ret k _ ws t _ hws (by omega) (by omega)) ?_
  have hpre1 := hB0
  rintro _ w1 ⟨r1, rfl, hrv1, hx1⟩
  have hE2 := hx1
  refine RG.vl rfl rfl rfl (Ev.move rfl rfl) ?_
  refine RG.vl rfl rfl rfl (Ev.extract rfl rfl rfl) ?_
  refine RG.vl rfl rfl rfl (Ev.extract rfl rfl rfl) ?_
  refine RG.vl rfl rfl rfl (Ev.assign rfl rfl) ?_
  refine RG.vl rfl rfl rfl (Ev.assign rfl rfl) ?_
  refine RG.done ?_
  refine QW.then_ ?_
  refine CW.seq ?_
  refine CW.seq ?_
  refine CW.region ?_
  refine RG.vl rfl rfl rfl (Ev.move rfl rfl) ?_
  refine RG.vl rfl rfl rfl (Ev.neI rfl rfl rfl) ?_
  refine RG.done ?_
  refine QW.then_ ?_
  refine CW.condP rfl (fun hc3 => ?_) (fun hc3 => ?_)
  · refine CW.seq ?_
    refine CW.region ?_
    refine RG.vl rfl rfl rfl (Ev.move rfl rfl) ?_
    refine RG.vl rfl rfl rfl (Ev.assign rfl rfl) ?_
    refine RG.vl rfl rfl rfl (Ev.assign rfl rfl) ?_
    refine RG.done ?_
    refine QW.sub (S' := [(0, _), (1, _), (6, _), (7, _), (8, _)]) ⟨rfl, rfl, rfl, rfl, rfl, trivial⟩ ?_
    refine QW.then_ ?_
    refine CW.ret ?_
    refine QW.thenRet ?_
    refine QW.ret2 rfl rfl rfl ?_
    have hB := (Ex.tr hB0 hE2)
    exact ⟨by rw [rtest_err (by assumption)], hB⟩
  · refine CW.skip ?_
    refine QW.then_ ?_
    refine CW.seq ?_
    have he : (valR k ws t).2 = 0 := Decidable.not_not.1 (by assumption)
    obtain ⟨hr, hc, hv, hl31⟩ := valR_ok he
    have hvl := vals_len t
    refine CW.region ?_
    refine RG.vl rfl rfl rfl (Ev.move rfl rfl) ?_
    refine RG.vl rfl rfl rfl (Ev.move rfl rfl) ?_
    refine RG.vl rfl rfl rfl (Ev.move rfl rfl) ?_
    refine RG.call rfl rfl rfl rfl rfl rfl rfl en_51 (rpass_ret k _ _ ws (vals t) _ (hws.ext hE2) (by rw [← hv]; exact Own.rdl hrv1 encZ_len) hr (by omega) (chk_most hc)) ?_
    rintro _ w4 ⟨rfl, hx4⟩
    replace hE2 := Ex.tr hE2 hx4
    have hE5 := hx4
    refine RG.vl rfl rfl rfl (Ev.assign rfl rfl) ?_
    refine RG.vl rfl rfl rfl (Ev.assign rfl rfl) ?_
    refine RG.done ?_
    refine QW.sub (S' := [(6, _), (7, _)]) ⟨rfl, rfl, trivial⟩ ?_
    refine QW.then_ ?_
    refine CW.ret ?_
    refine QW.ret2 rfl rfl rfl ?_
    have hB := (Ex.tr hB0 hE2)
    exact ⟨by rw [rtest_ok he hr hc], hB⟩

end Go.Proofs.YtnhkhpnkhkagaaaDoor
