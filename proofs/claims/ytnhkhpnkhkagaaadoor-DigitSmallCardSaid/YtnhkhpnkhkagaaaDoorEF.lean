/- Walks (EF). Written by program. -/
import Derived.Test.YtnhkhpnkhkagaaaDoorT
import Derived.Test.YtnhkhpnkhkagaaaDoorEE
namespace Go.Proofs.YtnhkhpnkhkagaaaDoor
open Go.RowKit
set_option maxRecDepth 100000 in
set_option maxHeartbeats 4000000 in
theorem rmisses_ret (k : Nat) (wv : Value) (ws : List Int) (n : Int) (w : World) (hws : RdL w 1 encI wv ws) (hwl : ws.length ≤ 100000) :
    Ret Tryd.prog 14 [.int .u8 (k : Int), wv, .int .i64 n] w (fun v w' => ∃ r, v = .tuple #[r, .int .i64 (missR k ws n).2] ∧ Own w' w.heap.size 61 4 encM r (missR k ws n).1 ∧ Ex w w') := by
  obtain ⟨wA, wC, rfl⟩ := hws.shape
  have hB0 : Ex w w := Ex.rfl_ _
  refine Ret.of Tryd.func14 rfl Tryd.ntmps14 rfl ?_
  refine CW.seq ?_
  refine CW.region ?_
  refine RG.vl rfl rfl rfl (Ev.assign rfl rfl) ?_
  refine RG.vl rfl rfl rfl (Ev.assign rfl rfl) ?_
  refine RG.done ?_
  refine QW.then_ ?_
  refine CW.seq ?_
  refine CW.seq ?_
  refine CW.region ?_
  refine RG.vl rfl rfl rfl (Ev.move rfl rfl) ?_
  refine RG.vl rfl rfl rfl (Ev.move rfl rfl) ?_
  refine RG.call rfl rfl rfl rfl rfl rfl rfl en_23 (rright_ret k _ ws _ hws (by omega)) ?_
  rintro _ w1 ⟨rfl, hx1⟩
  have hE2 := hx1
  refine RG.vl rfl rfl rfl (Ev.not rfl rfl) ?_
  refine RG.done ?_
  refine QW.then_ ?_
  refine CW.cond rfl (fun hc3 => ?_) (fun hc3 => ?_)
  · refine CW.seq ?_
    refine CW.region ?_
    refine RG.vl rfl rfl rfl (Ev.assign rfl rfl) ?_
    refine RG.vl rfl rfl rfl (Ev.assign rfl rfl) ?_
    refine RG.done ?_
    refine QW.then_ ?_
    refine CW.ret ?_
    refine QW.thenRet ?_
    refine QW.ret2 rfl rfl rfl ?_
    have hB := (Ex.tr hB0 hE2)
    exact ⟨_, by unfold missR; rw [show rightD k ws = false from not_t (by assumption)]; rfl, by unfold missR; rw [show rightD k ws = false from not_t (by assumption)]; exact Own.nil_ _ _ _ _ _, hB⟩
  · refine CW.skip ?_
    refine QW.then_ ?_
    refine CW.seq ?_
    refine CW.seq ?_
    refine CW.region ?_
    refine RG.vl rfl rfl rfl (Ev.move rfl rfl) ?_
    refine RG.vl rfl rfl rfl (Ev.lss rfl rfl rfl) ?_
    refine RG.vl rfl rfl rfl (Ev.move rfl rfl) ?_
    refine RG.split (d := 20) rfl (fun hg4 => ?_) (fun hg4 => ?_)
    · refine RG.pass rfl rfl rfl ?_
      refine RG.pass rfl rfl rfl ?_
      refine RG.vl rfl rfl rfl (Ev.pickT rfl rfl rfl) ?_
      refine RG.done ?_
      refine QW.then_ ?_
      refine CW.condT rfl ?_
      refine CW.seq ?_
      refine CW.region ?_
      refine RG.vl rfl rfl rfl (Ev.assign rfl rfl) ?_
      refine RG.vl rfl rfl rfl (Ev.assign rfl rfl) ?_
      refine RG.done ?_
      refine QW.sub (S' := [(0, _), (1, _), (2, _), (6, _), (7, _)]) ⟨rfl, rfl, rfl, rfl, rfl, trivial⟩ ?_
      refine QW.then_ ?_
      refine CW.ret ?_
      refine QW.thenRet ?_
      refine QW.ret2 rfl rfl rfl ?_
      have hB := (Ex.tr hB0 hE2)
      exact ⟨_, by unfold missR; rw [show rightD k ws = true from not_f (by assumption), if_neg (by decide), if_pos (by omega)], by unfold missR; rw [show rightD k ws = true from not_f (by assumption), if_neg (by decide), if_pos (by omega)]; exact Own.nil_ _ _ _ _ _, hB⟩
    · refine RG.vl rfl rfl rfl (Ev.move rfl rfl) ?_
      refine RG.vl rfl rfl rfl (Ev.gtr rfl rfl rfl) ?_
      refine RG.vl rfl rfl rfl (Ev.pickF rfl rfl rfl) ?_
      refine RG.done ?_
      refine QW.then_ ?_
      refine CW.condP rfl (fun hc5 => ?_) (fun hc5 => ?_)
      · refine CW.seq ?_
        refine CW.region ?_
        refine RG.vl rfl rfl rfl (Ev.assign rfl rfl) ?_
        refine RG.vl rfl rfl rfl (Ev.assign rfl rfl) ?_
        refine RG.done ?_
        refine QW.sub (S' := [(0, _), (1, _), (2, _), (6, _), (7, _)]) ⟨rfl, rfl, rfl, rfl, rfl, trivial⟩ ?_
        refine QW.then_ ?_
        refine CW.ret ?_
        refine QW.thenRet ?_
        refine QW.ret2 rfl rfl rfl ?_
        have hB := (Ex.tr hB0 hE2)
        exact ⟨_, by unfold missR; rw [show rightD k ws = true from not_f (by assumption), if_neg (by decide), if_pos (by omega)], by unfold missR; rw [show rightD k ws = true from not_f (by assumption), if_neg (by decide), if_pos (by omega)]; exact Own.nil_ _ _ _ _ _, hB⟩
      · refine CW.skip ?_
        refine QW.then_ ?_
        refine CW.seq ?_
        have hr : rightD k ws = true := not_f (by assumption)
        obtain ⟨N, rfl⟩ : ∃ N : Nat, n = (N : Int) := ⟨n.toNat, by omega⟩
        refine CW.region ?_
        refine RG.vl rfl rfl rfl (Ev.assign rfl rfl) ?_
        refine RG.done ?_
        refine QW.then_ ?_
        refine CW.seq ?_
        refine CW.seq ?_
        refine CW.region ?_
        refine RG.vl rfl rfl rfl (Ev.assign rfl rfl) ?_
        refine RG.done ?_
        refine QW.sub (S' := [(0, _), (1, _), (2, _), (6, _), (7, _), (8, _), (9, _)]) ⟨rfl, rfl, rfl, rfl, rfl, rfl, rfl, trivial⟩ ?_
        refine QW.then_ ?_
        refine CW.block ?_
        replace hws := (hws.ext hE2)
        have hR6 := (Ex.tr hB0 hE2)
        refine CW.loop2 [(0, _), (1, _), (2, _), (6, _), (7, _)] ⟨rfl, rfl, rfl, rfl, rfl, trivial⟩ (fun (s : Nat) (v : Value) => [(9, .int .i64 (s : Int)), (8, v)]) (fun s v w' => (s ≤ 2 ∧ Own w' w1.heap.size 61 4 encM v (mO k ws N s)) ∧ Ex w1 w') (fun s v => 2 - s) (0) (.slice none 0 0) ⟨rfl, rfl, trivial⟩ ⟨⟨by omega, Own.nil_ _ _ _ _ _⟩, (Ex.rfl_ _)⟩ ?_
        rintro s v wl7 ⟨⟨hs, hown⟩, hxwl7⟩
        refine CW.sub (S' := [(9, _), (8, _), (0, _), (1, _), (2, _), (6, _), (7, _)]) ⟨rfl, rfl, rfl, rfl, rfl, rfl, rfl, trivial⟩ ?_
        refine CW.seq ?_
        refine CW.seq ?_
        refine CW.region ?_
        refine RG.vl rfl rfl rfl (Ev.move rfl rfl) ?_
        refine RG.vl rfl rfl rfl (Ev.lss rfl rfl rfl) ?_
        refine RG.done ?_
        refine QW.then_ ?_
        refine CW.condP rfl (fun hc8 => ?_) (fun hc8 => ?_)
        · refine CW.skip ?_
          refine QW.then_ ?_
          refine CW.seq ?_
          refine CW.block ?_
          refine CW.seq ?_
          obtain rfl | rfl : s = 0 ∨ s = 1 := by omega
          · refine CW.region ?_
            refine RG.vl rfl rfl rfl (Ev.assign rfl rfl) ?_
            refine RG.done ?_
            refine QW.then_ ?_
            refine CW.block ?_
            refine CW.loop2 [(0, _), (1, _), (2, _), (6, _), (7, _), (9, _)] ⟨rfl, rfl, rfl, rfl, rfl, rfl, trivial⟩ (fun (p : Nat) (v : Value) => [(10, .int .i64 ((p + 1 : Nat) : Int)), (8, v)]) (fun p v w' => (p ≤ N - 0 ∧ Own w' w1.heap.size 61 4 encM v (mA k ws N 0 p)) ∧ Ex w1 w') (fun p v => N - p) (0) (v) ⟨rfl, rfl, trivial⟩ ⟨⟨by omega, by rw [mA_start]; exact hown⟩, hxwl7⟩ ?_
            rintro p v wl9 ⟨⟨hp, hown⟩, hxwl9⟩
            refine CW.sub (S' := [(10, _), (8, _), (0, _), (1, _), (2, _), (6, _), (7, _), (9, _)]) ⟨rfl, rfl, rfl, rfl, rfl, rfl, rfl, rfl, trivial⟩ ?_
            refine CW.seq ?_
            refine CW.seq ?_
            refine CW.region ?_
            refine RG.vl rfl rfl rfl (Ev.move rfl rfl) ?_
            refine RG.vl rfl rfl rfl (Ev.move rfl rfl) ?_
            refine RG.vl rfl rfl rfl (Ev.move rfl rfl) ?_
            refine RG.vl rfl rfl rfl (Ev.subI rfl rfl rfl (by omega)) ?_
            refine RG.vl rfl rfl rfl (Ev.leq rfl rfl rfl) ?_
            refine RG.done ?_
            refine QW.then_ ?_
            refine CW.condP rfl (fun hc10 => ?_) (fun hc10 => ?_)
            · refine CW.skip ?_
              refine QW.then_ ?_
              refine CW.seq ?_
              refine CW.block ?_
              refine CW.seq ?_
              refine CW.region ?_
              refine RG.vl rfl rfl rfl (Ev.assign rfl rfl) ?_
              refine RG.done ?_
              refine QW.then_ ?_
              refine CW.block ?_
              refine CW.loop2 [(0, _), (1, _), (2, _), (6, _), (7, _), (9, _), (10, _)] ⟨rfl, rfl, rfl, rfl, rfl, rfl, rfl, trivial⟩ (fun (a : Nat) (v : Value) => [(11, .int .i64 (a : Int)), (8, v)]) (fun a v w' => (a ≤ 10 ∧ Own w' w1.heap.size 61 4 encM v (mB k ws N 0 p a)) ∧ Ex w1 w') (fun a v => 10 - a) (0) (v) ⟨rfl, rfl, trivial⟩ ⟨⟨by omega, by rw [mB_start]; exact hown⟩, hxwl9⟩ ?_
              rintro a v wl11 ⟨⟨ha, hown⟩, hxwl11⟩
              refine CW.sub (S' := [(11, _), (8, _), (0, _), (1, _), (2, _), (6, _), (7, _), (9, _), (10, _)]) ⟨rfl, rfl, rfl, rfl, rfl, rfl, rfl, rfl, rfl, trivial⟩ ?_
              refine CW.seq ?_
              refine CW.seq ?_
              refine CW.region ?_
              refine RG.vl rfl rfl rfl (Ev.move rfl rfl) ?_
              refine RG.vl rfl rfl rfl (Ev.lss rfl rfl rfl) ?_
              refine RG.done ?_
              refine QW.then_ ?_
              refine CW.condP rfl (fun hc12 => ?_) (fun hc12 => ?_)
              · refine CW.skip ?_
                refine QW.then_ ?_
                refine CW.seq ?_
                refine CW.block ?_
                refine CW.seq ?_
                refine CW.region ?_
                refine RG.vl rfl rfl rfl (Ev.move rfl rfl) ?_
                refine RG.vl rfl rfl rfl (Ev.addI rfl rfl rfl (by omega)) ?_
                refine RG.vl rfl rfl rfl (Ev.assign rfl rfl) ?_
                refine RG.done ?_
                refine QW.then_ ?_
                refine CW.block ?_
                refine CW.loop2 [(0, _), (1, _), (2, _), (6, _), (7, _), (9, _), (10, _), (11, _)] ⟨rfl, rfl, rfl, rfl, rfl, rfl, rfl, rfl, trivial⟩ (fun (b : Nat) (v : Value) => [(12, .int .i64 (b : Int)), (8, v)]) (fun b v w' => (a + 1 ≤ b ∧ b ≤ 10 ∧ Own w' w1.heap.size 61 4 encM v (mC k ws N 0 p a b)) ∧ Ex w1 w') (fun b v => 10 - b) (a + 1) (v) ⟨rfl, rfl, trivial⟩ ⟨⟨by omega, by omega, by rw [mC_start]; exact hown⟩, hxwl11⟩ ?_
                rintro b v wl13 ⟨⟨hbl1, hbl2, hown⟩, hxwl13⟩
                refine CW.sub (S' := [(12, _), (8, _), (0, _), (1, _), (2, _), (6, _), (7, _), (9, _), (10, _), (11, _)]) ⟨rfl, rfl, rfl, rfl, rfl, rfl, rfl, rfl, rfl, rfl, trivial⟩ ?_
                refine CW.seq ?_
                refine CW.seq ?_
                refine CW.region ?_
                refine RG.vl rfl rfl rfl (Ev.move rfl rfl) ?_
                refine RG.vl rfl rfl rfl (Ev.lss rfl rfl rfl) ?_
                refine RG.done ?_
                refine QW.then_ ?_
                refine CW.condP rfl (fun hc14 => ?_) (fun hc14 => ?_)
                · refine CW.skip ?_
                  refine QW.then_ ?_
                  refine CW.seq ?_
                  refine CW.block ?_
                  refine CW.seq ?_
                  refine CW.region ?_
                  refine RG.vl rfl rfl rfl (Ev.move rfl rfl) ?_
                  refine RG.vl rfl rfl rfl (Ev.eqI rfl rfl rfl) ?_
                  refine RG.vl rfl rfl rfl (Ev.move rfl rfl) ?_
                  refine RG.vl rfl rfl rfl (Ev.move rfl rfl) ?_
                  refine RG.vl rfl rfl rfl (Ev.move rfl rfl) ?_
                  refine RG.vl rfl rfl rfl (Ev.build1 rfl rfl rfl inf_61 rfl rfl (by kernel_rfl) rfl) ?_
                  refine RG.local_ rfl rfl rfl rfl (fun _ => rfl) rfl rfl (fun _ => rfl) inf_61 rfl rfl rfl (fun g15 w15 eg15 hx15 hb15 => ?_)
                  have hsb16 := fun e => sep_new (g := g15) hown eg15 e
                  have hle17 : w1.heap.size ≤ g15 := by have := hxwl13.size; omega
                  have hle18 : wl13.heap.size ≤ g15 := by have := (Ex.rfl_ wl13).size; omega
                  replace hxwl13 := Ex.tr hxwl13 hx15
                  have hE19 := hx15
                  refine RG.done ?_
                  refine QW.then_ ?_
                  refine CW.seq ?_
                  refine CW.region ?_
                  refine RG.vl rfl rfl rfl (Ev.move rfl rfl) ?_
                  refine RG.vl rfl rfl rfl (Ev.move rfl rfl) ?_
                  refine RG.vl rfl rfl rfl (Ev.move rfl rfl) ?_
                  refine RG.vl rfl rfl rfl (Ev.ldAgg rfl rfl Tryd.underlying61 rfl sz_61 rfl (hb15.cells)) ?_
                  refine RG.call rfl rfl rfl rfl rfl rfl rfl en_33 (rmissed_ret k _ ws false (p + 1) a b N _ (hws.ext hxwl13) hr (by omega) (by omega) (fun h => by cases h) (by omega) (by omega) (by omega)) ?_
                  rintro _ w20 ⟨rfl, hx20⟩
                  replace hxwl13 := Ex.tr hxwl13 hx20
                  replace hE19 := Ex.tr hE19 hx20
                  have hE21 := hx20
                  refine RG.done ?_
                  refine QW.sub (S' := [(0, _), (1, _), (2, _), (6, _), (7, _), (8, _), (9, _), (10, _), (11, _), (12, _), (13, _), (55, _)]) ⟨rfl, rfl, rfl, rfl, rfl, rfl, rfl, rfl, rfl, rfl, rfl, rfl, trivial⟩ ?_
                  refine QW.then_ ?_
                  refine CW.cond rfl (fun hc22 => ?_) (fun hc22 => ?_)
                  · have hcl := mC_len k ws N 0 p a b (by omega) (by omega) (by omega) (by omega) (by omega)
                    refine CW.region ?_
                    refine RG.vl rfl rfl rfl (Ev.move rfl rfl) ?_
                    refine RG.vl rfl rfl rfl (Ev.ldAgg rfl rfl Tryd.underlying61 rfl sz_61 rfl ((hb15.ext hE21).cells)) ?_
                    refine RG.litO (os := [.tmp 57]) (enc := encM) ([(decide (0 = 1), p + 1, a, b)]) rfl rfl rfl rfl rfl rfl rfl Tryd.underlying27 inf_61 rfl rfl rfl rfl rfl encM_len rfl rfl (fun v23 wk24 hxwk24 hown25 hnew26 => ?_)
                    have hsep27 : Sep v23 _ := Sep.of_new (Own.ext hown hE19) hnew26
                    replace hxwl13 := Ex.tr hxwl13 hxwk24
                    replace hE19 := Ex.tr hE19 hxwk24
                    replace hE21 := Ex.tr hE21 hxwk24
                    have hE28 := hxwk24
                    refine RG.appO rfl rfl rfl rfl rfl rfl rfl Tryd.underlying27 inf_61 rfl rfl encM_len (fun _ => rfl) (Own.ext hown hE19) ((hown25.rdl encM_len)) (by show _ + 1 ≤ maxLen; simp only [maxLen]; omega) (by show (_ + 1) * _ ≤ _; omega) (hxwl13.size) (fun v29 wa30 hown31 hgr32 hat33 => ?_)
                    have hb34 := Blk.grown (hb15.ext hE21) hgr32 (fun e => hsb16 e.symm)
                    have hsb35 := sepb_app hsb16 (hb15.ext hE21) hat33
                    have hsep37 := Sep.app (Sep.symm hsep27) hown25 hat33
                    have hown36 := Own.grown hown25 hgr32 (fun k a b => (Sep.symm hsep27) k b a)
                    replace hxwl13 := own_block (Own.ext hown hE19) hxwl13 hgr32 (Nat.le_refl _) hxwl13.size
                    refine RG.vl rfl rfl rfl (Ev.assign rfl rfl) ?_
                    refine RG.done ?_
                    refine QW.blockN ?_
                    refine QW.then_ ?_
                    refine CW.region ?_
                    refine RG.vl rfl rfl rfl (Ev.move rfl rfl) ?_
                    refine RG.vl rfl rfl rfl (Ev.addI rfl rfl rfl (by omega)) ?_
                    refine RG.vl rfl rfl rfl (Ev.assign rfl rfl) ?_
                    refine RG.done ?_
                    refine QW.round2 (b + 1) (v29) ⟨rfl, rfl, trivial⟩ ⟨rfl, rfl, rfl, rfl, rfl, rfl, rfl, rfl, trivial⟩ ⟨⟨by omega, by omega, by rw [mC_yes (by omega) (by assumption)]; exact hown31⟩, hxwl13⟩ (by omega)
                  · refine CW.skip ?_
                    refine QW.blockN ?_
                    refine QW.then_ ?_
                    refine CW.region ?_
                    refine RG.vl rfl rfl rfl (Ev.move rfl rfl) ?_
                    refine RG.vl rfl rfl rfl (Ev.addI rfl rfl rfl (by omega)) ?_
                    refine RG.vl rfl rfl rfl (Ev.assign rfl rfl) ?_
                    refine RG.done ?_
                    refine QW.round2 (b + 1) (v) ⟨rfl, rfl, trivial⟩ ⟨rfl, rfl, rfl, rfl, rfl, rfl, rfl, rfl, trivial⟩ ⟨⟨by omega, by omega, by rw [mC_no (by assumption)]; exact (Own.ext hown hE19)⟩, hxwl13⟩ (by omega)
                · refine CW.exit ?_
                  refine QW.thenExit ?_
                  refine QW.thenExit ?_
                  refine QW.blockHit ?_
                  refine QW.blockN ?_
                  refine QW.then_ ?_
                  refine CW.region ?_
                  refine RG.vl rfl rfl rfl (Ev.move rfl rfl) ?_
                  refine RG.vl rfl rfl rfl (Ev.addI rfl rfl rfl (by omega)) ?_
                  refine RG.vl rfl rfl rfl (Ev.assign rfl rfl) ?_
                  refine RG.done ?_
                  refine QW.round2 (a + 1) (v) ⟨rfl, rfl, trivial⟩ ⟨rfl, rfl, rfl, rfl, rfl, rfl, rfl, trivial⟩ ⟨⟨by omega, by (obtain rfl : b = 10 := (by omega)); rw [← mC_end]; exact hown⟩, hxwl13⟩ (by omega)
              · refine CW.exit ?_
                refine QW.thenExit ?_
                refine QW.thenExit ?_
                refine QW.blockHit ?_
                refine QW.blockN ?_
                refine QW.then_ ?_
                refine CW.region ?_
                refine RG.vl rfl rfl rfl (Ev.move rfl rfl) ?_
                refine RG.vl rfl rfl rfl (Ev.addI rfl rfl rfl (by omega)) ?_
                refine RG.vl rfl rfl rfl (Ev.assign rfl rfl) ?_
                refine RG.done ?_
                refine QW.round2 (p + 1) (v) ⟨rfl, rfl, trivial⟩ ⟨rfl, rfl, rfl, rfl, rfl, rfl, trivial⟩ ⟨⟨by omega, by (obtain rfl : a = 10 := (by omega)); rw [← mB_end]; exact hown⟩, hxwl11⟩ (by omega)
            · refine CW.exit ?_
              refine QW.thenExit ?_
              refine QW.thenExit ?_
              refine QW.blockHit ?_
              refine QW.blockN ?_
              refine QW.then_ ?_
              refine CW.region ?_
              refine RG.vl rfl rfl rfl (Ev.move rfl rfl) ?_
              refine RG.vl rfl rfl rfl (Ev.addI rfl rfl rfl (by omega)) ?_
              refine RG.vl rfl rfl rfl (Ev.assign rfl rfl) ?_
              refine RG.done ?_
              refine QW.round2 (0 + 1) (v) ⟨rfl, rfl, trivial⟩ ⟨rfl, rfl, rfl, rfl, rfl, trivial⟩ ⟨⟨by omega, by rw [← mA_end (p := p) (by rw [if_neg (by omega)]; omega)]; exact hown⟩, hxwl9⟩ (by omega)
          · refine CW.region ?_
            refine RG.vl rfl rfl rfl (Ev.assign rfl rfl) ?_
            refine RG.done ?_
            refine QW.then_ ?_
            refine CW.block ?_
            refine CW.loop2 [(0, _), (1, _), (2, _), (6, _), (7, _), (9, _)] ⟨rfl, rfl, rfl, rfl, rfl, rfl, trivial⟩ (fun (p : Nat) (v : Value) => [(10, .int .i64 ((p + 1 : Nat) : Int)), (8, v)]) (fun p v w' => (p ≤ N - 1 ∧ Own w' w1.heap.size 61 4 encM v (mA k ws N 1 p)) ∧ Ex w1 w') (fun p v => N - p) (0) (v) ⟨rfl, rfl, trivial⟩ ⟨⟨by omega, by rw [mA_start]; exact hown⟩, hxwl7⟩ ?_
            rintro p v wl38 ⟨⟨hp, hown⟩, hxwl38⟩
            refine CW.sub (S' := [(10, _), (8, _), (0, _), (1, _), (2, _), (6, _), (7, _), (9, _)]) ⟨rfl, rfl, rfl, rfl, rfl, rfl, rfl, rfl, trivial⟩ ?_
            refine CW.seq ?_
            refine CW.seq ?_
            refine CW.region ?_
            refine RG.vl rfl rfl rfl (Ev.move rfl rfl) ?_
            refine RG.vl rfl rfl rfl (Ev.move rfl rfl) ?_
            refine RG.vl rfl rfl rfl (Ev.move rfl rfl) ?_
            refine RG.vl rfl rfl rfl (Ev.subI rfl rfl rfl (by omega)) ?_
            refine RG.vl rfl rfl rfl (Ev.leq rfl rfl rfl) ?_
            refine RG.done ?_
            refine QW.then_ ?_
            refine CW.condP rfl (fun hc39 => ?_) (fun hc39 => ?_)
            · refine CW.skip ?_
              refine QW.then_ ?_
              refine CW.seq ?_
              refine CW.block ?_
              refine CW.seq ?_
              refine CW.region ?_
              refine RG.vl rfl rfl rfl (Ev.assign rfl rfl) ?_
              refine RG.done ?_
              refine QW.then_ ?_
              refine CW.block ?_
              refine CW.loop2 [(0, _), (1, _), (2, _), (6, _), (7, _), (9, _), (10, _)] ⟨rfl, rfl, rfl, rfl, rfl, rfl, rfl, trivial⟩ (fun (a : Nat) (v : Value) => [(11, .int .i64 (a : Int)), (8, v)]) (fun a v w' => (a ≤ 10 ∧ Own w' w1.heap.size 61 4 encM v (mB k ws N 1 p a)) ∧ Ex w1 w') (fun a v => 10 - a) (0) (v) ⟨rfl, rfl, trivial⟩ ⟨⟨by omega, by rw [mB_start]; exact hown⟩, hxwl38⟩ ?_
              rintro a v wl40 ⟨⟨ha, hown⟩, hxwl40⟩
              refine CW.sub (S' := [(11, _), (8, _), (0, _), (1, _), (2, _), (6, _), (7, _), (9, _), (10, _)]) ⟨rfl, rfl, rfl, rfl, rfl, rfl, rfl, rfl, rfl, trivial⟩ ?_
              refine CW.seq ?_
              refine CW.seq ?_
              refine CW.region ?_
              refine RG.vl rfl rfl rfl (Ev.move rfl rfl) ?_
              refine RG.vl rfl rfl rfl (Ev.lss rfl rfl rfl) ?_
              refine RG.done ?_
              refine QW.then_ ?_
              refine CW.condP rfl (fun hc41 => ?_) (fun hc41 => ?_)
              · refine CW.skip ?_
                refine QW.then_ ?_
                refine CW.seq ?_
                refine CW.block ?_
                refine CW.seq ?_
                refine CW.region ?_
                refine RG.vl rfl rfl rfl (Ev.move rfl rfl) ?_
                refine RG.vl rfl rfl rfl (Ev.addI rfl rfl rfl (by omega)) ?_
                refine RG.vl rfl rfl rfl (Ev.assign rfl rfl) ?_
                refine RG.done ?_
                refine QW.then_ ?_
                refine CW.block ?_
                refine CW.loop2 [(0, _), (1, _), (2, _), (6, _), (7, _), (9, _), (10, _), (11, _)] ⟨rfl, rfl, rfl, rfl, rfl, rfl, rfl, rfl, trivial⟩ (fun (b : Nat) (v : Value) => [(12, .int .i64 (b : Int)), (8, v)]) (fun b v w' => (a + 1 ≤ b ∧ b ≤ 10 ∧ Own w' w1.heap.size 61 4 encM v (mC k ws N 1 p a b)) ∧ Ex w1 w') (fun b v => 10 - b) (a + 1) (v) ⟨rfl, rfl, trivial⟩ ⟨⟨by omega, by omega, by rw [mC_start]; exact hown⟩, hxwl40⟩ ?_
                rintro b v wl42 ⟨⟨hbl1, hbl2, hown⟩, hxwl42⟩
                refine CW.sub (S' := [(12, _), (8, _), (0, _), (1, _), (2, _), (6, _), (7, _), (9, _), (10, _), (11, _)]) ⟨rfl, rfl, rfl, rfl, rfl, rfl, rfl, rfl, rfl, rfl, trivial⟩ ?_
                refine CW.seq ?_
                refine CW.seq ?_
                refine CW.region ?_
                refine RG.vl rfl rfl rfl (Ev.move rfl rfl) ?_
                refine RG.vl rfl rfl rfl (Ev.lss rfl rfl rfl) ?_
                refine RG.done ?_
                refine QW.then_ ?_
                refine CW.condP rfl (fun hc43 => ?_) (fun hc43 => ?_)
                · refine CW.skip ?_
                  refine QW.then_ ?_
                  refine CW.seq ?_
                  refine CW.block ?_
                  refine CW.seq ?_
                  refine CW.region ?_
                  refine RG.vl rfl rfl rfl (Ev.move rfl rfl) ?_
                  refine RG.vl rfl rfl rfl (Ev.eqI rfl rfl rfl) ?_
                  refine RG.vl rfl rfl rfl (Ev.move rfl rfl) ?_
                  refine RG.vl rfl rfl rfl (Ev.move rfl rfl) ?_
                  refine RG.vl rfl rfl rfl (Ev.move rfl rfl) ?_
                  refine RG.vl rfl rfl rfl (Ev.build1 rfl rfl rfl inf_61 rfl rfl (by kernel_rfl) rfl) ?_
                  refine RG.local_ rfl rfl rfl rfl (fun _ => rfl) rfl rfl (fun _ => rfl) inf_61 rfl rfl rfl (fun g44 w44 eg44 hx44 hb44 => ?_)
                  have hsb45 := fun e => sep_new (g := g44) hown eg44 e
                  have hle46 : w1.heap.size ≤ g44 := by have := hxwl42.size; omega
                  have hle47 : wl42.heap.size ≤ g44 := by have := (Ex.rfl_ wl42).size; omega
                  replace hxwl42 := Ex.tr hxwl42 hx44
                  have hE48 := hx44
                  refine RG.done ?_
                  refine QW.then_ ?_
                  refine CW.seq ?_
                  refine CW.region ?_
                  refine RG.vl rfl rfl rfl (Ev.move rfl rfl) ?_
                  refine RG.vl rfl rfl rfl (Ev.move rfl rfl) ?_
                  refine RG.vl rfl rfl rfl (Ev.move rfl rfl) ?_
                  refine RG.vl rfl rfl rfl (Ev.ldAgg rfl rfl Tryd.underlying61 rfl sz_61 rfl (hb44.cells)) ?_
                  refine RG.call rfl rfl rfl rfl rfl rfl rfl en_33 (rmissed_ret k _ ws true (p + 1) a b N _ (hws.ext hxwl42) hr (by omega) (by omega) (fun _ => by omega) (by omega) (by omega) (by omega)) ?_
                  rintro _ w49 ⟨rfl, hx49⟩
                  replace hxwl42 := Ex.tr hxwl42 hx49
                  replace hE48 := Ex.tr hE48 hx49
                  have hE50 := hx49
                  refine RG.done ?_
                  refine QW.sub (S' := [(0, _), (1, _), (2, _), (6, _), (7, _), (8, _), (9, _), (10, _), (11, _), (12, _), (13, _), (55, _)]) ⟨rfl, rfl, rfl, rfl, rfl, rfl, rfl, rfl, rfl, rfl, rfl, rfl, trivial⟩ ?_
                  refine QW.then_ ?_
                  refine CW.cond rfl (fun hc51 => ?_) (fun hc51 => ?_)
                  · have hcl := mC_len k ws N 1 p a b (by omega) (by omega) (by omega) (by omega) (by omega)
                    refine CW.region ?_
                    refine RG.vl rfl rfl rfl (Ev.move rfl rfl) ?_
                    refine RG.vl rfl rfl rfl (Ev.ldAgg rfl rfl Tryd.underlying61 rfl sz_61 rfl ((hb44.ext hE50).cells)) ?_
                    refine RG.litO (os := [.tmp 57]) (enc := encM) ([(decide (1 = 1), p + 1, a, b)]) rfl rfl rfl rfl rfl rfl rfl Tryd.underlying27 inf_61 rfl rfl rfl rfl rfl encM_len rfl rfl (fun v52 wk53 hxwk53 hown54 hnew55 => ?_)
                    have hsep56 : Sep v52 _ := Sep.of_new (Own.ext hown hE48) hnew55
                    replace hxwl42 := Ex.tr hxwl42 hxwk53
                    replace hE48 := Ex.tr hE48 hxwk53
                    replace hE50 := Ex.tr hE50 hxwk53
                    have hE57 := hxwk53
                    refine RG.appO rfl rfl rfl rfl rfl rfl rfl Tryd.underlying27 inf_61 rfl rfl encM_len (fun _ => rfl) (Own.ext hown hE48) ((hown54.rdl encM_len)) (by show _ + 1 ≤ maxLen; simp only [maxLen]; omega) (by show (_ + 1) * _ ≤ _; omega) (hxwl42.size) (fun v58 wa59 hown60 hgr61 hat62 => ?_)
                    have hb63 := Blk.grown (hb44.ext hE50) hgr61 (fun e => hsb45 e.symm)
                    have hsb64 := sepb_app hsb45 (hb44.ext hE50) hat62
                    have hsep66 := Sep.app (Sep.symm hsep56) hown54 hat62
                    have hown65 := Own.grown hown54 hgr61 (fun k a b => (Sep.symm hsep56) k b a)
                    replace hxwl42 := own_block (Own.ext hown hE48) hxwl42 hgr61 (Nat.le_refl _) hxwl42.size
                    refine RG.vl rfl rfl rfl (Ev.assign rfl rfl) ?_
                    refine RG.done ?_
                    refine QW.blockN ?_
                    refine QW.then_ ?_
                    refine CW.region ?_
                    refine RG.vl rfl rfl rfl (Ev.move rfl rfl) ?_
                    refine RG.vl rfl rfl rfl (Ev.addI rfl rfl rfl (by omega)) ?_
                    refine RG.vl rfl rfl rfl (Ev.assign rfl rfl) ?_
                    refine RG.done ?_
                    refine QW.round2 (b + 1) (v58) ⟨rfl, rfl, trivial⟩ ⟨rfl, rfl, rfl, rfl, rfl, rfl, rfl, rfl, trivial⟩ ⟨⟨by omega, by omega, by rw [mC_yes (by omega) (by assumption)]; exact hown60⟩, hxwl42⟩ (by omega)
                  · refine CW.skip ?_
                    refine QW.blockN ?_
                    refine QW.then_ ?_
                    refine CW.region ?_
                    refine RG.vl rfl rfl rfl (Ev.move rfl rfl) ?_
                    refine RG.vl rfl rfl rfl (Ev.addI rfl rfl rfl (by omega)) ?_
                    refine RG.vl rfl rfl rfl (Ev.assign rfl rfl) ?_
                    refine RG.done ?_
                    refine QW.round2 (b + 1) (v) ⟨rfl, rfl, trivial⟩ ⟨rfl, rfl, rfl, rfl, rfl, rfl, rfl, rfl, trivial⟩ ⟨⟨by omega, by omega, by rw [mC_no (by assumption)]; exact (Own.ext hown hE48)⟩, hxwl42⟩ (by omega)
                · refine CW.exit ?_
                  refine QW.thenExit ?_
                  refine QW.thenExit ?_
                  refine QW.blockHit ?_
                  refine QW.blockN ?_
                  refine QW.then_ ?_
                  refine CW.region ?_
                  refine RG.vl rfl rfl rfl (Ev.move rfl rfl) ?_
                  refine RG.vl rfl rfl rfl (Ev.addI rfl rfl rfl (by omega)) ?_
                  refine RG.vl rfl rfl rfl (Ev.assign rfl rfl) ?_
                  refine RG.done ?_
                  refine QW.round2 (a + 1) (v) ⟨rfl, rfl, trivial⟩ ⟨rfl, rfl, rfl, rfl, rfl, rfl, rfl, trivial⟩ ⟨⟨by omega, by (obtain rfl : b = 10 := (by omega)); rw [← mC_end]; exact hown⟩, hxwl42⟩ (by omega)
              · refine CW.exit ?_
                refine QW.thenExit ?_
                refine QW.thenExit ?_
                refine QW.blockHit ?_
                refine QW.blockN ?_
                refine QW.then_ ?_
                refine CW.region ?_
                refine RG.vl rfl rfl rfl (Ev.move rfl rfl) ?_
                refine RG.vl rfl rfl rfl (Ev.addI rfl rfl rfl (by omega)) ?_
                refine RG.vl rfl rfl rfl (Ev.assign rfl rfl) ?_
                refine RG.done ?_
                refine QW.round2 (p + 1) (v) ⟨rfl, rfl, trivial⟩ ⟨rfl, rfl, rfl, rfl, rfl, rfl, trivial⟩ ⟨⟨by omega, by (obtain rfl : a = 10 := (by omega)); rw [← mB_end]; exact hown⟩, hxwl40⟩ (by omega)
            · refine CW.exit ?_
              refine QW.thenExit ?_
              refine QW.thenExit ?_
              refine QW.blockHit ?_
              refine QW.blockN ?_
              refine QW.then_ ?_
              refine CW.region ?_
              refine RG.vl rfl rfl rfl (Ev.move rfl rfl) ?_
              refine RG.vl rfl rfl rfl (Ev.addI rfl rfl rfl (by omega)) ?_
              refine RG.vl rfl rfl rfl (Ev.assign rfl rfl) ?_
              refine RG.done ?_
              refine QW.round2 (1 + 1) (v) ⟨rfl, rfl, trivial⟩ ⟨rfl, rfl, rfl, rfl, rfl, trivial⟩ ⟨⟨by omega, by rw [← mA_end (p := p) (by rw [if_pos rfl]; omega)]; exact hown⟩, hxwl38⟩ (by omega)
        · refine CW.exit ?_
          refine QW.thenExit ?_
          refine QW.thenExit ?_
          refine QW.blockHit ?_
          refine QW.then_ ?_
          refine CW.seq ?_
          refine CW.region ?_
          refine RG.vl rfl rfl rfl (Ev.move rfl rfl) ?_
          refine RG.vl rfl rfl rfl (Ev.assign rfl rfl) ?_
          refine RG.vl rfl rfl rfl (Ev.assign rfl rfl) ?_
          refine RG.done ?_
          refine QW.then_ ?_
          refine CW.ret ?_
          refine QW.ret2 rfl rfl rfl ?_
          have hB := (Ex.tr hR6 hxwl7)
          obtain rfl : s = 2 := by omega
          rw [mO_end] at hown
          exact ⟨_, by unfold missR; rw [hr, if_neg (by decide), if_neg (by omega)], by unfold missR; rw [hr, if_neg (by decide), if_neg (by omega), Int.toNat_natCast]; exact hown.low (by have := hR6.size; omega), hB⟩

end Go.Proofs.YtnhkhpnkhkagaaaDoor
