/- Walks (DG). Written by program. -/
import Derived.Test.YtnhkhpnkhkagaaaDoorT
import Derived.Test.YtnhkhpnkhkagaaaDoorDF
namespace Go.Proofs.YtnhkhpnkhkagaaaDoor
open Go.RowKit
set_option maxRecDepth 100000 in
set_option maxHeartbeats 4000000 in
theorem Misses_ret (k : Nat) (wv : Value) (ws : List Int) (n : Int) (w : World) (hws : RdL w 1 encI wv ws) (hwl : ws.length ≤ 100000) :
    Ret Tryd.prog 15 [.agg #[.int .u8 (k : Int), wv], .int .i64 n] w (fun v w' => ∃ r, v = .tuple #[r, .int .i64 (missR k ws n).2] ∧ Own w' w.heap.size 36 4 encM r (missR k ws n).1 ∧ Ex w w') := by
  obtain ⟨wA, wC, rfl⟩ := hws.shape
  have hB0 : Ex w w := Ex.rfl_ _
  refine Ret.of Tryd.func15 rfl Tryd.ntmps15 rfl ?_
  refine CW.seq ?_
  refine CW.region ?_
  refine RG.box rfl rfl rfl rfl rfl (fun g1 w1 eg1 hx1 hb1 => ?_)
  have hle2 : w.heap.size ≤ g1 := by have := (Ex.rfl_ w).size; omega
  have hE3 := hx1
  refine RG.vl rfl rfl rfl (Ev.assign rfl rfl) ?_
  refine RG.vl rfl rfl rfl (Ev.assign rfl rfl) ?_
  refine RG.done ?_
  refine QW.then_ ?_
  refine CW.seq ?_
  refine CW.seq ?_
  refine CW.region ?_
  refine RG.vl rfl rfl rfl (Ev.ldAgg rfl rfl Tryd.underlying24 rfl sz_24 rfl (hb1.cells)) ?_
  refine RG.call rfl rfl rfl rfl rfl rfl rfl en_22 (right_ret k _ ws _ (hws.ext hE3) (by omega)) ?_
  rintro _ w4 ⟨rfl, hx4⟩
  replace hE3 := Ex.tr hE3 hx4
  have hE5 := hx4
  refine RG.vl rfl rfl rfl (Ev.not rfl rfl) ?_
  refine RG.done ?_
  refine QW.then_ ?_
  refine CW.cond rfl (fun hc6 => ?_) (fun hc6 => ?_)
  · refine CW.seq ?_
    refine CW.region ?_
    refine RG.vl rfl rfl rfl (Ev.assign rfl rfl) ?_
    refine RG.vl rfl rfl rfl (Ev.assign rfl rfl) ?_
    refine RG.done ?_
    refine QW.then_ ?_
    refine CW.ret ?_
    refine QW.thenRet ?_
    refine QW.ret2 rfl rfl rfl ?_
    have hB := (Ex.tr hB0 hE3)
    exact ⟨_, by unfold missR; rw [show rightD k ws = false from not_t (by assumption)]; rfl, by unfold missR; rw [show rightD k ws = false from not_t (by assumption)]; exact Own.nil_ _ _ _ _ _, hB⟩
  · refine CW.skip ?_
    refine QW.then_ ?_
    refine CW.seq ?_
    refine CW.seq ?_
    refine CW.region ?_
    refine RG.vl rfl rfl rfl (Ev.move rfl rfl) ?_
    refine RG.vl rfl rfl rfl (Ev.lss rfl rfl rfl) ?_
    refine RG.vl rfl rfl rfl (Ev.move rfl rfl) ?_
    refine RG.split (d := 19) rfl (fun hg7 => ?_) (fun hg7 => ?_)
    · refine RG.pass rfl rfl rfl ?_
      refine RG.pass rfl rfl rfl ?_
      refine RG.vl rfl rfl rfl (Ev.pickT rfl rfl rfl) ?_
      refine RG.done ?_
      refine QW.then_ ?_
      refine CW.condT rfl ?_
      refine CW.seq ?_
      refine CW.region ?_
      refine RG.vl rfl rfl rfl (Ev.assign rfl rfl) ?_
      refine RG.vl rfl rfl rfl (Ev.assign rfl rfl) ?_
      refine RG.done ?_
      refine QW.sub (S' := [(1, _), (2, _), (4, _), (5, _)]) ⟨rfl, rfl, rfl, rfl, trivial⟩ ?_
      refine QW.then_ ?_
      refine CW.ret ?_
      refine QW.thenRet ?_
      refine QW.ret2 rfl rfl rfl ?_
      have hB := (Ex.tr hB0 hE3)
      exact ⟨_, by unfold missR; rw [show rightD k ws = true from not_f (by assumption), if_neg (by decide), if_pos (by omega)], by unfold missR; rw [show rightD k ws = true from not_f (by assumption), if_neg (by decide), if_pos (by omega)]; exact Own.nil_ _ _ _ _ _, hB⟩
    · refine RG.vl rfl rfl rfl (Ev.move rfl rfl) ?_
      refine RG.vl rfl rfl rfl (Ev.gtr rfl rfl rfl) ?_
      refine RG.vl rfl rfl rfl (Ev.pickF rfl rfl rfl) ?_
      refine RG.done ?_
      refine QW.then_ ?_
      refine CW.condP rfl (fun hc8 => ?_) (fun hc8 => ?_)
      · refine CW.seq ?_
        refine CW.region ?_
        refine RG.vl rfl rfl rfl (Ev.assign rfl rfl) ?_
        refine RG.vl rfl rfl rfl (Ev.assign rfl rfl) ?_
        refine RG.done ?_
        refine QW.sub (S' := [(1, _), (2, _), (4, _), (5, _)]) ⟨rfl, rfl, rfl, rfl, trivial⟩ ?_
        refine QW.then_ ?_
        refine CW.ret ?_
        refine QW.thenRet ?_
        refine QW.ret2 rfl rfl rfl ?_
        have hB := (Ex.tr hB0 hE3)
        exact ⟨_, by unfold missR; rw [show rightD k ws = true from not_f (by assumption), if_neg (by decide), if_pos (by omega)], by unfold missR; rw [show rightD k ws = true from not_f (by assumption), if_neg (by decide), if_pos (by omega)]; exact Own.nil_ _ _ _ _ _, hB⟩
      · refine CW.skip ?_
        refine QW.then_ ?_
        refine CW.seq ?_
        have hr : rightD k ws = true := not_f (by assumption)
        obtain ⟨N, rfl⟩ : ∃ N : Nat, n = (N : Int) := ⟨n.toNat, by omega⟩
        refine CW.region ?_
        refine RG.vl rfl rfl rfl (Ev.assign rfl rfl) ?_
        refine RG.done ?_
        refine QW.then_ ?_
        refine CW.seq ?_
        refine CW.seq ?_
        refine CW.region ?_
        refine RG.vl rfl rfl rfl (Ev.buildA (len := 2) (xs := [_, _]) rfl rfl rfl rfl Tryd.underlying63 sz_4 inf_63 rfl rfl) ?_
        refine RG.vl rfl rfl rfl (Ev.move rfl rfl) ?_
        refine RG.done ?_
        refine QW.sub (S' := [(1, _), (2, _), (4, _), (5, _), (6, _), (23, _), (24, _)]) ⟨rfl, rfl, rfl, rfl, rfl, rfl, rfl, trivial⟩ ?_
        refine QW.then_ ?_
        refine CW.block ?_
        replace hws := (hws.ext hE3)
        replace hb1 := (hb1.ext hE5)
        have hR9 := (Ex.tr hB0 hE3)
        have hR10 := hE5
        refine CW.loop2 [(1, _), (2, _), (4, _), (5, _), (23, _)] ⟨rfl, rfl, rfl, rfl, rfl, trivial⟩ (fun (s : Nat) (v : Value) => [(24, .int .i64 s), (6, v)]) (fun s v w' => (s ≤ 2 ∧ Own w' w4.heap.size 36 4 encM v (mO k ws N s)) ∧ Ex w4 w') (fun s v => 2 - s) (0) (.slice none 0 0) ⟨rfl, rfl, trivial⟩ ⟨⟨by omega, Own.nil_ _ _ _ _ _⟩, (Ex.rfl_ _)⟩ ?_
        rintro s v wl11 ⟨⟨hs, hown⟩, hxwl11⟩
        refine CW.sub (S' := [(24, _), (6, _), (1, _), (2, _), (4, _), (5, _), (23, _)]) ⟨rfl, rfl, rfl, rfl, rfl, rfl, rfl, trivial⟩ ?_
        refine CW.seq ?_
        refine CW.region ?_
        refine RG.vl rfl rfl rfl (Ev.lss rfl rfl rfl) ?_
        refine RG.done ?_
        refine QW.then_ ?_
        refine CW.seq ?_
        refine CW.condP rfl (fun hc12 => ?_) (fun hc12 => ?_)
        · refine CW.skip ?_
          refine QW.then_ ?_
          refine CW.seq ?_
          refine CW.block ?_
          refine CW.seq ?_
          obtain rfl | rfl : s = 0 ∨ s = 1 := by omega
          · refine CW.region ?_
            refine RG.vl rfl rfl rfl (Ev.idxArr rfl rfl rfl Tryd.underlying63 Tryd.underlying4 rfl sz_4 (by omega) (rfl)) ?_
            refine RG.vl rfl rfl rfl (Ev.assign rfl rfl) ?_
            refine RG.done ?_
            refine QW.then_ ?_
            refine CW.seq ?_
            refine CW.region ?_
            refine RG.vl rfl rfl rfl (Ev.move rfl rfl) ?_
            refine RG.vl rfl rfl rfl (Ev.assign rfl rfl) ?_
            refine RG.done ?_
            refine QW.then_ ?_
            refine CW.seq ?_
            refine CW.seq ?_
            refine CW.region ?_
            refine RG.vl rfl rfl rfl (Ev.move rfl rfl) ?_
            refine RG.done ?_
            refine QW.then_ ?_
            refine CW.condF rfl ?_
            refine CW.skip ?_
            refine QW.then_ ?_
            refine CW.seq ?_
            refine CW.region ?_
            refine RG.vl rfl rfl rfl (Ev.assign rfl rfl) ?_
            refine RG.done ?_
            refine QW.then_ ?_
            refine CW.block ?_
            refine CW.loop2 [(1, _), (2, _), (4, _), (5, _), (8, _), (9, _), (23, _), (24, _)] ⟨rfl, rfl, rfl, rfl, rfl, rfl, rfl, rfl, trivial⟩ (fun (p : Nat) (v : Value) => [(10, .int .i64 ((p + 1 : Nat) : Int)), (6, v)]) (fun p v w' => (p ≤ N - 0 ∧ Own w' w4.heap.size 36 4 encM v (mA k ws N 0 p)) ∧ Ex w4 w') (fun p v => N - p) (0) (v) ⟨rfl, rfl, trivial⟩ ⟨⟨by omega, by rw [mA_start]; exact hown⟩, hxwl11⟩ ?_
            rintro p v wl13 ⟨⟨hp, hown⟩, hxwl13⟩
            refine CW.sub (S' := [(10, _), (6, _), (1, _), (2, _), (4, _), (5, _), (8, _), (9, _), (23, _), (24, _)]) ⟨rfl, rfl, rfl, rfl, rfl, rfl, rfl, rfl, rfl, rfl, trivial⟩ ?_
            refine CW.seq ?_
            refine CW.seq ?_
            refine CW.region ?_
            refine RG.vl rfl rfl rfl (Ev.move rfl rfl) ?_
            refine RG.vl rfl rfl rfl (Ev.move rfl rfl) ?_
            refine RG.vl rfl rfl rfl (Ev.leq rfl rfl rfl) ?_
            refine RG.done ?_
            refine QW.then_ ?_
            refine CW.condP rfl (fun hc14 => ?_) (fun hc14 => ?_)
            · refine CW.skip ?_
              refine QW.then_ ?_
              refine CW.seq ?_
              refine CW.block ?_
              refine CW.seq ?_
              refine CW.region ?_
              refine RG.vl rfl rfl rfl (Ev.assign rfl rfl) ?_
              refine RG.done ?_
              refine QW.then_ ?_
              refine CW.block ?_
              refine CW.loop2 [(1, _), (2, _), (4, _), (5, _), (8, _), (9, _), (10, _), (23, _), (24, _)] ⟨rfl, rfl, rfl, rfl, rfl, rfl, rfl, rfl, rfl, trivial⟩ (fun (a : Nat) (v : Value) => [(11, .int .i64 a), (6, v)]) (fun a v w' => (a ≤ 10 ∧ Own w' w4.heap.size 36 4 encM v (mB k ws N 0 p a)) ∧ Ex w4 w') (fun a v => 10 - a) (0) (v) ⟨rfl, rfl, trivial⟩ ⟨⟨by omega, by rw [mB_start]; exact hown⟩, hxwl13⟩ ?_
              rintro a v wl15 ⟨⟨ha, hown⟩, hxwl15⟩
              refine CW.sub (S' := [(11, _), (6, _), (1, _), (2, _), (4, _), (5, _), (8, _), (9, _), (10, _), (23, _), (24, _)]) ⟨rfl, rfl, rfl, rfl, rfl, rfl, rfl, rfl, rfl, rfl, rfl, trivial⟩ ?_
              refine CW.seq ?_
              refine CW.seq ?_
              refine CW.region ?_
              refine RG.vl rfl rfl rfl (Ev.move rfl rfl) ?_
              refine RG.vl rfl rfl rfl (Ev.leq rfl rfl rfl) ?_
              refine RG.done ?_
              refine QW.then_ ?_
              refine CW.condP rfl (fun hc16 => ?_) (fun hc16 => ?_)
              · refine CW.skip ?_
                refine QW.then_ ?_
                refine CW.seq ?_
                refine CW.block ?_
                refine CW.seq ?_
                refine CW.region ?_
                refine RG.vl rfl rfl rfl (Ev.move rfl rfl) ?_
                refine RG.vl rfl rfl rfl (Ev.addI rfl rfl rfl (by omega)) ?_
                refine RG.vl rfl rfl rfl (Ev.assign rfl rfl) ?_
                refine RG.done ?_
                refine QW.then_ ?_
                refine CW.block ?_
                refine CW.loop2 [(1, _), (2, _), (4, _), (5, _), (8, _), (9, _), (10, _), (11, _), (23, _), (24, _)] ⟨rfl, rfl, rfl, rfl, rfl, rfl, rfl, rfl, rfl, rfl, trivial⟩ (fun (b : Nat) (v : Value) => [(12, .int .i64 b), (6, v)]) (fun b v w' => (a + 1 ≤ b ∧ b ≤ 10 ∧ Own w' w4.heap.size 36 4 encM v (mC k ws N 0 p a b)) ∧ Ex w4 w') (fun b v => 10 - b) (a + 1) (v) ⟨rfl, rfl, trivial⟩ ⟨⟨by omega, by omega, by rw [mC_start]; exact hown⟩, hxwl15⟩ ?_
                rintro b v wl17 ⟨⟨hbl1, hbl2, hown⟩, hxwl17⟩
                refine CW.sub (S' := [(12, _), (6, _), (1, _), (2, _), (4, _), (5, _), (8, _), (9, _), (10, _), (11, _), (23, _), (24, _)]) ⟨rfl, rfl, rfl, rfl, rfl, rfl, rfl, rfl, rfl, rfl, rfl, rfl, trivial⟩ ?_
                refine CW.seq ?_
                refine CW.seq ?_
                refine CW.region ?_
                refine RG.vl rfl rfl rfl (Ev.move rfl rfl) ?_
                refine RG.vl rfl rfl rfl (Ev.leq rfl rfl rfl) ?_
                refine RG.done ?_
                refine QW.then_ ?_
                refine CW.condP rfl (fun hc18 => ?_) (fun hc18 => ?_)
                · refine CW.skip ?_
                  refine QW.then_ ?_
                  refine CW.seq ?_
                  refine CW.block ?_
                  refine CW.seq ?_
                  refine CW.region ?_
                  refine RG.vl rfl rfl rfl (Ev.move rfl rfl) ?_
                  refine RG.vl rfl rfl rfl (Ev.move rfl rfl) ?_
                  refine RG.vl rfl rfl rfl (Ev.move rfl rfl) ?_
                  refine RG.vl rfl rfl rfl (Ev.move rfl rfl) ?_
                  refine RG.vl rfl rfl rfl (Ev.build1 rfl rfl rfl inf_36 rfl rfl (by kernel_rfl) rfl) ?_
                  refine RG.local_ rfl rfl rfl rfl (fun _ => rfl) rfl rfl (fun _ => rfl) inf_36 rfl rfl rfl (fun g19 w19 eg19 hx19 hb19 => ?_)
                  have hsb20 := fun e => sep_new (g := g19) hown eg19 e
                  have hle21 : w4.heap.size ≤ g19 := by have := hxwl17.size; omega
                  have hle22 : wl17.heap.size ≤ g19 := by have := (Ex.rfl_ wl17).size; omega
                  have hlt23 : g1 < g19 := by have := Blk.lt (hb1.ext hxwl17); omega
                  replace hxwl17 := Ex.tr hxwl17 hx19
                  have hE24 := hx19
                  refine RG.done ?_
                  refine QW.then_ ?_
                  refine CW.seq ?_
                  refine CW.region ?_
                  refine RG.vl rfl rfl rfl (Ev.ldAgg rfl rfl Tryd.underlying24 rfl sz_24 rfl ((hb1.ext hxwl17).cells)) ?_
                  refine RG.vl rfl rfl rfl (Ev.ldAgg rfl rfl Tryd.underlying36 rfl sz_36 rfl (hb19.cells)) ?_
                  refine RG.vl rfl rfl rfl (Ev.move rfl rfl) ?_
                  refine RG.call rfl rfl rfl rfl rfl rfl rfl en_34 (misses_ret k _ ws false (p + 1) a b N _ (hws.ext hxwl17) hr (by omega) (by omega) (fun h => by cases h) (by omega) (by omega) (by omega)) ?_
                  rintro _ w25 ⟨rfl, hx25⟩
                  replace hxwl17 := Ex.tr hxwl17 hx25
                  replace hE24 := Ex.tr hE24 hx25
                  have hE26 := hx25
                  refine RG.done ?_
                  refine QW.then_ ?_
                  refine CW.cond rfl (fun hc27 => ?_) (fun hc27 => ?_)
                  · have hcl := mC_len k ws N 0 p a b (by omega) (by omega) (by omega) (by omega) (by omega)
                    refine CW.region ?_
                    refine RG.vl rfl rfl rfl (Ev.move rfl rfl) ?_
                    refine RG.vl rfl rfl rfl (Ev.ldAgg rfl rfl Tryd.underlying36 rfl sz_36 rfl ((hb19.ext hE26).cells)) ?_
                    refine RG.litO (os := [.tmp 56]) (enc := encM) ([(decide (0 = 1), p + 1, a, b)]) rfl rfl rfl rfl rfl rfl rfl Tryd.underlying30 inf_36 rfl rfl rfl rfl rfl encM_len rfl rfl (fun v28 wk29 hxwk29 hown30 hnew31 => ?_)
                    have hsep32 : Sep v28 _ := Sep.of_new (Own.ext hown hE24) hnew31
                    replace hxwl17 := Ex.tr hxwl17 hxwk29
                    replace hE24 := Ex.tr hE24 hxwk29
                    replace hE26 := Ex.tr hE26 hxwk29
                    have hE33 := hxwk29
                    refine RG.appO rfl rfl rfl rfl rfl rfl rfl Tryd.underlying30 inf_36 rfl rfl encM_len (fun _ => rfl) (Own.ext hown hE24) ((hown30.rdl encM_len)) (by show _ + 1 ≤ maxLen; simp only [maxLen]; omega) (by show (_ + 1) * _ ≤ _; omega) (hxwl17.size) (fun v34 wa35 hown36 hgr37 hat38 => ?_)
                    have hb39 := Blk.grown (hb19.ext hE26) hgr37 (fun e => hsb20 e.symm)
                    have hsb40 := sepb_app hsb20 (hb19.ext hE26) hat38
                    have hsep42 := Sep.app (Sep.symm hsep32) hown30 hat38
                    have hown41 := Own.grown hown30 hgr37 (fun k a b => (Sep.symm hsep32) k b a)
                    replace hxwl17 := own_block (Own.ext hown hE24) hxwl17 hgr37 (Nat.le_refl _) hxwl17.size
                    refine RG.vl rfl rfl rfl (Ev.assign rfl rfl) ?_
                    refine RG.done ?_
                    refine QW.sub (S' := [(1, _), (2, _), (4, _), (5, _), (6, _), (8, _), (9, _), (10, _), (11, _), (12, _), (23, _), (24, _)]) ⟨rfl, rfl, rfl, rfl, rfl, rfl, rfl, rfl, rfl, rfl, rfl, rfl, trivial⟩ ?_
                    refine QW.blockN ?_
                    refine QW.then_ ?_
                    refine CW.region ?_
                    refine RG.vl rfl rfl rfl (Ev.move rfl rfl) ?_
                    refine RG.vl rfl rfl rfl (Ev.addI rfl rfl rfl (by omega)) ?_
                    refine RG.vl rfl rfl rfl (Ev.assign rfl rfl) ?_
                    refine RG.done ?_
                    refine QW.round2 (b + 1) (v34) ⟨rfl, rfl, trivial⟩ ⟨rfl, rfl, rfl, rfl, rfl, rfl, rfl, rfl, rfl, rfl, trivial⟩ ⟨⟨by omega, by omega, by rw [mC_yes (by omega) (by assumption)]; exact hown36⟩, hxwl17⟩ (by omega)
                  · refine CW.skip ?_
                    refine QW.blockN ?_
                    refine QW.then_ ?_
                    refine CW.region ?_
                    refine RG.vl rfl rfl rfl (Ev.move rfl rfl) ?_
                    refine RG.vl rfl rfl rfl (Ev.addI rfl rfl rfl (by omega)) ?_
                    refine RG.vl rfl rfl rfl (Ev.assign rfl rfl) ?_
                    refine RG.done ?_
                    refine QW.sub (S' := [(1, _), (2, _), (4, _), (5, _), (6, _), (8, _), (9, _), (10, _), (11, _), (12, _), (23, _), (24, _)]) ⟨rfl, rfl, rfl, rfl, rfl, rfl, rfl, rfl, rfl, rfl, rfl, rfl, trivial⟩ ?_
                    refine QW.round2 (b + 1) (v) ⟨rfl, rfl, trivial⟩ ⟨rfl, rfl, rfl, rfl, rfl, rfl, rfl, rfl, rfl, rfl, trivial⟩ ⟨⟨by omega, by omega, by rw [mC_no (by assumption)]; exact (Own.ext hown hE24)⟩, hxwl17⟩ (by omega)
                · refine CW.exit ?_
                  refine QW.thenExit ?_
                  refine QW.thenExit ?_
                  refine QW.blockHit ?_
                  refine QW.blockN ?_
                  refine QW.then_ ?_
                  refine CW.region ?_
                  refine RG.vl rfl rfl rfl (Ev.move rfl rfl) ?_
                  refine RG.vl rfl rfl rfl (Ev.addI rfl rfl rfl (by omega)) ?_
                  refine RG.vl rfl rfl rfl (Ev.assign rfl rfl) ?_
                  refine RG.done ?_
                  refine QW.round2 (a + 1) (v) ⟨rfl, rfl, trivial⟩ ⟨rfl, rfl, rfl, rfl, rfl, rfl, rfl, rfl, rfl, trivial⟩ ⟨⟨by omega, by (obtain rfl : b = 10 := (by omega)); rw [← mC_end]; exact hown⟩, hxwl17⟩ (by omega)
              · refine CW.exit ?_
                refine QW.thenExit ?_
                refine QW.thenExit ?_
                refine QW.blockHit ?_
                refine QW.blockN ?_
                refine QW.then_ ?_
                refine CW.region ?_
                refine RG.vl rfl rfl rfl (Ev.move rfl rfl) ?_
                refine RG.vl rfl rfl rfl (Ev.addI rfl rfl rfl (by omega)) ?_
                refine RG.vl rfl rfl rfl (Ev.assign rfl rfl) ?_
                refine RG.done ?_
                refine QW.round2 (p + 1) (v) ⟨rfl, rfl, trivial⟩ ⟨rfl, rfl, rfl, rfl, rfl, rfl, rfl, rfl, trivial⟩ ⟨⟨by omega, by (obtain rfl : a = 10 := (by omega)); rw [← mB_end]; exact hown⟩, hxwl15⟩ (by omega)
            · refine CW.exit ?_
              refine QW.thenExit ?_
              refine QW.thenExit ?_
              refine QW.blockHit ?_
              refine QW.blockN ?_
              refine QW.then_ ?_
              refine CW.region ?_
              refine RG.vl rfl rfl rfl (Ev.addI rfl rfl rfl (by omega)) ?_
              refine RG.vl rfl rfl rfl (Ev.move rfl rfl) ?_
              refine RG.done ?_
              refine QW.round2 (0 + 1) (v) ⟨rfl, rfl, trivial⟩ ⟨rfl, rfl, rfl, rfl, rfl, trivial⟩ ⟨⟨by omega, by rw [← mA_end (p := p) (by rw [if_neg (by omega)]; omega)]; exact hown⟩, hxwl13⟩ (by omega)
          · refine CW.region ?_
            refine RG.vl rfl rfl rfl (Ev.idxArr rfl rfl rfl Tryd.underlying63 Tryd.underlying4 rfl sz_4 (by omega) (rfl)) ?_
            refine RG.vl rfl rfl rfl (Ev.assign rfl rfl) ?_
            refine RG.done ?_
            refine QW.then_ ?_
            refine CW.seq ?_
            refine CW.region ?_
            refine RG.vl rfl rfl rfl (Ev.move rfl rfl) ?_
            refine RG.vl rfl rfl rfl (Ev.assign rfl rfl) ?_
            refine RG.done ?_
            refine QW.then_ ?_
            refine CW.seq ?_
            refine CW.seq ?_
            refine CW.region ?_
            refine RG.vl rfl rfl rfl (Ev.move rfl rfl) ?_
            refine RG.done ?_
            refine QW.then_ ?_
            refine CW.condT rfl ?_
            refine CW.region ?_
            refine RG.vl rfl rfl rfl (Ev.move rfl rfl) ?_
            refine RG.vl rfl rfl rfl (Ev.subI rfl rfl rfl (by omega)) ?_
            refine RG.vl rfl rfl rfl (Ev.assign rfl rfl) ?_
            refine RG.done ?_
            refine QW.then_ ?_
            refine CW.seq ?_
            refine CW.region ?_
            refine RG.vl rfl rfl rfl (Ev.assign rfl rfl) ?_
            refine RG.done ?_
            refine QW.then_ ?_
            refine CW.block ?_
            refine CW.loop2 [(1, _), (2, _), (4, _), (5, _), (8, _), (9, _), (23, _), (24, _)] ⟨rfl, rfl, rfl, rfl, rfl, rfl, rfl, rfl, trivial⟩ (fun (p : Nat) (v : Value) => [(10, .int .i64 ((p + 1 : Nat) : Int)), (6, v)]) (fun p v w' => (p ≤ N - 1 ∧ Own w' w4.heap.size 36 4 encM v (mA k ws N 1 p)) ∧ Ex w4 w') (fun p v => N - p) (0) (v) ⟨rfl, rfl, trivial⟩ ⟨⟨by omega, by rw [mA_start]; exact hown⟩, hxwl11⟩ ?_
            rintro p v wl43 ⟨⟨hp, hown⟩, hxwl43⟩
            refine CW.sub (S' := [(10, _), (6, _), (1, _), (2, _), (4, _), (5, _), (8, _), (9, _), (23, _), (24, _)]) ⟨rfl, rfl, rfl, rfl, rfl, rfl, rfl, rfl, rfl, rfl, trivial⟩ ?_
            refine CW.seq ?_
            refine CW.seq ?_
            refine CW.region ?_
            refine RG.vl rfl rfl rfl (Ev.move rfl rfl) ?_
            refine RG.vl rfl rfl rfl (Ev.move rfl rfl) ?_
            refine RG.vl rfl rfl rfl (Ev.leq rfl rfl rfl) ?_
            refine RG.done ?_
            refine QW.then_ ?_
            refine CW.condP rfl (fun hc44 => ?_) (fun hc44 => ?_)
            · refine CW.skip ?_
              refine QW.then_ ?_
              refine CW.seq ?_
              refine CW.block ?_
              refine CW.seq ?_
              refine CW.region ?_
              refine RG.vl rfl rfl rfl (Ev.assign rfl rfl) ?_
              refine RG.done ?_
              refine QW.then_ ?_
              refine CW.block ?_
              refine CW.loop2 [(1, _), (2, _), (4, _), (5, _), (8, _), (9, _), (10, _), (23, _), (24, _)] ⟨rfl, rfl, rfl, rfl, rfl, rfl, rfl, rfl, rfl, trivial⟩ (fun (a : Nat) (v : Value) => [(11, .int .i64 a), (6, v)]) (fun a v w' => (a ≤ 10 ∧ Own w' w4.heap.size 36 4 encM v (mB k ws N 1 p a)) ∧ Ex w4 w') (fun a v => 10 - a) (0) (v) ⟨rfl, rfl, trivial⟩ ⟨⟨by omega, by rw [mB_start]; exact hown⟩, hxwl43⟩ ?_
              rintro a v wl45 ⟨⟨ha, hown⟩, hxwl45⟩
              refine CW.sub (S' := [(11, _), (6, _), (1, _), (2, _), (4, _), (5, _), (8, _), (9, _), (10, _), (23, _), (24, _)]) ⟨rfl, rfl, rfl, rfl, rfl, rfl, rfl, rfl, rfl, rfl, rfl, trivial⟩ ?_
              refine CW.seq ?_
              refine CW.seq ?_
              refine CW.region ?_
              refine RG.vl rfl rfl rfl (Ev.move rfl rfl) ?_
              refine RG.vl rfl rfl rfl (Ev.leq rfl rfl rfl) ?_
              refine RG.done ?_
              refine QW.then_ ?_
              refine CW.condP rfl (fun hc46 => ?_) (fun hc46 => ?_)
              · refine CW.skip ?_
                refine QW.then_ ?_
                refine CW.seq ?_
                refine CW.block ?_
                refine CW.seq ?_
                refine CW.region ?_
                refine RG.vl rfl rfl rfl (Ev.move rfl rfl) ?_
                refine RG.vl rfl rfl rfl (Ev.addI rfl rfl rfl (by omega)) ?_
                refine RG.vl rfl rfl rfl (Ev.assign rfl rfl) ?_
                refine RG.done ?_
                refine QW.then_ ?_
                refine CW.block ?_
                refine CW.loop2 [(1, _), (2, _), (4, _), (5, _), (8, _), (9, _), (10, _), (11, _), (23, _), (24, _)] ⟨rfl, rfl, rfl, rfl, rfl, rfl, rfl, rfl, rfl, rfl, trivial⟩ (fun (b : Nat) (v : Value) => [(12, .int .i64 b), (6, v)]) (fun b v w' => (a + 1 ≤ b ∧ b ≤ 10 ∧ Own w' w4.heap.size 36 4 encM v (mC k ws N 1 p a b)) ∧ Ex w4 w') (fun b v => 10 - b) (a + 1) (v) ⟨rfl, rfl, trivial⟩ ⟨⟨by omega, by omega, by rw [mC_start]; exact hown⟩, hxwl45⟩ ?_
                rintro b v wl47 ⟨⟨hbl1, hbl2, hown⟩, hxwl47⟩
                refine CW.sub (S' := [(12, _), (6, _), (1, _), (2, _), (4, _), (5, _), (8, _), (9, _), (10, _), (11, _), (23, _), (24, _)]) ⟨rfl, rfl, rfl, rfl, rfl, rfl, rfl, rfl, rfl, rfl, rfl, rfl, trivial⟩ ?_
                refine CW.seq ?_
                refine CW.seq ?_
                refine CW.region ?_
                refine RG.vl rfl rfl rfl (Ev.move rfl rfl) ?_
                refine RG.vl rfl rfl rfl (Ev.leq rfl rfl rfl) ?_
                refine RG.done ?_
                refine QW.then_ ?_
                refine CW.condP rfl (fun hc48 => ?_) (fun hc48 => ?_)
                · refine CW.skip ?_
                  refine QW.then_ ?_
                  refine CW.seq ?_
                  refine CW.block ?_
                  refine CW.seq ?_
                  refine CW.region ?_
                  refine RG.vl rfl rfl rfl (Ev.move rfl rfl) ?_
                  refine RG.vl rfl rfl rfl (Ev.move rfl rfl) ?_
                  refine RG.vl rfl rfl rfl (Ev.move rfl rfl) ?_
                  refine RG.vl rfl rfl rfl (Ev.move rfl rfl) ?_
                  refine RG.vl rfl rfl rfl (Ev.build1 rfl rfl rfl inf_36 rfl rfl (by kernel_rfl) rfl) ?_
                  refine RG.local_ rfl rfl rfl rfl (fun _ => rfl) rfl rfl (fun _ => rfl) inf_36 rfl rfl rfl (fun g49 w49 eg49 hx49 hb49 => ?_)
                  have hsb50 := fun e => sep_new (g := g49) hown eg49 e
                  have hle51 : w4.heap.size ≤ g49 := by have := hxwl47.size; omega
                  have hle52 : wl47.heap.size ≤ g49 := by have := (Ex.rfl_ wl47).size; omega
                  have hlt53 : g1 < g49 := by have := Blk.lt (hb1.ext hxwl47); omega
                  replace hxwl47 := Ex.tr hxwl47 hx49
                  have hE54 := hx49
                  refine RG.done ?_
                  refine QW.then_ ?_
                  refine CW.seq ?_
                  refine CW.region ?_
                  refine RG.vl rfl rfl rfl (Ev.ldAgg rfl rfl Tryd.underlying24 rfl sz_24 rfl ((hb1.ext hxwl47).cells)) ?_
                  refine RG.vl rfl rfl rfl (Ev.ldAgg rfl rfl Tryd.underlying36 rfl sz_36 rfl (hb49.cells)) ?_
                  refine RG.vl rfl rfl rfl (Ev.move rfl rfl) ?_
                  refine RG.call rfl rfl rfl rfl rfl rfl rfl en_34 (misses_ret k _ ws true (p + 1) a b N _ (hws.ext hxwl47) hr (by omega) (by omega) (fun _ => by omega) (by omega) (by omega) (by omega)) ?_
                  rintro _ w55 ⟨rfl, hx55⟩
                  replace hxwl47 := Ex.tr hxwl47 hx55
                  replace hE54 := Ex.tr hE54 hx55
                  have hE56 := hx55
                  refine RG.done ?_
                  refine QW.then_ ?_
                  refine CW.cond rfl (fun hc57 => ?_) (fun hc57 => ?_)
                  · have hcl := mC_len k ws N 1 p a b (by omega) (by omega) (by omega) (by omega) (by omega)
                    refine CW.region ?_
                    refine RG.vl rfl rfl rfl (Ev.move rfl rfl) ?_
                    refine RG.vl rfl rfl rfl (Ev.ldAgg rfl rfl Tryd.underlying36 rfl sz_36 rfl ((hb49.ext hE56).cells)) ?_
                    refine RG.litO (os := [.tmp 56]) (enc := encM) ([(decide (1 = 1), p + 1, a, b)]) rfl rfl rfl rfl rfl rfl rfl Tryd.underlying30 inf_36 rfl rfl rfl rfl rfl encM_len rfl rfl (fun v58 wk59 hxwk59 hown60 hnew61 => ?_)
                    have hsep62 : Sep v58 _ := Sep.of_new (Own.ext hown hE54) hnew61
                    replace hxwl47 := Ex.tr hxwl47 hxwk59
                    replace hE54 := Ex.tr hE54 hxwk59
                    replace hE56 := Ex.tr hE56 hxwk59
                    have hE63 := hxwk59
                    refine RG.appO rfl rfl rfl rfl rfl rfl rfl Tryd.underlying30 inf_36 rfl rfl encM_len (fun _ => rfl) (Own.ext hown hE54) ((hown60.rdl encM_len)) (by show _ + 1 ≤ maxLen; simp only [maxLen]; omega) (by show (_ + 1) * _ ≤ _; omega) (hxwl47.size) (fun v64 wa65 hown66 hgr67 hat68 => ?_)
                    have hb69 := Blk.grown (hb49.ext hE56) hgr67 (fun e => hsb50 e.symm)
                    have hsb70 := sepb_app hsb50 (hb49.ext hE56) hat68
                    have hsep72 := Sep.app (Sep.symm hsep62) hown60 hat68
                    have hown71 := Own.grown hown60 hgr67 (fun k a b => (Sep.symm hsep62) k b a)
                    replace hxwl47 := own_block (Own.ext hown hE54) hxwl47 hgr67 (Nat.le_refl _) hxwl47.size
                    refine RG.vl rfl rfl rfl (Ev.assign rfl rfl) ?_
                    refine RG.done ?_
                    refine QW.sub (S' := [(1, _), (2, _), (4, _), (5, _), (6, _), (8, _), (9, _), (10, _), (11, _), (12, _), (23, _), (24, _)]) ⟨rfl, rfl, rfl, rfl, rfl, rfl, rfl, rfl, rfl, rfl, rfl, rfl, trivial⟩ ?_
                    refine QW.blockN ?_
                    refine QW.then_ ?_
                    refine CW.region ?_
                    refine RG.vl rfl rfl rfl (Ev.move rfl rfl) ?_
                    refine RG.vl rfl rfl rfl (Ev.addI rfl rfl rfl (by omega)) ?_
                    refine RG.vl rfl rfl rfl (Ev.assign rfl rfl) ?_
                    refine RG.done ?_
                    refine QW.round2 (b + 1) (v64) ⟨rfl, rfl, trivial⟩ ⟨rfl, rfl, rfl, rfl, rfl, rfl, rfl, rfl, rfl, rfl, trivial⟩ ⟨⟨by omega, by omega, by rw [mC_yes (by omega) (by assumption)]; exact hown66⟩, hxwl47⟩ (by omega)
                  · refine CW.skip ?_
                    refine QW.blockN ?_
                    refine QW.then_ ?_
                    refine CW.region ?_
                    refine RG.vl rfl rfl rfl (Ev.move rfl rfl) ?_
                    refine RG.vl rfl rfl rfl (Ev.addI rfl rfl rfl (by omega)) ?_
                    refine RG.vl rfl rfl rfl (Ev.assign rfl rfl) ?_
                    refine RG.done ?_
                    refine QW.sub (S' := [(1, _), (2, _), (4, _), (5, _), (6, _), (8, _), (9, _), (10, _), (11, _), (12, _), (23, _), (24, _)]) ⟨rfl, rfl, rfl, rfl, rfl, rfl, rfl, rfl, rfl, rfl, rfl, rfl, trivial⟩ ?_
                    refine QW.round2 (b + 1) (v) ⟨rfl, rfl, trivial⟩ ⟨rfl, rfl, rfl, rfl, rfl, rfl, rfl, rfl, rfl, rfl, trivial⟩ ⟨⟨by omega, by omega, by rw [mC_no (by assumption)]; exact (Own.ext hown hE54)⟩, hxwl47⟩ (by omega)
                · refine CW.exit ?_
                  refine QW.thenExit ?_
                  refine QW.thenExit ?_
                  refine QW.blockHit ?_
                  refine QW.blockN ?_
                  refine QW.then_ ?_
                  refine CW.region ?_
                  refine RG.vl rfl rfl rfl (Ev.move rfl rfl) ?_
                  refine RG.vl rfl rfl rfl (Ev.addI rfl rfl rfl (by omega)) ?_
                  refine RG.vl rfl rfl rfl (Ev.assign rfl rfl) ?_
                  refine RG.done ?_
                  refine QW.round2 (a + 1) (v) ⟨rfl, rfl, trivial⟩ ⟨rfl, rfl, rfl, rfl, rfl, rfl, rfl, rfl, rfl, trivial⟩ ⟨⟨by omega, by (obtain rfl : b = 10 := (by omega)); rw [← mC_end]; exact hown⟩, hxwl47⟩ (by omega)
              · refine CW.exit ?_
                refine QW.thenExit ?_
                refine QW.thenExit ?_
                refine QW.blockHit ?_
                refine QW.blockN ?_
                refine QW.then_ ?_
                refine CW.region ?_
                refine RG.vl rfl rfl rfl (Ev.move rfl rfl) ?_
                refine RG.vl rfl rfl rfl (Ev.addI rfl rfl rfl (by omega)) ?_
                refine RG.vl rfl rfl rfl (Ev.assign rfl rfl) ?_
                refine RG.done ?_
                refine QW.round2 (p + 1) (v) ⟨rfl, rfl, trivial⟩ ⟨rfl, rfl, rfl, rfl, rfl, rfl, rfl, rfl, trivial⟩ ⟨⟨by omega, by (obtain rfl : a = 10 := (by omega)); rw [← mB_end]; exact hown⟩, hxwl45⟩ (by omega)
            · refine CW.exit ?_
              refine QW.thenExit ?_
              refine QW.thenExit ?_
              refine QW.blockHit ?_
              refine QW.blockN ?_
              refine QW.then_ ?_
              refine CW.region ?_
              refine RG.vl rfl rfl rfl (Ev.addI rfl rfl rfl (by omega)) ?_
              refine RG.vl rfl rfl rfl (Ev.move rfl rfl) ?_
              refine RG.done ?_
              refine QW.round2 (1 + 1) (v) ⟨rfl, rfl, trivial⟩ ⟨rfl, rfl, rfl, rfl, rfl, trivial⟩ ⟨⟨by omega, by rw [← mA_end (p := p) (by rw [if_pos rfl]; omega)]; exact hown⟩, hxwl43⟩ (by omega)
        · refine CW.exit ?_
          refine QW.thenExit ?_
          refine QW.thenExit ?_
          refine QW.blockHit ?_
          refine QW.then_ ?_
          refine CW.seq ?_
          refine CW.region ?_
          refine RG.vl rfl rfl rfl (Ev.move rfl rfl) ?_
          refine RG.vl rfl rfl rfl (Ev.assign rfl rfl) ?_
          refine RG.vl rfl rfl rfl (Ev.assign rfl rfl) ?_
          refine RG.done ?_
          refine QW.then_ ?_
          refine CW.ret ?_
          refine QW.ret2 rfl rfl rfl ?_
          have hB := (Ex.tr hR9 hxwl11)
          obtain rfl : s = 2 := by omega
          rw [mO_end] at hown
          exact ⟨_, by unfold missR; rw [hr, if_neg (by decide), if_neg (by omega)], by unfold missR; rw [hr, if_neg (by decide), if_neg (by omega), Int.toNat_natCast]; exact hown.low (by have := hR9.size; omega), hB⟩

end Go.Proofs.YtnhkhpnkhkagaaaDoor
