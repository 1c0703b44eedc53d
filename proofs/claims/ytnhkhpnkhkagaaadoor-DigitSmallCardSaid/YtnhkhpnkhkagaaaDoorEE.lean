/- Walks (EE). Written by program. -/
import Derived.Test.YtnhkhpnkhkagaaaDoorT
import Derived.Test.YtnhkhpnkhkagaaaDoorED
namespace Go.Proofs.YtnhkhpnkhkagaaaDoor
open Go.RowKit
set_option maxRecDepth 100000 in
set_option maxHeartbeats 1000000 in
theorem rcomp_ret (w0 : World) (k : Nat) (wv vv : Value) (ws : List Int) (vs : List Nat) (w : World) (hx0 : Ex w0 w) (hws : RdL w0 1 encI wv ws) (hown : Own w w0.heap.size 3 1 encZ vv vs) (hr : rightD k ws = true) (hpos : 0 < vs.length) (hlen : vs.length ≤ 100) (htl : ∀ x ∈ vs.tail, x < 10) :
    Ret Tryd.prog 50 [.int .u8 (k : Int), wv, vv] w (fun v w' => v = vv ∧ Own w' w0.heap.size 3 1 encZ vv (vs.set 0 (checkD k ws vs)) ∧ w.grownBy w' vv.ownBlock) := by
  obtain ⟨wA, wC, rfl⟩ := hws.shape
  have hx0a := hx0
  obtain ⟨a0, rest, rfl, hre⟩ := tail_rest hpos htl
  have hB0 : Ex w w := Ex.rfl_ _
  refine Ret.of Tryd.func50 rfl Tryd.ntmps50 rfl ?_
  refine CW.seq ?_
  refine CW.region ?_
  refine RG.vl rfl rfl rfl (Ev.assign rfl rfl) ?_
  refine RG.done ?_
  refine QW.then_ ?_
  refine CW.seq ?_
  refine CW.seq ?_
  refine CW.region ?_
  refine RG.vl rfl rfl rfl (Ev.move rfl rfl) ?_
  refine RG.idxO (i := 0) rfl rfl rfl rfl rfl rfl Tryd.underlying22 sz_3 encZ_len (hown) (rfl) (fun g2 hg2 hBg2 hp1b hp1 => ?_)
  refine RG.stOw0 (g := g2) (0) rfl rfl rfl rfl rfl sz_3 rfl (fun _ => rfl) hown hg2 (rfl) rfl (rfl) (fun ws3 hwws3 hown4 => ?_)
  have hpreW := hB0
  replace hx0a := Wr.below hx0a hwws3 hBg2
  refine RG.done ?_
  refine QW.then_ ?_
  refine CW.block ?_
  refine CW.loop1 [(0, _), (1, _), (2, _)] ⟨rfl, rfl, rfl, trivial⟩ (fun (v : Nat) => []) (fun v w' => (v ≤ 11 ∧ (∀ u, u < v → ¬ ((u < 10 ∨ k = 2) ∧ passD k ws ((a0 :: rest).set 0 u) = true)) ∧ Own w' w0.heap.size 3 1 encZ vv ((a0 :: rest).set 0 v) ∧ w.grownBy w' vv.ownBlock) ∧ Ex w0 w') (fun v => 11 - v) (0) trivial ⟨⟨by omega, fun u h => by omega, hown4, grown_of hpreW hwws3 hg2⟩, hx0a⟩ ?_
  rintro v wl5 ⟨⟨hv, hno, hown, hgr⟩, hxwl5⟩
  refine CW.sub (S' := [(0, _), (1, _), (2, _)]) ⟨rfl, rfl, rfl, trivial⟩ ?_
  refine CW.seq ?_
  refine CW.seq ?_
  refine CW.region ?_
  refine RG.vl rfl rfl rfl (Ev.move rfl rfl) ?_
  refine RG.idxO (i := 0) rfl rfl rfl rfl rfl rfl Tryd.underlying22 sz_3 encZ_len (hown) (set0_at hpos) (fun g7 hg7 hBg7 hp6b hp6 => ?_)
  refine RG.vl rfl rfl rfl (Ev.ld0 rfl rfl Tryd.underlying3 rfl (hp6) (rfl)) ?_
  refine RG.vl rfl rfl rfl (Ev.lss rfl rfl rfl) ?_
  refine RG.done ?_
  refine QW.then_ ?_
  refine CW.condP rfl (fun hc8 => ?_) (fun hc8 => ?_)
  · refine CW.skip ?_
    refine QW.then_ ?_
    refine CW.seq ?_
    refine CW.block ?_
    refine CW.seq ?_
    refine CW.region ?_
    refine RG.vl rfl rfl rfl (Ev.move rfl rfl) ?_
    refine RG.idxO (i := 0) rfl rfl rfl rfl rfl rfl Tryd.underlying22 sz_3 encZ_len (hown) (set0_at hpos) (fun g10 hg10 hBg10 hp9b hp9 => ?_)
    refine RG.vl rfl rfl rfl (Ev.ld0 rfl rfl Tryd.underlying3 rfl (hp9) (rfl)) ?_
    refine RG.vl rfl rfl rfl (Ev.lss rfl rfl rfl) ?_
    refine RG.vl rfl rfl rfl (Ev.move rfl rfl) ?_
    refine RG.split (d := 22) rfl (fun hg11 => ?_) (fun hg11 => ?_)
    · refine RG.pass rfl rfl rfl ?_
      refine RG.pass rfl rfl rfl ?_
      refine RG.vl rfl rfl rfl (Ev.pickT rfl rfl rfl) ?_
      refine RG.vl rfl rfl rfl (Ev.move rfl rfl) ?_
      refine RG.vl rfl rfl rfl (Ev.move rfl rfl) ?_
      refine RG.vl rfl rfl rfl (Ev.move rfl rfl) ?_
      refine RG.vl rfl rfl rfl (Ev.move rfl rfl) ?_
      refine RG.call rfl rfl rfl rfl rfl rfl rfl en_51 (rpass_ret k _ _ ws ((a0 :: rest).set 0 v) _ (hws.ext hxwl5) (Own.rdl hown encZ_len) hr (by rw [List.length_set]; exact hlen) (set_most hre (by omega))) ?_
      rintro _ w12 ⟨rfl, hx12⟩
      replace hxwl5 := Ex.tr hxwl5 hx12
      have hE13 := hx12
      refine RG.vl rfl rfl rfl (Ev.pickT rfl rfl rfl) ?_
      refine RG.done ?_
      refine QW.sub (S' := [(0, _), (1, _), (2, _), (31, _)]) ⟨rfl, rfl, rfl, rfl, trivial⟩ ?_
      refine QW.then_ ?_
      refine CW.cond rfl (fun hc14 => ?_) (fun hc14 => ?_)
      · refine CW.seq ?_
        refine CW.region ?_
        refine RG.vl rfl rfl rfl (Ev.move rfl rfl) ?_
        refine RG.vl rfl rfl rfl (Ev.assign rfl rfl) ?_
        refine RG.done ?_
        refine QW.then_ ?_
        refine CW.ret ?_
        refine QW.blockR ?_
        refine QW.thenRet ?_
        refine QW.thenRet ?_
        refine QW.blockR ?_
        refine QW.thenRet ?_
        refine QW.ret1 rfl rfl ?_
        exact ⟨rfl, by rw [← comp_hit (v := v) hr hre (by omega) (by assumption)]; exact (Own.ext hown hE13), grown_ex hgr hE13⟩
      · refine CW.skip ?_
        refine QW.blockN ?_
        refine QW.then_ ?_
        refine CW.region ?_
        refine RG.vl rfl rfl rfl (Ev.move rfl rfl) ?_
        refine RG.idxO (i := 0) rfl rfl rfl rfl rfl rfl Tryd.underlying22 sz_3 encZ_len ((Own.ext hown hE13)) (set0_at hpos) (fun g16 hg16 hBg16 hp15b hp15 => ?_)
        refine RG.vl rfl rfl rfl (Ev.ld0 rfl rfl Tryd.underlying3 rfl (hp15) (rfl)) ?_
        refine RG.vl rfl rfl rfl (Ev.addI rfl rfl rfl (by omega)) ?_
        refine RG.idxO (i := 0) rfl rfl rfl rfl rfl rfl Tryd.underlying22 sz_3 encZ_len ((Own.ext hown hE13)) (set0_at hpos) (fun g18 hg18 hBg18 hp17b hp17 => ?_)
        refine RG.stOw0 (g := g18) (v + 1) rfl rfl rfl rfl rfl sz_3 rfl (fun _ => rfl) (Own.ext hown hE13) hg18 (set0_at hpos) rfl (rfl) (fun ws19 hwws19 hown20 => ?_)
        rw [List.set_set] at hown20
        have hpreL := hE13
        replace hxwl5 := Wr.below hxwl5 hwws19 hBg18
        refine RG.done ?_
        refine QW.round1 (v + 1) trivial ⟨rfl, rfl, rfl, trivial⟩ ⟨⟨by omega, no_upto hno (by rintro ⟨h1, h2⟩; first | omega | exact absurd h2 (by rw [show passD k ws _ = false by assumption]; decide)), hown20, grown_tr hgr (grown_of hpreL hwws19 hg18)⟩, hxwl5⟩ (by omega)
    · refine RG.vl rfl rfl rfl (Ev.move rfl rfl) ?_
      refine RG.vl rfl rfl rfl (Ev.eqI rfl rfl rfl) ?_
      refine RG.vl rfl rfl rfl (Ev.pickF rfl rfl rfl) ?_
      refine RG.vl rfl rfl rfl (Ev.move rfl rfl) ?_
      refine RG.split (d := 26) rfl (fun hg21 => ?_) (fun hg21 => ?_)
      · refine RG.vl rfl rfl rfl (Ev.move rfl rfl) ?_
        refine RG.vl rfl rfl rfl (Ev.move rfl rfl) ?_
        refine RG.vl rfl rfl rfl (Ev.move rfl rfl) ?_
        refine RG.call rfl rfl rfl rfl rfl rfl rfl en_51 (rpass_ret k _ _ ws ((a0 :: rest).set 0 v) _ (hws.ext hxwl5) (Own.rdl hown encZ_len) hr (by rw [List.length_set]; exact hlen) (set_most hre (by omega))) ?_
        rintro _ w22 ⟨rfl, hx22⟩
        replace hxwl5 := Ex.tr hxwl5 hx22
        have hE23 := hx22
        refine RG.vl rfl rfl rfl (Ev.pickT rfl rfl rfl) ?_
        refine RG.done ?_
        refine QW.sub (S' := [(0, _), (1, _), (2, _), (31, _)]) ⟨rfl, rfl, rfl, rfl, trivial⟩ ?_
        refine QW.then_ ?_
        refine CW.cond rfl (fun hc24 => ?_) (fun hc24 => ?_)
        · refine CW.seq ?_
          refine CW.region ?_
          refine RG.vl rfl rfl rfl (Ev.move rfl rfl) ?_
          refine RG.vl rfl rfl rfl (Ev.assign rfl rfl) ?_
          refine RG.done ?_
          refine QW.then_ ?_
          refine CW.ret ?_
          refine QW.blockR ?_
          refine QW.thenRet ?_
          refine QW.thenRet ?_
          refine QW.blockR ?_
          refine QW.thenRet ?_
          refine QW.ret1 rfl rfl ?_
          exact ⟨rfl, by rw [← comp_hit (v := v) hr hre (by omega) (by assumption)]; exact (Own.ext hown hE23), grown_ex hgr hE23⟩
        · refine CW.skip ?_
          refine QW.blockN ?_
          refine QW.then_ ?_
          refine CW.region ?_
          refine RG.vl rfl rfl rfl (Ev.move rfl rfl) ?_
          refine RG.idxO (i := 0) rfl rfl rfl rfl rfl rfl Tryd.underlying22 sz_3 encZ_len ((Own.ext hown hE23)) (set0_at hpos) (fun g26 hg26 hBg26 hp25b hp25 => ?_)
          refine RG.vl rfl rfl rfl (Ev.ld0 rfl rfl Tryd.underlying3 rfl (hp25) (rfl)) ?_
          refine RG.vl rfl rfl rfl (Ev.addI rfl rfl rfl (by omega)) ?_
          refine RG.idxO (i := 0) rfl rfl rfl rfl rfl rfl Tryd.underlying22 sz_3 encZ_len ((Own.ext hown hE23)) (set0_at hpos) (fun g28 hg28 hBg28 hp27b hp27 => ?_)
          refine RG.stOw0 (g := g28) (v + 1) rfl rfl rfl rfl rfl sz_3 rfl (fun _ => rfl) (Own.ext hown hE23) hg28 (set0_at hpos) rfl (rfl) (fun ws29 hwws29 hown30 => ?_)
          rw [List.set_set] at hown30
          have hpreL := hE23
          replace hxwl5 := Wr.below hxwl5 hwws29 hBg28
          refine RG.done ?_
          refine QW.round1 (v + 1) trivial ⟨rfl, rfl, rfl, trivial⟩ ⟨⟨by omega, no_upto hno (by rintro ⟨h1, h2⟩; first | omega | exact absurd h2 (by rw [show passD k ws _ = false by assumption]; decide)), hown30, grown_tr hgr (grown_of hpreL hwws29 hg28)⟩, hxwl5⟩ (by omega)
      · refine RG.pass rfl rfl rfl ?_
        refine RG.pass rfl rfl rfl ?_
        refine RG.pass rfl rfl rfl ?_
        refine RG.pass rfl rfl rfl ?_
        refine RG.vl rfl rfl rfl (Ev.pickF rfl rfl rfl) ?_
        refine RG.done ?_
        refine QW.sub (S' := [(0, _), (1, _), (2, _), (31, _)]) ⟨rfl, rfl, rfl, rfl, trivial⟩ ?_
        refine QW.then_ ?_
        refine CW.condF rfl ?_
        refine CW.skip ?_
        refine QW.blockN ?_
        refine QW.then_ ?_
        refine CW.region ?_
        refine RG.vl rfl rfl rfl (Ev.move rfl rfl) ?_
        refine RG.idxO (i := 0) rfl rfl rfl rfl rfl rfl Tryd.underlying22 sz_3 encZ_len (hown) (set0_at hpos) (fun g32 hg32 hBg32 hp31b hp31 => ?_)
        refine RG.vl rfl rfl rfl (Ev.ld0 rfl rfl Tryd.underlying3 rfl (hp31) (rfl)) ?_
        refine RG.vl rfl rfl rfl (Ev.addI rfl rfl rfl (by omega)) ?_
        refine RG.idxO (i := 0) rfl rfl rfl rfl rfl rfl Tryd.underlying22 sz_3 encZ_len (hown) (set0_at hpos) (fun g34 hg34 hBg34 hp33b hp33 => ?_)
        refine RG.stOw0 (g := g34) (v + 1) rfl rfl rfl rfl rfl sz_3 rfl (fun _ => rfl) hown hg34 (set0_at hpos) rfl (rfl) (fun ws35 hwws35 hown36 => ?_)
        rw [List.set_set] at hown36
        have hpreL := (Ex.rfl_ wl5)
        replace hxwl5 := Wr.below hxwl5 hwws35 hBg34
        refine RG.done ?_
        refine QW.round1 (v + 1) trivial ⟨rfl, rfl, rfl, trivial⟩ ⟨⟨by omega, no_upto hno (by rintro ⟨h1, h2⟩; first | omega | exact absurd h2 (by rw [show passD k ws _ = false by assumption]; decide)), hown36, grown_tr hgr (grown_of hpreL hwws35 hg34)⟩, hxwl5⟩ (by omega)
  · refine CW.exit ?_
    refine QW.thenExit ?_
    refine QW.thenExit ?_
    refine QW.blockHit ?_
    refine QW.then_ ?_
    refine CW.seq ?_
    refine CW.region ?_
    refine RG.vl rfl rfl rfl (Ev.move rfl rfl) ?_
    refine RG.vl rfl rfl rfl (Ev.assign rfl rfl) ?_
    refine RG.done ?_
    refine QW.then_ ?_
    refine CW.ret ?_
    refine QW.ret1 rfl rfl ?_
    exact (comp_no hr hre (fun v hv => hno v (by omega))).elim

set_option maxRecDepth 100000 in
set_option maxHeartbeats 1000000 in
theorem rmissed_ret (k : Nat) (wv : Value) (ws : List Int) (sw : Bool) (p a b n : Nat) (w : World) (hws : RdL w 1 encI wv ws) (hr : rightD k ws = true) (hp : 1 ≤ p) (hpn : p ≤ n) (hps : sw = true → p + 1 ≤ n) (hn : n ≤ 30) (ha : a < 10) (hb : b < 10) :
    Ret Tryd.prog 33 [.int .u8 (k : Int), wv, .int .i64 (n : Int), .agg #[.bool sw, .int .i64 (p : Int), .int .i64 (a : Int), .int .i64 (b : Int)]] w (fun v w' => v = .bool (missD k ws n (sw, p, a, b)) ∧ Ex w w') := by
  obtain ⟨wA, wC, rfl⟩ := hws.shape
  have hm9 := mostD_ge k
  have hB0 : Ex w w := Ex.rfl_ _
  refine Ret.of Tryd.func33 rfl Tryd.ntmps33 rfl ?_
  refine CW.seq ?_
  refine CW.region ?_
  refine RG.box rfl rfl rfl rfl rfl (fun g1 w1 eg1 hx1 hb1 => ?_)
  have hle2 : w.heap.size ≤ g1 := by have := (Ex.rfl_ w).size; omega
  have hE3 := hx1
  refine RG.vl rfl rfl rfl (Ev.assign rfl rfl) ?_
  refine RG.done ?_
  refine QW.then_ ?_
  refine CW.seq ?_
  cases sw
  · have hps1 := hpn
    refine CW.region ?_
    refine RG.vl rfl rfl rfl (Ev.move rfl rfl) ?_
    refine RG.vl rfl rfl rfl (Ev.addI rfl rfl rfl (by omega)) ?_
    replace hws := (hws.ext hE3)
    have hR7 := (Ex.tr hB0 hE3)
    refine RG.makeO (m := n + 1) (enc := encZ) 0 rfl rfl rfl rfl rfl rfl (by omega) Tryd.underlying22 inf_3 encZ_len rfl rfl (by omega) (by simp only [maxLen]; omega) (fun u wk4 hxwk4 hown5 hnew6 => ?_)
    have hsb8 := fun e => sep_blk hb1 (Nat.le_refl _) hown5 e
    have hE9 := hxwk4
    refine RG.vl rfl rfl rfl (Ev.assign rfl rfl) ?_
    refine RG.done ?_
    refine QW.then_ ?_
    refine CW.seq ?_
    refine CW.region ?_
    refine RG.vl rfl rfl rfl (Ev.move rfl rfl) ?_
    refine RG.vl rfl rfl rfl (Ev.fld rfl rfl fld_61_1) ?_
    refine RG.vl rfl rfl rfl (Ev.ldAt rfl rfl Tryd.underlying3 rfl ((hb1.ext hE9).cells) (rfl)) ?_
    refine RG.vl rfl rfl rfl (Ev.fld rfl rfl fld_61_2) ?_
    refine RG.vl rfl rfl rfl (Ev.ldAt rfl rfl Tryd.underlying3 rfl ((hb1.ext hE9).cells) (rfl)) ?_
    refine RG.idxO rfl rfl rfl rfl rfl rfl Tryd.underlying22 sz_3 encZ_len (hown5) (List.getElem?_eq_getElem (by (repeat rw [List.length_set]); rw [List.length_replicate]; omega)) (fun g11 hg11 hBg11 hp10b hp10 => ?_)
    refine RG.stOw0 (g := g11) (a) rfl rfl rfl rfl rfl sz_3 rfl (fun _ => rfl) hown5 hg11 (List.getElem?_eq_getElem (by (repeat rw [List.length_set]); rw [List.length_replicate]; omega)) rfl (rfl) (fun ws12 hwws12 hown13 => ?_)
    replace hE9 := Wr.below hE9 hwws12 hBg11
    refine RG.done ?_
    refine QW.then_ ?_
    refine CW.seq ?_
    refine CW.seq ?_
    refine CW.region ?_
    refine RG.vl rfl rfl rfl (Ev.fld rfl rfl fld_61_0) ?_
    refine RG.vl rfl rfl rfl (Ev.ldAt rfl rfl Tryd.underlying4 rfl ((hb1.ext hE9).cells) (rfl)) ?_
    refine RG.done ?_
    refine QW.sub (S' := [(0, _), (1, _), (7, _), (8, _), (9, _), (20, _)]) ⟨rfl, rfl, rfl, rfl, rfl, rfl, trivial⟩ ?_
    refine QW.then_ ?_
    refine CW.condF rfl ?_
    refine CW.skip ?_
    refine QW.then_ ?_
    refine CW.seq ?_
    refine CW.region ?_
    refine RG.vl rfl rfl rfl (Ev.move rfl rfl) ?_
    refine RG.vl rfl rfl rfl (Ev.move rfl rfl) ?_
    refine RG.vl rfl rfl rfl (Ev.move rfl rfl) ?_
    refine RG.call rfl rfl rfl rfl rfl rfl rfl en_50 (rcomp_ret w1 k _ _ ws _ _ hE9 hws hown13 hr (by (repeat rw [List.length_set]); rw [List.length_replicate]; omega) (by (repeat rw [List.length_set]); rw [List.length_replicate]; omega) (set_tail rep_tail (by omega))) ?_
    rintro _ w14 ⟨rfl, hown15, hgr16⟩
    replace hE9 := own_block hown13 hE9 hgr16 (Nat.le_refl _) hE9.size
    refine RG.vl rfl rfl rfl (Ev.assign rfl rfl) ?_
    refine RG.done ?_
    refine QW.then_ ?_
    refine CW.seq ?_
    refine CW.seq ?_
    refine CW.region ?_
    refine RG.vl rfl rfl rfl (Ev.fld rfl rfl fld_61_0) ?_
    refine RG.vl rfl rfl rfl (Ev.ldAt rfl rfl Tryd.underlying4 rfl ((hb1.ext hE9).cells) (rfl)) ?_
    refine RG.done ?_
    refine QW.then_ ?_
    refine CW.condF rfl ?_
    refine CW.region ?_
    refine RG.vl rfl rfl rfl (Ev.move rfl rfl) ?_
    refine RG.vl rfl rfl rfl (Ev.fld rfl rfl fld_61_1) ?_
    refine RG.vl rfl rfl rfl (Ev.ldAt rfl rfl Tryd.underlying3 rfl ((hb1.ext hE9).cells) (rfl)) ?_
    refine RG.vl rfl rfl rfl (Ev.fld rfl rfl fld_61_3) ?_
    refine RG.vl rfl rfl rfl (Ev.ldAt rfl rfl Tryd.underlying3 rfl ((hb1.ext hE9).cells) (rfl)) ?_
    refine RG.idxO rfl rfl rfl rfl rfl rfl Tryd.underlying22 sz_3 encZ_len (hown15) (List.getElem?_eq_getElem (by (repeat rw [List.length_set]); rw [List.length_replicate]; omega)) (fun g18 hg18 hBg18 hp17b hp17 => ?_)
    refine RG.stOw0 (g := g18) (b) rfl rfl rfl rfl rfl sz_3 rfl (fun _ => rfl) hown15 hg18 (List.getElem?_eq_getElem (by (repeat rw [List.length_set]); rw [List.length_replicate]; omega)) rfl (rfl) (fun ws19 hwws19 hown20 => ?_)
    replace hE9 := Wr.below hE9 hwws19 hBg18
    refine RG.done ?_
    refine QW.sub (S' := [(0, _), (1, _), (8, _), (9, _)]) ⟨rfl, rfl, rfl, rfl, trivial⟩ ?_
    refine QW.then_ ?_
    refine CW.seq ?_
    refine CW.region ?_
    refine RG.vl rfl rfl rfl (Ev.move rfl rfl) ?_
    refine RG.vl rfl rfl rfl (Ev.move rfl rfl) ?_
    refine RG.vl rfl rfl rfl (Ev.move rfl rfl) ?_
    refine RG.call rfl rfl rfl rfl rfl rfl rfl en_51 (rpass_ret k _ _ ws _ _ (hws.ext hE9) (Own.rdl hown20 encZ_len) hr (by (repeat rw [List.length_set]); rw [List.length_replicate]; omega) (all_set (all_set (all_set all_rep (by omega)) (checkD_le _ _ _)) (by omega))) ?_
    rintro _ w21 ⟨rfl, hx21⟩
    replace hE9 := Ex.tr hE9 hx21
    have hE22 := hx21
    refine RG.vl rfl rfl rfl (Ev.assign rfl rfl) ?_
    refine RG.done ?_
    refine QW.then_ ?_
    refine CW.ret ?_
    refine QW.ret1 rfl rfl ?_
    have hB := (Ex.tr hR7 hE9)
    exact ⟨rfl, hB⟩
  · have hps1 := hps rfl
    refine CW.region ?_
    refine RG.vl rfl rfl rfl (Ev.move rfl rfl) ?_
    refine RG.vl rfl rfl rfl (Ev.addI rfl rfl rfl (by omega)) ?_
    replace hws := (hws.ext hE3)
    have hR26 := (Ex.tr hB0 hE3)
    refine RG.makeO (m := n + 1) (enc := encZ) 0 rfl rfl rfl rfl rfl rfl (by omega) Tryd.underlying22 inf_3 encZ_len rfl rfl (by omega) (by simp only [maxLen]; omega) (fun u wk23 hxwk23 hown24 hnew25 => ?_)
    have hsb27 := fun e => sep_blk hb1 (Nat.le_refl _) hown24 e
    have hE28 := hxwk23
    refine RG.vl rfl rfl rfl (Ev.assign rfl rfl) ?_
    refine RG.done ?_
    refine QW.then_ ?_
    refine CW.seq ?_
    refine CW.region ?_
    refine RG.vl rfl rfl rfl (Ev.move rfl rfl) ?_
    refine RG.vl rfl rfl rfl (Ev.fld rfl rfl fld_61_1) ?_
    refine RG.vl rfl rfl rfl (Ev.ldAt rfl rfl Tryd.underlying3 rfl ((hb1.ext hE28).cells) (rfl)) ?_
    refine RG.vl rfl rfl rfl (Ev.fld rfl rfl fld_61_2) ?_
    refine RG.vl rfl rfl rfl (Ev.ldAt rfl rfl Tryd.underlying3 rfl ((hb1.ext hE28).cells) (rfl)) ?_
    refine RG.idxO rfl rfl rfl rfl rfl rfl Tryd.underlying22 sz_3 encZ_len (hown24) (List.getElem?_eq_getElem (by (repeat rw [List.length_set]); rw [List.length_replicate]; omega)) (fun g30 hg30 hBg30 hp29b hp29 => ?_)
    refine RG.stOw0 (g := g30) (a) rfl rfl rfl rfl rfl sz_3 rfl (fun _ => rfl) hown24 hg30 (List.getElem?_eq_getElem (by (repeat rw [List.length_set]); rw [List.length_replicate]; omega)) rfl (rfl) (fun ws31 hwws31 hown32 => ?_)
    replace hE28 := Wr.below hE28 hwws31 hBg30
    refine RG.done ?_
    refine QW.then_ ?_
    refine CW.seq ?_
    refine CW.seq ?_
    refine CW.region ?_
    refine RG.vl rfl rfl rfl (Ev.fld rfl rfl fld_61_0) ?_
    refine RG.vl rfl rfl rfl (Ev.ldAt rfl rfl Tryd.underlying4 rfl ((hb1.ext hE28).cells) (rfl)) ?_
    refine RG.done ?_
    refine QW.sub (S' := [(0, _), (1, _), (7, _), (8, _), (9, _), (20, _)]) ⟨rfl, rfl, rfl, rfl, rfl, rfl, trivial⟩ ?_
    refine QW.then_ ?_
    refine CW.condT rfl ?_
    refine CW.seq ?_
    refine CW.region ?_
    refine RG.vl rfl rfl rfl (Ev.move rfl rfl) ?_
    refine RG.vl rfl rfl rfl (Ev.fld rfl rfl fld_61_1) ?_
    refine RG.vl rfl rfl rfl (Ev.ldAt rfl rfl Tryd.underlying3 rfl ((hb1.ext hE28).cells) (rfl)) ?_
    refine RG.vl rfl rfl rfl ((Ev.addI rfl rfl rfl (by omega)).conv (congrArg (Value.int .i64) (show (p : Int) + 1 = ((p + 1 : Nat) : Int) by omega))) ?_
    refine RG.vl rfl rfl rfl (Ev.fld rfl rfl fld_61_2) ?_
    refine RG.vl rfl rfl rfl (Ev.ldAt rfl rfl Tryd.underlying3 rfl ((hb1.ext hE28).cells) (rfl)) ?_
    refine RG.idxO rfl rfl rfl rfl rfl rfl Tryd.underlying22 sz_3 encZ_len (hown32) (List.getElem?_eq_getElem (by (repeat rw [List.length_set]); rw [List.length_replicate]; omega)) (fun g34 hg34 hBg34 hp33b hp33 => ?_)
    refine RG.stOw0 (g := g34) (a) rfl rfl rfl rfl rfl sz_3 rfl (fun _ => rfl) hown32 hg34 (List.getElem?_eq_getElem (by (repeat rw [List.length_set]); rw [List.length_replicate]; omega)) rfl (rfl) (fun ws35 hwws35 hown36 => ?_)
    replace hE28 := Wr.below hE28 hwws35 hBg34
    refine RG.done ?_
    refine QW.then_ ?_
    refine CW.region ?_
    refine RG.vl rfl rfl rfl (Ev.move rfl rfl) ?_
    refine RG.vl rfl rfl rfl (Ev.fld rfl rfl fld_61_1) ?_
    refine RG.vl rfl rfl rfl (Ev.ldAt rfl rfl Tryd.underlying3 rfl ((hb1.ext hE28).cells) (rfl)) ?_
    refine RG.vl rfl rfl rfl (Ev.fld rfl rfl fld_61_3) ?_
    refine RG.vl rfl rfl rfl (Ev.ldAt rfl rfl Tryd.underlying3 rfl ((hb1.ext hE28).cells) (rfl)) ?_
    refine RG.idxO rfl rfl rfl rfl rfl rfl Tryd.underlying22 sz_3 encZ_len (hown36) (List.getElem?_eq_getElem (by (repeat rw [List.length_set]); rw [List.length_replicate]; omega)) (fun g38 hg38 hBg38 hp37b hp37 => ?_)
    refine RG.stOw0 (g := g38) (b) rfl rfl rfl rfl rfl sz_3 rfl (fun _ => rfl) hown36 hg38 (List.getElem?_eq_getElem (by (repeat rw [List.length_set]); rw [List.length_replicate]; omega)) rfl (rfl) (fun ws39 hwws39 hown40 => ?_)
    rw [set_ii] at hown40
    replace hE28 := Wr.below hE28 hwws39 hBg38
    refine RG.done ?_
    refine QW.then_ ?_
    refine CW.seq ?_
    refine CW.region ?_
    refine RG.vl rfl rfl rfl (Ev.move rfl rfl) ?_
    refine RG.vl rfl rfl rfl (Ev.move rfl rfl) ?_
    refine RG.vl rfl rfl rfl (Ev.move rfl rfl) ?_
    refine RG.call rfl rfl rfl rfl rfl rfl rfl en_50 (rcomp_ret w1 k _ _ ws _ _ hE28 hws hown40 hr (by (repeat rw [List.length_set]); rw [List.length_replicate]; omega) (by (repeat rw [List.length_set]); rw [List.length_replicate]; omega) (set_tail (set_tail rep_tail (by omega)) (by omega))) ?_
    rintro _ w41 ⟨rfl, hown42, hgr43⟩
    replace hE28 := own_block hown40 hE28 hgr43 (Nat.le_refl _) hE28.size
    refine RG.vl rfl rfl rfl (Ev.assign rfl rfl) ?_
    refine RG.done ?_
    refine QW.sub (S' := [(0, _), (1, _), (7, _), (8, _), (9, _)]) ⟨rfl, rfl, rfl, rfl, rfl, trivial⟩ ?_
    refine QW.then_ ?_
    refine CW.seq ?_
    refine CW.seq ?_
    refine CW.region ?_
    refine RG.vl rfl rfl rfl (Ev.fld rfl rfl fld_61_0) ?_
    refine RG.vl rfl rfl rfl (Ev.ldAt rfl rfl Tryd.underlying4 rfl ((hb1.ext hE28).cells) (rfl)) ?_
    refine RG.done ?_
    refine QW.then_ ?_
    refine CW.condT rfl ?_
    refine CW.seq ?_
    refine CW.region ?_
    refine RG.vl rfl rfl rfl (Ev.move rfl rfl) ?_
    refine RG.vl rfl rfl rfl (Ev.fld rfl rfl fld_61_1) ?_
    refine RG.vl rfl rfl rfl (Ev.ldAt rfl rfl Tryd.underlying3 rfl ((hb1.ext hE28).cells) (rfl)) ?_
    refine RG.vl rfl rfl rfl ((Ev.addI rfl rfl rfl (by omega)).conv (congrArg (Value.int .i64) (show (p : Int) + 1 = ((p + 1 : Nat) : Int) by omega))) ?_
    refine RG.vl rfl rfl rfl (Ev.fld rfl rfl fld_61_3) ?_
    refine RG.vl rfl rfl rfl (Ev.ldAt rfl rfl Tryd.underlying3 rfl ((hb1.ext hE28).cells) (rfl)) ?_
    refine RG.idxO rfl rfl rfl rfl rfl rfl Tryd.underlying22 sz_3 encZ_len (hown42) (List.getElem?_eq_getElem (by (repeat rw [List.length_set]); rw [List.length_replicate]; omega)) (fun g45 hg45 hBg45 hp44b hp44 => ?_)
    refine RG.stOw0 (g := g45) (b) rfl rfl rfl rfl rfl sz_3 rfl (fun _ => rfl) hown42 hg45 (List.getElem?_eq_getElem (by (repeat rw [List.length_set]); rw [List.length_replicate]; omega)) rfl (rfl) (fun ws46 hwws46 hown47 => ?_)
    replace hE28 := Wr.below hE28 hwws46 hBg45
    refine RG.done ?_
    refine QW.then_ ?_
    refine CW.region ?_
    refine RG.vl rfl rfl rfl (Ev.move rfl rfl) ?_
    refine RG.vl rfl rfl rfl (Ev.fld rfl rfl fld_61_1) ?_
    refine RG.vl rfl rfl rfl (Ev.ldAt rfl rfl Tryd.underlying3 rfl ((hb1.ext hE28).cells) (rfl)) ?_
    refine RG.vl rfl rfl rfl (Ev.fld rfl rfl fld_61_2) ?_
    refine RG.vl rfl rfl rfl (Ev.ldAt rfl rfl Tryd.underlying3 rfl ((hb1.ext hE28).cells) (rfl)) ?_
    refine RG.idxO rfl rfl rfl rfl rfl rfl Tryd.underlying22 sz_3 encZ_len (hown47) (List.getElem?_eq_getElem (by (repeat rw [List.length_set]); rw [List.length_replicate]; omega)) (fun g49 hg49 hBg49 hp48b hp48 => ?_)
    refine RG.stOw0 (g := g49) (a) rfl rfl rfl rfl rfl sz_3 rfl (fun _ => rfl) hown47 hg49 (List.getElem?_eq_getElem (by (repeat rw [List.length_set]); rw [List.length_replicate]; omega)) rfl (rfl) (fun ws50 hwws50 hown51 => ?_)
    replace hE28 := Wr.below hE28 hwws50 hBg49
    refine RG.done ?_
    refine QW.sub (S' := [(0, _), (1, _), (8, _), (9, _)]) ⟨rfl, rfl, rfl, rfl, trivial⟩ ?_
    refine QW.then_ ?_
    refine CW.seq ?_
    refine CW.region ?_
    refine RG.vl rfl rfl rfl (Ev.move rfl rfl) ?_
    refine RG.vl rfl rfl rfl (Ev.move rfl rfl) ?_
    refine RG.vl rfl rfl rfl (Ev.move rfl rfl) ?_
    refine RG.call rfl rfl rfl rfl rfl rfl rfl en_51 (rpass_ret k _ _ ws _ _ (hws.ext hE28) (Own.rdl hown51 encZ_len) hr (by (repeat rw [List.length_set]); rw [List.length_replicate]; omega) (all_set (all_set (all_set (all_set (all_set all_rep (by omega)) (by omega)) (checkD_le _ _ _)) (by omega)) (by omega))) ?_
    rintro _ w52 ⟨rfl, hx52⟩
    replace hE28 := Ex.tr hE28 hx52
    have hE53 := hx52
    refine RG.vl rfl rfl rfl (Ev.assign rfl rfl) ?_
    refine RG.done ?_
    refine QW.then_ ?_
    refine CW.ret ?_
    refine QW.ret1 rfl rfl ?_
    have hB := (Ex.tr hR26 hE28)
    exact ⟨rfl, hB⟩

end Go.Proofs.YtnhkhpnkhkagaaaDoor
