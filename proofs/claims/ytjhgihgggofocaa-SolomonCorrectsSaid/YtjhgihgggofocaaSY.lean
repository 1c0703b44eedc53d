/- Walks (SY). Written by program. -/
import Derived.Test.YtjhgihgggofocaaT
import Derived.Test.YtjhgihgggofocaaSW
namespace Go.Proofs.Ytjhgihgggofocaa
open Go.RowKit
set_option maxRecDepth 100000 in
set_option maxHeartbeats 4000000 in
theorem within_ret (u v0 : Value) (g er c es : List Nat) (A C : Option Addr) (B D : Nat) (w : World) (hg : RdL w 1 encN u g) (he : RdL w 1 encZ v0 er) (hc : RdL w 1 encN (.slice A c.length B) c) (hes : RdL w 1 encZ (.slice C es.length D) es) (hv : vldB c = true) (hlen : c.length = g.length) (her : ∀ a ∈ er, a < g.length) (ht : es = diffs g c er) (hb : 2 * es.length + er.length ≤ 4) :
    Ret Try.prog 30 [u, v0, .agg ([.slice A c.length B, .slice C es.length D] : List Value).toArray] w (fun v w' => v = .bool true ∧ Ex w w') := by
  have h63 := (isW_iff.1 (vldB_iff.1 hv).1).2.1
  obtain ⟨gA, gC, rfl⟩ := hg.shape
  obtain ⟨eA, eC, rfl⟩ := he.shape
  have hB0 : Ex w w := Ex.rfl_ _
  refine Ret.of Try.func30 rfl Try.ntmps30 rfl ?_
  refine CW.seq ?_
  refine CW.region ?_
  refine RG.box rfl rfl rfl rfl rfl (fun gF w1 egF hx1 hb1 => ?_)
  have hle2 : w.heap.size ≤ gF := by have := (Ex.rfl_ w).size; omega
  have hE3 := hx1
  refine RG.vl rfl rfl rfl (Ev.assign rfl rfl) ?_
  refine RG.done ?_
  refine QW.then_ ?_
  refine CW.seq ?_
  refine CW.seq ?_
  refine CW.region ?_
  refine RG.vl rfl rfl rfl (Ev.fld rfl rfl fld_28_0) ?_
  refine RG.vl rfl rfl rfl (Ev.ldAt rfl rfl Try.underlying22 rfl (hb1.cells) (rfl)) ?_
  refine RG.call rfl rfl rfl rfl rfl rfl rfl en_25 (valid_is _ _ c ((hc.ext hE3)) hv) ?_
  rintro _ w4 ⟨rfl, hx4⟩
  replace hE3 := Ex.tr hE3 hx4
  have hE5 := hx4
  refine RG.vl rfl rfl rfl (Ev.notF rfl rfl) ?_
  refine RG.vl rfl rfl rfl (Ev.move rfl rfl) ?_
  refine RG.vl rfl rfl rfl (Ev.fld rfl rfl fld_28_0) ?_
  refine RG.vl rfl rfl rfl (Ev.ldAt rfl rfl Try.underlying22 rfl ((hb1.ext hE5).cells) (rfl)) ?_
  refine RG.vl rfl rfl rfl (Ev.lenL rfl rfl rfl Try.underlying22 ((hc.ext hE3))) ?_
  refine RG.vl rfl rfl rfl (Ev.move rfl rfl) ?_
  refine RG.vl rfl rfl rfl (Ev.lenL rfl rfl rfl Try.underlying22 ((hg.ext hE3))) ?_
  refine RG.vl rfl rfl rfl (Ev.isF (Ev.neI rfl rfl rfl) (fun h => h (by omega))) ?_
  refine RG.vl rfl rfl rfl (Ev.pickF rfl rfl rfl) ?_
  refine RG.vl rfl rfl rfl (Ev.move rfl rfl) ?_
  refine RG.vl rfl rfl rfl (Ev.fld rfl rfl fld_28_1) ?_
  refine RG.vl rfl rfl rfl (Ev.ldAt rfl rfl Try.underlying23 rfl ((hb1.ext hE5).cells) (rfl)) ?_
  refine RG.vl rfl rfl rfl (Ev.lenL rfl rfl rfl Try.underlying23 ((hes.ext hE3))) ?_
  refine RG.vl rfl rfl rfl (Ev.mulI rfl rfl rfl (by omega)) ?_
  refine RG.vl rfl rfl rfl (Ev.move rfl rfl) ?_
  refine RG.vl rfl rfl rfl (Ev.lenL rfl rfl rfl Try.underlying23 ((he.ext hE3))) ?_
  refine RG.vl rfl rfl rfl (Ev.addI rfl rfl rfl (by omega)) ?_
  refine RG.vl rfl rfl rfl (Ev.isF (Ev.gtr rfl rfl rfl) (by omega)) ?_
  refine RG.vl rfl rfl rfl (Ev.pickF rfl rfl rfl) ?_
  refine RG.done ?_
  refine QW.sub (S' := [(0, _), (1, _), (5, _), (6, _), (33, _)]) ⟨rfl, rfl, rfl, rfl, rfl, trivial⟩ ?_
  refine QW.then_ ?_
  refine CW.condF rfl ?_
  refine CW.skip ?_
  refine QW.then_ ?_
  refine CW.seq ?_
  refine CW.region ?_
  refine RG.vl rfl rfl rfl (Ev.move rfl rfl) ?_
  refine RG.vl rfl rfl rfl (Ev.lenL rfl rfl rfl Try.underlying22 ((hg.ext hE3))) ?_
  replace hg := (hg.ext hE3)
  replace he := (he.ext hE3)
  replace hc := (hc.ext hE3)
  replace hes := (hes.ext hE3)
  replace hb1 := (hb1.ext hE5)
  have hR9 := (Ex.tr hB0 hE3)
  have hR10 := hE5
  refine RG.makeO (m := g.length) (enc := encT) false rfl rfl rfl rfl rfl rfl (rfl) Try.underlying49 inf_4 encT_len rfl rfl (by omega) (by simp only [maxLen]; omega) (fun vb wk6 hxwk6 hown7 hnew8 => ?_)
  have hE11 := hxwk6
  refine RG.vl rfl rfl rfl (Ev.assign rfl rfl) ?_
  refine RG.done ?_
  refine QW.then_ ?_
  refine CW.seq ?_
  refine CW.seq ?_
  refine CW.region ?_
  refine RG.vl rfl rfl rfl (Ev.move rfl rfl) ?_
  refine RG.vl rfl rfl rfl (Ev.lenL rfl rfl rfl Try.underlying23 ((he.ext hE11))) ?_
  refine RG.vl rfl rfl rfl (Ev.move rfl rfl) ?_
  refine RG.done ?_
  refine QW.then_ ?_
  refine CW.block ?_
  refine CW.loop1 [(0, _), (5, _), (6, _), (7, _), (37, _), (38, _)] ⟨rfl, rfl, rfl, rfl, rfl, rfl, trivial⟩ (fun (i : Nat) => [(39, .int .i64 (i : Int))]) (fun i w' => (i ≤ er.length ∧ Own w' w4.heap.size 4 1 encT vb (inB g.length (er.take i))) ∧ Ex w4 w') (fun i => er.length - i) (0) ⟨rfl, trivial⟩ ⟨⟨Nat.zero_le _, by rw [List.take_zero, ← inB_nil]; exact hown7⟩, hE11⟩ ?_
  rintro i wl12 ⟨⟨hi, hob⟩, hxwl12⟩
  refine CW.sub (S' := [(39, _), (0, _), (5, _), (6, _), (7, _), (37, _), (38, _)]) ⟨rfl, rfl, rfl, rfl, rfl, rfl, rfl, trivial⟩ ?_
  refine CW.seq ?_
  refine CW.region ?_
  refine RG.vl rfl rfl rfl (Ev.lss rfl rfl rfl) ?_
  refine RG.done ?_
  refine QW.then_ ?_
  refine CW.seq ?_
  refine CW.condP rfl (fun hc13 => ?_) (fun hc13 => ?_)
  · refine CW.skip ?_
    refine QW.then_ ?_
    refine CW.seq ?_
    refine CW.block ?_
    refine CW.seq ?_
    obtain ⟨a, hx⟩ : ∃ a, er[i]? = some a := ⟨_, List.getElem?_eq_getElem (by omega)⟩
    have hag := her a (List.mem_of_getElem? hx)
    have hmo : er.take (i + 1) = er.take i ++ [a] := by rw [List.take_add_one, hx]; rfl
    refine CW.region ?_
    refine RG.idxL rfl rfl rfl rfl rfl rfl Try.underlying23 sz_3 ((he.ext hxwl12)) (hx) (fun p14 hp14b hp14 => ?_)
    refine RG.vl rfl rfl rfl (Ev.ld0 rfl rfl Try.underlying3 rfl (hp14) (rfl)) ?_
    refine RG.vl rfl rfl rfl (Ev.assign rfl rfl) ?_
    refine RG.done ?_
    refine QW.then_ ?_
    refine CW.region ?_
    refine RG.vl rfl rfl rfl (Ev.move rfl rfl) ?_
    refine RG.vl rfl rfl rfl (Ev.move rfl rfl) ?_
    refine RG.idxO rfl rfl rfl rfl rfl rfl Try.underlying49 sz_4 encT_len (hob) (inB_at _ hag) (fun g16 hg16 hBg16 hp15b hp15 => ?_)
    refine RG.stOw0 (g := g16) (true) rfl rfl rfl rfl rfl sz_4 rfl (fun _ => rfl) hob hg16 (inB_at _ hag) rfl (rfl) (fun ws17 hwws17 hown18 => ?_)
    replace hxwl12 := Wr.below hxwl12 hwws17 hBg16
    refine RG.done ?_
    refine QW.blockN ?_
    refine QW.then_ ?_
    refine CW.region ?_
    refine RG.vl rfl rfl rfl (Ev.addI rfl rfl rfl (by omega)) ?_
    refine RG.vl rfl rfl rfl (Ev.move rfl rfl) ?_
    refine RG.done ?_
    refine QW.round1 (i + 1) ⟨rfl, trivial⟩ ⟨rfl, rfl, rfl, rfl, rfl, rfl, trivial⟩ ⟨⟨by omega, by rw [hmo, ← inB_set]; exact hown18⟩, hxwl12⟩ (by omega)
  · refine CW.exit ?_
    refine QW.thenExit ?_
    refine QW.thenExit ?_
    refine QW.blockHit ?_
    refine QW.then_ ?_
    refine CW.seq ?_
    refine CW.region ?_
    refine RG.vl rfl rfl rfl (Ev.assign rfl rfl) ?_
    refine RG.done ?_
    refine QW.then_ ?_
    refine CW.seq ?_
    refine CW.seq ?_
    obtain rfl : i = er.length := by omega
    rw [List.take_length] at hob
    refine CW.region ?_
    refine RG.vl rfl rfl rfl (Ev.move rfl rfl) ?_
    refine RG.vl rfl rfl rfl (Ev.lenL rfl rfl rfl Try.underlying22 ((hg.ext hxwl12))) ?_
    refine RG.vl rfl rfl rfl (Ev.move rfl rfl) ?_
    refine RG.done ?_
    refine QW.then_ ?_
    refine CW.block ?_
    replace hg := (hg.ext hxwl12)
    replace he := (he.ext hxwl12)
    replace hc := (hc.ext hxwl12)
    replace hes := (hes.ext hxwl12)
    replace hb1 := (hb1.ext hxwl12)
    have hR19 := (Ex.tr hR9 hxwl12)
    have hR20 := (Ex.tr hR10 hxwl12)
    have hR21 := hxwl12
    refine CW.loop2 [(0, _), (5, _), (7, _), (48, _)] ⟨rfl, rfl, rfl, rfl, trivial⟩ (fun (i : Nat) (q : Nat) => [(49, .int .i64 (i : Int)), (10, .int .i64 (q : Int))]) (fun i q w' => (i ≤ g.length ∧ q = ((List.range i).filter (dif g c er)).length) ∧ Ex wl12 w') (fun i q => g.length - i) (0) (0) ⟨rfl, rfl, trivial⟩ ⟨⟨Nat.zero_le _, rfl⟩, (Ex.rfl_ _)⟩ ?_
    rintro i q wl22 ⟨⟨hi, hq⟩, hxwl22⟩
    refine CW.sub (S' := [(49, _), (10, _), (0, _), (5, _), (7, _), (48, _)]) ⟨rfl, rfl, rfl, rfl, rfl, rfl, trivial⟩ ?_
    refine CW.seq ?_
    refine CW.region ?_
    refine RG.vl rfl rfl rfl (Ev.lss rfl rfl rfl) ?_
    refine RG.done ?_
    refine QW.then_ ?_
    refine CW.seq ?_
    refine CW.condP rfl (fun hc23 => ?_) (fun hc23 => ?_)
    · refine CW.skip ?_
      refine QW.then_ ?_
      refine CW.seq ?_
      refine CW.block ?_
      refine CW.seq ?_
      have hxg : g[i]? = some (cf g i) := getElem?_cf (by omega)
      have hxc : c[i]? = some (cf c i) := getElem?_cf (by omega)
      have hmo := told_len (dif g c er) i
      have hdi : dif g c er i = decide (i ∉ er ∧ cf c i ≠ cf g i) := rfl
      refine CW.region ?_
      refine RG.vl rfl rfl rfl (Ev.move rfl rfl) ?_
      refine RG.vl rfl rfl rfl (Ev.assign rfl rfl) ?_
      refine RG.done ?_
      refine QW.then_ ?_
      refine CW.seq ?_
      refine CW.seq ?_
      refine CW.draw [] (.ex) 16 rfl mixed (fun wd24 hxwd24 => ?_)
      replace hxwl22 := Ex.tr hxwl22 hxwd24
      have hE25 := hxwd24
      refine AG.takeW 0 rfl (by kernel_rfl) (by kernel_rfl) rfl rfl rfl (fun _ => Ev.move rfl rfl) ?_
      refine AG.takeW 1 rfl (by kernel_rfl) (by kernel_rfl) rfl rfl rfl (fun _ => Ev.move rfl rfl) ?_
      refine AG.idxO _ 2 rfl (by kernel_rfl) (by kernel_rfl) rfl rfl rfl rfl rfl rfl Try.underlying49 sz_4 encT_len ((Own.ext hob hxwl22)) (inB_at er (by omega)) (fun g27 hg27 hBg27 hp26b hp26 => ?_)
      refine AG.take 3 rfl (by kernel_rfl) (by kernel_rfl) rfl rfl rfl (fun wq hq => Ev.ld0 rfl rfl Try.underlying4 rfl (hp26.ext hq hp26b) (rfl)) ?_
      refine AG.takeW 4 rfl (by kernel_rfl) (by kernel_rfl) rfl rfl rfl (fun _ => Ev.move rfl rfl) ?_
      refine AG.split (d := 56) rfl (fun hg28 => ?_) (fun hg28 => ?_)
      · refine AG.pass 5 rfl (by kernel_rfl) (by kernel_rfl) rfl rfl rfl ?_
        refine AG.pass 6 rfl (by kernel_rfl) (by kernel_rfl) rfl rfl rfl ?_
        refine AG.pass 7 rfl (by kernel_rfl) (by kernel_rfl) rfl rfl rfl ?_
        refine AG.pass 8 rfl (by kernel_rfl) (by kernel_rfl) rfl rfl rfl ?_
        refine AG.pass 9 rfl (by kernel_rfl) (by kernel_rfl) rfl rfl rfl ?_
        refine AG.pass 10 rfl (by kernel_rfl) (by kernel_rfl) rfl rfl rfl ?_
        refine AG.pass 11 rfl (by kernel_rfl) (by kernel_rfl) rfl rfl rfl ?_
        refine AG.pass 12 rfl (by kernel_rfl) (by kernel_rfl) rfl rfl rfl ?_
        refine AG.pass 13 rfl (by kernel_rfl) (by kernel_rfl) rfl rfl rfl ?_
        refine AG.pass 14 rfl (by kernel_rfl) (by kernel_rfl) rfl rfl rfl ?_
        refine AG.takeW 15 rfl (by kernel_rfl) (by kernel_rfl) rfl rfl rfl (fun _ => Ev.pickT rfl rfl rfl) ?_
        refine AG.done (by kernel_rfl) ?_
        refine QW.sub (S' := [(0, _), (5, _), (7, _), (10, _), (11, _), (48, _), (49, _), (67, _)]) ⟨rfl, rfl, rfl, rfl, rfl, rfl, rfl, rfl, trivial⟩ ?_
        refine QW.then_ ?_
        refine CW.condT rfl ?_
        refine CW.exit ?_
        refine QW.thenExit ?_
        refine QW.blockHit ?_
        refine QW.then_ ?_
        have hno : dif g c er i = false := by rw [hdi]; exact decide_eq_false (fun h => by first | exact absurd (by assumption) h.1 | exact h.2 (by omega))
        rw [hno, if_neg (by decide)] at hmo
        refine CW.region ?_
        refine RG.vl rfl rfl rfl (Ev.addI rfl rfl rfl (by omega)) ?_
        refine RG.vl rfl rfl rfl (Ev.move rfl rfl) ?_
        refine RG.done ?_
        refine QW.round2 (i + 1) (q) ⟨rfl, rfl, trivial⟩ ⟨rfl, rfl, rfl, rfl, trivial⟩ ⟨⟨by omega, by omega⟩, hxwl22⟩ (by omega)
      · refine AG.takeW 5 rfl (by kernel_rfl) (by kernel_rfl) rfl rfl rfl (fun _ => Ev.move rfl rfl) ?_
        refine AG.takeW 6 rfl (by kernel_rfl) (by kernel_rfl) rfl rfl rfl (fun _ => Ev.move rfl rfl) ?_
        refine AG.idxL _ 7 rfl (by kernel_rfl) (by kernel_rfl) rfl rfl rfl rfl rfl rfl Try.underlying22 sz_5 ((hg.ext hxwl22)) (hxg) (fun p29 hp29b hp29 => ?_)
        refine AG.take 8 rfl (by kernel_rfl) (by kernel_rfl) rfl rfl rfl (fun wq hq => Ev.ld0 rfl rfl Try.underlying5 rfl (hp29.ext hq hp29b) (rfl)) ?_
        refine AG.takeW 9 rfl (by kernel_rfl) (by kernel_rfl) rfl rfl rfl (fun _ => Ev.fld rfl rfl fld_28_0) ?_
        refine AG.take 10 rfl (by kernel_rfl) (by kernel_rfl) rfl rfl rfl (fun wq hq => Ev.ldAt rfl rfl Try.underlying22 rfl (((hb1.ext hxwl22).ext hq).cells) (rfl)) ?_
        refine AG.takeW 11 rfl (by kernel_rfl) (by kernel_rfl) rfl rfl rfl (fun _ => Ev.move rfl rfl) ?_
        refine AG.idxL _ 12 rfl (by kernel_rfl) (by kernel_rfl) rfl rfl rfl rfl rfl rfl Try.underlying22 sz_5 ((hc.ext hxwl22)) (hxc) (fun p30 hp30b hp30 => ?_)
        refine AG.take 13 rfl (by kernel_rfl) (by kernel_rfl) rfl rfl rfl (fun wq hq => Ev.ld0 rfl rfl Try.underlying5 rfl (hp30.ext hq hp30b) (rfl)) ?_
        refine AG.takeW 14 rfl (by kernel_rfl) (by kernel_rfl) rfl rfl rfl (fun _ => Ev.eqI rfl rfl rfl) ?_
        refine AG.takeW 15 rfl (by kernel_rfl) (by kernel_rfl) rfl rfl rfl (fun _ => Ev.pickF rfl rfl rfl) ?_
        refine AG.done (by kernel_rfl) ?_
        refine QW.sub (S' := [(0, _), (5, _), (7, _), (10, _), (11, _), (48, _), (49, _), (67, _)]) ⟨rfl, rfl, rfl, rfl, rfl, rfl, rfl, rfl, trivial⟩ ?_
        refine QW.then_ ?_
        refine CW.condP rfl (fun hc31 => ?_) (fun hc31 => ?_)
        · refine CW.exit ?_
          refine QW.thenExit ?_
          refine QW.blockHit ?_
          refine QW.then_ ?_
          have hno : dif g c er i = false := by rw [hdi]; exact decide_eq_false (fun h => by first | exact absurd (by assumption) h.1 | exact h.2 (by omega))
          rw [hno, if_neg (by decide)] at hmo
          refine CW.region ?_
          refine RG.vl rfl rfl rfl (Ev.addI rfl rfl rfl (by omega)) ?_
          refine RG.vl rfl rfl rfl (Ev.move rfl rfl) ?_
          refine RG.done ?_
          refine QW.round2 (i + 1) (q) ⟨rfl, rfl, trivial⟩ ⟨rfl, rfl, rfl, rfl, trivial⟩ ⟨⟨by omega, by omega⟩, hxwl22⟩ (by omega)
        · refine CW.skip ?_
          refine QW.then_ ?_
          refine CW.seq ?_
          refine CW.seq ?_
          have hyes : dif g c er i = true := by rw [hdi]; exact decide_eq_true ⟨by assumption, fun e => by omega⟩
          have hta := told_at (dif g c er) (show i < g.length by omega) hyes
          rw [← diffs_dif, ← ht, ← hq] at hta
          have htl := (List.getElem?_eq_some_iff.1 hta).1
          rw [if_pos hyes] at hmo
          refine CW.region ?_
          refine RG.vl rfl rfl rfl (Ev.move rfl rfl) ?_
          refine RG.vl rfl rfl rfl (Ev.fld rfl rfl fld_28_1) ?_
          refine RG.vl rfl rfl rfl (Ev.ldAt rfl rfl Try.underlying23 rfl ((hb1.ext hxwl22).cells) (rfl)) ?_
          refine RG.vl rfl rfl rfl (Ev.lenL rfl rfl rfl Try.underlying23 ((hes.ext hxwl22))) ?_
          refine RG.vl rfl rfl rfl (Ev.isF (Ev.geq rfl rfl rfl) (by omega)) ?_
          refine RG.vl rfl rfl rfl (Ev.move rfl rfl) ?_
          refine RG.vl rfl rfl rfl (Ev.fld rfl rfl fld_28_1) ?_
          refine RG.vl rfl rfl rfl (Ev.ldAt rfl rfl Try.underlying23 rfl ((hb1.ext hxwl22).cells) (rfl)) ?_
          refine RG.vl rfl rfl rfl (Ev.move rfl rfl) ?_
          refine RG.idxL rfl rfl rfl rfl rfl rfl Try.underlying23 sz_3 ((hes.ext hxwl22)) (hta) (fun p32 hp32b hp32 => ?_)
          refine RG.vl rfl rfl rfl (Ev.ld0 rfl rfl Try.underlying3 rfl (hp32) (rfl)) ?_
          refine RG.vl rfl rfl rfl (Ev.move rfl rfl) ?_
          refine RG.vl rfl rfl rfl (Ev.isF (Ev.neI rfl rfl rfl) (fun h => h rfl)) ?_
          refine RG.vl rfl rfl rfl (Ev.pickF rfl rfl rfl) ?_
          refine RG.done ?_
          refine QW.sub (S' := [(0, _), (5, _), (7, _), (10, _), (48, _), (49, _), (81, _)]) ⟨rfl, rfl, rfl, rfl, rfl, rfl, rfl, trivial⟩ ?_
          refine QW.then_ ?_
          refine CW.condF rfl ?_
          refine CW.skip ?_
          refine QW.then_ ?_
          refine CW.region ?_
          refine RG.vl rfl rfl rfl (Ev.move rfl rfl) ?_
          refine RG.vl rfl rfl rfl (Ev.addI rfl rfl rfl (by omega)) ?_
          refine RG.vl rfl rfl rfl (Ev.assign rfl rfl) ?_
          refine RG.done ?_
          refine QW.blockN ?_
          refine QW.then_ ?_
          refine CW.region ?_
          refine RG.vl rfl rfl rfl (Ev.addI rfl rfl rfl (by omega)) ?_
          refine RG.vl rfl rfl rfl (Ev.move rfl rfl) ?_
          refine RG.done ?_
          refine QW.round2 (i + 1) (q + 1) ⟨rfl, rfl, trivial⟩ ⟨rfl, rfl, rfl, rfl, trivial⟩ ⟨⟨by omega, by omega⟩, hxwl22⟩ (by omega)
    · refine CW.exit ?_
      refine QW.thenExit ?_
      refine QW.thenExit ?_
      refine QW.blockHit ?_
      refine QW.then_ ?_
      refine CW.seq ?_
      have hend : i = g.length := by omega
      rw [hend, ← diffs_dif, ← ht] at hq
      refine CW.region ?_
      refine RG.vl rfl rfl rfl (Ev.move rfl rfl) ?_
      refine RG.vl rfl rfl rfl (Ev.fld rfl rfl fld_28_1) ?_
      refine RG.vl rfl rfl rfl (Ev.ldAt rfl rfl Try.underlying23 rfl ((hb1.ext hxwl22).cells) (rfl)) ?_
      refine RG.vl rfl rfl rfl (Ev.lenL rfl rfl rfl Try.underlying23 ((hes.ext hxwl22))) ?_
      refine RG.vl rfl rfl rfl (Ev.isT (Ev.eqI rfl rfl rfl) (by omega)) ?_
      refine RG.vl rfl rfl rfl (Ev.assign rfl rfl) ?_
      refine RG.done ?_
      refine QW.then_ ?_
      refine CW.ret ?_
      refine QW.ret1 rfl rfl ?_
      have hB := (Ex.tr hR19 hxwl22)
      exact ⟨rfl, hB⟩

end Go.Proofs.Ytjhgihgggofocaa
