/- Walks (RB). Written by program. -/
import Derived.Test.YtjhgihgggofocaaT
import Derived.Test.YtjhgihgggofocaaRA
namespace Go.Proofs.Ytjhgihgggofocaa
open Go.RowKit
set_option maxRecDepth 100000 in
set_option maxHeartbeats 4000000 in
theorem read_ret (u nv : Value) (c : List Nat) (l : List Noi) (w : World) (hl : RdL w 1 encN u c) (hm : RdL w 3 encNoi nv l) (hb : ∀ x ∈ l, x.p < 256 ∧ x.a < 256) (hnl : l.length ≤ 6) (hc0 : 0 < c.length) (hc1 : c.length ≤ 63) (hcl : El c) :
    Ret Try.prog 22 [u, nv] w (fun v w' => ∃ r e h o er ch, v = .tuple #[r, e, h] ∧ Own w' w.heap.size 5 1 encN r o ∧ Own w' w.heap.size 3 1 encZ e er ∧ Own w' w.heap.size 3 1 encZ h ch ∧ o.length = c.length ∧ El o ∧ er.Nodup ∧ (er.length ≤ o.length ∧ ch.length ≤ o.length) ∧ (∀ a ∈ er, a < o.length) ∧ ch = diffs o c er ∧ Ex w w') := by
  have hB0 : Ex w w := Ex.rfl_ _
  refine Ret.of Try.func22 rfl Try.ntmps22 rfl ?_
  refine CW.seq ?_
  refine CW.region ?_
  refine RG.vl rfl rfl rfl (Ev.assign rfl rfl) ?_
  refine RG.vl rfl rfl rfl (Ev.assign rfl rfl) ?_
  refine RG.vl rfl rfl rfl (Ev.assign rfl rfl) ?_
  refine RG.done ?_
  refine QW.then_ ?_
  refine CW.seq ?_
  refine CW.region ?_
  refine RG.build0O (enc := encN) rfl rfl rfl rfl rfl Try.underlying22 sz_5 (fun v1 wk2 hxwk2 hown3 hnew4 => ?_)
  replace hown3 := Own.low (B' := w.heap.size) hown3 (by have := hB0.size; omega)
  have hE5 := hxwk2
  refine RG.vl rfl rfl rfl (Ev.move rfl rfl) ?_
  refine RG.appO rfl rfl rfl rfl rfl rfl rfl Try.underlying22 inf_5 rfl rfl encN_len (fun _ => rfl) hown3 ((hl.ext hE5)) (by show 0 + _ ≤ maxLen; simp only [maxLen]; omega) (by show (0 + _) * _ ≤ _; omega) (hE5.size) (fun v7 wa6 hown7 hgr8 hat9 => ?_)
  replace hE5 := own_block hown3 hE5 hgr8 (Nat.le_refl _) hE5.size
  refine RG.vl rfl rfl rfl (Ev.assign rfl rfl) ?_
  refine RG.done ?_
  refine QW.then_ ?_
  refine CW.seq ?_
  refine CW.region ?_
  refine RG.vl rfl rfl rfl (Ev.move rfl rfl) ?_
  refine RG.vl rfl rfl rfl (Ev.lenL rfl rfl rfl Try.underlying22 ((hl.ext hE5))) ?_
  refine RG.makeO (m := c.length) (enc := encZ) 0 rfl rfl rfl rfl rfl rfl (rfl) Try.underlying23 inf_3 encZ_len rfl rfl (by omega) (by simp only [maxLen]; omega) (fun v8 wk10 hxwk10 hown11 hnew12 => ?_)
  have hsep13 : Sep v8 _ := Sep.of_new hown7 hnew12
  replace hown11 := Own.low (B' := w.heap.size) hown11 (by have := (Ex.tr hB0 hE5).size; omega)
  replace hE5 := Ex.tr hE5 hxwk10
  have hE14 := hxwk10
  refine RG.vl rfl rfl rfl (Ev.assign rfl rfl) ?_
  refine RG.done ?_
  refine QW.then_ ?_
  refine CW.seq ?_
  refine CW.seq ?_
  refine CW.region ?_
  refine RG.vl rfl rfl rfl (Ev.move rfl rfl) ?_
  refine RG.vl rfl rfl rfl (Ev.lenL rfl rfl rfl Try.underlying39 ((hm.ext hE5))) ?_
  refine RG.vl rfl rfl rfl (Ev.move rfl rfl) ?_
  refine RG.done ?_
  refine QW.sub (S' := [(0, _), (4, _), (5, _), (6, _), (7, _), (8, _), (21, _), (22, _), (23, _)]) ⟨rfl, rfl, rfl, rfl, rfl, rfl, rfl, rfl, rfl, trivial⟩ ?_
  refine QW.then_ ?_
  refine CW.block ?_
  refine CW.loop3 [(0, _), (4, _), (5, _), (6, _), (7, _), (8, _), (21, _), (22, _)] ⟨rfl, rfl, rfl, rfl, rfl, rfl, rfl, rfl, trivial⟩ (fun (i : Nat) (o : List Nat) (sl : List Nat) => [(23, .int .i64 (i : Int))]) (fun i o sl w' => (i ≤ l.length ∧ o.length = c.length ∧ El o ∧ sl.length = c.length ∧ Own w' w.heap.size 5 1 encN v7 o ∧ Own w' w.heap.size 3 1 encZ v8 sl) ∧ Ex w w') (fun i o sl => l.length - i) (0) (c) (List.replicate c.length 0) ⟨rfl, trivial⟩ ⟨⟨Nat.zero_le _, rfl, hcl, List.length_replicate .., (Own.ext hown7 hE14), hown11⟩, (Ex.tr hB0 hE5)⟩ ?_
  rintro i o sl wl15 ⟨⟨hi, hol, hel, hsl, ho7, ho8⟩, hxwl15⟩
  refine CW.sub (S' := [(23, _), (0, _), (4, _), (5, _), (6, _), (7, _), (8, _), (21, _), (22, _)]) ⟨rfl, rfl, rfl, rfl, rfl, rfl, rfl, rfl, rfl, trivial⟩ ?_
  refine CW.seq ?_
  refine CW.region ?_
  refine RG.vl rfl rfl rfl (Ev.lss rfl rfl rfl) ?_
  refine RG.done ?_
  refine QW.then_ ?_
  refine CW.seq ?_
  refine CW.condP rfl (fun hc16 => ?_) (fun hc16 => ?_)
  · refine CW.skip ?_
    refine QW.then_ ?_
    refine CW.seq ?_
    refine CW.block ?_
    refine CW.seq ?_
    obtain ⟨x, hx⟩ : ∃ x, l[i]? = some x := ⟨_, List.getElem?_eq_getElem (by omega)⟩
    obtain ⟨hxp, hxa⟩ := hb x (List.mem_of_getElem? hx)
    obtain ⟨p, hpd⟩ : ∃ p, p = x.p % c.length := ⟨_, rfl⟩
    have hp : p < c.length := by rw [hpd]; exact Nat.mod_lt _ hc0
    have ha64 : x.a % 64 < 64 := Nat.mod_lt _ (by omega)
    have hop := hel.cf p
    have hx64 := xor_lt64 _ _ hop ha64
    refine CW.region ?_
    refine RG.idxL rfl rfl rfl rfl rfl rfl Try.underlying39 sz_70 ((hm.ext hxwl15)) (hx) (fun p17 hp17b hp17 => ?_)
    refine RG.vl rfl rfl rfl (Ev.ldAgg rfl rfl Try.underlying70 rfl sz_70 rfl (hp17)) ?_
    refine RG.local_ rfl rfl rfl rfl (fun _ => rfl) rfl rfl (fun _ => rfl) inf_70 rfl rfl rfl (fun g18 w18 eg18 hx18 hb18 => ?_)
    have hsb19 := fun e => sep_new (g := g18) ho7 eg18 e
    have hsb20 := fun e => sep_new (g := g18) ho8 eg18 e
    have hle21 : w.heap.size ≤ g18 := by have := hxwl15.size; omega
    have hle22 : wl15.heap.size ≤ g18 := by have := (Ex.rfl_ wl15).size; omega
    replace hxwl15 := Ex.tr hxwl15 hx18
    have hE23 := hx18
    refine RG.done ?_
    refine QW.then_ ?_
    refine CW.seq ?_
    refine CW.region ?_
    refine RG.vl rfl rfl rfl (Ev.fld rfl rfl fld_70_0) ?_
    refine RG.vl rfl rfl rfl (Ev.ldAt rfl rfl Try.underlying5 rfl (hb18.cells) (rfl)) ?_
    refine RG.vl rfl rfl rfl (Ev.to64 rfl rfl Try.underlying5 Try.underlying3 (by omega)) ?_
    refine RG.vl rfl rfl rfl (Ev.move rfl rfl) ?_
    refine RG.vl rfl rfl rfl (Ev.lenL rfl rfl rfl Try.underlying22 ((hl.ext hxwl15))) ?_
    refine RG.vl rfl rfl rfl ((Ev.remI rfl rfl rfl (by omega)).conv (congrArg (Value.int .i64) (show (x.p : Int) % ((c.length : Nat) : Int) = (p : Int) by rw [hpd, Int.natCast_emod]))) ?_
    refine RG.vl rfl rfl rfl (Ev.assign rfl rfl) ?_
    refine RG.done ?_
    refine QW.then_ ?_
    refine CW.seq ?_
    refine CW.draw [9] (.ex) 10 rfl mixed (fun wd24 hxwd24 => ?_)
    replace hxwl15 := Ex.tr hxwl15 hxwd24
    replace hE23 := Ex.tr hE23 hxwd24
    have hE25 := hxwd24
    refine AG.takeW 0 rfl (by kernel_rfl) (by kernel_rfl) rfl rfl rfl (fun _ => Ev.move rfl rfl) ?_
    refine AG.takeW 1 rfl (by kernel_rfl) (by kernel_rfl) rfl rfl rfl (fun _ => Ev.move rfl rfl) ?_
    refine AG.idxO _ 2 rfl (by kernel_rfl) (by kernel_rfl) rfl rfl rfl rfl rfl rfl Try.underlying22 sz_5 encN_len ((Own.ext ho7 hE23)) (getElem?_cf (by omega)) (fun g27 hg27 hBg27 hp26b hp26 => ?_)
    refine AG.take 3 rfl (by kernel_rfl) (by kernel_rfl) rfl rfl rfl (fun wq hq => Ev.ld0 rfl rfl Try.underlying5 rfl (hp26.ext hq hp26b) (rfl)) ?_
    refine AG.takeW 4 rfl (by kernel_rfl) (by kernel_rfl) rfl rfl rfl (fun _ => Ev.fld rfl rfl fld_70_1) ?_
    refine AG.take 5 rfl (by kernel_rfl) (by kernel_rfl) rfl rfl rfl (fun wq hq => Ev.ldAt rfl rfl Try.underlying5 rfl (((hb18.ext hE25).ext hq).cells) (rfl)) ?_
    refine AG.takeW 6 rfl (by kernel_rfl) (by kernel_rfl) rfl rfl rfl (fun _ => (Ev.rem8 rfl rfl rfl (by omega)).conv (congrArg (Value.int .u8) (show (x.a : Int) % 64 = ((x.a % 64 : Nat) : Int) by omega))) ?_
    refine AG.takeW 7 rfl (by kernel_rfl) (by kernel_rfl) rfl rfl rfl (fun _ => Ev.xor8 rfl rfl rfl (by omega) (by omega)) ?_
    refine AG.idxO _ 8 rfl (by kernel_rfl) (by kernel_rfl) rfl rfl rfl rfl rfl rfl Try.underlying22 sz_5 encN_len ((Own.ext ho7 hE23)) (getElem?_cf (by omega)) (fun g29 hg29 hBg29 hp28b hp28 => ?_)
    refine AG.only 9 rfl (by kernel_rfl) ?_
    refine RG.stOw0 (g := g29) (cf o p ^^^ x.a % 64) rfl rfl rfl rfl rfl sz_5 rfl (fun _ => rfl) (Own.ext ho7 hE23) hg29 (getElem?_cf (by omega)) rfl (rfl) (fun ws31 hwws31 hown32 => ?_)
    replace ho8 := Own.far (Own.ext ho8 hE23) hwws31 (fun e => (Sep.symm hsep13) _ hg29 e)
    replace hb18 := Blk.far (hb18.ext hE25) hwws31 (fun e => hsb19 (by rw [e]; exact hg29))
    replace hxwl15 := Wr.below hxwl15 hwws31 hBg29
    refine RG.done ?_
    refine QW.an (fun h => by simp at h) ?_
    refine AG.done (by kernel_rfl) ?_
    refine QW.sub (S' := [(0, _), (4, _), (5, _), (6, _), (7, _), (8, _), (10, _), (11, _), (21, _), (22, _), (23, _)]) ⟨rfl, rfl, rfl, rfl, rfl, rfl, rfl, rfl, rfl, rfl, rfl, trivial⟩ ?_
    refine QW.then_ ?_
    refine CW.seq ?_
    refine CW.region ?_
    refine RG.vl rfl rfl rfl (Ev.fld rfl rfl fld_70_2) ?_
    refine RG.vl rfl rfl rfl (Ev.ldAt rfl rfl Try.underlying4 rfl (hb18.cells) (rfl)) ?_
    refine RG.done ?_
    refine QW.then_ ?_
    refine CW.cond rfl (fun hc33 => ?_) (fun hc33 => ?_)
    · refine CW.region ?_
      refine RG.vl rfl rfl rfl (Ev.move rfl rfl) ?_
      refine RG.vl rfl rfl rfl (Ev.move rfl rfl) ?_
      refine RG.idxO rfl rfl rfl rfl rfl rfl Try.underlying23 sz_3 encZ_len (ho8) (getElem?_cf (by omega)) (fun g35 hg35 hBg35 hp34b hp34 => ?_)
      refine RG.stOw0 (g := g35) (2) rfl rfl rfl rfl rfl sz_3 rfl (fun _ => rfl) ho8 hg35 (getElem?_cf (by omega)) rfl (rfl) (fun ws36 hwws36 hown37 => ?_)
      replace hb18 := Blk.far hb18 hwws36 (fun e => hsb20 (by rw [e]; exact hg35))
      replace hown32 := Own.far hown32 hwws36 (fun e => hsep13 _ hg35 e)
      replace hxwl15 := Wr.below hxwl15 hwws36 hBg35
      refine RG.done ?_
      refine QW.blockN ?_
      refine QW.then_ ?_
      refine CW.region ?_
      refine RG.vl rfl rfl rfl (Ev.addI rfl rfl rfl (by omega)) ?_
      refine RG.vl rfl rfl rfl (Ev.move rfl rfl) ?_
      refine RG.done ?_
      refine QW.round3 (i + 1) (o.set p (cf o p ^^^ x.a % 64)) (sl.set p 2) ⟨rfl, trivial⟩ ⟨rfl, rfl, rfl, rfl, rfl, rfl, rfl, rfl, trivial⟩ ⟨⟨by omega, by rw [List.length_set]; exact hol, hel.put p hx64, by rw [List.length_set]; exact hsl, hown32, hown37⟩, (Ex.tr hB0 hxwl15)⟩ (by omega)
    · refine CW.skip ?_
      refine QW.blockN ?_
      refine QW.then_ ?_
      refine CW.region ?_
      refine RG.vl rfl rfl rfl (Ev.addI rfl rfl rfl (by omega)) ?_
      refine RG.vl rfl rfl rfl (Ev.move rfl rfl) ?_
      refine RG.done ?_
      refine QW.round3 (i + 1) (o.set p (cf o p ^^^ x.a % 64)) (sl) ⟨rfl, trivial⟩ ⟨rfl, rfl, rfl, rfl, rfl, rfl, rfl, rfl, trivial⟩ ⟨⟨by omega, by rw [List.length_set]; exact hol, hel.put p hx64, hsl, hown32, ho8⟩, (Ex.tr hB0 hxwl15)⟩ (by omega)
  · refine CW.exit ?_
    refine QW.thenExit ?_
    refine QW.thenExit ?_
    refine QW.blockHit ?_
    refine QW.then_ ?_
    refine CW.seq ?_
    have hin : Ex w wl15 := (Ex.tr hB0 hxwl15)
    replace hl := (hl.ext hxwl15)
    replace hm := (hm.ext hxwl15)
    have hR38 := (Ex.tr hB0 hxwl15)
    have hr7 : RdL wl15 1 encN v7 o := ho7.rdl encN_len
    have hr8 : RdL wl15 1 encZ v8 sl := ho8.rdl encZ_len
    refine CW.region ?_
    refine RG.vl rfl rfl rfl (Ev.assign rfl rfl) ?_
    refine RG.vl rfl rfl rfl (Ev.assign rfl rfl) ?_
    refine RG.done ?_
    refine QW.then_ ?_
    refine CW.seq ?_
    refine CW.seq ?_
    refine CW.region ?_
    refine RG.vl rfl rfl rfl (Ev.move rfl rfl) ?_
    refine RG.vl rfl rfl rfl (Ev.lenL rfl rfl rfl Try.underlying22 (hr7)) ?_
    refine RG.vl rfl rfl rfl (Ev.move rfl rfl) ?_
    refine RG.done ?_
    refine QW.then_ ?_
    refine CW.block ?_
    refine CW.loop3 [(0, _), (4, _), (5, _), (6, _), (7, _), (8, _), (49, _)] ⟨rfl, rfl, rfl, rfl, rfl, rfl, rfl, trivial⟩ (fun (j : Nat) (e : Value) (h : Value) => [(50, .int .i64 (j : Int)), (12, e), (13, h)]) (fun j e h w' => (j ≤ o.length ∧ Own w' wl15.heap.size 3 1 encZ e ((List.range j).filter (ersB sl)) ∧ Own w' wl15.heap.size 3 1 encZ h ((List.range j).filter (chgB sl o c)) ∧ Sep e h) ∧ Ex wl15 w') (fun j e h => o.length - j) (0) (.slice none 0 0) (.slice none 0 0) ⟨rfl, rfl, rfl, trivial⟩ ⟨⟨Nat.zero_le _, Own.nil_ _ _ _ _ _, Own.nil_ _ _ _ _ _, Sep.nil_ _⟩, (Ex.rfl_ _)⟩ ?_
    rintro j e h wl39 ⟨⟨hj, hoe, hoh, hsp⟩, hxwl39⟩
    refine CW.sub (S' := [(50, _), (12, _), (13, _), (0, _), (4, _), (5, _), (6, _), (7, _), (8, _), (49, _)]) ⟨rfl, rfl, rfl, rfl, rfl, rfl, rfl, rfl, rfl, rfl, trivial⟩ ?_
    have hef := fil_len (ersB sl) j
    have hhf := fil_len (chgB sl o c) j
    refine CW.seq ?_
    refine CW.region ?_
    refine RG.vl rfl rfl rfl (Ev.lss rfl rfl rfl) ?_
    refine RG.done ?_
    refine QW.then_ ?_
    refine CW.seq ?_
    refine CW.condP rfl (fun hc40 => ?_) (fun hc40 => ?_)
    · refine CW.skip ?_
      refine QW.then_ ?_
      refine CW.seq ?_
      refine CW.block ?_
      refine CW.seq ?_
      refine CW.region ?_
      refine RG.vl rfl rfl rfl (Ev.move rfl rfl) ?_
      refine RG.vl rfl rfl rfl (Ev.assign rfl rfl) ?_
      refine RG.done ?_
      refine QW.then_ ?_
      refine CW.block ?_
      refine CW.seq ?_
      refine CW.region ?_
      refine RG.vl rfl rfl rfl (Ev.move rfl rfl) ?_
      refine RG.vl rfl rfl rfl (Ev.move rfl rfl) ?_
      refine RG.idxL rfl rfl rfl rfl rfl rfl Try.underlying23 sz_3 ((hr8.ext hxwl39)) (getElem?_cf (by omega)) (fun p41 hp41b hp41 => ?_)
      refine RG.vl rfl rfl rfl (Ev.ld0 rfl rfl Try.underlying3 rfl (hp41) (rfl)) ?_
      refine RG.vl rfl rfl rfl (Ev.eqI rfl rfl rfl) ?_
      refine RG.vl rfl rfl rfl (Ev.assign rfl rfl) ?_
      refine RG.done ?_
      refine QW.then_ ?_
      refine CW.condP rfl (fun hc42 => ?_) (fun hc42 => ?_)
      · refine CW.region ?_
        refine RG.vl rfl rfl rfl (Ev.move rfl rfl) ?_
        refine RG.vl rfl rfl rfl (Ev.move rfl rfl) ?_
        refine RG.litO (os := [.tmp 60]) (enc := encZ) ([j]) rfl rfl rfl rfl rfl rfl rfl Try.underlying23 inf_3 rfl rfl rfl rfl rfl encZ_len rfl rfl (fun v43 wk44 hxwk44 hown45 hnew46 => ?_)
        have hsep47 : Sep v43 _ := Sep.of_new (Own.ext ho7 hxwl39) hnew46
        have hsep48 : Sep v43 _ := Sep.of_new (Own.ext ho8 hxwl39) hnew46
        have hsep49 : Sep v43 _ := Sep.of_new hoe hnew46
        have hsep50 : Sep v43 _ := Sep.of_new hoh hnew46
        replace hxwl39 := Ex.tr hxwl39 hxwk44
        have hE51 := hxwk44
        refine RG.appO rfl rfl rfl rfl rfl rfl rfl Try.underlying23 inf_3 rfl rfl encZ_len (fun _ => rfl) (Own.ext hoe hE51) ((hown45.rdl encZ_len)) (by show _ + 1 ≤ maxLen; simp only [maxLen]; omega) (by show (_ + 1) * _ ≤ _; omega) (hxwl39.size) (fun v52 wa53 hown54 hgr55 hat56 => ?_)
        have hsep58 := Sep.app hsp (Own.ext hoh hE51) hat56
        have hown57 := Own.grown (Own.ext hoh hE51) hgr55 (fun k a b => hsp k b a)
        have hsep60 := Sep.app (Sep.symm hsep49) hown45 hat56
        have hown59 := Own.grown hown45 hgr55 (fun k a b => (Sep.symm hsep49) k b a)
        replace hxwl39 := own_block (Own.ext hoe hE51) hxwl39 hgr55 (Nat.le_refl _) hxwl39.size
        refine RG.vl rfl rfl rfl (Ev.assign rfl rfl) ?_
        refine RG.done ?_
        refine QW.sub (S' := [(0, _), (4, _), (5, _), (6, _), (7, _), (8, _), (12, _), (13, _), (49, _), (50, _)]) ⟨rfl, rfl, rfl, rfl, rfl, rfl, rfl, rfl, rfl, rfl, trivial⟩ ?_
        refine QW.blockN ?_
        refine QW.blockN ?_
        refine QW.then_ ?_
        refine CW.region ?_
        refine RG.vl rfl rfl rfl (Ev.addI rfl rfl rfl (by omega)) ?_
        refine RG.vl rfl rfl rfl (Ev.move rfl rfl) ?_
        refine RG.done ?_
        refine QW.round3 (j + 1) (v52) (h) ⟨rfl, rfl, rfl, trivial⟩ ⟨rfl, rfl, rfl, rfl, rfl, rfl, rfl, trivial⟩ ⟨⟨by omega, by rw [fil_yes (p := ersB sl) (decide_eq_true (by omega))]; exact hown54, by rw [fil_no (p := chgB sl o c) (decide_eq_false (by omega))]; exact hown57, hsep58⟩, hxwl39⟩ (by omega)
      · refine CW.seq ?_
        refine CW.draw [] (.ex) 10 rfl mixed (fun wd61 hxwd61 => ?_)
        replace hxwl39 := Ex.tr hxwl39 hxwd61
        have hE62 := hxwd61
        refine AG.takeW 0 rfl (by kernel_rfl) (by kernel_rfl) rfl rfl rfl (fun _ => Ev.move rfl rfl) ?_
        refine AG.takeW 1 rfl (by kernel_rfl) (by kernel_rfl) rfl rfl rfl (fun _ => Ev.move rfl rfl) ?_
        refine AG.idxL _ 2 rfl (by kernel_rfl) (by kernel_rfl) rfl rfl rfl rfl rfl rfl Try.underlying22 sz_5 ((hr7.ext hxwl39)) (getElem?_cf (by omega)) (fun p63 hp63b hp63 => ?_)
        refine AG.take 3 rfl (by kernel_rfl) (by kernel_rfl) rfl rfl rfl (fun wq hq => Ev.ld0 rfl rfl Try.underlying5 rfl (hp63.ext hq hp63b) (rfl)) ?_
        refine AG.takeW 4 rfl (by kernel_rfl) (by kernel_rfl) rfl rfl rfl (fun _ => Ev.move rfl rfl) ?_
        refine AG.takeW 5 rfl (by kernel_rfl) (by kernel_rfl) rfl rfl rfl (fun _ => Ev.move rfl rfl) ?_
        refine AG.idxL _ 6 rfl (by kernel_rfl) (by kernel_rfl) rfl rfl rfl rfl rfl rfl Try.underlying22 sz_5 ((hl.ext hxwl39)) (getElem?_cf (by omega)) (fun p64 hp64b hp64 => ?_)
        refine AG.take 7 rfl (by kernel_rfl) (by kernel_rfl) rfl rfl rfl (fun wq hq => Ev.ld0 rfl rfl Try.underlying5 rfl (hp64.ext hq hp64b) (rfl)) ?_
        refine AG.takeW 8 rfl (by kernel_rfl) (by kernel_rfl) rfl rfl rfl (fun _ => Ev.neI rfl rfl rfl) ?_
        refine AG.takeW 9 rfl (by kernel_rfl) (by kernel_rfl) rfl rfl rfl (fun _ => Ev.assign rfl rfl) ?_
        refine AG.done (by kernel_rfl) ?_
        refine QW.sub (S' := [(0, _), (4, _), (5, _), (6, _), (7, _), (8, _), (12, _), (13, _), (14, _), (49, _), (50, _), (63, _)]) ⟨rfl, rfl, rfl, rfl, rfl, rfl, rfl, rfl, rfl, rfl, rfl, rfl, trivial⟩ ?_
        refine QW.then_ ?_
        refine CW.condP rfl (fun hc65 => ?_) (fun hc65 => ?_)
        · refine CW.region ?_
          refine RG.vl rfl rfl rfl (Ev.move rfl rfl) ?_
          refine RG.vl rfl rfl rfl (Ev.move rfl rfl) ?_
          refine RG.litO (os := [.tmp 74]) (enc := encZ) ([j]) rfl rfl rfl rfl rfl rfl rfl Try.underlying23 inf_3 rfl rfl rfl rfl rfl encZ_len rfl rfl (fun v66 wk67 hxwk67 hown68 hnew69 => ?_)
          have hsep70 : Sep v66 _ := Sep.of_new (Own.ext ho7 hxwl39) hnew69
          have hsep71 : Sep v66 _ := Sep.of_new (Own.ext ho8 hxwl39) hnew69
          have hsep72 : Sep v66 _ := Sep.of_new (Own.ext hoe hE62) hnew69
          have hsep73 : Sep v66 _ := Sep.of_new (Own.ext hoh hE62) hnew69
          replace hxwl39 := Ex.tr hxwl39 hxwk67
          replace hE62 := Ex.tr hE62 hxwk67
          have hE74 := hxwk67
          refine RG.appO rfl rfl rfl rfl rfl rfl rfl Try.underlying23 inf_3 rfl rfl encZ_len (fun _ => rfl) (Own.ext hoh hE62) ((hown68.rdl encZ_len)) (by show _ + 1 ≤ maxLen; simp only [maxLen]; omega) (by show (_ + 1) * _ ≤ _; omega) (hxwl39.size) (fun v75 wa76 hown77 hgr78 hat79 => ?_)
          have hsep81 := Sep.app (Sep.symm hsp) (Own.ext hoe hE62) hat79
          have hown80 := Own.grown (Own.ext hoe hE62) hgr78 (fun k a b => (Sep.symm hsp) k b a)
          have hsep83 := Sep.app (Sep.symm hsep73) hown68 hat79
          have hown82 := Own.grown hown68 hgr78 (fun k a b => (Sep.symm hsep73) k b a)
          replace hxwl39 := own_block (Own.ext hoh hE62) hxwl39 hgr78 (Nat.le_refl _) hxwl39.size
          refine RG.vl rfl rfl rfl (Ev.assign rfl rfl) ?_
          refine RG.done ?_
          refine QW.blockN ?_
          refine QW.blockN ?_
          refine QW.then_ ?_
          refine CW.region ?_
          refine RG.vl rfl rfl rfl (Ev.addI rfl rfl rfl (by omega)) ?_
          refine RG.vl rfl rfl rfl (Ev.move rfl rfl) ?_
          refine RG.done ?_
          refine QW.round3 (j + 1) (e) (v75) ⟨rfl, rfl, rfl, trivial⟩ ⟨rfl, rfl, rfl, rfl, rfl, rfl, rfl, trivial⟩ ⟨⟨by omega, by rw [fil_no (p := ersB sl) (decide_eq_false (by omega))]; exact hown80, by rw [fil_yes (p := chgB sl o c) (decide_eq_true ⟨by omega, by omega⟩)]; exact hown77, (Sep.symm hsep81)⟩, hxwl39⟩ (by omega)
        · refine CW.skip ?_
          refine QW.blockN ?_
          refine QW.blockN ?_
          refine QW.then_ ?_
          refine CW.region ?_
          refine RG.vl rfl rfl rfl (Ev.addI rfl rfl rfl (by omega)) ?_
          refine RG.vl rfl rfl rfl (Ev.move rfl rfl) ?_
          refine RG.done ?_
          refine QW.round3 (j + 1) (e) (h) ⟨rfl, rfl, rfl, trivial⟩ ⟨rfl, rfl, rfl, rfl, rfl, rfl, rfl, trivial⟩ ⟨⟨by omega, by rw [fil_no (p := ersB sl) (decide_eq_false (by omega))]; exact (Own.ext hoe hE62), by rw [fil_no (p := chgB sl o c) (decide_eq_false (by omega))]; exact (Own.ext hoh hE62), hsp⟩, hxwl39⟩ (by omega)
    · refine CW.exit ?_
      refine QW.thenExit ?_
      refine QW.thenExit ?_
      refine QW.blockHit ?_
      refine QW.then_ ?_
      refine CW.seq ?_
      refine CW.region ?_
      refine RG.vl rfl rfl rfl (Ev.move rfl rfl) ?_
      refine RG.vl rfl rfl rfl (Ev.move rfl rfl) ?_
      refine RG.vl rfl rfl rfl (Ev.move rfl rfl) ?_
      refine RG.vl rfl rfl rfl (Ev.assign rfl rfl) ?_
      refine RG.vl rfl rfl rfl (Ev.assign rfl rfl) ?_
      refine RG.vl rfl rfl rfl (Ev.assign rfl rfl) ?_
      refine RG.done ?_
      refine QW.then_ ?_
      refine CW.ret ?_
      refine QW.ret3 rfl rfl rfl rfl ?_
      have hB := (Ex.tr hR38 hxwl39)
      have hj : j = o.length := by omega
      subst hj
      exact ⟨_, _, _, o, _, _, rfl, (Own.ext ho7 hxwl39), (Own.low (B' := w.heap.size) hoe (by have := hin.size; omega)), (Own.low (B' := w.heap.size) hoh (by have := hin.size; omega)), by omega, hel, fil_nodup _ _, ⟨fil_len _ _, fil_len _ _⟩, fun a ha => fil_lt a ha, chg_diffs sl o c, hB⟩

end Go.Proofs.Ytjhgihgggofocaa
