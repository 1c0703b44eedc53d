/- Walks (OF). Written by program. -/
import Derived.Test.YtehlnkhbbnddmaaT
import Derived.Test.YtehlnkhbbnddmaaOE
namespace Go.Proofs.Ytehlnkhbbnddmaa
open Go.RowKit
set_option maxRecDepth 100000 in
set_option maxHeartbeats 4000000 in
theorem selected_ret (k : Nat) (s : List UInt8) (gK gT : Nat) (w : World) (h1 : Blk w gK 5 [.int .u8 (k : Int)]) (h2 : Blk w gT 9 [.string ⟨s.toArray⟩]) :
    Ret Try.prog 29 [.agg (tab.flatMap Rw.c).toArray, .func (.func 32) #[] #[.pointer (some ⟨gK, 0, none⟩), .pointer (some ⟨gT, 0, none⟩)]] w (fun v w' => Own w' w.heap.size 30 3 Rw.c v (tab.filter (hitL k s)) ∧ Ex w w') := by
  have hB0 : Ex w w := Ex.rfl_ _
  refine Ret.of Try.func29 rfl Try.ntmps29 rfl ?_
  refine CW.seq ?_
  refine CW.region ?_
  refine RG.box rfl rfl rfl rfl rfl (fun g1 w1 eg1 hx1 hb1 => ?_)
  have hle2 : w.heap.size ≤ g1 := by have := (Ex.rfl_ w).size; omega
  have hlt3 : gK < g1 := by have := Blk.lt h1; omega
  have hlt4 : gT < g1 := by have := Blk.lt h2; omega
  have hE5 := hx1
  refine RG.vl rfl rfl rfl (Ev.assign rfl rfl) ?_
  refine RG.done ?_
  refine QW.then_ ?_
  refine CW.seq ?_
  refine CW.region ?_
  refine RG.vl rfl rfl rfl (Ev.assign rfl rfl) ?_
  refine RG.done ?_
  refine QW.then_ ?_
  refine CW.seq ?_
  refine CW.seq ?_
  refine CW.region ?_
  refine RG.vl rfl rfl rfl (Ev.ldAgg rfl rfl Try.underlying49 rfl sz_49 rfl (hb1.cells)) ?_
  refine RG.vl rfl rfl rfl (Ev.move rfl rfl) ?_
  refine RG.done ?_
  refine QW.then_ ?_
  refine CW.block ?_
  replace h1 := (h1.ext hE5)
  replace h2 := (h2.ext hE5)
  have hR6 := (Ex.tr hB0 hE5)
  refine CW.loop2 [(1, _), (4, _), (8, _)] ⟨rfl, rfl, rfl, trivial⟩ (fun (i : Nat) (v : Value) => [(9, .int .i64 i), (5, v)]) (fun i v w' => (i ≤ 40 ∧ Own w' w1.heap.size 30 3 Rw.c v ((tab.take i).filter (hitL k s))) ∧ Ex w1 w') (fun i v => 40 - i) (0) (.slice none 0 0) ⟨rfl, rfl, trivial⟩ ⟨⟨by omega, Own.nil_ _ _ _ _ _⟩, (Ex.rfl_ _)⟩ ?_
  rintro i v wl7 ⟨⟨hi, hown⟩, hxwl7⟩
  refine CW.sub (S' := [(9, _), (5, _), (1, _), (4, _), (8, _)]) ⟨rfl, rfl, rfl, rfl, rfl, trivial⟩ ?_
  refine CW.seq ?_
  refine CW.region ?_
  refine RG.vl rfl rfl rfl (Ev.lss rfl rfl rfl) ?_
  refine RG.done ?_
  refine QW.then_ ?_
  refine CW.seq ?_
  refine CW.condP rfl (fun hc8 => ?_) (fun hc8 => ?_)
  · refine CW.skip ?_
    refine QW.then_ ?_
    refine CW.seq ?_
    refine CW.block ?_
    refine CW.seq ?_
    obtain ⟨r, hr⟩ : ∃ r, tab[i]? = some r := ⟨_, List.getElem?_eq_getElem (by rw [tab40]; omega)⟩
    refine CW.region ?_
    refine RG.vl rfl rfl rfl (Ev.idxAgg rfl rfl rfl Try.underlying49 Try.underlying30 rfl sz_30 (by omega) (flat_at Rw.c_len tab i r hr)) ?_
    refine RG.local_ rfl rfl rfl rfl (fun _ => rfl) rfl rfl (fun _ => rfl) inf_30 rfl rfl rfl (fun g9 w9 eg9 hx9 hb9 => ?_)
    have hsb10 := fun e => sep_new (g := g9) hown eg9 e
    have hle11 : w1.heap.size ≤ g9 := by have := hxwl7.size; omega
    have hle12 : wl7.heap.size ≤ g9 := by have := (Ex.rfl_ wl7).size; omega
    have hlt13 : gK < g9 := by have := Blk.lt (h1.ext hxwl7); omega
    have hlt14 : gT < g9 := by have := Blk.lt (h2.ext hxwl7); omega
    have hlt15 : g1 < g9 := by have := Blk.lt (hb1.ext hxwl7); omega
    replace hxwl7 := Ex.tr hxwl7 hx9
    have hE16 := hx9
    refine RG.done ?_
    refine QW.then_ ?_
    refine CW.seq ?_
    refine CW.region ?_
    refine RG.vl rfl rfl rfl (Ev.move rfl rfl) ?_
    refine RG.vl rfl rfl rfl (Ev.ldAgg rfl rfl Try.underlying30 rfl sz_30 rfl (hb9.cells)) ?_
    refine RG.call rfl rfl rfl rfl rfl rfl rfl en_32 (longs1_ret r k s gK gT _ (h1.ext hxwl7) (h2.ext hxwl7)) ?_
    rintro _ w17 ⟨rfl, hx17⟩
    replace hxwl7 := Ex.tr hxwl7 hx17
    replace hE16 := Ex.tr hE16 hx17
    have hE18 := hx17
    refine RG.done ?_
    refine QW.then_ ?_
    refine CW.cond rfl (fun hc19 => ?_) (fun hc19 => ?_)
    · have hfl := List.length_filter_le (hitL k s) (tab.take i)
      rw [List.length_take] at hfl
      refine CW.region ?_
      refine RG.vl rfl rfl rfl (Ev.move rfl rfl) ?_
      refine RG.vl rfl rfl rfl (Ev.ldAgg rfl rfl Try.underlying30 rfl sz_30 rfl ((hb9.ext hE18).cells)) ?_
      refine RG.litO (os := [.tmp 16]) (enc := Rw.c) ([r]) rfl rfl rfl rfl rfl rfl rfl Try.underlying27 inf_30 rfl rfl rfl rfl rfl Rw.c_len rfl rfl (fun v20 wk21 hxwk21 hown22 hnew23 => ?_)
      replace hxwl7 := Ex.tr hxwl7 hxwk21
      replace hE16 := Ex.tr hE16 hxwk21
      replace hE18 := Ex.tr hE18 hxwk21
      have hE24 := hxwk21
      refine RG.appO rfl rfl rfl rfl rfl rfl rfl Try.underlying27 inf_30 rfl rfl Rw.c_len (fun _ => rfl) (Own.ext hown hE16) ((hown22.rdl Rw.c_len)) (by show _ + 1 ≤ maxLen; simp only [maxLen]; omega) (by show (_ + 1) * _ ≤ _; omega) (hxwl7.size) (fun v25 wa26 hown27 hgr28 hat29 => ?_)
      have hb30 := Blk.grown (hb9.ext hE18) hgr28 (fun e => hsb10 e.symm)
      have hsb31 := sepb_app hsb10 (hb9.ext hE18) hat29
      replace hxwl7 := own_block (Own.ext hown hE16) hxwl7 hgr28 (Nat.le_refl _) hxwl7.size
      refine RG.vl rfl rfl rfl (Ev.assign rfl rfl) ?_
      refine RG.done ?_
      refine QW.blockN ?_
      refine QW.then_ ?_
      refine CW.region ?_
      refine RG.vl rfl rfl rfl (Ev.addI rfl rfl rfl (by omega)) ?_
      refine RG.vl rfl rfl rfl (Ev.move rfl rfl) ?_
      refine RG.done ?_
      refine QW.round2 (i + 1) (v25) ⟨rfl, rfl, trivial⟩ ⟨rfl, rfl, rfl, trivial⟩ ⟨⟨by omega, by rw [take_rw tab i r hr, List.filter_append, List.filter_cons, if_pos (by assumption)]; exact hown27⟩, hxwl7⟩ (by omega)
    · refine CW.skip ?_
      refine QW.blockN ?_
      refine QW.then_ ?_
      refine CW.region ?_
      refine RG.vl rfl rfl rfl (Ev.addI rfl rfl rfl (by omega)) ?_
      refine RG.vl rfl rfl rfl (Ev.move rfl rfl) ?_
      refine RG.done ?_
      refine QW.round2 (i + 1) (v) ⟨rfl, rfl, trivial⟩ ⟨rfl, rfl, rfl, trivial⟩ ⟨⟨by omega, by rw [take_rw tab i r hr, List.filter_append, List.filter_cons, if_neg (by rw [show hitL k s r = false from by assumption]; decide), List.filter_nil, List.append_nil]; exact (Own.ext hown hE16)⟩, hxwl7⟩ (by omega)
  · refine CW.exit ?_
    refine QW.thenExit ?_
    refine QW.thenExit ?_
    refine QW.blockHit ?_
    refine QW.then_ ?_
    refine CW.seq ?_
    refine CW.region ?_
    refine RG.vl rfl rfl rfl (Ev.move rfl rfl) ?_
    refine RG.vl rfl rfl rfl (Ev.assign rfl rfl) ?_
    refine RG.done ?_
    refine QW.then_ ?_
    refine CW.ret ?_
    refine QW.ret1 rfl rfl ?_
    have hB := (Ex.tr hR6 hxwl7)
    have e : tab.take i = tab := List.take_of_length_le (by rw [tab40]; omega)
    rw [e] at hown
    exact ⟨Own.low hown (by have := hR6.size; omega), hB⟩

set_option maxRecDepth 100000 in
set_option maxHeartbeats 4000000 in
theorem first_ret (k : Nat) (s : List UInt8) (gK gT : Nat) (w : World) (h1 : Blk w gK 5 [.int .u8 (k : Int)]) (h2 : Blk w gT 9 [.string ⟨s.toArray⟩]) :
    Ret Try.prog 33 [.agg (tab.flatMap Rw.c).toArray, .func (.func 34) #[] #[.pointer (some ⟨gK, 0, none⟩), .pointer (some ⟨gT, 0, none⟩)]] w (fun v w' => v = .agg (firstR k s).c.toArray ∧ Ex w w') := by
  have hB0 : Ex w w := Ex.rfl_ _
  refine Ret.of Try.func33 rfl Try.ntmps33 rfl ?_
  refine CW.seq ?_
  refine CW.region ?_
  refine RG.box rfl rfl rfl rfl rfl (fun g1 w1 eg1 hx1 hb1 => ?_)
  have hle2 : w.heap.size ≤ g1 := by have := (Ex.rfl_ w).size; omega
  have hlt3 : gK < g1 := by have := Blk.lt h1; omega
  have hlt4 : gT < g1 := by have := Blk.lt h2; omega
  have hE5 := hx1
  replace h1 := (h1.ext hE5)
  replace h2 := (h2.ext hE5)
  have hR6 := (Ex.tr hB0 hE5)
  refine RG.alloc_ rfl rfl rfl rfl inf_30 (fun gZ w7 egZ hx7 hb7 => ?_)
  have hle8 : w1.heap.size ≤ gZ := by have := (Ex.rfl_ w1).size; omega
  have hlt9 : gK < gZ := by have := Blk.lt h1; omega
  have hlt10 : gT < gZ := by have := Blk.lt h2; omega
  have hlt11 : g1 < gZ := by have := Blk.lt hb1; omega
  have hE12 := hx7
  refine RG.done ?_
  refine QW.then_ ?_
  refine CW.seq ?_
  refine CW.seq ?_
  refine CW.region ?_
  refine RG.vl rfl rfl rfl (Ev.ldAgg rfl rfl Try.underlying49 rfl sz_49 rfl ((hb1.ext hE12).cells)) ?_
  refine RG.vl rfl rfl rfl (Ev.move rfl rfl) ?_
  refine RG.done ?_
  refine QW.then_ ?_
  refine CW.block ?_
  refine CW.loop1 [(1, _), (4, _), (8, _)] ⟨rfl, rfl, rfl, trivial⟩ (fun (i : Nat) => [(9, .int .i64 i)]) (fun i w' => (i ≤ 40 ∧ (∀ (j : Nat) (r : Rw), j < i → tab[j]? = some r → hitS k s r = false) ∧ Blk w' gZ 30 [.int .u8 0, .string ⟨#[]⟩, .string ⟨#[]⟩]) ∧ Ex w1 w') (fun i => 40 - i) (0) ⟨rfl, trivial⟩ ⟨⟨by omega, fun j r h => absurd h (by omega), hb7⟩, hE12⟩ ?_
  rintro i wl13 ⟨⟨hi, hno, hgZ⟩, hxwl13⟩
  refine CW.sub (S' := [(9, _), (1, _), (4, _), (8, _)]) ⟨rfl, rfl, rfl, rfl, trivial⟩ ?_
  refine CW.seq ?_
  refine CW.region ?_
  refine RG.vl rfl rfl rfl (Ev.lss rfl rfl rfl) ?_
  refine RG.done ?_
  refine QW.then_ ?_
  refine CW.seq ?_
  refine CW.condP rfl (fun hc14 => ?_) (fun hc14 => ?_)
  · refine CW.skip ?_
    refine QW.then_ ?_
    refine CW.seq ?_
    refine CW.block ?_
    refine CW.seq ?_
    obtain ⟨r, hr⟩ : ∃ r, tab[i]? = some r := ⟨_, List.getElem?_eq_getElem (by rw [tab40]; omega)⟩
    refine CW.region ?_
    refine RG.vl rfl rfl rfl (Ev.idxAgg rfl rfl rfl Try.underlying49 Try.underlying30 rfl sz_30 (by omega) (flat_at Rw.c_len tab i r hr)) ?_
    refine RG.local_ rfl rfl rfl rfl (fun _ => rfl) rfl rfl (fun _ => rfl) inf_30 rfl rfl rfl (fun g15 w15 eg15 hx15 hb15 => ?_)
    have hle16 : w1.heap.size ≤ g15 := by have := hxwl13.size; omega
    have hle17 : wl13.heap.size ≤ g15 := by have := (Ex.rfl_ wl13).size; omega
    have hlt18 : gK < g15 := by have := Blk.lt (h1.ext hxwl13); omega
    have hlt19 : gT < g15 := by have := Blk.lt (h2.ext hxwl13); omega
    have hlt20 : g1 < g15 := by have := Blk.lt (hb1.ext hxwl13); omega
    have hlt21 : gZ < g15 := by have := Blk.lt hgZ; omega
    replace hxwl13 := Ex.tr hxwl13 hx15
    have hE22 := hx15
    refine RG.done ?_
    refine QW.then_ ?_
    refine CW.seq ?_
    refine CW.region ?_
    refine RG.vl rfl rfl rfl (Ev.move rfl rfl) ?_
    refine RG.vl rfl rfl rfl (Ev.ldAgg rfl rfl Try.underlying30 rfl sz_30 rfl (hb15.cells)) ?_
    refine RG.call rfl rfl rfl rfl rfl rfl rfl en_34 (short1_ret r k s gK gT _ (h1.ext hxwl13) (h2.ext hxwl13)) ?_
    rintro _ w23 ⟨rfl, hx23⟩
    replace hxwl13 := Ex.tr hxwl13 hx23
    replace hE22 := Ex.tr hE22 hx23
    have hE24 := hx23
    refine RG.done ?_
    refine QW.then_ ?_
    refine CW.cond rfl (fun hc25 => ?_) (fun hc25 => ?_)
    · refine CW.seq ?_
      refine CW.region ?_
      refine RG.vl rfl rfl rfl (Ev.ldAgg rfl rfl Try.underlying30 rfl sz_30 rfl ((hb15.ext hE24).cells)) ?_
      refine RG.stAll (g := gZ) rfl rfl rfl rfl rfl sz_30 rfl rfl rfl (hgZ.ext hE22) (fun ws26 hwws26 hbws26 => ?_)
      replace hb15 := Blk.far (hb15.ext hE24) hwws26 (by omega)
      replace hxwl13 := Wr.below hxwl13 hwws26 hle8
      refine RG.done ?_
      refine QW.then_ ?_
      refine CW.ret ?_
      refine QW.blockR ?_
      refine QW.thenRet ?_
      refine QW.thenRet ?_
      refine QW.blockR ?_
      refine QW.thenRet ?_
      refine QW.retC rfl rfl Try.underlying30 rfl sz_30 rfl hbws26 ?_
      have hB := (Ex.tr hR6 hxwl13)
      exact ⟨by unfold firstR; rw [find_at (hitS k s) tab i r hr (by assumption) hno]; rfl, hB⟩
    · refine CW.skip ?_
      refine QW.blockN ?_
      refine QW.then_ ?_
      refine CW.region ?_
      refine RG.vl rfl rfl rfl (Ev.addI rfl rfl rfl (by omega)) ?_
      refine RG.vl rfl rfl rfl (Ev.move rfl rfl) ?_
      refine RG.done ?_
      refine QW.round1 (i + 1) ⟨rfl, trivial⟩ ⟨rfl, rfl, rfl, trivial⟩ ⟨⟨by omega, fun j r' hj hr' => by rcases Nat.lt_or_ge j i with h | h; exact hno j r' h hr'; obtain rfl : j = i := (by omega); rw [hr] at hr'; injection hr' with hr'; subst hr'; assumption, (hgZ.ext hE22)⟩, hxwl13⟩ (by omega)
  · refine CW.exit ?_
    refine QW.thenExit ?_
    refine QW.thenExit ?_
    refine QW.blockHit ?_
    refine QW.then_ ?_
    refine CW.seq ?_
    refine CW.region ?_
    refine RG.alloc_ rfl rfl rfl rfl inf_30 (fun g27 w27 eg27 hx27 hb27 => ?_)
    have hle28 : w1.heap.size ≤ g27 := by have := hxwl13.size; omega
    have hle29 : wl13.heap.size ≤ g27 := by have := (Ex.rfl_ wl13).size; omega
    have hlt30 : gK < g27 := by have := Blk.lt (h1.ext hxwl13); omega
    have hlt31 : gT < g27 := by have := Blk.lt (h2.ext hxwl13); omega
    have hlt32 : g1 < g27 := by have := Blk.lt (hb1.ext hxwl13); omega
    have hlt33 : gZ < g27 := by have := Blk.lt hgZ; omega
    replace hxwl13 := Ex.tr hxwl13 hx27
    have hE34 := hx27
    refine RG.done ?_
    refine QW.then_ ?_
    refine CW.seq ?_
    refine CW.region ?_
    refine RG.vl rfl rfl rfl (Ev.ldAgg rfl rfl Try.underlying30 rfl sz_30 rfl (hb27.cells)) ?_
    refine RG.stAll (g := gZ) rfl rfl rfl rfl rfl sz_30 rfl rfl rfl (hgZ.ext hE34) (fun ws35 hwws35 hbws35 => ?_)
    replace hb27 := Blk.far hb27 hwws35 (by omega)
    replace hxwl13 := Wr.below hxwl13 hwws35 hle8
    refine RG.done ?_
    refine QW.then_ ?_
    refine CW.ret ?_
    refine QW.retC rfl rfl Try.underlying30 rfl sz_30 rfl hbws35 ?_
    have hB := (Ex.tr hR6 hxwl13)
    exact ⟨by unfold firstR; rw [find_none (hitS k s) tab (fun j r hr => hno j r (by have := (List.getElem?_eq_some_iff.1 hr).1; have := tab40; omega) hr)]; rfl, hB⟩

end Go.Proofs.Ytehlnkhbbnddmaa
