/- Walks (OX). Written by program. -/
import Derived.Test.YtehlnkhbbnddmaaT
import Derived.Test.YtehlnkhbbnddmaaOW
namespace Go.Proofs.Ytehlnkhbbnddmaa
open Go.RowKit
set_option maxRecDepth 100000 in
set_option maxHeartbeats 1000000 in
theorem table1_ret (r : Rw) (w : World)  :
    Ret Try.prog 31 [.agg r.c.toArray] w (fun v w' => v = .bool true ∧ Ex w w') := by
  have hB0 : Ex w w := Ex.rfl_ _
  refine Ret.of Try.func31 rfl Try.ntmps31 rfl ?_
  refine CW.seq ?_
  refine CW.region ?_
  refine RG.box rfl rfl rfl rfl rfl (fun g1 w1 eg1 hx1 hb1 => ?_)
  have hle2 : w.heap.size ≤ g1 := by have := (Ex.rfl_ w).size; omega
  have hE3 := hx1
  refine RG.vl rfl rfl rfl (Ev.assign rfl rfl) ?_
  refine RG.done ?_
  refine QW.then_ ?_
  refine CW.seq ?_
  refine CW.region ?_
  refine RG.vl rfl rfl rfl (Ev.assign rfl rfl) ?_
  refine RG.done ?_
  refine QW.then_ ?_
  refine CW.ret ?_
  refine QW.ret1 rfl rfl ?_
  have hB := (Ex.tr hB0 hE3)
  exact ⟨rfl, hB⟩

set_option maxRecDepth 100000 in
set_option maxHeartbeats 4000000 in
theorem selectedT_ret  (w : World)  :
    Ret Try.prog 29 [.agg (tab.flatMap Rw.c).toArray, .func (.func 31) #[] #[]] w (fun v w' => Own w' w.heap.size 30 3 Rw.c v tab ∧ Ex w w') := by
  have hB0 : Ex w w := Ex.rfl_ _
  refine Ret.of Try.func29 rfl Try.ntmps29 rfl ?_
  refine CW.seq ?_
  refine CW.region ?_
  refine RG.box rfl rfl rfl rfl rfl (fun g1 w1 eg1 hx1 hb1 => ?_)
  have hle2 : w.heap.size ≤ g1 := by have := (Ex.rfl_ w).size; omega
  have hE3 := hx1
  refine RG.vl rfl rfl rfl (Ev.assign rfl rfl) ?_
  refine RG.done ?_
  refine QW.then_ ?_
  refine CW.seq ?_
  refine CW.region ?_
  refine RG.vl rfl rfl rfl (Ev.assign rfl rfl) ?_
  refine RG.done ?_
  refine QW.then_ ?_
  refine CW.seq ?_
  refine CW.seq ?_
  refine CW.region ?_
  refine RG.vl rfl rfl rfl (Ev.ldAgg rfl rfl Try.underlying49 rfl sz_49 rfl (hb1.cells)) ?_
  refine RG.vl rfl rfl rfl (Ev.move rfl rfl) ?_
  refine RG.done ?_
  refine QW.then_ ?_
  refine CW.block ?_
  have hR4 := (Ex.tr hB0 hE3)
  refine CW.loop2 [(1, _), (4, _), (8, _)] ⟨rfl, rfl, rfl, trivial⟩ (fun (i : Nat) (v : Value) => [(9, .int .i64 i), (5, v)]) (fun i v w' => (i ≤ 40 ∧ Own w' w1.heap.size 30 3 Rw.c v (tab.take i)) ∧ Ex w1 w') (fun i v => 40 - i) (0) (.slice none 0 0) ⟨rfl, rfl, trivial⟩ ⟨⟨by omega, Own.nil_ _ _ _ _ _⟩, (Ex.rfl_ _)⟩ ?_
  rintro i v wl5 ⟨⟨hi, hown⟩, hxwl5⟩
  refine CW.sub (S' := [(9, _), (5, _), (1, _), (4, _), (8, _)]) ⟨rfl, rfl, rfl, rfl, rfl, trivial⟩ ?_
  refine CW.seq ?_
  refine CW.region ?_
  refine RG.vl rfl rfl rfl (Ev.lss rfl rfl rfl) ?_
  refine RG.done ?_
  refine QW.then_ ?_
  refine CW.seq ?_
  refine CW.condP rfl (fun hc6 => ?_) (fun hc6 => ?_)
  · refine CW.skip ?_
    refine QW.then_ ?_
    refine CW.seq ?_
    refine CW.block ?_
    refine CW.seq ?_
    obtain ⟨r, hr⟩ : ∃ r, tab[i]? = some r := ⟨_, List.getElem?_eq_getElem (by rw [tab40]; omega)⟩
    have hfl := List.length_take_le i tab
    refine CW.region ?_
    refine RG.vl rfl rfl rfl (Ev.idxAgg rfl rfl rfl Try.underlying49 Try.underlying30 rfl sz_30 (by omega) (flat_at Rw.c_len tab i r hr)) ?_
    refine RG.local_ rfl rfl rfl rfl (fun _ => rfl) rfl rfl (fun _ => rfl) inf_30 rfl rfl rfl (fun g7 w7 eg7 hx7 hb7 => ?_)
    have hsb8 := fun e => sep_new (g := g7) hown eg7 e
    have hle9 : w1.heap.size ≤ g7 := by have := hxwl5.size; omega
    have hle10 : wl5.heap.size ≤ g7 := by have := (Ex.rfl_ wl5).size; omega
    have hlt11 : g1 < g7 := by have := Blk.lt (hb1.ext hxwl5); omega
    replace hxwl5 := Ex.tr hxwl5 hx7
    have hE12 := hx7
    refine RG.done ?_
    refine QW.then_ ?_
    refine CW.seq ?_
    refine CW.region ?_
    refine RG.vl rfl rfl rfl (Ev.move rfl rfl) ?_
    refine RG.vl rfl rfl rfl (Ev.ldAgg rfl rfl Try.underlying30 rfl sz_30 rfl (hb7.cells)) ?_
    refine RG.call rfl rfl rfl rfl rfl rfl rfl en_31 (table1_ret r _) ?_
    rintro _ w13 ⟨rfl, hx13⟩
    replace hxwl5 := Ex.tr hxwl5 hx13
    replace hE12 := Ex.tr hE12 hx13
    have hE14 := hx13
    refine RG.done ?_
    refine QW.then_ ?_
    refine CW.condT rfl ?_
    refine CW.region ?_
    refine RG.vl rfl rfl rfl (Ev.move rfl rfl) ?_
    refine RG.vl rfl rfl rfl (Ev.ldAgg rfl rfl Try.underlying30 rfl sz_30 rfl ((hb7.ext hE14).cells)) ?_
    refine RG.litO (os := [.tmp 16]) (enc := Rw.c) ([r]) rfl rfl rfl rfl rfl rfl rfl Try.underlying27 inf_30 rfl rfl rfl rfl rfl Rw.c_len rfl rfl (fun v15 wk16 hxwk16 hown17 hnew18 => ?_)
    replace hxwl5 := Ex.tr hxwl5 hxwk16
    replace hE12 := Ex.tr hE12 hxwk16
    replace hE14 := Ex.tr hE14 hxwk16
    have hE19 := hxwk16
    refine RG.appO rfl rfl rfl rfl rfl rfl rfl Try.underlying27 inf_30 rfl rfl Rw.c_len (fun _ => rfl) (Own.ext hown hE12) ((hown17.rdl Rw.c_len)) (by show _ + 1 ≤ maxLen; simp only [maxLen]; omega) (by show (_ + 1) * _ ≤ _; omega) (hxwl5.size) (fun v20 wa21 hown22 hgr23 hat24 => ?_)
    have hb25 := Blk.grown (hb7.ext hE14) hgr23 (fun e => hsb8 e.symm)
    have hsb26 := sepb_app hsb8 (hb7.ext hE14) hat24
    replace hxwl5 := own_block (Own.ext hown hE12) hxwl5 hgr23 (Nat.le_refl _) hxwl5.size
    refine RG.vl rfl rfl rfl (Ev.assign rfl rfl) ?_
    refine RG.done ?_
    refine QW.blockN ?_
    refine QW.then_ ?_
    refine CW.region ?_
    refine RG.vl rfl rfl rfl (Ev.addI rfl rfl rfl (by omega)) ?_
    refine RG.vl rfl rfl rfl (Ev.move rfl rfl) ?_
    refine RG.done ?_
    refine QW.round2 (i + 1) (v20) ⟨rfl, rfl, trivial⟩ ⟨rfl, rfl, rfl, trivial⟩ ⟨⟨by omega, by rw [take_rw tab i r hr]; exact hown22⟩, hxwl5⟩ (by omega)
  · refine CW.exit ?_
    refine QW.thenExit ?_
    refine QW.thenExit ?_
    refine QW.blockHit ?_
    refine QW.then_ ?_
    refine CW.seq ?_
    refine CW.region ?_
    refine RG.vl rfl rfl rfl (Ev.move rfl rfl) ?_
    refine RG.vl rfl rfl rfl (Ev.assign rfl rfl) ?_
    refine RG.done ?_
    refine QW.then_ ?_
    refine CW.ret ?_
    refine QW.ret1 rfl rfl ?_
    have hB := (Ex.tr hR4 hxwl5)
    have e : tab.take i = tab := List.take_of_length_le (by rw [tab40]; omega)
    rw [e] at hown
    exact ⟨Own.low hown (by have := hR4.size; omega), hB⟩

set_option maxRecDepth 100000 in
set_option maxHeartbeats 1000000 in
theorem table_ret  (w : World)  :
    Ret Try.prog 13 [] w (fun v w' => Own w' w.heap.size 30 3 Rw.c v tab ∧ Ex w w') := by
  have hB0 : Ex w w := Ex.rfl_ _
  refine Ret.of Try.func13 rfl Try.ntmps13 rfl ?_
  refine CW.seq ?_
  refine CW.region ?_
  refine RG.vl rfl rfl rfl (Ev.assign rfl rfl) ?_
  refine RG.done ?_
  refine QW.then_ ?_
  refine CW.seq ?_
  skip
  refine CW.region ?_
  refine RG.call rfl rfl rfl rfl rfl rfl rfl en_30 (rows_ret _) ?_
  rintro _ w1 ⟨rfl, hx1⟩
  have hE2 := hx1
  have hpreT := (Ex.tr hB0 hE2)
  refine RG.call rfl rfl rfl rfl rfl rfl rfl en_29 (selectedT_ret _) ?_
  have hpre3 := (Ex.tr hB0 hE2)
  rintro tv w3 ⟨htb, hx3⟩
  replace hE2 := Ex.tr hE2 hx3
  have hE4 := hx3
  refine RG.vl rfl rfl rfl (Ev.assign rfl rfl) ?_
  refine RG.done ?_
  refine QW.then_ ?_
  refine CW.ret ?_
  refine QW.ret1 rfl rfl ?_
  have hB := (Ex.tr hB0 hE2)
  exact ⟨Own.low htb (by have := hpreT.size; omega), hB⟩

end Go.Proofs.Ytehlnkhbbnddmaa
