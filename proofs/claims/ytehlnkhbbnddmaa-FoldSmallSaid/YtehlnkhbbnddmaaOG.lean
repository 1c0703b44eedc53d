/- Walks (OG). Written by program. -/
import Derived.Test.YtehlnkhbbnddmaaT
import Derived.Test.YtehlnkhbbnddmaaOR
namespace Go.Proofs.Ytehlnkhbbnddmaa
open Go.RowKit
set_option maxRecDepth 100000 in
set_option maxHeartbeats 4000000 in
theorem longs_ret (k : Nat) (s : List UInt8) (w : World)  :
    Ret Try.prog 15 [.int .u8 (k : Int), .string ⟨s.toArray⟩] w (fun v w' => Own w' w.heap.size 9 1 encT v (longsR k s) ∧ Ex w w') := by
  have hsl := sel_len k s
  have hB0 : Ex w w := Ex.rfl_ _
  refine Ret.of Try.func15 rfl Try.ntmps15 rfl ?_
  refine CW.seq ?_
  refine CW.region ?_
  refine RG.box rfl rfl rfl rfl rfl (fun gK w1 egK hx1 hb1 => ?_)
  have hle2 : w.heap.size ≤ gK := by have := (Ex.rfl_ w).size; omega
  have hE3 := hx1
  refine RG.box rfl rfl rfl rfl rfl (fun gT w4 egT hx4 hb4 => ?_)
  have hle5 : w.heap.size ≤ gT := by have := hE3.size; omega
  have hle6 : w1.heap.size ≤ gT := by have := (Ex.rfl_ w1).size; omega
  have hlt7 : gK < gT := by have := Blk.lt hb1; omega
  replace hE3 := Ex.tr hE3 hx4
  have hE8 := hx4
  refine RG.vl rfl rfl rfl (Ev.assign rfl rfl) ?_
  refine RG.done ?_
  refine QW.then_ ?_
  refine CW.seq ?_
  refine CW.region ?_
  refine RG.vl rfl rfl rfl (Ev.assign rfl rfl) ?_
  refine RG.done ?_
  refine QW.then_ ?_
  refine CW.seq ?_
  refine CW.region ?_
  refine RG.vl rfl rfl rfl (Ev.mkFn rfl rfl rfl rfl rfl) ?_
  refine RG.vl rfl rfl rfl (Ev.assign rfl rfl) ?_
  refine RG.done ?_
  refine QW.then_ ?_
  refine CW.seq ?_
  refine CW.seq ?_
  refine CW.region ?_
  refine RG.call rfl rfl rfl rfl rfl rfl rfl en_30 (rows_ret _) ?_
  rintro _ w9 ⟨rfl, hx9⟩
  replace hE3 := Ex.tr hE3 hx9
  replace hE8 := Ex.tr hE8 hx9
  have hE10 := hx9
  refine RG.vl rfl rfl rfl (Ev.move rfl rfl) ?_
  refine RG.call rfl rfl rfl rfl rfl rfl rfl en_29 (selected_ret k s gK gT _ (hb1.ext hE8) (hb4.ext hE10)) ?_
  have hpre11 := (Ex.tr hB0 hE3)
  rintro sv11 w11 ⟨hsv11, hx11⟩
  replace hE3 := Ex.tr hE3 hx11
  replace hE8 := Ex.tr hE8 hx11
  replace hE10 := Ex.tr hE10 hx11
  have hE12 := hx11
  refine RG.vl rfl rfl rfl (Ev.lenL rfl rfl rfl Try.underlying27 ((hsv11.rdl Rw.c_len))) ?_
  refine RG.vl rfl rfl rfl (Ev.move rfl rfl) ?_
  refine RG.done ?_
  refine QW.then_ ?_
  refine CW.block ?_
  replace hb1 := (hb1.ext hE8)
  replace hb4 := (hb4.ext hE10)
  have hR13 := (Ex.tr hB0 hE3)
  have hR14 := hE10
  have hR15 := hE12
  refine CW.loop3 [(4, _), (12, _), (13, _)] ⟨rfl, rfl, rfl, trivial⟩ (fun (i : Nat) (out : List (List UInt8)) (v : Value) => [(14, .int .i64 i), (5, v)]) (fun i out v w' => (i ≤ (tab.filter (hitL k s)).length ∧ once ((tab.filter (hitL k s)).take i) = out ∧ out.length ≤ i ∧ Own w' w11.heap.size 9 1 encT v out) ∧ Ex w11 w') (fun i out v => (tab.filter (hitL k s)).length - i) (0) ([]) (.slice none 0 0) ⟨rfl, rfl, trivial⟩ ⟨⟨Nat.zero_le _, rfl, Nat.le_refl _, Own.nil_ _ _ _ _ _⟩, (Ex.rfl_ _)⟩ ?_
  rintro i out v wl16 ⟨⟨hi, hon, hol, hown⟩, hxwl16⟩
  refine CW.sub (S' := [(14, _), (5, _), (4, _), (12, _), (13, _)]) ⟨rfl, rfl, rfl, rfl, rfl, trivial⟩ ?_
  refine CW.seq ?_
  refine CW.region ?_
  refine RG.vl rfl rfl rfl (Ev.lss rfl rfl rfl) ?_
  refine RG.done ?_
  refine QW.then_ ?_
  refine CW.seq ?_
  refine CW.condP rfl (fun hc17 => ?_) (fun hc17 => ?_)
  · refine CW.skip ?_
    refine QW.then_ ?_
    refine CW.seq ?_
    refine CW.block ?_
    refine CW.seq ?_
    obtain ⟨r, hr⟩ : ∃ r, (tab.filter (hitL k s))[i]? = some r := ⟨_, List.getElem?_eq_getElem (by omega)⟩
    refine CW.region ?_
    refine RG.idxO rfl rfl rfl rfl rfl rfl Try.underlying27 sz_30 Rw.c_len ((Own.ext hsv11 hxwl16)) (hr) (fun g19 hg19 hBg19 hp18b hp18 => ?_)
    refine RG.vl rfl rfl rfl (Ev.ldAgg rfl rfl Try.underlying30 rfl sz_30 rfl (hp18)) ?_
    refine RG.local_ rfl rfl rfl rfl (fun _ => rfl) rfl rfl (fun _ => rfl) inf_30 rfl rfl rfl (fun g20 w20 eg20 hx20 hb20 => ?_)
    have hsb21 := fun e => sep_new (g := g20) (Own.ext hsv11 hxwl16) eg20 e
    have hsb22 := fun e => sep_new (g := g20) hown eg20 e
    have hle23 : w11.heap.size ≤ g20 := by have := hxwl16.size; omega
    have hle24 : wl16.heap.size ≤ g20 := by have := (Ex.rfl_ wl16).size; omega
    have hlt25 : gK < g20 := by have := Blk.lt (hb1.ext hxwl16); omega
    have hlt26 : gT < g20 := by have := Blk.lt (hb4.ext hxwl16); omega
    replace hxwl16 := Ex.tr hxwl16 hx20
    have hE27 := hx20
    refine RG.done ?_
    refine QW.then_ ?_
    refine CW.seq ?_
    refine CW.region ?_
    refine RG.vl rfl rfl rfl (Ev.move rfl rfl) ?_
    refine RG.vl rfl rfl rfl (Ev.fld rfl rfl fld_30_1) ?_
    refine RG.vl rfl rfl rfl (Ev.ldAt rfl rfl Try.underlying9 rfl (hb20.cells) (rfl)) ?_
    refine RG.call rfl rfl rfl rfl rfl rfl rfl en_28 (has_ret _ _ _ _ (((Own.ext hown hE27).rdl encT_len)) (by first | assumption | omega | simp)) ?_
    rintro _ w28 ⟨rfl, hx28⟩
    replace hxwl16 := Ex.tr hxwl16 hx28
    replace hE27 := Ex.tr hE27 hx28
    have hE29 := hx28
    refine RG.vl rfl rfl rfl (Ev.notP rfl rfl) ?_
    refine RG.done ?_
    refine QW.then_ ?_
    refine CW.condP rfl (fun hc30 => ?_) (fun hc30 => ?_)
    · refine CW.region ?_
      refine RG.vl rfl rfl rfl (Ev.move rfl rfl) ?_
      refine RG.vl rfl rfl rfl (Ev.fld rfl rfl fld_30_1) ?_
      refine RG.vl rfl rfl rfl (Ev.ldAt rfl rfl Try.underlying9 rfl ((hb20.ext hE29).cells) (rfl)) ?_
      refine RG.litO (os := [.tmp 25]) (enc := encT) ([r.lo]) rfl rfl rfl rfl rfl rfl rfl Try.underlying32 inf_9 rfl rfl rfl rfl rfl encT_len rfl rfl (fun v31 wk32 hxwk32 hown33 hnew34 => ?_)
      replace hxwl16 := Ex.tr hxwl16 hxwk32
      replace hE27 := Ex.tr hE27 hxwk32
      replace hE29 := Ex.tr hE29 hxwk32
      have hE35 := hxwk32
      refine RG.appO rfl rfl rfl rfl rfl rfl rfl Try.underlying32 inf_9 rfl rfl encT_len (fun _ => rfl) (Own.ext hown hE27) ((hown33.rdl encT_len)) (by show _ + 1 ≤ maxLen; simp only [maxLen]; omega) (by show (_ + 1) * _ ≤ _; omega) (hxwl16.size) (fun v36 wa37 hown38 hgr39 hat40 => ?_)
      have hb41 := Blk.grown (hb20.ext hE29) hgr39 (fun e => hsb22 e.symm)
      have hsb42 := sepb_app hsb22 (hb20.ext hE29) hat40
      replace hxwl16 := own_block (Own.ext hown hE27) hxwl16 hgr39 (Nat.le_refl _) hxwl16.size
      refine RG.vl rfl rfl rfl (Ev.assign rfl rfl) ?_
      refine RG.done ?_
      refine QW.sub (S' := [(4, _), (5, _), (12, _), (13, _), (14, _)]) ⟨rfl, rfl, rfl, rfl, rfl, trivial⟩ ?_
      refine QW.blockN ?_
      refine QW.then_ ?_
      refine CW.region ?_
      refine RG.vl rfl rfl rfl (Ev.addI rfl rfl rfl (by omega)) ?_
      refine RG.vl rfl rfl rfl (Ev.move rfl rfl) ?_
      refine RG.done ?_
      refine QW.round3 (i + 1) (out ++ [r.lo]) (v36) ⟨rfl, rfl, trivial⟩ ⟨rfl, rfl, rfl, trivial⟩ ⟨⟨by omega, once_out hr hon (by assumption), by rw [List.length_append, List.length_singleton]; omega, hown38⟩, hxwl16⟩ (by omega)
    · refine CW.skip ?_
      refine QW.blockN ?_
      refine QW.then_ ?_
      refine CW.region ?_
      refine RG.vl rfl rfl rfl (Ev.addI rfl rfl rfl (by omega)) ?_
      refine RG.vl rfl rfl rfl (Ev.move rfl rfl) ?_
      refine RG.done ?_
      refine QW.round3 (i + 1) (out) (v) ⟨rfl, rfl, trivial⟩ ⟨rfl, rfl, rfl, trivial⟩ ⟨⟨by omega, once_in hr hon (Decidable.not_not.1 (by assumption)), by omega, (Own.ext hown hE27)⟩, hxwl16⟩ (by omega)
  · refine CW.exit ?_
    refine QW.thenExit ?_
    refine QW.thenExit ?_
    refine QW.blockHit ?_
    refine QW.then_ ?_
    refine CW.seq ?_
    refine CW.region ?_
    refine RG.vl rfl rfl rfl (Ev.move rfl rfl) ?_
    refine RG.vl rfl rfl rfl (Ev.assign rfl rfl) ?_
    refine RG.done ?_
    refine QW.then_ ?_
    refine CW.ret ?_
    refine QW.ret1 rfl rfl ?_
    have hB := (Ex.tr hR13 hxwl16)
    have e : (tab.filter (hitL k s)).take i = (tab.filter (hitL k s)) := List.take_of_length_le (by omega)
    rw [e] at hon
    have hon2 : longsR k s = out := hon
    rw [hon2]
    exact ⟨Own.low hown (by have := hR13.size; omega), hB⟩

set_option maxRecDepth 100000 in
set_option maxHeartbeats 4000000 in
theorem kinds_ret (s : List UInt8) (w : World)  :
    Ret Try.prog 16 [.string ⟨s.toArray⟩] w (fun v w' => v = .int .u8 (kindsR s : Nat) ∧ Ex w w') := by
  have hB0 : Ex w w := Ex.rfl_ _
  refine Ret.of Try.func16 rfl Try.ntmps16 rfl ?_
  refine CW.seq ?_
  refine CW.region ?_
  refine RG.vl rfl rfl rfl (Ev.assign rfl rfl) ?_
  refine RG.done ?_
  refine QW.then_ ?_
  refine CW.seq ?_
  refine CW.region ?_
  refine RG.call rfl rfl rfl rfl rfl rfl rfl en_30 (rows_ret _) ?_
  rintro _ w1 ⟨rfl, hx1⟩
  have hE2 := hx1
  refine RG.alloc_ rfl rfl rfl rfl inf_49 (fun gA w3 egA hx3 hb3 => ?_)
  have hle4 : w.heap.size ≤ gA := by have := hE2.size; omega
  have hle5 : w1.heap.size ≤ gA := by have := (Ex.rfl_ w1).size; omega
  replace hE2 := Ex.tr hE2 hx3
  refine RG.vl rfl rfl rfl (Ev.assign rfl rfl) ?_
  refine RG.stAll (g := gA) rfl rfl rfl rfl rfl sz_49 rfl rfl rfl hb3 (fun ws6 hwws6 hbws6 => ?_)
  replace hE2 := Wr.below hE2 hwws6 hle4
  refine RG.done ?_
  refine QW.then_ ?_
  refine CW.seq ?_
  refine CW.seq ?_
  refine CW.region ?_
  refine RG.vl rfl rfl rfl (Ev.ldAgg rfl rfl Try.underlying49 rfl sz_49 rfl (hbws6.cells)) ?_
  refine RG.vl rfl rfl rfl (Ev.move rfl rfl) ?_
  refine RG.done ?_
  refine QW.then_ ?_
  refine CW.block ?_
  have hR7 := (Ex.tr hB0 hE2)
  refine CW.loop2 [(0, _), (2, _), (8, _)] ⟨rfl, rfl, rfl, trivial⟩ (fun (i : Nat) (m : Nat) => [(9, .int .i64 i), (3, .int .u8 (m : Int))]) (fun i m w' => (i ≤ 40 ∧ kindF s (tab.take i) = m) ∧ Ex ws6 w') (fun i m => 40 - i) (0) (0) ⟨rfl, rfl, trivial⟩ ⟨⟨by omega, rfl⟩, (Ex.rfl_ _)⟩ ?_
  rintro i m wl8 ⟨⟨hi, hkm⟩, hxwl8⟩
  refine CW.sub (S' := [(9, _), (3, _), (0, _), (2, _), (8, _)]) ⟨rfl, rfl, rfl, rfl, rfl, trivial⟩ ?_
  refine CW.seq ?_
  refine CW.region ?_
  refine RG.vl rfl rfl rfl (Ev.lss rfl rfl rfl) ?_
  refine RG.done ?_
  refine QW.then_ ?_
  refine CW.seq ?_
  refine CW.condP rfl (fun hc9 => ?_) (fun hc9 => ?_)
  · refine CW.skip ?_
    refine QW.then_ ?_
    refine CW.seq ?_
    refine CW.block ?_
    refine CW.seq ?_
    obtain ⟨r, hr⟩ : ∃ r, tab[i]? = some r := ⟨_, List.getElem?_eq_getElem (by rw [tab40]; omega)⟩
    refine CW.region ?_
    refine RG.vl rfl rfl rfl (Ev.idxAgg rfl rfl rfl Try.underlying49 Try.underlying30 rfl sz_30 (by omega) (flat_at Rw.c_len tab i r hr)) ?_
    refine RG.local_ rfl rfl rfl rfl (fun _ => rfl) rfl rfl (fun _ => rfl) inf_30 rfl rfl rfl (fun g10 w10 eg10 hx10 hb10 => ?_)
    have hle11 : ws6.heap.size ≤ g10 := by have := hxwl8.size; omega
    have hle12 : wl8.heap.size ≤ g10 := by have := (Ex.rfl_ wl8).size; omega
    have hlt13 : gA < g10 := by have := Blk.lt (hbws6.ext hxwl8); omega
    replace hxwl8 := Ex.tr hxwl8 hx10
    have hE14 := hx10
    refine RG.done ?_
    refine QW.then_ ?_
    refine CW.seq ?_
    refine CW.region ?_
    refine RG.vl rfl rfl rfl (Ev.fld rfl rfl fld_30_1) ?_
    refine RG.vl rfl rfl rfl (Ev.ldAt rfl rfl Try.underlying9 rfl (hb10.cells) (rfl)) ?_
    refine RG.vl rfl rfl rfl (Ev.move rfl rfl) ?_
    refine RG.vl rfl rfl rfl (Ev.eqS rfl rfl rfl) ?_
    refine RG.vl rfl rfl rfl (Ev.move rfl rfl) ?_
    refine RG.split (d := 16) rfl (fun hg15 => ?_) (fun hg15 => ?_)
    · refine RG.pass rfl rfl rfl ?_
      refine RG.pass rfl rfl rfl ?_
      refine RG.pass rfl rfl rfl ?_
      refine RG.pass rfl rfl rfl ?_
      refine RG.vl rfl rfl rfl (Ev.pickT rfl rfl rfl) ?_
      refine RG.done ?_
      refine QW.then_ ?_
      refine CW.condT rfl ?_
      have hsh := shl_lt hr
      have hml := kindF_lt s i
      rw [hkm] at hml
      have hrk := (tab_k r (List.mem_of_getElem? hr)).2.1
      refine CW.region ?_
      refine RG.vl rfl rfl rfl (Ev.move rfl rfl) ?_
      refine RG.vl rfl rfl rfl (Ev.fld rfl rfl fld_30_0) ?_
      refine RG.vl rfl rfl rfl (Ev.ldAt rfl rfl Try.underlying5 rfl (hb10.cells) (rfl)) ?_
      refine RG.vl rfl rfl rfl (Ev.shl8 (p := 1) rfl rfl rfl (by omega) (by omega)) ?_
      refine RG.vl rfl rfl rfl (Ev.or8 rfl rfl rfl (by omega) (by omega)) ?_
      refine RG.vl rfl rfl rfl (Ev.assign rfl rfl) ?_
      refine RG.done ?_
      refine QW.sub (S' := [(0, _), (2, _), (3, _), (8, _), (9, _)]) ⟨rfl, rfl, rfl, rfl, rfl, trivial⟩ ?_
      refine QW.blockN ?_
      refine QW.then_ ?_
      refine CW.region ?_
      refine RG.vl rfl rfl rfl (Ev.addI rfl rfl rfl (by omega)) ?_
      refine RG.vl rfl rfl rfl (Ev.move rfl rfl) ?_
      refine RG.done ?_
      refine QW.round2 (i + 1) (m ||| (1 <<< r.k)) ⟨rfl, rfl, trivial⟩ ⟨rfl, rfl, rfl, trivial⟩ ⟨⟨by omega, kind_in hr hkm (by first | exact .inl (binj.1 (by assumption)) | exact .inr (binj.1 (by assumption)))⟩, hxwl8⟩ (by omega)
    · refine RG.vl rfl rfl rfl (Ev.fld rfl rfl fld_30_2) ?_
      refine RG.vl rfl rfl rfl (Ev.ldAt rfl rfl Try.underlying9 rfl (hb10.cells) (rfl)) ?_
      refine RG.vl rfl rfl rfl (Ev.move rfl rfl) ?_
      refine RG.vl rfl rfl rfl (Ev.eqS rfl rfl rfl) ?_
      refine RG.vl rfl rfl rfl (Ev.pickF rfl rfl rfl) ?_
      refine RG.done ?_
      refine QW.then_ ?_
      refine CW.condP rfl (fun hc16 => ?_) (fun hc16 => ?_)
      · have hsh := shl_lt hr
        have hml := kindF_lt s i
        rw [hkm] at hml
        have hrk := (tab_k r (List.mem_of_getElem? hr)).2.1
        refine CW.region ?_
        refine RG.vl rfl rfl rfl (Ev.move rfl rfl) ?_
        refine RG.vl rfl rfl rfl (Ev.fld rfl rfl fld_30_0) ?_
        refine RG.vl rfl rfl rfl (Ev.ldAt rfl rfl Try.underlying5 rfl (hb10.cells) (rfl)) ?_
        refine RG.vl rfl rfl rfl (Ev.shl8 (p := 1) rfl rfl rfl (by omega) (by omega)) ?_
        refine RG.vl rfl rfl rfl (Ev.or8 rfl rfl rfl (by omega) (by omega)) ?_
        refine RG.vl rfl rfl rfl (Ev.assign rfl rfl) ?_
        refine RG.done ?_
        refine QW.sub (S' := [(0, _), (2, _), (3, _), (8, _), (9, _)]) ⟨rfl, rfl, rfl, rfl, rfl, trivial⟩ ?_
        refine QW.blockN ?_
        refine QW.then_ ?_
        refine CW.region ?_
        refine RG.vl rfl rfl rfl (Ev.addI rfl rfl rfl (by omega)) ?_
        refine RG.vl rfl rfl rfl (Ev.move rfl rfl) ?_
        refine RG.done ?_
        refine QW.round2 (i + 1) (m ||| (1 <<< r.k)) ⟨rfl, rfl, trivial⟩ ⟨rfl, rfl, rfl, trivial⟩ ⟨⟨by omega, kind_in hr hkm (by first | exact .inl (binj.1 (by assumption)) | exact .inr (binj.1 (by assumption)))⟩, hxwl8⟩ (by omega)
      · refine CW.skip ?_
        refine QW.blockN ?_
        refine QW.then_ ?_
        refine CW.region ?_
        refine RG.vl rfl rfl rfl (Ev.addI rfl rfl rfl (by omega)) ?_
        refine RG.vl rfl rfl rfl (Ev.move rfl rfl) ?_
        refine RG.done ?_
        refine QW.sub (S' := [(0, _), (2, _), (3, _), (8, _), (9, _)]) ⟨rfl, rfl, rfl, rfl, rfl, trivial⟩ ?_
        refine QW.round2 (i + 1) (m) ⟨rfl, rfl, trivial⟩ ⟨rfl, rfl, rfl, trivial⟩ ⟨⟨by omega, kind_out hr hkm (fun e => absurd (binj.2 e) (by assumption)) (fun e => absurd (binj.2 e) (by assumption))⟩, hxwl8⟩ (by omega)
  · refine CW.exit ?_
    refine QW.thenExit ?_
    refine QW.thenExit ?_
    refine QW.blockHit ?_
    refine QW.then_ ?_
    refine CW.seq ?_
    refine CW.region ?_
    refine RG.vl rfl rfl rfl (Ev.move rfl rfl) ?_
    refine RG.vl rfl rfl rfl (Ev.assign rfl rfl) ?_
    refine RG.done ?_
    refine QW.then_ ?_
    refine CW.ret ?_
    refine QW.ret1 rfl rfl ?_
    have hB := (Ex.tr hR7 hxwl8)
    have e : tab.take i = tab := List.take_of_length_le (by have := tab40; omega)
    rw [e] at hkm
    exact ⟨by rw [← hkm]; rfl, hB⟩

set_option maxRecDepth 100000 in
set_option maxHeartbeats 4000000 in
theorem short_ret (k : Nat) (s : List UInt8) (w : World)  :
    Ret Try.prog 17 [.int .u8 (k : Int), .string ⟨s.toArray⟩] w (fun v w' => v = .tuple #[.string ⟨(shortR k s).1.toArray⟩, .bool (shortR k s).2] ∧ Ex w w') := by
  have hB0 : Ex w w := Ex.rfl_ _
  refine Ret.of Try.func17 rfl Try.ntmps17 rfl ?_
  refine CW.seq ?_
  refine CW.region ?_
  refine RG.box rfl rfl rfl rfl rfl (fun gK w1 egK hx1 hb1 => ?_)
  have hle2 : w.heap.size ≤ gK := by have := (Ex.rfl_ w).size; omega
  have hE3 := hx1
  refine RG.box rfl rfl rfl rfl rfl (fun gT w4 egT hx4 hb4 => ?_)
  have hle5 : w.heap.size ≤ gT := by have := hE3.size; omega
  have hle6 : w1.heap.size ≤ gT := by have := (Ex.rfl_ w1).size; omega
  have hlt7 : gK < gT := by have := Blk.lt hb1; omega
  replace hE3 := Ex.tr hE3 hx4
  have hE8 := hx4
  refine RG.vl rfl rfl rfl (Ev.assign rfl rfl) ?_
  refine RG.vl rfl rfl rfl (Ev.assign rfl rfl) ?_
  refine RG.done ?_
  refine QW.then_ ?_
  refine CW.seq ?_
  refine CW.region ?_
  refine RG.call rfl rfl rfl rfl rfl rfl rfl en_30 (rows_ret _) ?_
  rintro _ w9 ⟨rfl, hx9⟩
  replace hE3 := Ex.tr hE3 hx9
  replace hE8 := Ex.tr hE8 hx9
  have hE10 := hx9
  refine RG.vl rfl rfl rfl (Ev.mkFn rfl rfl rfl rfl rfl) ?_
  refine RG.call rfl rfl rfl rfl rfl rfl rfl en_33 (first_ret k s gK gT _ (hb1.ext hE8) (hb4.ext hE10)) ?_
  rintro _ w11 ⟨rfl, hx11⟩
  replace hE3 := Ex.tr hE3 hx11
  replace hE8 := Ex.tr hE8 hx11
  replace hE10 := Ex.tr hE10 hx11
  have hE12 := hx11
  refine RG.local_ rfl rfl rfl rfl (fun _ => rfl) rfl rfl (fun _ => rfl) inf_30 rfl rfl rfl (fun g13 w13 eg13 hx13 hb13 => ?_)
  have hle14 : w.heap.size ≤ g13 := by have := hE3.size; omega
  have hle15 : w1.heap.size ≤ g13 := by have := hE8.size; omega
  have hle16 : w4.heap.size ≤ g13 := by have := hE10.size; omega
  have hle17 : w9.heap.size ≤ g13 := by have := hE12.size; omega
  have hle18 : w11.heap.size ≤ g13 := by have := (Ex.rfl_ w11).size; omega
  have hlt19 : gK < g13 := by have := Blk.lt (hb1.ext hE8); omega
  have hlt20 : gT < g13 := by have := Blk.lt (hb4.ext hE10); omega
  replace hE3 := Ex.tr hE3 hx13
  replace hE8 := Ex.tr hE8 hx13
  replace hE10 := Ex.tr hE10 hx13
  replace hE12 := Ex.tr hE12 hx13
  refine RG.done ?_
  refine QW.then_ ?_
  refine CW.seq ?_
  refine CW.seq ?_
  refine CW.region ?_
  refine RG.vl rfl rfl rfl (Ev.ldAgg rfl rfl Try.underlying30 rfl sz_30 rfl (hb13.cells)) ?_
  refine RG.vl rfl rfl rfl (Ev.build1 rfl rfl rfl inf_30 rfl rfl (by kernel_rfl) rfl) ?_
  refine RG.vl rfl rfl rfl ((Ev.eqA rfl rfl rfl (by kernel_rfl)).conv (congrArg Value.bool (short_eq k s))) ?_
  refine RG.done ?_
  refine QW.then_ ?_
  refine CW.condP rfl (fun hc21 => ?_) (fun hc21 => ?_)
  · refine CW.seq ?_
    refine CW.region ?_
    refine RG.vl rfl rfl rfl (Ev.assign rfl rfl) ?_
    refine RG.vl rfl rfl rfl (Ev.assign rfl rfl) ?_
    refine RG.done ?_
    refine QW.then_ ?_
    refine CW.ret ?_
    refine QW.thenRet ?_
    refine QW.ret2 rfl rfl rfl ?_
    have hB := (Ex.tr hB0 hE3)
    exact ⟨(by unfold shortR; rw [if_pos (by assumption)]; first | done | rfl), hB⟩
  · refine CW.skip ?_
    refine QW.then_ ?_
    refine CW.seq ?_
    refine CW.region ?_
    refine RG.vl rfl rfl rfl (Ev.fld rfl rfl fld_30_2) ?_
    refine RG.vl rfl rfl rfl (Ev.ldAt rfl rfl Try.underlying9 rfl (hb13.cells) (rfl)) ?_
    refine RG.vl rfl rfl rfl (Ev.assign rfl rfl) ?_
    refine RG.vl rfl rfl rfl (Ev.assign rfl rfl) ?_
    refine RG.done ?_
    refine QW.sub (S' := [(4, _), (5, _)]) ⟨rfl, rfl, trivial⟩ ?_
    refine QW.then_ ?_
    refine CW.ret ?_
    refine QW.ret2 rfl rfl rfl ?_
    have hB := (Ex.tr hB0 hE3)
    exact ⟨(by unfold shortR; rw [if_neg (by assumption)]; first | done | rfl), hB⟩

set_option maxRecDepth 100000 in
set_option maxHeartbeats 1000000 in
theorem same_ret (k : Nat) (a b : List UInt8) (w : World)  :
    Ret Try.prog 12 [.int .u8 (k : Int), .string ⟨a.toArray⟩, .string ⟨b.toArray⟩] w (fun v w' => v = .bool (sameR k a b) ∧ Ex w w') := by
  have hla := longs_len k a
  have hlb := longs_len k b
  have hB0 : Ex w w := Ex.rfl_ _
  refine Ret.of Try.func12 rfl Try.ntmps12 rfl ?_
  refine CW.seq ?_
  refine CW.region ?_
  refine RG.vl rfl rfl rfl (Ev.assign rfl rfl) ?_
  refine RG.done ?_
  refine QW.then_ ?_
  refine CW.seq ?_
  refine CW.seq ?_
  refine CW.region ?_
  refine RG.vl rfl rfl rfl (Ev.move rfl rfl) ?_
  refine RG.vl rfl rfl rfl (Ev.move rfl rfl) ?_
  refine RG.vl rfl rfl rfl (Ev.eqS rfl rfl rfl) ?_
  refine RG.done ?_
  refine QW.then_ ?_
  refine CW.condP rfl (fun hc1 => ?_) (fun hc1 => ?_)
  · refine CW.seq ?_
    refine CW.region ?_
    refine RG.vl rfl rfl rfl (Ev.assign rfl rfl) ?_
    refine RG.done ?_
    refine QW.then_ ?_
    refine CW.ret ?_
    refine QW.thenRet ?_
    refine QW.ret1 rfl rfl ?_
    have hB := hB0
    refine ⟨congrArg Value.bool ?_, hB⟩
    unfold sameR
    rw [decide_eq_true (binj.1 (by assumption))]; rfl
  · refine CW.skip ?_
    refine QW.then_ ?_
    refine CW.seq ?_
    refine CW.region ?_
    refine RG.vl rfl rfl rfl (Ev.move rfl rfl) ?_
    refine RG.vl rfl rfl rfl (Ev.move rfl rfl) ?_
    refine RG.call rfl rfl rfl rfl rfl rfl rfl en_15 (longs_ret k b _) ?_
    have hpre2 := hB0
    rintro lv2 w2 ⟨hlv2, hx2⟩
    have hE3 := hx2
    refine RG.vl rfl rfl rfl (Ev.assign rfl rfl) ?_
    refine RG.done ?_
    refine QW.then_ ?_
    refine CW.seq ?_
    refine CW.seq ?_
    refine CW.region ?_
    refine RG.vl rfl rfl rfl (Ev.move rfl rfl) ?_
    refine RG.vl rfl rfl rfl (Ev.move rfl rfl) ?_
    refine RG.call rfl rfl rfl rfl rfl rfl rfl en_15 (longs_ret k a _) ?_
    have hpre4 := (Ex.tr hB0 hE3)
    rintro lv4 w4 ⟨hlv4, hx4⟩
    replace hE3 := Ex.tr hE3 hx4
    have hE5 := hx4
    refine RG.vl rfl rfl rfl (Ev.lenL rfl rfl rfl Try.underlying32 ((hlv4.rdl encT_len))) ?_
    refine RG.vl rfl rfl rfl (Ev.move rfl rfl) ?_
    refine RG.done ?_
    refine QW.then_ ?_
    refine CW.block ?_
    replace hlv2 := (Own.ext hlv2 hE5)
    have hR6 := (Ex.tr hB0 hE3)
    have hR7 := hE5
    refine CW.loop1 [(7, _), (18, _), (19, _)] ⟨rfl, rfl, rfl, trivial⟩ (fun (i : Nat) => [(20, .int .i64 i)]) (fun i w' => (i ≤ (longsR k a).length ∧ ∀ j x, j < i → (longsR k a)[j]? = some x → x ∉ longsR k b) ∧ Ex w4 w') (fun i => (longsR k a).length - i) (0) ⟨rfl, trivial⟩ ⟨⟨Nat.zero_le _, fun j x h => absurd h (by omega)⟩, (Ex.rfl_ _)⟩ ?_
    rintro i wl8 ⟨⟨hi, hno⟩, hxwl8⟩
    refine CW.sub (S' := [(20, _), (7, _), (18, _), (19, _)]) ⟨rfl, rfl, rfl, rfl, trivial⟩ ?_
    refine CW.seq ?_
    refine CW.region ?_
    refine RG.vl rfl rfl rfl (Ev.lss rfl rfl rfl) ?_
    refine RG.done ?_
    refine QW.then_ ?_
    refine CW.seq ?_
    refine CW.condP rfl (fun hc9 => ?_) (fun hc9 => ?_)
    · refine CW.skip ?_
      refine QW.then_ ?_
      refine CW.seq ?_
      refine CW.block ?_
      refine CW.seq ?_
      obtain ⟨x, hx⟩ : ∃ x, (longsR k a)[i]? = some x := ⟨_, List.getElem?_eq_getElem (by omega)⟩
      refine CW.region ?_
      refine RG.idxO rfl rfl rfl rfl rfl rfl Try.underlying32 sz_9 encT_len ((Own.ext hlv4 hxwl8)) (hx) (fun g11 hg11 hBg11 hp10b hp10 => ?_)
      refine RG.vl rfl rfl rfl (Ev.ld0 rfl rfl Try.underlying9 rfl (hp10) (rfl)) ?_
      refine RG.vl rfl rfl rfl (Ev.assign rfl rfl) ?_
      refine RG.done ?_
      refine QW.then_ ?_
      refine CW.seq ?_
      refine CW.region ?_
      refine RG.vl rfl rfl rfl (Ev.move rfl rfl) ?_
      refine RG.vl rfl rfl rfl (Ev.move rfl rfl) ?_
      refine RG.call rfl rfl rfl rfl rfl rfl rfl en_28 (has_ret _ _ _ _ (((Own.ext hlv2 hxwl8).rdl encT_len)) (by first | assumption | omega | simp)) ?_
      rintro _ w12 ⟨rfl, hx12⟩
      replace hxwl8 := Ex.tr hxwl8 hx12
      have hE13 := hx12
      refine RG.done ?_
      refine QW.then_ ?_
      refine CW.condP rfl (fun hc14 => ?_) (fun hc14 => ?_)
      · refine CW.seq ?_
        refine CW.region ?_
        refine RG.vl rfl rfl rfl (Ev.assign rfl rfl) ?_
        refine RG.done ?_
        refine QW.then_ ?_
        refine CW.ret ?_
        refine QW.blockR ?_
        refine QW.thenRet ?_
        refine QW.thenRet ?_
        refine QW.blockR ?_
        refine QW.thenRet ?_
        refine QW.ret1 rfl rfl ?_
        have hB := (Ex.tr hR6 hxwl8)
        refine ⟨congrArg Value.bool ?_, hB⟩
        unfold sameR
        rw [show (longsR k a).any (fun x => decide (x ∈ longsR k b)) = true from List.any_eq_true.2 ⟨x, List.mem_of_getElem? hx, decide_eq_true (by assumption)⟩, Bool.or_true]
      · refine CW.skip ?_
        refine QW.blockN ?_
        refine QW.then_ ?_
        refine CW.region ?_
        refine RG.vl rfl rfl rfl (Ev.addI rfl rfl rfl (by omega)) ?_
        refine RG.vl rfl rfl rfl (Ev.move rfl rfl) ?_
        refine RG.done ?_
        refine QW.round1 (i + 1) ⟨rfl, trivial⟩ ⟨rfl, rfl, rfl, trivial⟩ ⟨⟨by omega, fun j y hj hy => by rcases Nat.lt_or_ge j i with h | h; exact hno j y h hy; obtain rfl : j = i := (by omega); rw [hx] at hy; injection hy with hy; subst hy; assumption⟩, hxwl8⟩ (by omega)
    · refine CW.exit ?_
      refine QW.thenExit ?_
      refine QW.thenExit ?_
      refine QW.blockHit ?_
      refine QW.then_ ?_
      refine CW.seq ?_
      refine CW.region ?_
      refine RG.vl rfl rfl rfl (Ev.assign rfl rfl) ?_
      refine RG.done ?_
      refine QW.then_ ?_
      refine CW.ret ?_
      refine QW.ret1 rfl rfl ?_
      have hB := (Ex.tr hR6 hxwl8)
      refine ⟨congrArg Value.bool ?_, hB⟩
      unfold sameR
      rw [decide_eq_false (fun e => absurd (binj.2 e) (by assumption)), show (longsR k a).any (fun x => decide (x ∈ longsR k b)) = false from List.any_eq_false.2 (fun x hx => by obtain ⟨j, hj⟩ := List.mem_iff_getElem?.1 hx; simpa using hno j x (by have := (List.getElem?_eq_some_iff.1 hj).1; omega) hj)]; rfl

end Go.Proofs.Ytehlnkhbbnddmaa
