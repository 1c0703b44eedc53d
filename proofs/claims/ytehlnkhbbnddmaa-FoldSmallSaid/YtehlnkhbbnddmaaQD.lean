/- Walks (QD). Written by program. -/
import Derived.Test.YtehlnkhbbnddmaaT
import Derived.Test.YtehlnkhbbnddmaaQC
import Derived.Test.YtehlnkhbbnddmaaOG
namespace Go.Proofs.Ytehlnkhbbnddmaa
open Go.RowKit
set_option maxRecDepth 100000 in
set_option maxHeartbeats 4000000 in
theorem rlongs_ret (k : Nat) (s : List UInt8) (w : World)  :
    Ret Try.prog 39 [.int .u8 (k : Int), .string ⟨s.toArray⟩] w (fun v w' => Own w' w.heap.size 9 1 encT v (longsR k s) ∧ Ex w w') := by
  have ht40 := tab40
  have hB0 : Ex w w := Ex.rfl_ _
  refine Ret.of Try.func39 rfl Try.ntmps39 rfl ?_
  refine CW.seq ?_
  refine CW.region ?_
  refine RG.vl rfl rfl rfl (Ev.assign rfl rfl) ?_
  refine RG.done ?_
  refine QW.then_ ?_
  refine CW.seq ?_
  refine CW.region ?_
  refine RG.call rfl rfl rfl rfl rfl rfl rfl en_37 (rtable_ret _) ?_
  have hpre1 := hB0
  rintro tv w1 ⟨htb, hx1⟩
  have hE2 := hx1
  refine RG.vl rfl rfl rfl (Ev.assign rfl rfl) ?_
  refine RG.done ?_
  refine QW.then_ ?_
  refine CW.seq ?_
  refine CW.region ?_
  refine RG.vl rfl rfl rfl (Ev.assign rfl rfl) ?_
  refine RG.done ?_
  refine QW.then_ ?_
  refine CW.seq ?_
  refine CW.seq ?_
  refine CW.region ?_
  refine RG.vl rfl rfl rfl (Ev.assign rfl rfl) ?_
  refine RG.done ?_
  refine QW.then_ ?_
  refine CW.block ?_
  refine CW.loop2 [(0, _), (1, _), (4, _), (5, _)] ⟨rfl, rfl, rfl, rfl, trivial⟩ (fun (i : Nat) (u : Value) => [(7, .int .i64 (i : Int)), (6, u)]) (fun i u w' => (i ≤ 40 ∧ Own w' w.heap.size 9 1 encT u (once ((tab.take i).filter (hitL k s))) ∧ Own w' w.heap.size 55 3 Rw.c tv tab ∧ Sep u tv) ∧ Ex w w') (fun i u => 40 - i) (0) (.slice none 0 0) ⟨rfl, rfl, trivial⟩ ⟨⟨by omega, Own.nil_ _ _ _ _ _, htb, Sep.nil_ _⟩, (Ex.tr hB0 hE2)⟩ ?_
  rintro i u wl3 ⟨⟨hi, hv, htb, hsp⟩, hxwl3⟩
  refine CW.sub (S' := [(7, _), (6, _), (0, _), (1, _), (4, _), (5, _)]) ⟨rfl, rfl, rfl, rfl, rfl, rfl, trivial⟩ ?_
  refine CW.seq ?_
  refine CW.seq ?_
  refine CW.region ?_
  refine RG.vl rfl rfl rfl (Ev.move rfl rfl) ?_
  refine RG.vl rfl rfl rfl (Ev.move rfl rfl) ?_
  refine RG.vl rfl rfl rfl (Ev.lenL rfl rfl rfl Try.underlying53 ((htb.rdl Rw.c_len))) ?_
  refine RG.vl rfl rfl rfl (Ev.lss rfl rfl rfl) ?_
  refine RG.done ?_
  refine QW.then_ ?_
  refine CW.condP rfl (fun hc4 => ?_) (fun hc4 => ?_)
  · refine CW.skip ?_
    refine QW.then_ ?_
    refine CW.seq ?_
    refine CW.block ?_
    refine CW.seq ?_
    obtain ⟨r, hr⟩ : ∃ r, tab[i]? = some r := ⟨_, List.getElem?_eq_getElem (by rw [tab40]; omega)⟩
    have hrk := tab_k r (List.mem_of_getElem? hr)
    have hll := lg_len k s i
    refine CW.region ?_
    refine RG.vl rfl rfl rfl (Ev.move rfl rfl) ?_
    refine RG.vl rfl rfl rfl (Ev.move rfl rfl) ?_
    refine RG.idxO rfl rfl rfl rfl rfl rfl Try.underlying53 sz_55 Rw.c_len (htb) (hr) (fun g6 hg6 hBg6 hp5b hp5 => ?_)
    refine RG.vl rfl rfl rfl (Ev.ldAgg rfl rfl Try.underlying55 rfl sz_55 rfl (hp5)) ?_
    refine RG.vl rfl rfl rfl (Ev.move rfl rfl) ?_
    refine RG.vl rfl rfl rfl (Ev.move rfl rfl) ?_
    refine RG.call rfl rfl rfl rfl rfl rfl rfl en_48 (of_ret r k s _) ?_
    rintro _ w7 ⟨rfl, hx7⟩
    replace hxwl3 := Ex.tr hxwl3 hx7
    have hE8 := hx7
    refine RG.vl rfl rfl rfl (Ev.move rfl rfl) ?_
    refine RG.splitB (d := 22) rfl (fun hg9 => ?_) (fun hg9 => ?_)
    · refine RG.vl rfl rfl rfl (Ev.move rfl rfl) ?_
      refine RG.vl rfl rfl rfl (Ev.move rfl rfl) ?_
      refine RG.vl rfl rfl rfl (Ev.move rfl rfl) ?_
      refine RG.idxO rfl rfl rfl rfl rfl rfl Try.underlying53 sz_55 Rw.c_len ((Own.ext htb hE8)) (hr) (fun g11 hg11 hBg11 hp10b hp10 => ?_)
      refine RG.vl rfl rfl rfl (Ev.fld rfl rfl fld_55_1) ?_
      refine RG.vl rfl rfl rfl (Ev.ldAt rfl rfl Try.underlying9 rfl (hp10) (rfl)) ?_
      refine RG.call rfl rfl rfl rfl rfl rfl rfl en_49 (rin_ret _ (once ((tab.take i).filter (hitL k s))) r.lo _ (((Own.ext hv hE8).rdl encT_len)) (by omega)) ?_
      rintro _ w12 ⟨rfl, hx12⟩
      replace hxwl3 := Ex.tr hxwl3 hx12
      replace hE8 := Ex.tr hE8 hx12
      have hE13 := hx12
      refine RG.vl rfl rfl rfl (Ev.not rfl rfl) ?_
      refine RG.vl rfl rfl rfl (Ev.pickT rfl rfl rfl) ?_
      refine RG.done ?_
      refine QW.sub (S' := [(0, _), (1, _), (4, _), (5, _), (6, _), (7, _), (31, _)]) ⟨rfl, rfl, rfl, rfl, rfl, rfl, rfl, trivial⟩ ?_
      refine QW.then_ ?_
      refine CW.cond rfl (fun hc14 => ?_) (fun hc14 => ?_)
      · have hm : r.lo ∉ (once ((tab.take i).filter (hitL k s))) := by simpa using (show (!decide (r.lo ∈ (once ((tab.take i).filter (hitL k s))))) = true by assumption)
        refine CW.region ?_
        refine RG.vl rfl rfl rfl (Ev.move rfl rfl) ?_
        refine RG.vl rfl rfl rfl (Ev.move rfl rfl) ?_
        refine RG.vl rfl rfl rfl (Ev.move rfl rfl) ?_
        refine RG.idxO rfl rfl rfl rfl rfl rfl Try.underlying53 sz_55 Rw.c_len ((Own.ext htb hE8)) (hr) (fun g16 hg16 hBg16 hp15b hp15 => ?_)
        refine RG.vl rfl rfl rfl (Ev.fld rfl rfl fld_55_1) ?_
        refine RG.vl rfl rfl rfl (Ev.ldAt rfl rfl Try.underlying9 rfl (hp15) (rfl)) ?_
        refine RG.litO (os := [.tmp 37]) (enc := encT) ([r.lo]) rfl rfl rfl rfl rfl rfl rfl Try.underlying32 inf_9 rfl rfl rfl rfl rfl encT_len rfl rfl (fun v17 wk18 hxwk18 hown19 hnew20 => ?_)
        have hsep21 : Sep v17 _ := Sep.of_new (Own.ext hv hE8) hnew20
        have hsep22 : Sep v17 _ := Sep.of_new (Own.ext htb hE8) hnew20
        replace hxwl3 := Ex.tr hxwl3 hxwk18
        replace hE8 := Ex.tr hE8 hxwk18
        replace hE13 := Ex.tr hE13 hxwk18
        have hE23 := hxwk18
        refine RG.appO rfl rfl rfl rfl rfl rfl rfl Try.underlying32 inf_9 rfl rfl encT_len (fun _ => rfl) (Own.ext hv hE8) ((hown19.rdl encT_len)) (by show _ + 1 ≤ maxLen; simp only [maxLen]; omega) (by show (_ + 1) * _ ≤ _; omega) (hxwl3.size) (fun v24 wa25 hown26 hgr27 hat28 => ?_)
        have hsep30 := Sep.app hsp (Own.ext htb hE8) hat28
        have hown29 := Own.grown (Own.ext htb hE8) hgr27 (fun k a b => hsp k b a)
        have hsep32 := Sep.app (Sep.symm hsep21) hown19 hat28
        have hown31 := Own.grown hown19 hgr27 (fun k a b => (Sep.symm hsep21) k b a)
        replace hxwl3 := own_block (Own.ext hv hE8) hxwl3 hgr27 (Nat.le_refl _) hxwl3.size
        refine RG.vl rfl rfl rfl (Ev.assign rfl rfl) ?_
        refine RG.done ?_
        refine QW.blockN ?_
        refine QW.then_ ?_
        refine CW.region ?_
        refine RG.vl rfl rfl rfl (Ev.move rfl rfl) ?_
        refine RG.vl rfl rfl rfl (Ev.addI rfl rfl rfl (by omega)) ?_
        refine RG.vl rfl rfl rfl (Ev.assign rfl rfl) ?_
        refine RG.done ?_
        refine QW.round2 (i + 1) (v24) ⟨rfl, rfl, trivial⟩ ⟨rfl, rfl, rfl, rfl, trivial⟩ ⟨⟨by omega, by rw [lg_out hr (by assumption) hm]; exact hown26, hown29, hsep30⟩, (Ex.tr hB0 hxwl3)⟩ (by omega)
      · refine CW.skip ?_
        refine QW.blockN ?_
        refine QW.then_ ?_
        have hlg : once ((tab.take (i + 1)).filter (hitL k s)) = (once ((tab.take i).filter (hitL k s))) := by
          first
            | exact lg_no hr (by assumption)
            | exact lg_in hr (by assumption) (by simpa using (show (!decide (r.lo ∈ (once ((tab.take i).filter (hitL k s))))) = false by assumption))
        refine CW.region ?_
        refine RG.vl rfl rfl rfl (Ev.move rfl rfl) ?_
        refine RG.vl rfl rfl rfl (Ev.addI rfl rfl rfl (by omega)) ?_
        refine RG.vl rfl rfl rfl (Ev.assign rfl rfl) ?_
        refine RG.done ?_
        refine QW.round2 (i + 1) (u) ⟨rfl, rfl, trivial⟩ ⟨rfl, rfl, rfl, rfl, trivial⟩ ⟨⟨by omega, by rw [hlg]; exact (Own.ext hv hE8), (Own.ext htb hE8), hsp⟩, (Ex.tr hB0 hxwl3)⟩ (by omega)
    · refine RG.pass rfl rfl rfl ?_
      refine RG.pass rfl rfl rfl ?_
      refine RG.pass rfl rfl rfl ?_
      refine RG.pass rfl rfl rfl ?_
      refine RG.pass rfl rfl rfl ?_
      refine RG.pass rfl rfl rfl ?_
      refine RG.pass rfl rfl rfl ?_
      refine RG.pass rfl rfl rfl ?_
      refine RG.vl rfl rfl rfl (Ev.pickF rfl rfl rfl) ?_
      refine RG.done ?_
      refine QW.sub (S' := [(0, _), (1, _), (4, _), (5, _), (6, _), (7, _), (31, _)]) ⟨rfl, rfl, rfl, rfl, rfl, rfl, rfl, trivial⟩ ?_
      refine QW.then_ ?_
      refine CW.condF rfl ?_
      refine CW.skip ?_
      refine QW.blockN ?_
      refine QW.then_ ?_
      have hlg : once ((tab.take (i + 1)).filter (hitL k s)) = (once ((tab.take i).filter (hitL k s))) := by
        first
          | exact lg_no hr (by assumption)
          | exact lg_in hr (by assumption) (by simpa using (show (!decide (r.lo ∈ (once ((tab.take i).filter (hitL k s))))) = false by assumption))
      refine CW.region ?_
      refine RG.vl rfl rfl rfl (Ev.move rfl rfl) ?_
      refine RG.vl rfl rfl rfl (Ev.addI rfl rfl rfl (by omega)) ?_
      refine RG.vl rfl rfl rfl (Ev.assign rfl rfl) ?_
      refine RG.done ?_
      refine QW.round2 (i + 1) (u) ⟨rfl, rfl, trivial⟩ ⟨rfl, rfl, rfl, rfl, trivial⟩ ⟨⟨by omega, by rw [hlg]; exact (Own.ext hv hE8), (Own.ext htb hE8), hsp⟩, (Ex.tr hB0 hxwl3)⟩ (by omega)
  · refine CW.exit ?_
    refine QW.thenExit ?_
    refine QW.thenExit ?_
    refine QW.blockHit ?_
    refine QW.then_ ?_
    refine CW.seq ?_
    refine CW.region ?_
    refine RG.vl rfl rfl rfl (Ev.move rfl rfl) ?_
    refine RG.vl rfl rfl rfl (Ev.assign rfl rfl) ?_
    refine RG.done ?_
    refine QW.then_ ?_
    refine CW.ret ?_
    refine QW.ret1 rfl rfl ?_
    have hB := (Ex.tr hB0 hxwl3)
    obtain rfl : i = 40 := by omega
    rw [lg_end] at hv
    exact ⟨hv, hB⟩

set_option maxRecDepth 100000 in
set_option maxHeartbeats 4000000 in
theorem rshort_ret (k : Nat) (s : List UInt8) (w : World)  :
    Ret Try.prog 38 [.int .u8 (k : Int), .string ⟨s.toArray⟩] w (fun v w' => v = .tuple #[.string ⟨(shortR k s).1.toArray⟩, .bool (shortR k s).2] ∧ Ex w w') := by
  have ht40 := tab40
  have hB0 : Ex w w := Ex.rfl_ _
  refine Ret.of Try.func38 rfl Try.ntmps38 rfl ?_
  refine CW.seq ?_
  refine CW.region ?_
  refine RG.vl rfl rfl rfl (Ev.assign rfl rfl) ?_
  refine RG.vl rfl rfl rfl (Ev.assign rfl rfl) ?_
  refine RG.done ?_
  refine QW.then_ ?_
  refine CW.seq ?_
  refine CW.region ?_
  refine RG.call rfl rfl rfl rfl rfl rfl rfl en_37 (rtable_ret _) ?_
  have hpre1 := hB0
  rintro rt1 w1 ⟨hrt1, hx1⟩
  have hE2 := hx1
  refine RG.vl rfl rfl rfl (Ev.assign rfl rfl) ?_
  refine RG.done ?_
  refine QW.then_ ?_
  refine CW.seq ?_
  refine CW.seq ?_
  refine CW.region ?_
  refine RG.vl rfl rfl rfl (Ev.assign rfl rfl) ?_
  refine RG.done ?_
  refine QW.then_ ?_
  refine CW.block ?_
  have hR3 := (Ex.tr hB0 hE2)
  refine CW.loop1 [(0, _), (1, _), (6, _)] ⟨rfl, rfl, rfl, trivial⟩ (fun (i : Nat) => [(7, .int .i64 (i : Int))]) (fun i w' => (i ≤ 40 ∧ ∀ (j : Nat) (r : Rw), j < i → tab[j]? = some r → hitS k s r = false) ∧ Ex w1 w') (fun i => 40 - i) (0) ⟨rfl, trivial⟩ ⟨⟨by omega, fun j r h => absurd h (by omega)⟩, (Ex.rfl_ _)⟩ ?_
  rintro i wl4 ⟨⟨hi, hno⟩, hxwl4⟩
  refine CW.sub (S' := [(7, _), (0, _), (1, _), (6, _)]) ⟨rfl, rfl, rfl, rfl, trivial⟩ ?_
  refine CW.seq ?_
  refine CW.seq ?_
  refine CW.region ?_
  refine RG.vl rfl rfl rfl (Ev.move rfl rfl) ?_
  refine RG.vl rfl rfl rfl (Ev.move rfl rfl) ?_
  refine RG.vl rfl rfl rfl (Ev.lenL rfl rfl rfl Try.underlying53 (((Own.ext hrt1 hxwl4).rdl Rw.c_len))) ?_
  refine RG.vl rfl rfl rfl (Ev.lss rfl rfl rfl) ?_
  refine RG.done ?_
  refine QW.then_ ?_
  refine CW.condP rfl (fun hc5 => ?_) (fun hc5 => ?_)
  · refine CW.skip ?_
    refine QW.then_ ?_
    refine CW.seq ?_
    refine CW.block ?_
    refine CW.seq ?_
    obtain ⟨r, hr⟩ : ∃ r, tab[i]? = some r := ⟨_, List.getElem?_eq_getElem (by rw [tab40]; omega)⟩
    have hrk := tab_k r (List.mem_of_getElem? hr)
    refine CW.region ?_
    refine RG.vl rfl rfl rfl (Ev.move rfl rfl) ?_
    refine RG.vl rfl rfl rfl (Ev.eqI rfl rfl rfl) ?_
    refine RG.vl rfl rfl rfl (Ev.move rfl rfl) ?_
    refine RG.split (d := 17) rfl (fun hg6 => ?_) (fun hg6 => ?_)
    · refine RG.pass rfl rfl rfl ?_
      refine RG.pass rfl rfl rfl ?_
      refine RG.pass rfl rfl rfl ?_
      refine RG.pass rfl rfl rfl ?_
      refine RG.pass rfl rfl rfl ?_
      refine RG.pass rfl rfl rfl ?_
      refine RG.pass rfl rfl rfl ?_
      refine RG.vl rfl rfl rfl (Ev.pickT rfl rfl rfl) ?_
      refine RG.vl rfl rfl rfl (Ev.move rfl rfl) ?_
      refine RG.vl rfl rfl rfl (Ev.move rfl rfl) ?_
      refine RG.vl rfl rfl rfl (Ev.move rfl rfl) ?_
      refine RG.idxO rfl rfl rfl rfl rfl rfl Try.underlying53 sz_55 Rw.c_len ((Own.ext hrt1 hxwl4)) (hr) (fun g8 hg8 hBg8 hp7b hp7 => ?_)
      refine RG.vl rfl rfl rfl (Ev.fld rfl rfl fld_55_1) ?_
      refine RG.vl rfl rfl rfl (Ev.ldAt rfl rfl Try.underlying9 rfl (hp7) (rfl)) ?_
      refine RG.vl rfl rfl rfl (Ev.move rfl rfl) ?_
      refine RG.vl rfl rfl rfl (Ev.eqS rfl rfl rfl) ?_
      refine RG.vl rfl rfl rfl (Ev.pickT rfl rfl rfl) ?_
      refine RG.done ?_
      refine QW.sub (S' := [(0, _), (1, _), (6, _), (7, _), (34, _)]) ⟨rfl, rfl, rfl, rfl, rfl, trivial⟩ ?_
      refine QW.then_ ?_
      refine CW.condP rfl (fun hc9 => ?_) (fun hc9 => ?_)
      · refine CW.seq ?_
        refine CW.region ?_
        refine RG.vl rfl rfl rfl (Ev.move rfl rfl) ?_
        refine RG.vl rfl rfl rfl (Ev.move rfl rfl) ?_
        refine RG.idxO rfl rfl rfl rfl rfl rfl Try.underlying53 sz_55 Rw.c_len ((Own.ext hrt1 hxwl4)) (hr) (fun g11 hg11 hBg11 hp10b hp10 => ?_)
        refine RG.vl rfl rfl rfl (Ev.fld rfl rfl fld_55_2) ?_
        refine RG.vl rfl rfl rfl (Ev.ldAt rfl rfl Try.underlying9 rfl (hp10) (rfl)) ?_
        refine RG.vl rfl rfl rfl (Ev.assign rfl rfl) ?_
        refine RG.vl rfl rfl rfl (Ev.assign rfl rfl) ?_
        refine RG.done ?_
        refine QW.then_ ?_
        refine CW.ret ?_
        refine QW.blockR ?_
        refine QW.thenRet ?_
        refine QW.thenRet ?_
        refine QW.blockR ?_
        refine QW.thenRet ?_
        refine QW.ret2 rfl rfl rfl ?_
        have hB := (Ex.tr hR3 hxwl4)
        have hh : hitS k s r = true := decide_eq_true ⟨by omega, binj.1 (by assumption)⟩
        exact ⟨by unfold shortR firstR; rw [find_at (hitS k s) tab i r hr hh hno]; show _ = Value.tuple #[.string ⟨(if r.k = 0 then (([] : List UInt8), false) else (r.sh, true)).1.toArray⟩, .bool (if r.k = 0 then (([] : List UInt8), false) else (r.sh, true)).2]; rw [if_neg (by omega)], hB⟩
      · refine CW.skip ?_
        refine QW.blockN ?_
        refine QW.then_ ?_
        refine CW.region ?_
        refine RG.vl rfl rfl rfl (Ev.move rfl rfl) ?_
        refine RG.vl rfl rfl rfl (Ev.addI rfl rfl rfl (by omega)) ?_
        refine RG.vl rfl rfl rfl (Ev.assign rfl rfl) ?_
        refine RG.done ?_
        refine QW.round1 (i + 1) ⟨rfl, trivial⟩ ⟨rfl, rfl, rfl, trivial⟩ ⟨⟨by omega, fun j r' hj hr' => by rcases Nat.lt_or_ge j i with h | h; exact hno j r' h hr'; obtain rfl : j = i := (by omega); rw [hr] at hr'; injection hr' with hr'; subst hr'; exact decide_eq_false (fun h => by first | (rcases h.1 with e | e <;> omega) | exact absurd (binj.2 h.2) (by assumption))⟩, hxwl4⟩ (by omega)
    · refine RG.vl rfl rfl rfl (Ev.move rfl rfl) ?_
      refine RG.vl rfl rfl rfl (Ev.move rfl rfl) ?_
      refine RG.idxO rfl rfl rfl rfl rfl rfl Try.underlying53 sz_55 Rw.c_len ((Own.ext hrt1 hxwl4)) (hr) (fun g13 hg13 hBg13 hp12b hp12 => ?_)
      refine RG.vl rfl rfl rfl (Ev.fld rfl rfl fld_55_0) ?_
      refine RG.vl rfl rfl rfl (Ev.ldAt rfl rfl Try.underlying5 rfl (hp12) (rfl)) ?_
      refine RG.vl rfl rfl rfl (Ev.move rfl rfl) ?_
      refine RG.vl rfl rfl rfl (Ev.eqI rfl rfl rfl) ?_
      refine RG.vl rfl rfl rfl (Ev.pickF rfl rfl rfl) ?_
      refine RG.vl rfl rfl rfl (Ev.move rfl rfl) ?_
      refine RG.split (d := 26) rfl (fun hg14 => ?_) (fun hg14 => ?_)
      · refine RG.vl rfl rfl rfl (Ev.move rfl rfl) ?_
        refine RG.vl rfl rfl rfl (Ev.move rfl rfl) ?_
        refine RG.idxO rfl rfl rfl rfl rfl rfl Try.underlying53 sz_55 Rw.c_len ((Own.ext hrt1 hxwl4)) (hr) (fun g16 hg16 hBg16 hp15b hp15 => ?_)
        refine RG.vl rfl rfl rfl (Ev.fld rfl rfl fld_55_1) ?_
        refine RG.vl rfl rfl rfl (Ev.ldAt rfl rfl Try.underlying9 rfl (hp15) (rfl)) ?_
        refine RG.vl rfl rfl rfl (Ev.move rfl rfl) ?_
        refine RG.vl rfl rfl rfl (Ev.eqS rfl rfl rfl) ?_
        refine RG.vl rfl rfl rfl (Ev.pickT rfl rfl rfl) ?_
        refine RG.done ?_
        refine QW.sub (S' := [(0, _), (1, _), (6, _), (7, _), (34, _)]) ⟨rfl, rfl, rfl, rfl, rfl, trivial⟩ ?_
        refine QW.then_ ?_
        refine CW.condP rfl (fun hc17 => ?_) (fun hc17 => ?_)
        · refine CW.seq ?_
          refine CW.region ?_
          refine RG.vl rfl rfl rfl (Ev.move rfl rfl) ?_
          refine RG.vl rfl rfl rfl (Ev.move rfl rfl) ?_
          refine RG.idxO rfl rfl rfl rfl rfl rfl Try.underlying53 sz_55 Rw.c_len ((Own.ext hrt1 hxwl4)) (hr) (fun g19 hg19 hBg19 hp18b hp18 => ?_)
          refine RG.vl rfl rfl rfl (Ev.fld rfl rfl fld_55_2) ?_
          refine RG.vl rfl rfl rfl (Ev.ldAt rfl rfl Try.underlying9 rfl (hp18) (rfl)) ?_
          refine RG.vl rfl rfl rfl (Ev.assign rfl rfl) ?_
          refine RG.vl rfl rfl rfl (Ev.assign rfl rfl) ?_
          refine RG.done ?_
          refine QW.then_ ?_
          refine CW.ret ?_
          refine QW.blockR ?_
          refine QW.thenRet ?_
          refine QW.thenRet ?_
          refine QW.blockR ?_
          refine QW.thenRet ?_
          refine QW.ret2 rfl rfl rfl ?_
          have hB := (Ex.tr hR3 hxwl4)
          have hh : hitS k s r = true := decide_eq_true ⟨by omega, binj.1 (by assumption)⟩
          exact ⟨by unfold shortR firstR; rw [find_at (hitS k s) tab i r hr hh hno]; show _ = Value.tuple #[.string ⟨(if r.k = 0 then (([] : List UInt8), false) else (r.sh, true)).1.toArray⟩, .bool (if r.k = 0 then (([] : List UInt8), false) else (r.sh, true)).2]; rw [if_neg (by omega)], hB⟩
        · refine CW.skip ?_
          refine QW.blockN ?_
          refine QW.then_ ?_
          refine CW.region ?_
          refine RG.vl rfl rfl rfl (Ev.move rfl rfl) ?_
          refine RG.vl rfl rfl rfl (Ev.addI rfl rfl rfl (by omega)) ?_
          refine RG.vl rfl rfl rfl (Ev.assign rfl rfl) ?_
          refine RG.done ?_
          refine QW.round1 (i + 1) ⟨rfl, trivial⟩ ⟨rfl, rfl, rfl, trivial⟩ ⟨⟨by omega, fun j r' hj hr' => by rcases Nat.lt_or_ge j i with h | h; exact hno j r' h hr'; obtain rfl : j = i := (by omega); rw [hr] at hr'; injection hr' with hr'; subst hr'; exact decide_eq_false (fun h => by first | (rcases h.1 with e | e <;> omega) | exact absurd (binj.2 h.2) (by assumption))⟩, hxwl4⟩ (by omega)
      · refine RG.pass rfl rfl rfl ?_
        refine RG.pass rfl rfl rfl ?_
        refine RG.pass rfl rfl rfl ?_
        refine RG.pass rfl rfl rfl ?_
        refine RG.pass rfl rfl rfl ?_
        refine RG.pass rfl rfl rfl ?_
        refine RG.pass rfl rfl rfl ?_
        refine RG.vl rfl rfl rfl (Ev.pickF rfl rfl rfl) ?_
        refine RG.done ?_
        refine QW.sub (S' := [(0, _), (1, _), (6, _), (7, _), (34, _)]) ⟨rfl, rfl, rfl, rfl, rfl, trivial⟩ ?_
        refine QW.then_ ?_
        refine CW.condF rfl ?_
        refine CW.skip ?_
        refine QW.blockN ?_
        refine QW.then_ ?_
        refine CW.region ?_
        refine RG.vl rfl rfl rfl (Ev.move rfl rfl) ?_
        refine RG.vl rfl rfl rfl (Ev.addI rfl rfl rfl (by omega)) ?_
        refine RG.vl rfl rfl rfl (Ev.assign rfl rfl) ?_
        refine RG.done ?_
        refine QW.round1 (i + 1) ⟨rfl, trivial⟩ ⟨rfl, rfl, rfl, trivial⟩ ⟨⟨by omega, fun j r' hj hr' => by rcases Nat.lt_or_ge j i with h | h; exact hno j r' h hr'; obtain rfl : j = i := (by omega); rw [hr] at hr'; injection hr' with hr'; subst hr'; exact decide_eq_false (fun h => by first | (rcases h.1 with e | e <;> omega) | exact absurd (binj.2 h.2) (by assumption))⟩, hxwl4⟩ (by omega)
  · refine CW.exit ?_
    refine QW.thenExit ?_
    refine QW.thenExit ?_
    refine QW.blockHit ?_
    refine QW.then_ ?_
    refine CW.seq ?_
    refine CW.region ?_
    refine RG.vl rfl rfl rfl (Ev.assign rfl rfl) ?_
    refine RG.vl rfl rfl rfl (Ev.assign rfl rfl) ?_
    refine RG.done ?_
    refine QW.then_ ?_
    refine CW.ret ?_
    refine QW.ret2 rfl rfl rfl ?_
    have hB := (Ex.tr hR3 hxwl4)
    exact ⟨by unfold shortR firstR; rw [find_none (hitS k s) tab (fun j r hr => hno j r (by have := (List.getElem?_eq_some_iff.1 hr).1; omega) hr)]; rfl, hB⟩

set_option maxRecDepth 100000 in
set_option maxHeartbeats 4000000 in
theorem rkinds_ret (s : List UInt8) (w : World)  :
    Ret Try.prog 40 [.string ⟨s.toArray⟩] w (fun v w' => v = .int .u8 (kindsR s : Nat) ∧ Ex w w') := by
  have ht40 := tab40
  have hB0 : Ex w w := Ex.rfl_ _
  refine Ret.of Try.func40 rfl Try.ntmps40 rfl ?_
  refine CW.seq ?_
  refine CW.region ?_
  refine RG.vl rfl rfl rfl (Ev.assign rfl rfl) ?_
  refine RG.done ?_
  refine QW.then_ ?_
  refine CW.seq ?_
  refine CW.region ?_
  refine RG.call rfl rfl rfl rfl rfl rfl rfl en_37 (rtable_ret _) ?_
  have hpre1 := hB0
  rintro rt1 w1 ⟨hrt1, hx1⟩
  have hE2 := hx1
  refine RG.vl rfl rfl rfl (Ev.assign rfl rfl) ?_
  refine RG.done ?_
  refine QW.then_ ?_
  refine CW.seq ?_
  refine CW.region ?_
  refine RG.vl rfl rfl rfl (Ev.assign rfl rfl) ?_
  refine RG.done ?_
  refine QW.then_ ?_
  refine CW.seq ?_
  refine CW.region ?_
  refine RG.vl rfl rfl rfl (Ev.assign rfl rfl) ?_
  refine RG.done ?_
  refine QW.then_ ?_
  refine CW.seq ?_
  refine CW.seq ?_
  refine CW.region ?_
  refine RG.vl rfl rfl rfl (Ev.assign rfl rfl) ?_
  refine RG.done ?_
  refine QW.then_ ?_
  refine CW.block ?_
  have hR3 := (Ex.tr hB0 hE2)
  refine CW.loop1 [(0, _), (2, _), (3, _)] ⟨rfl, rfl, rfl, trivial⟩ (fun (q : Nat) => [(6, .int .u8 ((q + 1 : Nat) : Int)), (4, .int .u8 ((sumK s tab q : Nat) : Int)), (5, .int .u8 ((2 ^ (q + 1) : Nat) : Int))]) (fun q w' => (q ≤ 5) ∧ Ex w1 w') (fun q => 5 - q) (0) ⟨rfl, rfl, rfl, trivial⟩ ⟨Nat.zero_le _, (Ex.rfl_ _)⟩ ?_
  rintro q wl4 ⟨hq, hxwl4⟩
  refine CW.sub (S' := [(6, _), (4, _), (5, _), (0, _), (2, _), (3, _)]) ⟨rfl, rfl, rfl, rfl, rfl, rfl, trivial⟩ ?_
  refine CW.seq ?_
  refine CW.seq ?_
  refine CW.region ?_
  refine RG.vl rfl rfl rfl (Ev.move rfl rfl) ?_
  refine RG.vl rfl rfl rfl (Ev.leq rfl rfl rfl) ?_
  refine RG.done ?_
  refine QW.then_ ?_
  refine CW.condP rfl (fun hc5 => ?_) (fun hc5 => ?_)
  · refine CW.skip ?_
    refine QW.then_ ?_
    refine CW.seq ?_
    refine CW.block ?_
    refine CW.seq ?_
    have hpw : 2 ^ (q + 1) ≤ 32 := Nat.pow_le_pow_right (by decide) (show q + 1 ≤ 5 by omega)
    have hsk := sumK_lt s tab q
    have hps : 2 ^ (q + 1 + 1) = 2 ^ (q + 1) * 2 := Nat.pow_succ ..
    refine CW.region ?_
    refine RG.vl rfl rfl rfl (Ev.assign rfl rfl) ?_
    refine RG.done ?_
    refine QW.then_ ?_
    refine CW.seq ?_
    refine CW.seq ?_
    refine CW.region ?_
    refine RG.vl rfl rfl rfl (Ev.assign rfl rfl) ?_
    refine RG.done ?_
    refine QW.then_ ?_
    refine CW.block ?_
    replace hrt1 := (Own.ext hrt1 hxwl4)
    have hR6 := (Ex.tr hR3 hxwl4)
    have hR7 := hxwl4
    refine CW.loop1 [(0, _), (2, _), (3, _), (4, _), (5, _), (6, _)] ⟨rfl, rfl, rfl, rfl, rfl, rfl, trivial⟩ (fun (i : Nat) => [(8, .int .i64 (i : Int)), (7, .bool ((tab.take i).any (hitL (q + 1) s)))]) (fun i w' => (i ≤ 40) ∧ Ex wl4 w') (fun i => 40 - i) (0) ⟨rfl, rfl, trivial⟩ ⟨by omega, (Ex.rfl_ _)⟩ ?_
    rintro i wl8 ⟨hi, hxwl8⟩
    refine CW.sub (S' := [(8, _), (7, _), (0, _), (2, _), (3, _), (4, _), (5, _), (6, _)]) ⟨rfl, rfl, rfl, rfl, rfl, rfl, rfl, rfl, trivial⟩ ?_
    refine CW.seq ?_
    refine CW.seq ?_
    refine CW.region ?_
    refine RG.vl rfl rfl rfl (Ev.move rfl rfl) ?_
    refine RG.vl rfl rfl rfl (Ev.move rfl rfl) ?_
    refine RG.vl rfl rfl rfl (Ev.lenL rfl rfl rfl Try.underlying53 (((Own.ext hrt1 hxwl8).rdl Rw.c_len))) ?_
    refine RG.vl rfl rfl rfl (Ev.lss rfl rfl rfl) ?_
    refine RG.done ?_
    refine QW.then_ ?_
    refine CW.condP rfl (fun hc9 => ?_) (fun hc9 => ?_)
    · refine CW.skip ?_
      refine QW.then_ ?_
      refine CW.seq ?_
      refine CW.block ?_
      obtain ⟨r, hr⟩ : ∃ r, tab[i]? = some r := ⟨_, List.getElem?_eq_getElem (by rw [tab40]; omega)⟩
      have hrk := tab_k r (List.mem_of_getElem? hr)
      refine CW.region ?_
      refine RG.vl rfl rfl rfl (Ev.move rfl rfl) ?_
      refine RG.vl rfl rfl rfl (Ev.move rfl rfl) ?_
      refine RG.splitB (d := 21) rfl (fun hg10 => ?_) (fun hg10 => ?_)
      · refine RG.pass rfl rfl rfl ?_
        refine RG.pass rfl rfl rfl ?_
        refine RG.pass rfl rfl rfl ?_
        refine RG.pass rfl rfl rfl ?_
        refine RG.pass rfl rfl rfl ?_
        refine RG.pass rfl rfl rfl ?_
        refine RG.pass rfl rfl rfl ?_
        refine RG.vl rfl rfl rfl (Ev.pickT rfl rfl rfl) ?_
        refine RG.vl rfl rfl rfl (Ev.assign rfl rfl) ?_
        refine RG.done ?_
        refine QW.sub (S' := [(0, _), (2, _), (3, _), (4, _), (5, _), (6, _), (7, _), (8, _)]) ⟨rfl, rfl, rfl, rfl, rfl, rfl, rfl, rfl, trivial⟩ ?_
        refine QW.blockN ?_
        refine QW.then_ ?_
        refine CW.region ?_
        refine RG.vl rfl rfl rfl (Ev.move rfl rfl) ?_
        refine RG.vl rfl rfl rfl (Ev.addI rfl rfl rfl (by omega)) ?_
        refine RG.vl rfl rfl rfl (Ev.assign rfl rfl) ?_
        refine RG.done ?_
        refine QW.round1 (i + 1) ⟨rfl, by rw [hasK_more hr]; first | (rw [show ((tab.take i).any (hitL (q + 1) s)) = true by assumption]; rfl) | (rw [show ((tab.take i).any (hitL (q + 1) s)) = false by assumption]; rfl), trivial⟩ ⟨rfl, rfl, rfl, rfl, rfl, rfl, trivial⟩ ⟨by omega, hxwl8⟩ (by omega)
      · refine RG.vl rfl rfl rfl (Ev.move rfl rfl) ?_
        refine RG.vl rfl rfl rfl (Ev.move rfl rfl) ?_
        refine RG.idxO rfl rfl rfl rfl rfl rfl Try.underlying53 sz_55 Rw.c_len ((Own.ext hrt1 hxwl8)) (hr) (fun g12 hg12 hBg12 hp11b hp11 => ?_)
        refine RG.vl rfl rfl rfl (Ev.ldAgg rfl rfl Try.underlying55 rfl sz_55 rfl (hp11)) ?_
        refine RG.vl rfl rfl rfl (Ev.move rfl rfl) ?_
        refine RG.vl rfl rfl rfl (Ev.move rfl rfl) ?_
        refine RG.call rfl rfl rfl rfl rfl rfl rfl en_48 (of_ret r (q + 1) s _) ?_
        rintro _ w13 ⟨rfl, hx13⟩
        replace hxwl8 := Ex.tr hxwl8 hx13
        have hE14 := hx13
        refine RG.vl rfl rfl rfl (Ev.pickF rfl rfl rfl) ?_
        refine RG.vl rfl rfl rfl (Ev.assign rfl rfl) ?_
        refine RG.done ?_
        refine QW.sub (S' := [(0, _), (2, _), (3, _), (4, _), (5, _), (6, _), (7, _), (8, _)]) ⟨rfl, rfl, rfl, rfl, rfl, rfl, rfl, rfl, trivial⟩ ?_
        refine QW.blockN ?_
        refine QW.then_ ?_
        refine CW.region ?_
        refine RG.vl rfl rfl rfl (Ev.move rfl rfl) ?_
        refine RG.vl rfl rfl rfl (Ev.addI rfl rfl rfl (by omega)) ?_
        refine RG.vl rfl rfl rfl (Ev.assign rfl rfl) ?_
        refine RG.done ?_
        refine QW.round1 (i + 1) ⟨rfl, by rw [hasK_more hr]; first | (rw [show ((tab.take i).any (hitL (q + 1) s)) = true by assumption]; rfl) | (rw [show ((tab.take i).any (hitL (q + 1) s)) = false by assumption]; rfl), trivial⟩ ⟨rfl, rfl, rfl, rfl, rfl, rfl, trivial⟩ ⟨by omega, hxwl8⟩ (by omega)
    · refine CW.exit ?_
      refine QW.thenExit ?_
      refine QW.thenExit ?_
      refine QW.blockHit ?_
      refine QW.then_ ?_
      refine CW.seq ?_
      refine CW.seq ?_
      obtain rfl : i = 40 := by omega
      rw [List.take_of_length_le (show tab.length ≤ 40 by omega)]
      refine CW.region ?_
      refine RG.vl rfl rfl rfl (Ev.move rfl rfl) ?_
      refine RG.done ?_
      refine QW.then_ ?_
      refine CW.cond rfl (fun hc15 => ?_) (fun hc15 => ?_)
      · have hs : sumK s tab (q + 1) = sumK s tab q + 2 ^ (q + 1) := by show sumK s tab q + (if hasK s tab (q + 1) then _ else 0) = _; rw [show hasK s tab (q + 1) = true by assumption]; rfl
        refine CW.region ?_
        refine RG.vl rfl rfl rfl (Ev.move rfl rfl) ?_
        refine RG.vl rfl rfl rfl (Ev.move rfl rfl) ?_
        refine RG.vl rfl rfl rfl (Ev.add8 rfl rfl rfl (by omega)) ?_
        refine RG.vl rfl rfl rfl (Ev.assign rfl rfl) ?_
        refine RG.done ?_
        refine QW.then_ ?_
        refine CW.region ?_
        refine RG.vl rfl rfl rfl (Ev.move rfl rfl) ?_
        refine RG.vl rfl rfl rfl (Ev.mul8 rfl rfl rfl (by omega)) ?_
        refine RG.vl rfl rfl rfl (Ev.assign rfl rfl) ?_
        refine RG.done ?_
        refine QW.blockN ?_
        refine QW.then_ ?_
        refine CW.region ?_
        refine RG.vl rfl rfl rfl (Ev.move rfl rfl) ?_
        refine RG.vl rfl rfl rfl (Ev.add8 rfl rfl rfl (by omega)) ?_
        refine RG.vl rfl rfl rfl (Ev.assign rfl rfl) ?_
        refine RG.done ?_
        refine QW.sub (S' := [(0, _), (2, _), (3, _), (4, _), (5, _), (6, _)]) ⟨rfl, rfl, rfl, rfl, rfl, rfl, trivial⟩ ?_
        refine QW.round1 (q + 1) ⟨congrArg (fun x => some (Value.int .u8 x)) (by omega), congrArg (fun x => some (Value.int .u8 x)) (by omega), congrArg (fun x => some (Value.int .u8 x)) (by omega), trivial⟩ ⟨rfl, rfl, rfl, trivial⟩ ⟨by omega, (Ex.tr hR7 hxwl8)⟩ (by omega)
      · refine CW.skip ?_
        refine QW.then_ ?_
        have hs : sumK s tab (q + 1) = sumK s tab q := by show sumK s tab q + (if hasK s tab (q + 1) then _ else 0) = _; rw [show hasK s tab (q + 1) = false by assumption]; rfl
        refine CW.region ?_
        refine RG.vl rfl rfl rfl (Ev.move rfl rfl) ?_
        refine RG.vl rfl rfl rfl (Ev.mul8 rfl rfl rfl (by omega)) ?_
        refine RG.vl rfl rfl rfl (Ev.assign rfl rfl) ?_
        refine RG.done ?_
        refine QW.blockN ?_
        refine QW.then_ ?_
        refine CW.region ?_
        refine RG.vl rfl rfl rfl (Ev.move rfl rfl) ?_
        refine RG.vl rfl rfl rfl (Ev.add8 rfl rfl rfl (by omega)) ?_
        refine RG.vl rfl rfl rfl (Ev.assign rfl rfl) ?_
        refine RG.done ?_
        refine QW.round1 (q + 1) ⟨congrArg (fun x => some (Value.int .u8 x)) (by omega), congrArg (fun x => some (Value.int .u8 x)) (by omega), congrArg (fun x => some (Value.int .u8 x)) (by omega), trivial⟩ ⟨rfl, rfl, rfl, trivial⟩ ⟨by omega, (Ex.tr hR7 hxwl8)⟩ (by omega)
  · refine CW.exit ?_
    refine QW.thenExit ?_
    refine QW.thenExit ?_
    refine QW.blockHit ?_
    refine QW.then_ ?_
    refine CW.seq ?_
    refine CW.region ?_
    refine RG.vl rfl rfl rfl (Ev.move rfl rfl) ?_
    refine RG.vl rfl rfl rfl (Ev.assign rfl rfl) ?_
    refine RG.done ?_
    refine QW.then_ ?_
    refine CW.ret ?_
    refine QW.ret1 rfl rfl ?_
    have hB := (Ex.tr hR3 hxwl4)
    obtain rfl : q = 5 := by omega
    exact ⟨by rw [kinds_ref], hB⟩

set_option maxRecDepth 100000 in
set_option maxHeartbeats 1000000 in
theorem rsame_ret (k : Nat) (a b : List UInt8) (w : World)  :
    Ret Try.prog 41 [.int .u8 (k : Int), .string ⟨a.toArray⟩, .string ⟨b.toArray⟩] w (fun v w' => v = .bool (sameR k a b) ∧ Ex w w') := by
  have hla := longs_len k a
  have hlb := longs_len k b
  have hB0 : Ex w w := Ex.rfl_ _
  refine Ret.of Try.func41 rfl Try.ntmps41 rfl ?_
  refine CW.seq ?_
  refine CW.region ?_
  refine RG.vl rfl rfl rfl (Ev.assign rfl rfl) ?_
  refine RG.done ?_
  refine QW.then_ ?_
  refine CW.seq ?_
  refine CW.seq ?_
  refine CW.region ?_
  refine RG.vl rfl rfl rfl (Ev.move rfl rfl) ?_
  refine RG.vl rfl rfl rfl (Ev.move rfl rfl) ?_
  refine RG.vl rfl rfl rfl (Ev.eqS rfl rfl rfl) ?_
  refine RG.done ?_
  refine QW.then_ ?_
  refine CW.condP rfl (fun hc1 => ?_) (fun hc1 => ?_)
  · refine CW.seq ?_
    refine CW.region ?_
    refine RG.vl rfl rfl rfl (Ev.assign rfl rfl) ?_
    refine RG.done ?_
    refine QW.then_ ?_
    refine CW.ret ?_
    refine QW.thenRet ?_
    refine QW.ret1 rfl rfl ?_
    have hB := hB0
    refine ⟨congrArg Value.bool ?_, hB⟩
    unfold sameR
    rw [decide_eq_true (binj.1 (by assumption))]; rfl
  · refine CW.skip ?_
    refine QW.then_ ?_
    refine CW.seq ?_
    refine CW.region ?_
    refine RG.vl rfl rfl rfl (Ev.move rfl rfl) ?_
    refine RG.vl rfl rfl rfl (Ev.move rfl rfl) ?_
    refine RG.call rfl rfl rfl rfl rfl rfl rfl en_39 (rlongs_ret k a _) ?_
    have hpre2 := hB0
    rintro rl2 w2 ⟨hrl2, hx2⟩
    have hE3 := hx2
    refine RG.vl rfl rfl rfl (Ev.assign rfl rfl) ?_
    refine RG.done ?_
    refine QW.then_ ?_
    refine CW.seq ?_
    refine CW.region ?_
    refine RG.vl rfl rfl rfl (Ev.move rfl rfl) ?_
    refine RG.vl rfl rfl rfl (Ev.move rfl rfl) ?_
    refine RG.call rfl rfl rfl rfl rfl rfl rfl en_39 (rlongs_ret k b _) ?_
    have hpre4 := (Ex.tr hB0 hE3)
    rintro rl4 w4 ⟨hrl4, hx4⟩
    replace hE3 := Ex.tr hE3 hx4
    have hE5 := hx4
    refine RG.vl rfl rfl rfl (Ev.assign rfl rfl) ?_
    refine RG.done ?_
    refine QW.then_ ?_
    refine CW.seq ?_
    refine CW.seq ?_
    refine CW.region ?_
    refine RG.vl rfl rfl rfl (Ev.assign rfl rfl) ?_
    refine RG.done ?_
    refine QW.then_ ?_
    refine CW.block ?_
    replace hrl2 := (Own.ext hrl2 hE5)
    have hR6 := (Ex.tr hB0 hE3)
    have hR7 := hE5
    refine CW.loop1 [(7, _), (8, _)] ⟨rfl, rfl, trivial⟩ (fun (i : Nat) => [(9, .int .i64 i)]) (fun i w' => (i ≤ (longsR k a).length ∧ ∀ j x, j < i → (longsR k a)[j]? = some x → x ∉ longsR k b) ∧ Ex w4 w') (fun i => (longsR k a).length - i) (0) ⟨rfl, trivial⟩ ⟨⟨Nat.zero_le _, fun j x h => absurd h (by omega)⟩, (Ex.rfl_ _)⟩ ?_
    rintro i wl8 ⟨⟨hi, hno⟩, hxwl8⟩
    refine CW.sub (S' := [(9, _), (7, _), (8, _)]) ⟨rfl, rfl, rfl, trivial⟩ ?_
    refine CW.seq ?_
    refine CW.seq ?_
    refine CW.region ?_
    refine RG.vl rfl rfl rfl (Ev.move rfl rfl) ?_
    refine RG.vl rfl rfl rfl (Ev.move rfl rfl) ?_
    refine RG.vl rfl rfl rfl (Ev.lenL rfl rfl rfl Try.underlying32 (((Own.ext hrl2 hxwl8).rdl encT_len))) ?_
    refine RG.vl rfl rfl rfl (Ev.lss rfl rfl rfl) ?_
    refine RG.done ?_
    refine QW.then_ ?_
    refine CW.condP rfl (fun hc9 => ?_) (fun hc9 => ?_)
    · refine CW.skip ?_
      refine QW.then_ ?_
      refine CW.seq ?_
      refine CW.block ?_
      refine CW.seq ?_
      obtain ⟨x, hx⟩ : ∃ x, (longsR k a)[i]? = some x := ⟨_, List.getElem?_eq_getElem (by omega)⟩
      refine CW.region ?_
      refine RG.vl rfl rfl rfl (Ev.move rfl rfl) ?_
      refine RG.vl rfl rfl rfl (Ev.move rfl rfl) ?_
      refine RG.vl rfl rfl rfl (Ev.move rfl rfl) ?_
      refine RG.idxO rfl rfl rfl rfl rfl rfl Try.underlying32 sz_9 encT_len ((Own.ext hrl2 hxwl8)) (hx) (fun g11 hg11 hBg11 hp10b hp10 => ?_)
      refine RG.vl rfl rfl rfl (Ev.ld0 rfl rfl Try.underlying9 rfl (hp10) (rfl)) ?_
      refine RG.call rfl rfl rfl rfl rfl rfl rfl en_49 (rin_ret _ (longsR k b) x _ (((Own.ext hrl4 hxwl8).rdl encT_len)) (by omega)) ?_
      rintro _ w12 ⟨rfl, hx12⟩
      replace hxwl8 := Ex.tr hxwl8 hx12
      have hE13 := hx12
      refine RG.done ?_
      refine QW.then_ ?_
      refine CW.condP rfl (fun hc14 => ?_) (fun hc14 => ?_)
      · refine CW.seq ?_
        refine CW.region ?_
        refine RG.vl rfl rfl rfl (Ev.assign rfl rfl) ?_
        refine RG.done ?_
        refine QW.then_ ?_
        refine CW.ret ?_
        refine QW.blockR ?_
        refine QW.thenRet ?_
        refine QW.thenRet ?_
        refine QW.blockR ?_
        refine QW.thenRet ?_
        refine QW.ret1 rfl rfl ?_
        have hB := (Ex.tr hR6 hxwl8)
        refine ⟨congrArg Value.bool ?_, hB⟩
        unfold sameR
        rw [show (longsR k a).any (fun x => decide (x ∈ longsR k b)) = true from List.any_eq_true.2 ⟨x, List.mem_of_getElem? hx, decide_eq_true (by assumption)⟩, Bool.or_true]
      · refine CW.skip ?_
        refine QW.blockN ?_
        refine QW.then_ ?_
        refine CW.region ?_
        refine RG.vl rfl rfl rfl (Ev.move rfl rfl) ?_
        refine RG.vl rfl rfl rfl (Ev.addI rfl rfl rfl (by omega)) ?_
        refine RG.vl rfl rfl rfl (Ev.assign rfl rfl) ?_
        refine RG.done ?_
        refine QW.round1 (i + 1) ⟨rfl, trivial⟩ ⟨rfl, rfl, trivial⟩ ⟨⟨by omega, fun j y hj hy => by rcases Nat.lt_or_ge j i with h | h; exact hno j y h hy; obtain rfl : j = i := (by omega); rw [hx] at hy; injection hy with hy; subst hy; assumption⟩, hxwl8⟩ (by omega)
    · refine CW.exit ?_
      refine QW.thenExit ?_
      refine QW.thenExit ?_
      refine QW.blockHit ?_
      refine QW.then_ ?_
      refine CW.seq ?_
      refine CW.region ?_
      refine RG.vl rfl rfl rfl (Ev.assign rfl rfl) ?_
      refine RG.done ?_
      refine QW.then_ ?_
      refine CW.ret ?_
      refine QW.ret1 rfl rfl ?_
      have hB := (Ex.tr hR6 hxwl8)
      refine ⟨congrArg Value.bool ?_, hB⟩
      unfold sameR
      rw [decide_eq_false (fun e => absurd (binj.2 e) (by assumption)), show (longsR k a).any (fun x => decide (x ∈ longsR k b)) = false from List.any_eq_false.2 (fun x hx => by obtain ⟨j, hj⟩ := List.mem_iff_getElem?.1 hx; simpa using hno j x (by have := (List.getElem?_eq_some_iff.1 hj).1; omega) hj)]; rfl

end Go.Proofs.Ytehlnkhbbnddmaa
