/- Walks (SB). Written by program. -/
import Derived.Test.YtjhgihgggofocaaT
import Derived.Test.YtjhgihgggofocaaSE
import Derived.Test.YtjhgihgggofocaaSA
namespace Go.Proofs.Ytjhgihgggofocaa
open Go.RowKit
set_option maxRecDepth 100000 in
set_option maxHeartbeats 1000000 in
theorem synd_ret (u : Value) (l : List Nat) (w : World) (hl : RdL w 1 encN u l) (hlen : l.length ≤ 100000) :
    Ret Try.prog 24 [u] w (fun v w' => (isW l = false ∧ v = .tuple #[.slice none 0 0, .int .i64 2] ∨ isW l = true ∧ ∃ g, w.heap.size ≤ g ∧ v = .tuple #[.slice (some ⟨g, 0, none⟩) 4 4, .int .i64 0] ∧ Blk w' g 57 (encs4 (syL l))) ∧ Ex w w') := by
  have hB0 : Ex w w := Ex.rfl_ _
  refine Ret.of Try.func24 rfl Try.ntmps24 rfl ?_
  refine CW.seq ?_
  refine CW.region ?_
  refine RG.vl rfl rfl rfl (Ev.assign rfl rfl) ?_
  refine RG.vl rfl rfl rfl (Ev.assign rfl rfl) ?_
  refine RG.done ?_
  refine QW.then_ ?_
  refine CW.seq ?_
  refine CW.seq ?_
  refine CW.region ?_
  refine RG.vl rfl rfl rfl (Ev.move rfl rfl) ?_
  refine RG.call rfl rfl rfl rfl rfl rfl rfl en_34 (isW_ret _ l _ (hl) hlen) ?_
  rintro _ w1 ⟨rfl, hx1⟩
  have hE2 := hx1
  refine RG.vl rfl rfl rfl (Ev.not rfl rfl) ?_
  refine RG.done ?_
  refine QW.then_ ?_
  refine CW.cond rfl (fun hc3 => ?_) (fun hc3 => ?_)
  · refine CW.seq ?_
    refine CW.region ?_
    refine RG.vl rfl rfl rfl (Ev.assign rfl rfl) ?_
    refine RG.vl rfl rfl rfl (Ev.assign rfl rfl) ?_
    refine RG.done ?_
    refine QW.then_ ?_
    refine CW.ret ?_
    refine QW.thenRet ?_
    refine QW.ret2 rfl rfl rfl ?_
    have hB := (Ex.tr hB0 hE2)
    exact ⟨.inl ⟨by simpa using (by assumption : (!isW l) = true), rfl⟩, hB⟩
  · refine CW.skip ?_
    refine QW.then_ ?_
    refine CW.seq ?_
    have hyes : isW l = true := by simpa using (by assumption : (!isW l) = false)
    obtain ⟨hw1, hw2, hel⟩ := isW_iff.1 hyes
    refine CW.region ?_
    refine RG.vl rfl rfl rfl (Ev.move rfl rfl) ?_
    refine RG.call rfl rfl rfl rfl rfl rfl rfl en_35 (syn_ret _ l _ ((hl.ext hE2)) hel hw2) ?_
    rintro _ w4 ⟨rfl, hx4⟩
    replace hE2 := Ex.tr hE2 hx4
    have hE5 := hx4
    refine RG.local_ rfl rfl rfl rfl (fun _ => rfl) rfl rfl (fun _ => rfl) inf_57 rfl rfl rfl (fun gS w6 egS hx6 hb6 => ?_)
    have hle7 : w.heap.size ≤ gS := by have := hE2.size; omega
    have hle8 : w1.heap.size ≤ gS := by have := hE5.size; omega
    have hle9 : w4.heap.size ≤ gS := by have := (Ex.rfl_ w4).size; omega
    replace hE2 := Ex.tr hE2 hx6
    replace hE5 := Ex.tr hE5 hx6
    refine RG.done ?_
    refine QW.then_ ?_
    refine CW.seq ?_
    refine CW.region ?_
    refine RG.vl rfl rfl rfl (Ev.sliceArr rfl rfl Try.underlying57 sz_5) ?_
    refine RG.vl rfl rfl rfl (Ev.assign rfl rfl) ?_
    refine RG.vl rfl rfl rfl (Ev.assign rfl rfl) ?_
    refine RG.done ?_
    refine QW.then_ ?_
    refine CW.ret ?_
    refine QW.ret2 rfl rfl rfl ?_
    have hB := (Ex.tr hB0 hE2)
    exact ⟨.inr ⟨hyes, gS, by assumption, rfl, hb6⟩, hB⟩

set_option maxRecDepth 100000 in
set_option maxHeartbeats 1000000 in
theorem valid_ret (u : Value) (l : List Nat) (w : World) (hl : RdL w 1 encN u l) (hlen : l.length ≤ 100000) :
    Ret Try.prog 25 [u] w (fun v w' => v = .bool (vldB l) ∧ Ex w w') := by
  have hB0 : Ex w w := Ex.rfl_ _
  refine Ret.of Try.func25 rfl Try.ntmps25 rfl ?_
  refine CW.seq ?_
  refine CW.region ?_
  refine RG.vl rfl rfl rfl (Ev.assign rfl rfl) ?_
  refine RG.done ?_
  refine QW.then_ ?_
  refine CW.seq ?_
  refine CW.region ?_
  refine RG.vl rfl rfl rfl (Ev.move rfl rfl) ?_
  refine RG.call rfl rfl rfl rfl rfl rfl rfl en_34 (isW_ret _ l _ (hl) hlen) ?_
  rintro _ w1 ⟨rfl, hx1⟩
  have hE2 := hx1
  refine RG.vl rfl rfl rfl (Ev.move rfl rfl) ?_
  refine RG.splitB (d := 5) rfl (fun hg3 => ?_) (fun hg3 => ?_)
  · refine RG.vl rfl rfl rfl (Ev.move rfl rfl) ?_
    refine RG.call rfl rfl rfl rfl rfl rfl rfl en_35 (syn_ret _ l _ ((hl.ext hE2)) (isW_iff.1 (by assumption)).2.2 (isW_iff.1 (by assumption)).2.1) ?_
    rintro _ w4 ⟨rfl, hx4⟩
    replace hE2 := Ex.tr hE2 hx4
    have hE5 := hx4
    refine RG.vl rfl rfl rfl (Ev.buildAZ (zs := [.int .u8 0, .int .u8 0, .int .u8 0, .int .u8 0]) rfl Try.underlying57 sz_5 inf_57 rfl) ?_
    refine RG.vl rfl rfl rfl (Ev.eq4 rfl rfl rfl Try.underlying57 Try.underlying5 inf_5 (by kernel_rfl)) ?_
    refine RG.vl rfl rfl rfl (Ev.pickT rfl rfl rfl) ?_
    refine RG.vl rfl rfl rfl (Ev.assign rfl rfl) ?_
    refine RG.done ?_
    refine QW.then_ ?_
    refine CW.ret ?_
    refine QW.ret1 rfl rfl ?_
    have hB := (Ex.tr hB0 hE2)
    refine ⟨congrArg Value.bool ?_, hB⟩
    unfold vldB
    first | (rw [(by assumption : isW l = true)]; rfl) | (rw [(by assumption : isW l = false)]; rfl)
  · refine RG.pass rfl rfl rfl ?_
    refine RG.pass rfl rfl rfl ?_
    refine RG.pass rfl rfl rfl ?_
    refine RG.pass rfl rfl rfl ?_
    refine RG.vl rfl rfl rfl (Ev.pickF rfl rfl rfl) ?_
    refine RG.vl rfl rfl rfl (Ev.assign rfl rfl) ?_
    refine RG.done ?_
    refine QW.then_ ?_
    refine CW.ret ?_
    refine QW.ret1 rfl rfl ?_
    have hB := (Ex.tr hB0 hE2)
    refine ⟨congrArg Value.bool ?_, hB⟩
    unfold vldB
    first | (rw [(by assumption : isW l = true)]; rfl) | (rw [(by assumption : isW l = false)]; rfl)

set_option maxRecDepth 100000 in
set_option maxHeartbeats 2000000 in
theorem encode_ret (u : Value) (l : List Nat) (w : World) (hl : RdL w 1 encN u l) (hlen : l.length ≤ 100000) :
    Ret Try.prog 23 [u] w (fun v w' => ∃ r c, v = .tuple #[r, .int .i64 (if encOk l then 0 else 2)] ∧ Own w' w.heap.size 5 1 encN r c ∧ (encOk l = true → IsEnc l c) ∧ (encOk l = false → r = .slice none 0 0 ∧ c = []) ∧ Ex w w') := by
  have hB0 : Ex w w := Ex.rfl_ _
  refine Ret.of Try.func23 rfl Try.ntmps23 rfl ?_
  refine CW.seq ?_
  refine CW.region ?_
  refine RG.vl rfl rfl rfl (Ev.assign rfl rfl) ?_
  refine RG.vl rfl rfl rfl (Ev.assign rfl rfl) ?_
  refine RG.done ?_
  refine QW.then_ ?_
  refine CW.seq ?_
  refine CW.seq ?_
  refine CW.region ?_
  refine RG.vl rfl rfl rfl (Ev.move rfl rfl) ?_
  refine RG.vl rfl rfl rfl (Ev.lenL rfl rfl rfl Try.underlying22 (hl)) ?_
  refine RG.vl rfl rfl rfl (Ev.lss rfl rfl rfl) ?_
  refine RG.vl rfl rfl rfl (Ev.move rfl rfl) ?_
  refine RG.split (d := 13) rfl (fun hg1 => ?_) (fun hg1 => ?_)
  · refine RG.pass rfl rfl rfl ?_
    refine RG.pass rfl rfl rfl ?_
    refine RG.pass rfl rfl rfl ?_
    refine RG.vl rfl rfl rfl (Ev.pickT rfl rfl rfl) ?_
    refine RG.vl rfl rfl rfl (Ev.move rfl rfl) ?_
    refine RG.pass rfl rfl rfl ?_
    refine RG.pass rfl rfl rfl ?_
    refine RG.pass rfl rfl rfl ?_
    refine RG.vl rfl rfl rfl (Ev.pickT rfl rfl rfl) ?_
    refine RG.done ?_
    refine QW.sub (S' := [(0, _), (2, _), (3, _), (22, _)]) ⟨rfl, rfl, rfl, rfl, trivial⟩ ?_
    refine QW.then_ ?_
    refine CW.condT rfl ?_
    refine CW.seq ?_
    refine CW.region ?_
    refine RG.vl rfl rfl rfl (Ev.assign rfl rfl) ?_
    refine RG.vl rfl rfl rfl (Ev.assign rfl rfl) ?_
    refine RG.done ?_
    refine QW.then_ ?_
    refine CW.ret ?_
    refine QW.thenRet ?_
    refine QW.ret2 rfl rfl rfl ?_
    have hB := hB0
    have hno : encOk l = false := by
      cases h : encOk l with
      | false => rfl
      | true =>
        obtain ⟨h1, h2, h3⟩ := encOk_iff.1 h
        exfalso
        first | omega | (rw [areE_el.2 h3] at *; simp at *)
    exact ⟨_, [], by rw [hno]; rfl, Own.nil_ _ _ _ _ _, fun h => (by rw [hno] at h; cases h), fun _ => ⟨rfl, rfl⟩, hB⟩
  · refine RG.vl rfl rfl rfl (Ev.move rfl rfl) ?_
    refine RG.vl rfl rfl rfl (Ev.lenL rfl rfl rfl Try.underlying22 (hl)) ?_
    refine RG.vl rfl rfl rfl (Ev.gtr rfl rfl rfl) ?_
    refine RG.vl rfl rfl rfl (Ev.pickF rfl rfl rfl) ?_
    refine RG.vl rfl rfl rfl (Ev.move rfl rfl) ?_
    refine RG.split (d := 18) rfl (fun hg2 => ?_) (fun hg2 => ?_)
    · refine RG.pass rfl rfl rfl ?_
      refine RG.pass rfl rfl rfl ?_
      refine RG.pass rfl rfl rfl ?_
      refine RG.vl rfl rfl rfl (Ev.pickT rfl rfl rfl) ?_
      refine RG.done ?_
      refine QW.sub (S' := [(0, _), (2, _), (3, _), (22, _)]) ⟨rfl, rfl, rfl, rfl, trivial⟩ ?_
      refine QW.then_ ?_
      refine CW.condT rfl ?_
      refine CW.seq ?_
      refine CW.region ?_
      refine RG.vl rfl rfl rfl (Ev.assign rfl rfl) ?_
      refine RG.vl rfl rfl rfl (Ev.assign rfl rfl) ?_
      refine RG.done ?_
      refine QW.then_ ?_
      refine CW.ret ?_
      refine QW.thenRet ?_
      refine QW.ret2 rfl rfl rfl ?_
      have hB := hB0
      have hno : encOk l = false := by
        cases h : encOk l with
        | false => rfl
        | true =>
          obtain ⟨h1, h2, h3⟩ := encOk_iff.1 h
          exfalso
          first | omega | (rw [areE_el.2 h3] at *; simp at *)
      exact ⟨_, [], by rw [hno]; rfl, Own.nil_ _ _ _ _ _, fun h => (by rw [hno] at h; cases h), fun _ => ⟨rfl, rfl⟩, hB⟩
    · refine RG.vl rfl rfl rfl (Ev.move rfl rfl) ?_
      refine RG.call rfl rfl rfl rfl rfl rfl rfl en_42 (areE_ret _ _ _ (hl) (by omega)) ?_
      rintro _ w3 ⟨rfl, hx3⟩
      have hE4 := hx3
      refine RG.vl rfl rfl rfl (Ev.not rfl rfl) ?_
      refine RG.vl rfl rfl rfl (Ev.pickF rfl rfl rfl) ?_
      refine RG.done ?_
      refine QW.sub (S' := [(0, _), (2, _), (3, _), (22, _)]) ⟨rfl, rfl, rfl, rfl, trivial⟩ ?_
      refine QW.then_ ?_
      refine CW.cond rfl (fun hc5 => ?_) (fun hc5 => ?_)
      · refine CW.seq ?_
        refine CW.region ?_
        refine RG.vl rfl rfl rfl (Ev.assign rfl rfl) ?_
        refine RG.vl rfl rfl rfl (Ev.assign rfl rfl) ?_
        refine RG.done ?_
        refine QW.then_ ?_
        refine CW.ret ?_
        refine QW.thenRet ?_
        refine QW.ret2 rfl rfl rfl ?_
        have hB := (Ex.tr hB0 hE4)
        have hno : encOk l = false := by
          cases h : encOk l with
          | false => rfl
          | true =>
            obtain ⟨h1, h2, h3⟩ := encOk_iff.1 h
            exfalso
            first | omega | (rw [areE_el.2 h3] at *; simp at *)
        exact ⟨_, [], by rw [hno]; rfl, Own.nil_ _ _ _ _ _, fun h => (by rw [hno] at h; cases h), fun _ => ⟨rfl, rfl⟩, hB⟩
      · refine CW.skip ?_
        refine QW.then_ ?_
        refine CW.seq ?_
        have hok : encOk l = true := encOk_iff.2 ⟨by omega, by omega, areE_el.1 (by simpa using (by assumption : (!areE l) = false))⟩
        obtain ⟨hl1, hl2, hel⟩ := encOk_iff.1 hok
        refine CW.region ?_
        refine RG.vl rfl rfl rfl (Ev.move rfl rfl) ?_
        replace hl := (hl.ext hE4)
        have hR6 := (Ex.tr hB0 hE4)
        refine RG.call rfl rfl rfl rfl rfl rfl rfl en_39 (clone_ret _ _ _ (hl) (by omega)) ?_
        have hpre7 := hR6
        rintro vcl7 w7 ⟨hcl7, hx7⟩
        have hE8 := hx7
        refine RG.appZ (k := 4) (0 : Nat) rfl rfl rfl rfl rfl rfl rfl Try.underlying22 Try.underlying3 inf_5 rfl rfl rfl hcl7 (by omega) (by omega) (by simp only [maxLen]; omega) (by omega) (hE8.size) (fun vw wa9 hown10 hgr11 hat12 => ?_)
        replace hE8 := own_block hcl7 hE8 hgr11 (Nat.le_refl _) hE8.size
        refine RG.vl rfl rfl rfl (Ev.assign rfl rfl) ?_
        refine RG.done ?_
        refine QW.then_ ?_
        refine CW.seq ?_
        have hlz : (l ++ List.replicate 4 0).length = l.length + 4 := by rw [List.length_append, List.length_replicate]
        refine CW.region ?_
        refine RG.vl rfl rfl rfl (Ev.move rfl rfl) ?_
        refine RG.call rfl rfl rfl rfl rfl rfl rfl en_44 (poly_ret _ _ _ ((hown10.rdl encN_len)) (by omega)) ?_
        have hpre13 := (Ex.tr hR6 hE8)
        rintro vpo13 w13 ⟨hpo13, hx13⟩
        have hsep14 : Sep vpo13 _ := Sep.of_new hown10 (fun k h => Own.ge hpo13 h)
        replace hE8 := Ex.tr hE8 hx13
        have hE15 := hx13
        refine RG.litO (os := [_, _, _, _, _]) (enc := encN) (gen5) rfl rfl rfl rfl rfl rfl rfl Try.underlying22 inf_5 rfl rfl rfl rfl rfl encN_len rfl rfl (fun v16 wk17 hxwk17 hown18 hnew19 => ?_)
        have hsep20 : Sep v16 _ := Sep.of_new (Own.ext hown10 hE15) hnew19
        have hsep21 : Sep v16 _ := Sep.of_new hpo13 hnew19
        replace hE8 := Ex.tr hE8 hxwk17
        replace hE15 := Ex.tr hE15 hxwk17
        have hE22 := hxwk17
        refine RG.call rfl rfl rfl rfl rfl rfl rfl en_43 (Divide_el _ _ _ gen5 _ (((Own.ext hpo13 hE22).rdl encN_len)) ((hown18.rdl encN_len)) (by rw [List.length_reverse]; omega) (hel.app (El.zeros 4)).rev (by decide) gen5_el (by rw [gen5_dg]; omega)) ?_
        have hpre23 := (Ex.tr hR6 hE8)
        rintro _ w23 ⟨r1, r2, dq, rr, rfl, hod, hoe, hsp, hdv, hx23⟩
        have hsep24 : Sep r1 _ := Sep.of_new (Own.ext hown10 hE15) (fun k h => Own.ge hod h)
        have hsep25 : Sep r1 _ := Sep.of_new (Own.ext hpo13 hE22) (fun k h => Own.ge hod h)
        have hsep26 : Sep r1 _ := Sep.of_new hown18 (fun k h => Own.ge hod h)
        replace hod := Own.low (B' := w3.heap.size) hod (by have := hE8.size; omega)
        have hsep27 : Sep r2 _ := Sep.of_new (Own.ext hown10 hE15) (fun k h => Own.ge hoe h)
        have hsep28 : Sep r2 _ := Sep.of_new (Own.ext hpo13 hE22) (fun k h => Own.ge hoe h)
        have hsep29 : Sep r2 _ := Sep.of_new hown18 (fun k h => Own.ge hoe h)
        replace hoe := Own.low (B' := w3.heap.size) hoe (by have := hE8.size; omega)
        replace hE8 := Ex.tr hE8 hx23
        replace hE15 := Ex.tr hE15 hx23
        replace hE22 := Ex.tr hE22 hx23
        have hE30 := hx23
        refine RG.vl rfl rfl rfl (Ev.move rfl rfl) ?_
        refine RG.vl rfl rfl rfl (Ev.extract rfl rfl rfl) ?_
        refine RG.vl rfl rfl rfl (Ev.extract rfl rfl rfl) ?_
        refine RG.vl rfl rfl rfl (Ev.extract rfl rfl rfl) ?_
        refine RG.vl rfl rfl rfl (Ev.assign rfl rfl) ?_
        refine RG.vl rfl rfl rfl (Ev.assign rfl rfl) ?_
        refine RG.vl rfl rfl rfl (Ev.assign rfl rfl) ?_
        refine RG.done ?_
        refine QW.sub (S' := [(2, _), (3, _), (4, _), (6, _), (7, _)]) ⟨rfl, rfl, rfl, rfl, rfl, trivial⟩ ?_
        refine QW.then_ ?_
        refine CW.seq ?_
        refine CW.seq ?_
        refine CW.region ?_
        refine RG.vl rfl rfl rfl (Ev.move rfl rfl) ?_
        refine RG.vl rfl rfl rfl (Ev.isF (Ev.neI rfl rfl rfl) (fun h => h rfl)) ?_
        refine RG.done ?_
        refine QW.then_ ?_
        refine CW.condF rfl ?_
        refine CW.skip ?_
        refine QW.then_ ?_
        refine CW.seq ?_
        refine CW.seq ?_
        obtain ⟨hr4, henc⟩ := enc_end hel hdv.2.2.2.1 hdv.2.2.2.2 hdv.1 hdv.2.2.1
        refine CW.region ?_
        refine RG.vl rfl rfl rfl (Ev.move rfl rfl) ?_
        refine RG.vl rfl rfl rfl (Ev.lenL rfl rfl rfl Try.underlying22 ((hoe.rdl encN_len))) ?_
        refine RG.vl rfl rfl rfl (Ev.move rfl rfl) ?_
        refine RG.done ?_
        refine QW.then_ ?_
        refine CW.block ?_
        refine CW.loop1 [(2, _), (3, _), (4, _), (36, _), (37, _)] ⟨rfl, rfl, rfl, rfl, rfl, trivial⟩ (fun (i : Nat) => [(38, .int .i64 (i : Int))]) (fun i w' => (i ≤ rr.length ∧ Own w' w3.heap.size 5 1 encN vw (stE l rr i) ∧ Own w' w3.heap.size 5 1 encN r2 rr) ∧ Ex w3 w') (fun i => rr.length - i) (0) ⟨rfl, trivial⟩ ⟨⟨Nat.zero_le _, by rw [← stE_zero]; exact (Own.ext hown10 hE15), hoe⟩, hE8⟩ ?_
        rintro i wl31 ⟨⟨hi, how, hoe⟩, hxwl31⟩
        refine CW.sub (S' := [(38, _), (2, _), (3, _), (4, _), (36, _), (37, _)]) ⟨rfl, rfl, rfl, rfl, rfl, rfl, trivial⟩ ?_
        refine CW.seq ?_
        refine CW.region ?_
        refine RG.vl rfl rfl rfl (Ev.lss rfl rfl rfl) ?_
        refine RG.done ?_
        refine QW.then_ ?_
        refine CW.seq ?_
        refine CW.condP rfl (fun hc32 => ?_) (fun hc32 => ?_)
        · refine CW.skip ?_
          refine QW.then_ ?_
          refine CW.seq ?_
          refine CW.block ?_
          refine CW.seq ?_
          obtain ⟨a, ha⟩ : ∃ a, rr[i]? = some a := ⟨_, List.getElem?_eq_getElem (by omega)⟩
          have hsl := stE_len l rr i
          refine CW.region ?_
          refine RG.vl rfl rfl rfl (Ev.move rfl rfl) ?_
          refine RG.idxO rfl rfl rfl rfl rfl rfl Try.underlying22 sz_5 encN_len (hoe) (ha) (fun g34 hg34 hBg34 hp33b hp33 => ?_)
          refine RG.vl rfl rfl rfl (Ev.ld0 rfl rfl Try.underlying5 rfl (hp33) (rfl)) ?_
          refine RG.vl rfl rfl rfl (Ev.assign rfl rfl) ?_
          refine RG.vl rfl rfl rfl (Ev.assign rfl rfl) ?_
          refine RG.done ?_
          refine QW.then_ ?_
          obtain ⟨q, hq⟩ : ∃ q, (stE l rr i)[l.length + 4 - 1 - i]? = some q := ⟨_, List.getElem?_eq_getElem (by omega)⟩
          refine CW.region ?_
          refine RG.vl rfl rfl rfl (Ev.move rfl rfl) ?_
          refine RG.vl rfl rfl rfl (Ev.move rfl rfl) ?_
          refine RG.vl rfl rfl rfl (Ev.lenL rfl rfl rfl Try.underlying22 ((how.rdl encN_len))) ?_
          refine RG.vl rfl rfl rfl (Ev.subI rfl rfl rfl (by omega)) ?_
          refine RG.vl rfl rfl rfl (Ev.move rfl rfl) ?_
          refine RG.vl rfl rfl rfl ((Ev.subI rfl rfl rfl (by omega)).conv (congrArg (Value.int .i64) (show _ = ((l.length + 4 - 1 - i : Nat) : Int) by omega))) ?_
          refine RG.vl rfl rfl rfl (Ev.move rfl rfl) ?_
          refine RG.idxO rfl rfl rfl rfl rfl rfl Try.underlying22 sz_5 encN_len (how) (hq) (fun g36 hg36 hBg36 hp35b hp35 => ?_)
          refine RG.stOw0 (g := g36) (a) rfl rfl rfl rfl rfl sz_5 rfl (fun _ => rfl) how hg36 (hq) rfl (rfl) (fun ws37 hwws37 hown38 => ?_)
          replace hoe := Own.far hoe hwws37 (fun e => (Sep.symm hsep27) _ hg36 e)
          replace hxwl31 := Wr.below hxwl31 hwws37 hBg36
          refine RG.done ?_
          refine QW.sub (S' := [(2, _), (3, _), (4, _), (36, _), (37, _), (38, _)]) ⟨rfl, rfl, rfl, rfl, rfl, rfl, trivial⟩ ?_
          refine QW.blockN ?_
          refine QW.then_ ?_
          refine CW.region ?_
          refine RG.vl rfl rfl rfl (Ev.addI rfl rfl rfl (by omega)) ?_
          refine RG.vl rfl rfl rfl (Ev.move rfl rfl) ?_
          refine RG.done ?_
          refine QW.round1 (i + 1) ⟨rfl, trivial⟩ ⟨rfl, rfl, rfl, rfl, rfl, trivial⟩ ⟨⟨by omega, by rw [← stE_set (by omega) ha]; exact hown38, hoe⟩, hxwl31⟩ (by omega)
        · refine CW.exit ?_
          refine QW.thenExit ?_
          refine QW.thenExit ?_
          refine QW.blockHit ?_
          refine QW.then_ ?_
          refine CW.seq ?_
          refine CW.region ?_
          refine RG.vl rfl rfl rfl (Ev.move rfl rfl) ?_
          refine RG.vl rfl rfl rfl (Ev.assign rfl rfl) ?_
          refine RG.vl rfl rfl rfl (Ev.assign rfl rfl) ?_
          refine RG.done ?_
          refine QW.then_ ?_
          refine CW.ret ?_
          refine QW.ret2 rfl rfl rfl ?_
          have hB := (Ex.tr hR6 hxwl31)
          obtain rfl : i = rr.length := by omega
          exact ⟨_, _, by rw [hok]; rfl, how.low (by have := hR6.size; omega), fun _ => henc, fun h => (by rw [hok] at h; cases h), hB⟩

end Go.Proofs.Ytjhgihgggofocaa
