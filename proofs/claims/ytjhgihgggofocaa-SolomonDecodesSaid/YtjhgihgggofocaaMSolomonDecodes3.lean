/- Texts put together by program: SB, SC, LY, SI, SJ, LP, SK, LR, SM, LV, SN, SO, SP, LX, SQ. -/
import Derived.OrdersIn
import Derived.Laws.RangeAny
import Derived.Laws.IdiomStrings
import Derived.Scope
import Derived.ProofKit
import Derived.OpenShut
import Derived.ShutString
import Derived.ChangeOld
import Derived.Below
import Derived.Deep.Slices
import Derived.Deep.Fields
import Derived.ChangeSame
import Derived.Test.YtjhgihgggofocaaMSolomonDecodes2
/- Walks (SB). Written by program. -/
namespace Go.Proofs.Ytjhgihgggofocaa
open Go.RowKit
set_option maxRecDepth 100000 in
set_option maxHeartbeats 1000000 in
theorem synd_ret (u : Value) (l : List Nat) (w : World) (hl : RdL w 1 encN u l) (hlen : l.length ≤ 100000) :
    Ret Try.prog 24 [u] w (fun v w' => (isW l = false ∧ v = .tuple #[.slice none 0 0, .int .i64 2] ∨ isW l = true ∧ ∃ g, w.heap.size ≤ g ∧ v = .tuple #[.slice (some ⟨g, 0, none⟩) 4 4, .int .i64 0] ∧ Blk w' g 57 (encs4 (syL l))) ∧ Ex w w') := by
  have hB0 : Ex w w := Ex.rfl_ _
  refine Ret.of Try.func24 rfl Try.ntmps24 rfl ?_
  refine CW.seq ?_
  refine CW.region ?_
  refine RG.vl rfl rfl rfl (Ev.assign rfl rfl) ?_
  refine RG.vl rfl rfl rfl (Ev.assign rfl rfl) ?_
  refine RG.done ?_
  refine QW.then_ ?_
  refine CW.seq ?_
  refine CW.seq ?_
  refine CW.region ?_
  refine RG.vl rfl rfl rfl (Ev.move rfl rfl) ?_
  refine RG.call rfl rfl rfl rfl rfl rfl rfl en_34 (isW_ret _ l _ (hl) hlen) ?_
  rintro _ w1 ⟨rfl, hx1⟩
  have hE2 := hx1
  refine RG.vl rfl rfl rfl (Ev.not rfl rfl) ?_
  refine RG.done ?_
  refine QW.then_ ?_
  refine CW.cond rfl (fun hc3 => ?_) (fun hc3 => ?_)
  · refine CW.seq ?_
    refine CW.region ?_
    refine RG.vl rfl rfl rfl (Ev.assign rfl rfl) ?_
    refine RG.vl rfl rfl rfl (Ev.assign rfl rfl) ?_
    refine RG.done ?_
    refine QW.then_ ?_
    refine CW.ret ?_
    refine QW.thenRet ?_
    refine QW.ret2 rfl rfl rfl ?_
    have hB := (Ex.tr hB0 hE2)
    exact ⟨.inl ⟨by simpa using (by assumption : (!isW l) = true), rfl⟩, hB⟩
  · refine CW.skip ?_
    refine QW.then_ ?_
    refine CW.seq ?_
    have hyes : isW l = true := by simpa using (by assumption : (!isW l) = false)
    obtain ⟨hw1, hw2, hel⟩ := isW_iff.1 hyes
    refine CW.region ?_
    refine RG.vl rfl rfl rfl (Ev.move rfl rfl) ?_
    refine RG.call rfl rfl rfl rfl rfl rfl rfl en_35 (syn_ret _ l _ ((hl.ext hE2)) hel hw2) ?_
    rintro _ w4 ⟨rfl, hx4⟩
    replace hE2 := Ex.tr hE2 hx4
    have hE5 := hx4
    refine RG.local_ rfl rfl rfl rfl (fun _ => rfl) rfl rfl (fun _ => rfl) inf_57 rfl rfl rfl (fun gS w6 egS hx6 hb6 => ?_)
    have hle7 : w.heap.size ≤ gS := by have := hE2.size; omega
    have hle8 : w1.heap.size ≤ gS := by have := hE5.size; omega
    have hle9 : w4.heap.size ≤ gS := by have := (Ex.rfl_ w4).size; omega
    replace hE2 := Ex.tr hE2 hx6
    replace hE5 := Ex.tr hE5 hx6
    refine RG.done ?_
    refine QW.then_ ?_
    refine CW.seq ?_
    refine CW.region ?_
    refine RG.vl rfl rfl rfl (Ev.sliceArr rfl rfl Try.underlying57 sz_5) ?_
    refine RG.vl rfl rfl rfl (Ev.assign rfl rfl) ?_
    refine RG.vl rfl rfl rfl (Ev.assign rfl rfl) ?_
    refine RG.done ?_
    refine QW.then_ ?_
    refine CW.ret ?_
    refine QW.ret2 rfl rfl rfl ?_
    have hB := (Ex.tr hB0 hE2)
    exact ⟨.inr ⟨hyes, gS, by assumption, rfl, hb6⟩, hB⟩

set_option maxRecDepth 100000 in
set_option maxHeartbeats 1000000 in
theorem valid_ret (u : Value) (l : List Nat) (w : World) (hl : RdL w 1 encN u l) (hlen : l.length ≤ 100000) :
    Ret Try.prog 25 [u] w (fun v w' => v = .bool (vldB l) ∧ Ex w w') := by
  have hB0 : Ex w w := Ex.rfl_ _
  refine Ret.of Try.func25 rfl Try.ntmps25 rfl ?_
  refine CW.seq ?_
  refine CW.region ?_
  refine RG.vl rfl rfl rfl (Ev.assign rfl rfl) ?_
  refine RG.done ?_
  refine QW.then_ ?_
  refine CW.seq ?_
  refine CW.region ?_
  refine RG.vl rfl rfl rfl (Ev.move rfl rfl) ?_
  refine RG.call rfl rfl rfl rfl rfl rfl rfl en_34 (isW_ret _ l _ (hl) hlen) ?_
  rintro _ w1 ⟨rfl, hx1⟩
  have hE2 := hx1
  refine RG.vl rfl rfl rfl (Ev.move rfl rfl) ?_
  refine RG.splitB (d := 5) rfl (fun hg3 => ?_) (fun hg3 => ?_)
  · refine RG.vl rfl rfl rfl (Ev.move rfl rfl) ?_
    refine RG.call rfl rfl rfl rfl rfl rfl rfl en_35 (syn_ret _ l _ ((hl.ext hE2)) (isW_iff.1 (by assumption)).2.2 (isW_iff.1 (by assumption)).2.1) ?_
    rintro _ w4 ⟨rfl, hx4⟩
    replace hE2 := Ex.tr hE2 hx4
    have hE5 := hx4
    refine RG.vl rfl rfl rfl (Ev.buildAZ (zs := [.int .u8 0, .int .u8 0, .int .u8 0, .int .u8 0]) rfl Try.underlying57 sz_5 inf_57 rfl) ?_
    refine RG.vl rfl rfl rfl (Ev.eq4 rfl rfl rfl Try.underlying57 Try.underlying5 inf_5 (by kernel_rfl)) ?_
    refine RG.vl rfl rfl rfl (Ev.pickT rfl rfl rfl) ?_
    refine RG.vl rfl rfl rfl (Ev.assign rfl rfl) ?_
    refine RG.done ?_
    refine QW.then_ ?_
    refine CW.ret ?_
    refine QW.ret1 rfl rfl ?_
    have hB := (Ex.tr hB0 hE2)
    refine ⟨congrArg Value.bool ?_, hB⟩
    unfold vldB
    first | (rw [(by assumption : isW l = true)]; rfl) | (rw [(by assumption : isW l = false)]; rfl)
  · refine RG.pass rfl rfl rfl ?_
    refine RG.pass rfl rfl rfl ?_
    refine RG.pass rfl rfl rfl ?_
    refine RG.pass rfl rfl rfl ?_
    refine RG.vl rfl rfl rfl (Ev.pickF rfl rfl rfl) ?_
    refine RG.vl rfl rfl rfl (Ev.assign rfl rfl) ?_
    refine RG.done ?_
    refine QW.then_ ?_
    refine CW.ret ?_
    refine QW.ret1 rfl rfl ?_
    have hB := (Ex.tr hB0 hE2)
    refine ⟨congrArg Value.bool ?_, hB⟩
    unfold vldB
    first | (rw [(by assumption : isW l = true)]; rfl) | (rw [(by assumption : isW l = false)]; rfl)

set_option maxRecDepth 100000 in
set_option maxHeartbeats 2000000 in
theorem encode_ret (u : Value) (l : List Nat) (w : World) (hl : RdL w 1 encN u l) (hlen : l.length ≤ 100000) :
    Ret Try.prog 23 [u] w (fun v w' => ∃ r c, v = .tuple #[r, .int .i64 (if encOk l then 0 else 2)] ∧ Own w' w.heap.size 5 1 encN r c ∧ (encOk l = true → IsEnc l c) ∧ (encOk l = false → r = .slice none 0 0 ∧ c = []) ∧ Ex w w') := by
  have hB0 : Ex w w := Ex.rfl_ _
  refine Ret.of Try.func23 rfl Try.ntmps23 rfl ?_
  refine CW.seq ?_
  refine CW.region ?_
  refine RG.vl rfl rfl rfl (Ev.assign rfl rfl) ?_
  refine RG.vl rfl rfl rfl (Ev.assign rfl rfl) ?_
  refine RG.done ?_
  refine QW.then_ ?_
  refine CW.seq ?_
  refine CW.seq ?_
  refine CW.region ?_
  refine RG.vl rfl rfl rfl (Ev.move rfl rfl) ?_
  refine RG.vl rfl rfl rfl (Ev.lenL rfl rfl rfl Try.underlying22 (hl)) ?_
  refine RG.vl rfl rfl rfl (Ev.lss rfl rfl rfl) ?_
  refine RG.vl rfl rfl rfl (Ev.move rfl rfl) ?_
  refine RG.split (d := 13) rfl (fun hg1 => ?_) (fun hg1 => ?_)
  · refine RG.pass rfl rfl rfl ?_
    refine RG.pass rfl rfl rfl ?_
    refine RG.pass rfl rfl rfl ?_
    refine RG.vl rfl rfl rfl (Ev.pickT rfl rfl rfl) ?_
    refine RG.vl rfl rfl rfl (Ev.move rfl rfl) ?_
    refine RG.pass rfl rfl rfl ?_
    refine RG.pass rfl rfl rfl ?_
    refine RG.pass rfl rfl rfl ?_
    refine RG.vl rfl rfl rfl (Ev.pickT rfl rfl rfl) ?_
    refine RG.done ?_
    refine QW.sub (S' := [(0, _), (2, _), (3, _), (22, _)]) ⟨rfl, rfl, rfl, rfl, trivial⟩ ?_
    refine QW.then_ ?_
    refine CW.condT rfl ?_
    refine CW.seq ?_
    refine CW.region ?_
    refine RG.vl rfl rfl rfl (Ev.assign rfl rfl) ?_
    refine RG.vl rfl rfl rfl (Ev.assign rfl rfl) ?_
    refine RG.done ?_
    refine QW.then_ ?_
    refine CW.ret ?_
    refine QW.thenRet ?_
    refine QW.ret2 rfl rfl rfl ?_
    have hB := hB0
    have hno : encOk l = false := by
      cases h : encOk l with
      | false => rfl
      | true =>
        obtain ⟨h1, h2, h3⟩ := encOk_iff.1 h
        exfalso
        first | omega | (rw [areE_el.2 h3] at *; simp at *)
    exact ⟨_, [], by rw [hno]; rfl, Own.nil_ _ _ _ _ _, fun h => (by rw [hno] at h; cases h), fun _ => ⟨rfl, rfl⟩, hB⟩
  · refine RG.vl rfl rfl rfl (Ev.move rfl rfl) ?_
    refine RG.vl rfl rfl rfl (Ev.lenL rfl rfl rfl Try.underlying22 (hl)) ?_
    refine RG.vl rfl rfl rfl (Ev.gtr rfl rfl rfl) ?_
    refine RG.vl rfl rfl rfl (Ev.pickF rfl rfl rfl) ?_
    refine RG.vl rfl rfl rfl (Ev.move rfl rfl) ?_
    refine RG.split (d := 18) rfl (fun hg2 => ?_) (fun hg2 => ?_)
    · refine RG.pass rfl rfl rfl ?_
      refine RG.pass rfl rfl rfl ?_
      refine RG.pass rfl rfl rfl ?_
      refine RG.vl rfl rfl rfl (Ev.pickT rfl rfl rfl) ?_
      refine RG.done ?_
      refine QW.sub (S' := [(0, _), (2, _), (3, _), (22, _)]) ⟨rfl, rfl, rfl, rfl, trivial⟩ ?_
      refine QW.then_ ?_
      refine CW.condT rfl ?_
      refine CW.seq ?_
      refine CW.region ?_
      refine RG.vl rfl rfl rfl (Ev.assign rfl rfl) ?_
      refine RG.vl rfl rfl rfl (Ev.assign rfl rfl) ?_
      refine RG.done ?_
      refine QW.then_ ?_
      refine CW.ret ?_
      refine QW.thenRet ?_
      refine QW.ret2 rfl rfl rfl ?_
      have hB := hB0
      have hno : encOk l = false := by
        cases h : encOk l with
        | false => rfl
        | true =>
          obtain ⟨h1, h2, h3⟩ := encOk_iff.1 h
          exfalso
          first | omega | (rw [areE_el.2 h3] at *; simp at *)
      exact ⟨_, [], by rw [hno]; rfl, Own.nil_ _ _ _ _ _, fun h => (by rw [hno] at h; cases h), fun _ => ⟨rfl, rfl⟩, hB⟩
    · refine RG.vl rfl rfl rfl (Ev.move rfl rfl) ?_
      refine RG.call rfl rfl rfl rfl rfl rfl rfl en_42 (areE_ret _ _ _ (hl) (by omega)) ?_
      rintro _ w3 ⟨rfl, hx3⟩
      have hE4 := hx3
      refine RG.vl rfl rfl rfl (Ev.not rfl rfl) ?_
      refine RG.vl rfl rfl rfl (Ev.pickF rfl rfl rfl) ?_
      refine RG.done ?_
      refine QW.sub (S' := [(0, _), (2, _), (3, _), (22, _)]) ⟨rfl, rfl, rfl, rfl, trivial⟩ ?_
      refine QW.then_ ?_
      refine CW.cond rfl (fun hc5 => ?_) (fun hc5 => ?_)
      · refine CW.seq ?_
        refine CW.region ?_
        refine RG.vl rfl rfl rfl (Ev.assign rfl rfl) ?_
        refine RG.vl rfl rfl rfl (Ev.assign rfl rfl) ?_
        refine RG.done ?_
        refine QW.then_ ?_
        refine CW.ret ?_
        refine QW.thenRet ?_
        refine QW.ret2 rfl rfl rfl ?_
        have hB := (Ex.tr hB0 hE4)
        have hno : encOk l = false := by
          cases h : encOk l with
          | false => rfl
          | true =>
            obtain ⟨h1, h2, h3⟩ := encOk_iff.1 h
            exfalso
            first | omega | (rw [areE_el.2 h3] at *; simp at *)
        exact ⟨_, [], by rw [hno]; rfl, Own.nil_ _ _ _ _ _, fun h => (by rw [hno] at h; cases h), fun _ => ⟨rfl, rfl⟩, hB⟩
      · refine CW.skip ?_
        refine QW.then_ ?_
        refine CW.seq ?_
        have hok : encOk l = true := encOk_iff.2 ⟨by omega, by omega, areE_el.1 (by simpa using (by assumption : (!areE l) = false))⟩
        obtain ⟨hl1, hl2, hel⟩ := encOk_iff.1 hok
        refine CW.region ?_
        refine RG.vl rfl rfl rfl (Ev.move rfl rfl) ?_
        replace hl := (hl.ext hE4)
        have hR6 := (Ex.tr hB0 hE4)
        refine RG.call rfl rfl rfl rfl rfl rfl rfl en_39 (clone_ret _ _ _ (hl) (by omega)) ?_
        have hpre7 := hR6
        rintro vcl7 w7 ⟨hcl7, hx7⟩
        have hE8 := hx7
        refine RG.appZ (k := 4) (0 : Nat) rfl rfl rfl rfl rfl rfl rfl Try.underlying22 Try.underlying3 inf_5 rfl rfl rfl hcl7 (by omega) (by omega) (by simp only [maxLen]; omega) (by omega) (hE8.size) (fun vw wa9 hown10 hgr11 hat12 => ?_)
        replace hE8 := own_block hcl7 hE8 hgr11 (Nat.le_refl _) hE8.size
        refine RG.vl rfl rfl rfl (Ev.assign rfl rfl) ?_
        refine RG.done ?_
        refine QW.then_ ?_
        refine CW.seq ?_
        have hlz : (l ++ List.replicate 4 0).length = l.length + 4 := by rw [List.length_append, List.length_replicate]
        refine CW.region ?_
        refine RG.vl rfl rfl rfl (Ev.move rfl rfl) ?_
        refine RG.call rfl rfl rfl rfl rfl rfl rfl en_44 (poly_ret _ _ _ ((hown10.rdl encN_len)) (by omega)) ?_
        have hpre13 := (Ex.tr hR6 hE8)
        rintro vpo13 w13 ⟨hpo13, hx13⟩
        have hsep14 : Sep vpo13 _ := Sep.of_new hown10 (fun k h => Own.ge hpo13 h)
        replace hE8 := Ex.tr hE8 hx13
        have hE15 := hx13
        refine RG.litO (os := [_, _, _, _, _]) (enc := encN) (gen5) rfl rfl rfl rfl rfl rfl rfl Try.underlying22 inf_5 rfl rfl rfl rfl rfl encN_len rfl rfl (fun v16 wk17 hxwk17 hown18 hnew19 => ?_)
        have hsep20 : Sep v16 _ := Sep.of_new (Own.ext hown10 hE15) hnew19
        have hsep21 : Sep v16 _ := Sep.of_new hpo13 hnew19
        replace hE8 := Ex.tr hE8 hxwk17
        replace hE15 := Ex.tr hE15 hxwk17
        have hE22 := hxwk17
        refine RG.call rfl rfl rfl rfl rfl rfl rfl en_43 (Divide_el _ _ _ gen5 _ (((Own.ext hpo13 hE22).rdl encN_len)) ((hown18.rdl encN_len)) (by rw [List.length_reverse]; omega) (hel.app (El.zeros 4)).rev (by decide) gen5_el (by rw [gen5_dg]; omega)) ?_
        have hpre23 := (Ex.tr hR6 hE8)
        rintro _ w23 ⟨r1, r2, dq, rr, rfl, hod, hoe, hsp, hdv, hx23⟩
        have hsep24 : Sep r1 _ := Sep.of_new (Own.ext hown10 hE15) (fun k h => Own.ge hod h)
        have hsep25 : Sep r1 _ := Sep.of_new (Own.ext hpo13 hE22) (fun k h => Own.ge hod h)
        have hsep26 : Sep r1 _ := Sep.of_new hown18 (fun k h => Own.ge hod h)
        replace hod := Own.low (B' := w3.heap.size) hod (by have := hE8.size; omega)
        have hsep27 : Sep r2 _ := Sep.of_new (Own.ext hown10 hE15) (fun k h => Own.ge hoe h)
        have hsep28 : Sep r2 _ := Sep.of_new (Own.ext hpo13 hE22) (fun k h => Own.ge hoe h)
        have hsep29 : Sep r2 _ := Sep.of_new hown18 (fun k h => Own.ge hoe h)
        replace hoe := Own.low (B' := w3.heap.size) hoe (by have := hE8.size; omega)
        replace hE8 := Ex.tr hE8 hx23
        replace hE15 := Ex.tr hE15 hx23
        replace hE22 := Ex.tr hE22 hx23
        have hE30 := hx23
        refine RG.vl rfl rfl rfl (Ev.move rfl rfl) ?_
        refine RG.vl rfl rfl rfl (Ev.extract rfl rfl rfl) ?_
        refine RG.vl rfl rfl rfl (Ev.extract rfl rfl rfl) ?_
        refine RG.vl rfl rfl rfl (Ev.extract rfl rfl rfl) ?_
        refine RG.vl rfl rfl rfl (Ev.assign rfl rfl) ?_
        refine RG.vl rfl rfl rfl (Ev.assign rfl rfl) ?_
        refine RG.vl rfl rfl rfl (Ev.assign rfl rfl) ?_
        refine RG.done ?_
        refine QW.sub (S' := [(2, _), (3, _), (4, _), (6, _), (7, _)]) ⟨rfl, rfl, rfl, rfl, rfl, trivial⟩ ?_
        refine QW.then_ ?_
        refine CW.seq ?_
        refine CW.seq ?_
        refine CW.region ?_
        refine RG.vl rfl rfl rfl (Ev.move rfl rfl) ?_
        refine RG.vl rfl rfl rfl (Ev.isF (Ev.neI rfl rfl rfl) (fun h => h rfl)) ?_
        refine RG.done ?_
        refine QW.then_ ?_
        refine CW.condF rfl ?_
        refine CW.skip ?_
        refine QW.then_ ?_
        refine CW.seq ?_
        refine CW.seq ?_
        obtain ⟨hr4, henc⟩ := enc_end hel hdv.2.2.2.1 hdv.2.2.2.2 hdv.1 hdv.2.2.1
        refine CW.region ?_
        refine RG.vl rfl rfl rfl (Ev.move rfl rfl) ?_
        refine RG.vl rfl rfl rfl (Ev.lenL rfl rfl rfl Try.underlying22 ((hoe.rdl encN_len))) ?_
        refine RG.vl rfl rfl rfl (Ev.move rfl rfl) ?_
        refine RG.done ?_
        refine QW.then_ ?_
        refine CW.block ?_
        refine CW.loop1 [(2, _), (3, _), (4, _), (36, _), (37, _)] ⟨rfl, rfl, rfl, rfl, rfl, trivial⟩ (fun (i : Nat) => [(38, .int .i64 (i : Int))]) (fun i w' => (i ≤ rr.length ∧ Own w' w3.heap.size 5 1 encN vw (stE l rr i) ∧ Own w' w3.heap.size 5 1 encN r2 rr) ∧ Ex w3 w') (fun i => rr.length - i) (0) ⟨rfl, trivial⟩ ⟨⟨Nat.zero_le _, by rw [← stE_zero]; exact (Own.ext hown10 hE15), hoe⟩, hE8⟩ ?_
        rintro i wl31 ⟨⟨hi, how, hoe⟩, hxwl31⟩
        refine CW.sub (S' := [(38, _), (2, _), (3, _), (4, _), (36, _), (37, _)]) ⟨rfl, rfl, rfl, rfl, rfl, rfl, trivial⟩ ?_
        refine CW.seq ?_
        refine CW.region ?_
        refine RG.vl rfl rfl rfl (Ev.lss rfl rfl rfl) ?_
        refine RG.done ?_
        refine QW.then_ ?_
        refine CW.seq ?_
        refine CW.condP rfl (fun hc32 => ?_) (fun hc32 => ?_)
        · refine CW.skip ?_
          refine QW.then_ ?_
          refine CW.seq ?_
          refine CW.block ?_
          refine CW.seq ?_
          obtain ⟨a, ha⟩ : ∃ a, rr[i]? = some a := ⟨_, List.getElem?_eq_getElem (by omega)⟩
          have hsl := stE_len l rr i
          refine CW.region ?_
          refine RG.vl rfl rfl rfl (Ev.move rfl rfl) ?_
          refine RG.idxO rfl rfl rfl rfl rfl rfl Try.underlying22 sz_5 encN_len (hoe) (ha) (fun g34 hg34 hBg34 hp33b hp33 => ?_)
          refine RG.vl rfl rfl rfl (Ev.ld0 rfl rfl Try.underlying5 rfl (hp33) (rfl)) ?_
          refine RG.vl rfl rfl rfl (Ev.assign rfl rfl) ?_
          refine RG.vl rfl rfl rfl (Ev.assign rfl rfl) ?_
          refine RG.done ?_
          refine QW.then_ ?_
          obtain ⟨q, hq⟩ : ∃ q, (stE l rr i)[l.length + 4 - 1 - i]? = some q := ⟨_, List.getElem?_eq_getElem (by omega)⟩
          refine CW.region ?_
          refine RG.vl rfl rfl rfl (Ev.move rfl rfl) ?_
          refine RG.vl rfl rfl rfl (Ev.move rfl rfl) ?_
          refine RG.vl rfl rfl rfl (Ev.lenL rfl rfl rfl Try.underlying22 ((how.rdl encN_len))) ?_
          refine RG.vl rfl rfl rfl (Ev.subI rfl rfl rfl (by omega)) ?_
          refine RG.vl rfl rfl rfl (Ev.move rfl rfl) ?_
          refine RG.vl rfl rfl rfl ((Ev.subI rfl rfl rfl (by omega)).conv (congrArg (Value.int .i64) (show _ = ((l.length + 4 - 1 - i : Nat) : Int) by omega))) ?_
          refine RG.vl rfl rfl rfl (Ev.move rfl rfl) ?_
          refine RG.idxO rfl rfl rfl rfl rfl rfl Try.underlying22 sz_5 encN_len (how) (hq) (fun g36 hg36 hBg36 hp35b hp35 => ?_)
          refine RG.stOw0 (g := g36) (a) rfl rfl rfl rfl rfl sz_5 rfl (fun _ => rfl) how hg36 (hq) rfl (rfl) (fun ws37 hwws37 hown38 => ?_)
          replace hoe := Own.far hoe hwws37 (fun e => (Sep.symm hsep27) _ hg36 e)
          replace hxwl31 := Wr.below hxwl31 hwws37 hBg36
          refine RG.done ?_
          refine QW.sub (S' := [(2, _), (3, _), (4, _), (36, _), (37, _), (38, _)]) ⟨rfl, rfl, rfl, rfl, rfl, rfl, trivial⟩ ?_
          refine QW.blockN ?_
          refine QW.then_ ?_
          refine CW.region ?_
          refine RG.vl rfl rfl rfl (Ev.addI rfl rfl rfl (by omega)) ?_
          refine RG.vl rfl rfl rfl (Ev.move rfl rfl) ?_
          refine RG.done ?_
          refine QW.round1 (i + 1) ⟨rfl, trivial⟩ ⟨rfl, rfl, rfl, rfl, rfl, trivial⟩ ⟨⟨by omega, by rw [← stE_set (by omega) ha]; exact hown38, hoe⟩, hxwl31⟩ (by omega)
        · refine CW.exit ?_
          refine QW.thenExit ?_
          refine QW.thenExit ?_
          refine QW.blockHit ?_
          refine QW.then_ ?_
          refine CW.seq ?_
          refine CW.region ?_
          refine RG.vl rfl rfl rfl (Ev.move rfl rfl) ?_
          refine RG.vl rfl rfl rfl (Ev.assign rfl rfl) ?_
          refine RG.vl rfl rfl rfl (Ev.assign rfl rfl) ?_
          refine RG.done ?_
          refine QW.then_ ?_
          refine CW.ret ?_
          refine QW.ret2 rfl rfl rfl ?_
          have hB := (Ex.tr hR6 hxwl31)
          obtain rfl : i = rr.length := by omega
          exact ⟨_, _, by rw [hok]; rfl, how.low (by have := hR6.size; omega), fun _ => henc, fun h => (by rw [hok] at h; cases h), hB⟩

end Go.Proofs.Ytjhgihgggofocaa

/- Walks (SC). Written by program. -/
namespace Go.Proofs.Ytjhgihgggofocaa
open Go.RowKit
set_option maxRecDepth 100000 in
set_option maxHeartbeats 1000000 in
theorem subtract_ret (w0 : World) (g r i t : Nat) (M : Mx) (w : World) (hx0 : Ex w0 w) (hg0 : w0.heap.size ≤ g) (hb : Blk w g 64 (mc M)) (hel : EM M) (hr : r < 4) (hi : i < 4) (ht : t < 64) :
    Ret Try.prog 57 [.pointer (some ⟨g, 0, none⟩), .int .i64 (r : Int), .int .i64 (i : Int), .int .u8 (t : Int)] w (fun v w' => v = .tuple #[] ∧ Blk w' g 64 (mc (subTo M r i t 5)) ∧ Ex w0 w') := by
  have hB0 : Ex w w := Ex.rfl_ _
  refine Ret.of Try.func57 rfl Try.ntmps57 rfl ?_
  refine CW.seq ?_
  refine CW.region ?_
  refine RG.vl rfl rfl rfl (Ev.move rfl rfl) ?_
  refine RG.done ?_
  refine QW.then_ ?_
  refine CW.block ?_
  refine CW.loop1 [(0, _), (1, _), (2, _), (3, _)] ⟨rfl, rfl, rfl, rfl, trivial⟩ (fun (k : Nat) => [(11, .int .i64 (k : Int))]) (fun k w' => (k ≤ 5 ∧ Blk w' g 64 (mc (subTo M r i t k))) ∧ Ex w0 w') (fun k => 5 - k) (0) ⟨rfl, trivial⟩ ⟨⟨by omega, by rw [subTo_zero]; exact hb⟩, hx0⟩ ?_
  rintro k wl1 ⟨⟨hk, hbk⟩, hxwl1⟩
  refine CW.sub (S' := [(11, _), (0, _), (1, _), (2, _), (3, _)]) ⟨rfl, rfl, rfl, rfl, rfl, trivial⟩ ?_
  refine CW.seq ?_
  refine CW.region ?_
  refine RG.vl rfl rfl rfl (Ev.lss rfl rfl rfl) ?_
  refine RG.done ?_
  refine QW.then_ ?_
  refine CW.seq ?_
  refine CW.condP rfl (fun hc2 => ?_) (fun hc2 => ?_)
  · refine CW.skip ?_
    refine QW.then_ ?_
    refine CW.seq ?_
    refine CW.block ?_
    refine CW.seq ?_
    refine CW.region ?_
    refine RG.vl rfl rfl rfl (Ev.move rfl rfl) ?_
    refine RG.vl rfl rfl rfl (Ev.assign rfl rfl) ?_
    refine RG.done ?_
    refine QW.then_ ?_
    refine CW.seq ?_
    have e1 : subTo M r i t k i k = M i k := by unfold subTo; rw [if_neg (by omega)]
    have e2 : subTo M r i t k r k = M r k := by unfold subTo; rw [if_neg (by omega)]
    have h1 := hel i k hi (by omega)
    have h2 := hel r k hr (by omega)
    have h3 := gm_lt t (M i k)
    have h4 := xor_lt64 _ _ h2 h3
    refine CW.region ?_
    refine RG.vl rfl rfl rfl (Ev.move rfl rfl) ?_
    refine RG.vl rfl rfl rfl (Ev.move rfl rfl) ?_
    refine RG.vl rfl rfl rfl (Ev.move rfl rfl) ?_
    refine RG.vl rfl rfl rfl (Ev.move rfl rfl) ?_
    refine RG.vl rfl rfl rfl (Ev.nilC rfl rfl) ?_
    refine RG.vl rfl rfl rfl (Ev.idxA rfl rfl rfl Try.underlying64 sz_62 (by omega)) ?_
    refine RG.vl rfl rfl rfl (Ev.idxA rfl rfl rfl Try.underlying62 sz_5 (by omega)) ?_
    refine RG.vl rfl rfl rfl (Ev.ldAA rfl rfl Try.underlying5 rfl (hbk.cells) ((show (mc _)[i * 5 + k * 1]? = some (.int .u8 (M i k : Int)) by rw [mc_at _ (by omega) (by omega), e1]))) ?_
    refine RG.call rfl rfl rfl rfl rfl rfl rfl en_31 (Mul_el _ _ _ ht h1) ?_
    rintro _ w3 ⟨rfl, hx3⟩
    replace hxwl1 := Ex.tr hxwl1 hx3
    have hE4 := hx3
    refine RG.vl rfl rfl rfl (Ev.move rfl rfl) ?_
    refine RG.vl rfl rfl rfl (Ev.extract rfl rfl rfl) ?_
    refine RG.vl rfl rfl rfl (Ev.extract rfl rfl rfl) ?_
    refine RG.vl rfl rfl rfl (Ev.assign rfl rfl) ?_
    refine RG.vl rfl rfl rfl (Ev.assign rfl rfl) ?_
    refine RG.done ?_
    refine QW.sub (S' := [(0, _), (1, _), (2, _), (3, _), (8, _), (9, _), (11, _)]) ⟨rfl, rfl, rfl, rfl, rfl, rfl, rfl, trivial⟩ ?_
    refine QW.then_ ?_
    refine CW.draw [12] (.ex) 13 rfl mixed (fun wd5 hxwd5 => ?_)
    replace hxwl1 := Ex.tr hxwl1 hxwd5
    replace hE4 := Ex.tr hE4 hxwd5
    refine AG.takeW 0 rfl (by kernel_rfl) (by kernel_rfl) rfl rfl rfl (fun _ => Ev.move rfl rfl) ?_
    refine AG.takeW 1 rfl (by kernel_rfl) (by kernel_rfl) rfl rfl rfl (fun _ => Ev.move rfl rfl) ?_
    refine AG.takeW 2 rfl (by kernel_rfl) (by kernel_rfl) rfl rfl rfl (fun _ => Ev.move rfl rfl) ?_
    refine AG.takeW 3 rfl (by kernel_rfl) (by kernel_rfl) rfl rfl rfl (fun _ => Ev.nilC rfl rfl) ?_
    refine AG.takeW 4 rfl (by kernel_rfl) (by kernel_rfl) rfl rfl rfl (fun _ => Ev.idxA rfl rfl rfl Try.underlying64 sz_62 (by omega)) ?_
    refine AG.takeW 5 rfl (by kernel_rfl) (by kernel_rfl) rfl rfl rfl (fun _ => Ev.idxA rfl rfl rfl Try.underlying62 sz_5 (by omega)) ?_
    refine AG.take 6 rfl (by kernel_rfl) (by kernel_rfl) rfl rfl rfl (fun wq hq => Ev.ldAA rfl rfl Try.underlying5 rfl (((hbk.ext hE4).ext hq).cells) ((show (mc _)[r * 5 + k * 1]? = some (.int .u8 (M r k : Int)) by rw [mc_at _ (by omega) (by omega), e2]))) ?_
    refine AG.takeW 7 rfl (by kernel_rfl) (by kernel_rfl) rfl rfl rfl (fun _ => Ev.move rfl rfl) ?_
    refine AG.takeW 8 rfl (by kernel_rfl) (by kernel_rfl) rfl rfl rfl (fun _ => Ev.xor8 rfl rfl rfl (by omega) (by omega)) ?_
    refine AG.takeW 9 rfl (by kernel_rfl) (by kernel_rfl) rfl rfl rfl (fun _ => Ev.nilC rfl rfl) ?_
    refine AG.takeW 10 rfl (by kernel_rfl) (by kernel_rfl) rfl rfl rfl (fun _ => Ev.idxA rfl rfl rfl Try.underlying64 sz_62 (by omega)) ?_
    refine AG.takeW 11 rfl (by kernel_rfl) (by kernel_rfl) rfl rfl rfl (fun _ => Ev.idxA rfl rfl rfl Try.underlying62 sz_5 (by omega)) ?_
    refine AG.only 12 rfl (by kernel_rfl) ?_
    refine RG.st2 (g := g) rfl rfl rfl rfl rfl sz_5 rfl (hbk.ext hE4) (by rw [mc_len, Nat.blt_eq]; omega) (fun ws7 hwws7 hbws7 => ?_)
    replace hxwl1 := Wr.below hxwl1 hwws7 hg0
    rw [mc_set _ _ (by omega), subTo_more] at hbws7
    refine RG.done ?_
    refine QW.an (fun h => by simp at h) ?_
    refine AG.done (by kernel_rfl) ?_
    refine QW.blockN ?_
    refine QW.then_ ?_
    refine CW.region ?_
    refine RG.vl rfl rfl rfl (Ev.addI rfl rfl rfl (by omega)) ?_
    refine RG.vl rfl rfl rfl (Ev.move rfl rfl) ?_
    refine RG.done ?_
    refine QW.sub (S' := [(0, _), (1, _), (2, _), (3, _), (11, _)]) ⟨rfl, rfl, rfl, rfl, rfl, trivial⟩ ?_
    refine QW.round1 (k + 1) ⟨rfl, trivial⟩ ⟨rfl, rfl, rfl, rfl, trivial⟩ ⟨⟨by omega, hbws7⟩, hxwl1⟩ (by omega)
  · refine CW.exit ?_
    refine QW.thenExit ?_
    refine QW.thenExit ?_
    refine QW.blockHit ?_
    refine QW.end0 rfl ?_
    obtain rfl : k = 5 := by omega
    exact ⟨rfl, hbk, hxwl1⟩

set_option maxRecDepth 100000 in
set_option maxHeartbeats 2000000 in
theorem pivot_ret (w0 : World) (g i : Nat) (M : Mx) (w : World) (hx0 : Ex w0 w) (hg0 : w0.heap.size ≤ g) (hb : Blk w g 64 (mc M)) (hel : EM M) (hi : i < 4) :
    Ret Try.prog 56 [.pointer (some ⟨g, 0, none⟩), .int .i64 (i : Int)] w (fun v w' => ∃ b M', v = .bool b ∧ Blk w' g 64 (mc M') ∧ (b = true → ∃ row, i ≤ row ∧ row < 4 ∧ M row i ≠ 0 ∧ M' = pivM M i row) ∧ (b = false → M' = M ∧ ∀ r, i ≤ r → r < 4 → M r i = 0) ∧ Ex w0 w') := by
  have hB0 : Ex w w := Ex.rfl_ _
  refine Ret.of Try.func56 rfl Try.ntmps56 rfl ?_
  refine CW.seq ?_
  refine CW.region ?_
  refine RG.vl rfl rfl rfl (Ev.assign rfl rfl) ?_
  refine RG.done ?_
  refine QW.then_ ?_
  refine CW.seq ?_
  refine CW.seq ?_
  refine CW.region ?_
  refine RG.vl rfl rfl rfl (Ev.move rfl rfl) ?_
  refine RG.vl rfl rfl rfl (Ev.assign rfl rfl) ?_
  refine RG.done ?_
  refine QW.then_ ?_
  refine CW.block ?_
  refine CW.loop1 [(0, _), (1, _)] ⟨rfl, rfl, trivial⟩ (fun (row : Nat) => [(5, .int .i64 (row : Int))]) (fun row w' => (i ≤ row ∧ row ≤ 4 ∧ (∀ r, i ≤ r → r < row → M r i = 0) ∧ Blk w' g 64 (mc M)) ∧ Ex w0 w') (fun row => 4 - row) (i) ⟨rfl, trivial⟩ ⟨⟨Nat.le_refl _, by omega, fun r h1 h2 => absurd h1 (by omega), hb⟩, hx0⟩ ?_
  rintro row wl1 ⟨⟨hrow, hrow4, hz, hbk⟩, hxwl1⟩
  refine CW.sub (S' := [(5, _), (0, _), (1, _)]) ⟨rfl, rfl, rfl, trivial⟩ ?_
  refine CW.seq ?_
  refine CW.seq ?_
  refine CW.region ?_
  refine RG.vl rfl rfl rfl (Ev.move rfl rfl) ?_
  refine RG.vl rfl rfl rfl (Ev.lss rfl rfl rfl) ?_
  refine RG.done ?_
  refine QW.then_ ?_
  refine CW.condP rfl (fun hc2 => ?_) (fun hc2 => ?_)
  · refine CW.skip ?_
    refine QW.then_ ?_
    refine CW.seq ?_
    refine CW.block ?_
    refine CW.seq ?_
    refine CW.seq ?_
    refine CW.region ?_
    refine RG.vl rfl rfl rfl (Ev.move rfl rfl) ?_
    refine RG.vl rfl rfl rfl (Ev.move rfl rfl) ?_
    refine RG.vl rfl rfl rfl (Ev.move rfl rfl) ?_
    refine RG.vl rfl rfl rfl (Ev.nilC rfl rfl) ?_
    refine RG.vl rfl rfl rfl (Ev.idxA rfl rfl rfl Try.underlying64 sz_62 (by omega)) ?_
    refine RG.vl rfl rfl rfl (Ev.idxA rfl rfl rfl Try.underlying62 sz_5 (by omega)) ?_
    refine RG.vl rfl rfl rfl (Ev.ldAA rfl rfl Try.underlying5 rfl (hbk.cells) ((show (mc _)[row * 5 + i * 1]? = some (.int .u8 (M row i : Int)) by rw [mc_at _ (by omega) (by omega)]))) ?_
    refine RG.vl rfl rfl rfl (Ev.eqI rfl rfl rfl) ?_
    refine RG.done ?_
    refine QW.then_ ?_
    refine CW.condP rfl (fun hc3 => ?_) (fun hc3 => ?_)
    · refine CW.exit ?_
      refine QW.thenExit ?_
      refine QW.blockHit ?_
      refine QW.then_ ?_
      refine CW.region ?_
      refine RG.vl rfl rfl rfl (Ev.move rfl rfl) ?_
      refine RG.vl rfl rfl rfl (Ev.addI rfl rfl rfl (by omega)) ?_
      refine RG.vl rfl rfl rfl (Ev.assign rfl rfl) ?_
      refine RG.done ?_
      refine QW.round1 (row + 1) ⟨rfl, trivial⟩ ⟨rfl, rfl, trivial⟩ ⟨⟨by omega, by omega, fun r h1 h2 => by rcases Nat.lt_or_ge r row with h | h; exact hz r h1 h; obtain rfl : r = row := (by omega); omega, hbk⟩, hxwl1⟩ (by omega)
    · refine CW.skip ?_
      refine QW.then_ ?_
      refine CW.seq ?_
      have h0 : M row i ≠ 0 := by omega
      have hr4 : row < 4 := by omega
      refine CW.draw [16, 19] (.ex) 20 rfl mixed (fun wd4 hxwd4 => ?_)
      replace hxwl1 := Ex.tr hxwl1 hxwd4
      have hE5 := hxwd4
      refine AG.takeW 0 rfl (by kernel_rfl) (by kernel_rfl) rfl rfl rfl (fun _ => Ev.move rfl rfl) ?_
      refine AG.takeW 1 rfl (by kernel_rfl) (by kernel_rfl) rfl rfl rfl (fun _ => Ev.move rfl rfl) ?_
      refine AG.takeW 2 rfl (by kernel_rfl) (by kernel_rfl) rfl rfl rfl (fun _ => Ev.move rfl rfl) ?_
      refine AG.takeW 3 rfl (by kernel_rfl) (by kernel_rfl) rfl rfl rfl (fun _ => Ev.move rfl rfl) ?_
      refine AG.takeW 4 rfl (by kernel_rfl) (by kernel_rfl) rfl rfl rfl (fun _ => Ev.move rfl rfl) ?_
      refine AG.takeW 5 rfl (by kernel_rfl) (by kernel_rfl) rfl rfl rfl (fun _ => Ev.move rfl rfl) ?_
      refine AG.takeW 6 rfl (by kernel_rfl) (by kernel_rfl) rfl rfl rfl (fun _ => Ev.nilC rfl rfl) ?_
      refine AG.takeW 7 rfl (by kernel_rfl) (by kernel_rfl) rfl rfl rfl (fun _ => Ev.idxA rfl rfl rfl Try.underlying64 sz_62 (by omega)) ?_
      refine AG.take 8 rfl (by kernel_rfl) (by kernel_rfl) rfl rfl rfl (fun wq hq => Ev.ldRow (r := row) rfl rfl Try.underlying62 rfl sz_62 ((hbk.ext hE5).ext hq) (by omega)) ?_
      refine AG.takeW 9 rfl (by kernel_rfl) (by kernel_rfl) rfl rfl rfl (fun _ => Ev.move rfl rfl) ?_
      refine AG.takeW 10 rfl (by kernel_rfl) (by kernel_rfl) rfl rfl rfl (fun _ => Ev.move rfl rfl) ?_
      refine AG.takeW 11 rfl (by kernel_rfl) (by kernel_rfl) rfl rfl rfl (fun _ => Ev.nilC rfl rfl) ?_
      refine AG.takeW 12 rfl (by kernel_rfl) (by kernel_rfl) rfl rfl rfl (fun _ => Ev.idxA rfl rfl rfl Try.underlying64 sz_62 (by omega)) ?_
      refine AG.take 13 rfl (by kernel_rfl) (by kernel_rfl) rfl rfl rfl (fun wq hq => Ev.ldRow (r := i) rfl rfl Try.underlying62 rfl sz_62 ((hbk.ext hE5).ext hq) (by omega)) ?_
      refine AG.takeW 14 rfl (by kernel_rfl) (by kernel_rfl) rfl rfl rfl (fun _ => Ev.nilC rfl rfl) ?_
      refine AG.takeW 15 rfl (by kernel_rfl) (by kernel_rfl) rfl rfl rfl (fun _ => Ev.idxA rfl rfl rfl Try.underlying64 sz_62 (by omega)) ?_
      refine AG.takeW 17 rfl (by kernel_rfl) (by kernel_rfl) rfl rfl rfl (fun _ => Ev.nilC rfl rfl) ?_
      refine AG.only 16 rfl (by kernel_rfl) ?_
      refine RG.stRow (r := i) (M row) rfl rfl rfl rfl rfl sz_62 (hbk.ext hE5) (by omega) (fun ws7 hwws7 hbws7 => ?_)
      replace hxwl1 := Wr.below hxwl1 hwws7 hg0
      refine RG.done ?_
      refine QW.an (fun h => by simp at h) ?_
      refine AG.takeW 18 rfl (by kernel_rfl) (by kernel_rfl) rfl rfl rfl (fun _ => Ev.idxA rfl rfl rfl Try.underlying64 sz_62 (by omega)) ?_
      refine AG.only 19 rfl (by kernel_rfl) ?_
      refine RG.stRow (r := row) (M i) rfl rfl rfl rfl rfl sz_62 hbws7 (by omega) (fun ws9 hwws9 hbws9 => ?_)
      replace hxwl1 := Wr.below hxwl1 hwws9 hg0
      replace hbws9 : Blk ws9 g 64 (mc (swp M i row)) := hbws9
      refine RG.done ?_
      refine QW.an (fun h => by simp at h) ?_
      refine AG.done (by kernel_rfl) ?_
      refine QW.sub (S' := [(0, _), (1, _), (5, _)]) ⟨rfl, rfl, rfl, trivial⟩ ?_
      refine QW.then_ ?_
      refine CW.seq ?_
      have hM1 := hel.swp hi hr4
      have es : swp M i row i i = M row i := swp_i M i row i
      have h64 := hel row i hr4 (by omega)
      have hgi := (gi_lt (M row i)).2
      refine CW.region ?_
      refine RG.vl rfl rfl rfl (Ev.move rfl rfl) ?_
      refine RG.vl rfl rfl rfl (Ev.move rfl rfl) ?_
      refine RG.vl rfl rfl rfl (Ev.move rfl rfl) ?_
      refine RG.vl rfl rfl rfl (Ev.nilC rfl rfl) ?_
      refine RG.vl rfl rfl rfl (Ev.idxA rfl rfl rfl Try.underlying64 sz_62 (by omega)) ?_
      refine RG.vl rfl rfl rfl (Ev.idxA rfl rfl rfl Try.underlying62 sz_5 (by omega)) ?_
      refine RG.vl rfl rfl rfl (Ev.ldAA rfl rfl Try.underlying5 rfl (hbws9.cells) ((show (mc _)[i * 5 + i * 1]? = some (.int .u8 (M row i : Int)) by rw [mc_at _ (by omega) (by omega), es]))) ?_
      refine RG.call rfl rfl rfl rfl rfl rfl rfl en_73 (Inv_el _ _ h0 h64) ?_
      rintro _ w10 ⟨rfl, hx10⟩
      replace hxwl1 := Ex.tr hxwl1 hx10
      have hE11 := hx10
      refine RG.vl rfl rfl rfl (Ev.move rfl rfl) ?_
      refine RG.vl rfl rfl rfl (Ev.extract rfl rfl rfl) ?_
      refine RG.vl rfl rfl rfl (Ev.extract rfl rfl rfl) ?_
      refine RG.vl rfl rfl rfl (Ev.assign rfl rfl) ?_
      refine RG.vl rfl rfl rfl (Ev.assign rfl rfl) ?_
      refine RG.done ?_
      refine QW.then_ ?_
      refine CW.seq ?_
      refine CW.seq ?_
      refine CW.region ?_
      refine RG.vl rfl rfl rfl (Ev.move rfl rfl) ?_
      refine RG.done ?_
      refine QW.sub (S' := [(0, _), (1, _), (5, _), (6, _), (51, _)]) ⟨rfl, rfl, rfl, rfl, rfl, trivial⟩ ?_
      refine QW.then_ ?_
      refine CW.block ?_
      refine CW.loop1 [(0, _), (1, _), (5, _), (6, _)] ⟨rfl, rfl, rfl, rfl, trivial⟩ (fun (k : Nat) => [(51, .int .i64 (k : Int))]) (fun k w' => (k ≤ 5 ∧ Blk w' g 64 (mc (scTo (swp M i row) i (gi (M row i)) k))) ∧ Ex w0 w') (fun k => 5 - k) (0) ⟨rfl, trivial⟩ ⟨⟨by omega, by rw [scTo_zero]; exact (hbws9.ext hE11)⟩, hxwl1⟩ ?_
      rintro k wl12 ⟨⟨hk, hbk⟩, hxwl12⟩
      refine CW.sub (S' := [(51, _), (0, _), (1, _), (5, _), (6, _)]) ⟨rfl, rfl, rfl, rfl, rfl, trivial⟩ ?_
      refine CW.seq ?_
      refine CW.region ?_
      refine RG.vl rfl rfl rfl (Ev.lss rfl rfl rfl) ?_
      refine RG.done ?_
      refine QW.then_ ?_
      refine CW.seq ?_
      refine CW.condP rfl (fun hc13 => ?_) (fun hc13 => ?_)
      · refine CW.skip ?_
        refine QW.then_ ?_
        refine CW.seq ?_
        refine CW.block ?_
        refine CW.seq ?_
        refine CW.region ?_
        refine RG.vl rfl rfl rfl (Ev.move rfl rfl) ?_
        refine RG.vl rfl rfl rfl (Ev.assign rfl rfl) ?_
        refine RG.done ?_
        refine QW.then_ ?_
        have e1 : scTo (swp M i row) i (gi (M row i)) k i k = swp M i row i k := by unfold scTo; rw [if_neg (by omega)]
        have h1 := hM1 i k hi (by omega)
        have h2 := gm_lt (swp M i row i k) (gi (M row i))
        refine CW.draw [18] (.ex) 19 rfl mixed (fun wd14 hxwd14 => ?_)
        replace hxwl12 := Ex.tr hxwl12 hxwd14
        have hE15 := hxwd14
        refine AG.takeW 0 rfl (by kernel_rfl) (by kernel_rfl) rfl rfl rfl (fun _ => Ev.move rfl rfl) ?_
        refine AG.takeW 1 rfl (by kernel_rfl) (by kernel_rfl) rfl rfl rfl (fun _ => Ev.move rfl rfl) ?_
        refine AG.takeW 2 rfl (by kernel_rfl) (by kernel_rfl) rfl rfl rfl (fun _ => Ev.move rfl rfl) ?_
        refine AG.takeW 3 rfl (by kernel_rfl) (by kernel_rfl) rfl rfl rfl (fun _ => Ev.move rfl rfl) ?_
        refine AG.takeW 4 rfl (by kernel_rfl) (by kernel_rfl) rfl rfl rfl (fun _ => Ev.move rfl rfl) ?_
        refine AG.takeW 5 rfl (by kernel_rfl) (by kernel_rfl) rfl rfl rfl (fun _ => Ev.move rfl rfl) ?_
        refine AG.takeW 6 rfl (by kernel_rfl) (by kernel_rfl) rfl rfl rfl (fun _ => Ev.nilC rfl rfl) ?_
        refine AG.takeW 7 rfl (by kernel_rfl) (by kernel_rfl) rfl rfl rfl (fun _ => Ev.idxA rfl rfl rfl Try.underlying64 sz_62 (by omega)) ?_
        refine AG.takeW 8 rfl (by kernel_rfl) (by kernel_rfl) rfl rfl rfl (fun _ => Ev.idxA rfl rfl rfl Try.underlying62 sz_5 (by omega)) ?_
        refine AG.take 9 rfl (by kernel_rfl) (by kernel_rfl) rfl rfl rfl (fun wq hq => Ev.ldAA rfl rfl Try.underlying5 rfl (((hbk.ext hE15).ext hq).cells) ((show (mc _)[i * 5 + k * 1]? = some (.int .u8 (swp M i row i k : Int)) by rw [mc_at _ (by omega) (by omega), e1]))) ?_
        refine AG.takeW 10 rfl (by kernel_rfl) (by kernel_rfl) rfl rfl rfl (fun _ => Ev.move rfl rfl) ?_
        refine AG.takeW 15 rfl (by kernel_rfl) (by kernel_rfl) rfl rfl rfl (fun _ => Ev.nilC rfl rfl) ?_
        refine AG.takeW 16 rfl (by kernel_rfl) (by kernel_rfl) rfl rfl rfl (fun _ => Ev.idxA rfl rfl rfl Try.underlying64 sz_62 (by omega)) ?_
        refine AG.only 11 rfl (by kernel_rfl) ?_
        refine RG.call rfl rfl rfl rfl rfl rfl rfl en_31 (Mul_el _ _ _ h1 hgi) ?_
        rintro _ w17 ⟨rfl, hx17⟩
        replace hxwl12 := Ex.tr hxwl12 hx17
        replace hE15 := Ex.tr hE15 hx17
        have hE18 := hx17
        refine RG.done ?_
        refine QW.an (fun _ => hE18) ?_
        refine AG.takeW 12 rfl (by kernel_rfl) (by kernel_rfl) rfl rfl rfl (fun _ => Ev.move rfl rfl) ?_
        refine AG.takeW 13 rfl (by kernel_rfl) (by kernel_rfl) rfl rfl rfl (fun _ => Ev.extract rfl rfl rfl) ?_
        refine AG.takeW 14 rfl (by kernel_rfl) (by kernel_rfl) rfl rfl rfl (fun _ => Ev.extract rfl rfl rfl) ?_
        refine AG.takeW 17 rfl (by kernel_rfl) (by kernel_rfl) rfl rfl rfl (fun _ => Ev.idxA rfl rfl rfl Try.underlying62 sz_5 (by omega)) ?_
        refine AG.only 18 rfl (by kernel_rfl) ?_
        refine RG.st2 (g := g) rfl rfl rfl rfl rfl sz_5 rfl (hbk.ext hE15) (by rw [mc_len, Nat.blt_eq]; omega) (fun ws20 hwws20 hbws20 => ?_)
        replace hxwl12 := Wr.below hxwl12 hwws20 hg0
        rw [mc_set _ _ (by omega), scTo_more] at hbws20
        refine RG.done ?_
        refine QW.an (fun h => by simp at h) ?_
        refine AG.done (by kernel_rfl) ?_
        refine QW.sub (S' := [(0, _), (1, _), (5, _), (6, _), (51, _)]) ⟨rfl, rfl, rfl, rfl, rfl, trivial⟩ ?_
        refine QW.blockN ?_
        refine QW.then_ ?_
        refine CW.region ?_
        refine RG.vl rfl rfl rfl (Ev.addI rfl rfl rfl (by omega)) ?_
        refine RG.vl rfl rfl rfl (Ev.move rfl rfl) ?_
        refine RG.done ?_
        refine QW.round1 (k + 1) ⟨rfl, trivial⟩ ⟨rfl, rfl, rfl, rfl, trivial⟩ ⟨⟨by omega, hbws20⟩, hxwl12⟩ (by omega)
      · refine CW.exit ?_
        refine QW.thenExit ?_
        refine QW.thenExit ?_
        refine QW.blockHit ?_
        refine QW.then_ ?_
        refine CW.seq ?_
        refine CW.region ?_
        refine RG.vl rfl rfl rfl (Ev.assign rfl rfl) ?_
        refine RG.done ?_
        refine QW.then_ ?_
        refine CW.ret ?_
        refine QW.blockR ?_
        refine QW.thenRet ?_
        refine QW.thenRet ?_
        refine QW.blockR ?_
        refine QW.thenRet ?_
        refine QW.ret1 rfl rfl ?_
        obtain rfl : k = 5 := by omega
        exact ⟨true, _, rfl, hbk, fun _ => ⟨row, hrow, by omega, h0, rfl⟩, (fun h => by cases h), hxwl12⟩
  · refine CW.exit ?_
    refine QW.thenExit ?_
    refine QW.thenExit ?_
    refine QW.blockHit ?_
    refine QW.then_ ?_
    refine CW.seq ?_
    refine CW.region ?_
    refine RG.vl rfl rfl rfl (Ev.assign rfl rfl) ?_
    refine RG.done ?_
    refine QW.then_ ?_
    refine CW.ret ?_
    refine QW.ret1 rfl rfl ?_
    obtain rfl : row = 4 := by omega
    exact ⟨false, M, rfl, hbk, (fun h => by cases h), fun _ => ⟨rfl, fun r h1 h2 => hz r h1 h2⟩, hxwl1⟩

set_option maxRecDepth 100000 in
set_option maxHeartbeats 2000000 in
theorem solve_ret (w0 : World) (g k : Nat) (M : Mx) (w : World) (hx0 : Ex w0 w) (hg0 : w0.heap.size ≤ g) (hb : Blk w g 64 (mc M)) (hel : EM M) (hk4 : k ≤ 4) :
    Ret Try.prog 38 [.pointer (some ⟨g, 0, none⟩), .int .i64 (k : Int)] w (fun v w' => ∃ b M', v = .bool b ∧ Blk w' g 64 (mc M') ∧ SolvR M k b M' ∧ Ex w0 w') := by
  have hB0 : Ex w w := Ex.rfl_ _
  refine Ret.of Try.func38 rfl Try.ntmps38 rfl ?_
  refine CW.seq ?_
  refine CW.region ?_
  refine RG.vl rfl rfl rfl (Ev.assign rfl rfl) ?_
  refine RG.done ?_
  refine QW.then_ ?_
  refine CW.seq ?_
  refine CW.seq ?_
  refine CW.region ?_
  refine RG.vl rfl rfl rfl (Ev.move rfl rfl) ?_
  refine RG.vl rfl rfl rfl (Ev.move rfl rfl) ?_
  refine RG.done ?_
  refine QW.then_ ?_
  refine CW.block ?_
  refine CW.loop2 [(0, _), (1, _), (8, _)] ⟨rfl, rfl, rfl, trivial⟩ (fun (i : Nat) (M2 : Mx) => [(9, .int .i64 (i : Int))]) (fun i M2 w' => (i ≤ k ∧ Gs M k M2 i ∧ Blk w' g 64 (mc M2)) ∧ Ex w0 w') (fun i M2 => k - i) (0) (M) ⟨rfl, trivial⟩ ⟨⟨Nat.zero_le _, gs_start hel, hb⟩, hx0⟩ ?_
  rintro i M2 wl1 ⟨⟨hik, hgs, hbk⟩, hxwl1⟩
  refine CW.sub (S' := [(9, _), (0, _), (1, _), (8, _)]) ⟨rfl, rfl, rfl, rfl, trivial⟩ ?_
  refine CW.seq ?_
  refine CW.region ?_
  refine RG.vl rfl rfl rfl (Ev.lss rfl rfl rfl) ?_
  refine RG.done ?_
  refine QW.then_ ?_
  refine CW.seq ?_
  refine CW.condP rfl (fun hc2 => ?_) (fun hc2 => ?_)
  · refine CW.skip ?_
    refine QW.then_ ?_
    refine CW.seq ?_
    refine CW.block ?_
    refine CW.seq ?_
    refine CW.region ?_
    refine RG.vl rfl rfl rfl (Ev.move rfl rfl) ?_
    refine RG.vl rfl rfl rfl (Ev.assign rfl rfl) ?_
    refine RG.done ?_
    refine QW.then_ ?_
    refine CW.seq ?_
    refine CW.seq ?_
    refine CW.region ?_
    refine RG.vl rfl rfl rfl (Ev.move rfl rfl) ?_
    refine RG.vl rfl rfl rfl (Ev.move rfl rfl) ?_
    refine RG.call rfl rfl rfl rfl rfl rfl rfl en_56 (pivot_ret w0 g i M2 _ hxwl1 hg0 hbk hgs.el (by omega)) ?_
    rintro _ w3 ⟨bv, M3, rfl, hbw4, hyp, hno, hxw5⟩
    replace hxwl1 := hxw5
    refine RG.vl rfl rfl rfl (Ev.not rfl rfl) ?_
    refine RG.done ?_
    refine QW.then_ ?_
    refine CW.cond rfl (fun hc6 => ?_) (fun hc6 => ?_)
    · refine CW.seq ?_
      have hbv : bv = false := by simpa using (by assumption : (!bv) = true)
      refine CW.region ?_
      refine RG.vl rfl rfl rfl (Ev.assign rfl rfl) ?_
      refine RG.done ?_
      refine QW.then_ ?_
      refine CW.ret ?_
      refine QW.thenRet ?_
      refine QW.blockR ?_
      refine QW.thenRet ?_
      refine QW.thenRet ?_
      refine QW.blockR ?_
      refine QW.thenRet ?_
      refine QW.ret1 rfl rfl ?_
      obtain ⟨rfl, hz⟩ := hno hbv
      exact ⟨false, _, rfl, hbw4, gs_none hgs hk4 (by omega) hz, hxwl1⟩
    · refine CW.skip ?_
      refine QW.then_ ?_
      refine CW.seq ?_
      have hbv : bv = true := by simpa using (by assumption : (!bv) = false)
      obtain ⟨r0, hr1, hr2, hr3, rfl⟩ := hyp hbv
      have hgr0 := gs_piv hgs hk4 (by omega) hr1 hr2 hr3
      refine CW.region ?_
      refine RG.vl rfl rfl rfl (Ev.move rfl rfl) ?_
      refine RG.done ?_
      refine QW.then_ ?_
      refine CW.block ?_
      refine CW.loop2 [(0, _), (1, _), (5, _), (8, _), (9, _)] ⟨rfl, rfl, rfl, rfl, rfl, trivial⟩ (fun (row : Nat) (M4 : Mx) => [(16, .int .i64 (row : Int))]) (fun row M4 w' => (row ≤ 4 ∧ Gr M k M4 i row ∧ Blk w' g 64 (mc M4)) ∧ Ex w0 w') (fun row M4 => 4 - row) (0) (_) ⟨rfl, trivial⟩ ⟨⟨by omega, hgr0, hbw4⟩, hxwl1⟩ ?_
      rintro row M4 wl7 ⟨⟨hrow, hgr, hbk⟩, hxwl7⟩
      refine CW.sub (S' := [(16, _), (0, _), (1, _), (5, _), (8, _), (9, _)]) ⟨rfl, rfl, rfl, rfl, rfl, rfl, trivial⟩ ?_
      refine CW.seq ?_
      refine CW.region ?_
      refine RG.vl rfl rfl rfl (Ev.lss rfl rfl rfl) ?_
      refine RG.done ?_
      refine QW.then_ ?_
      refine CW.seq ?_
      refine CW.condP rfl (fun hc8 => ?_) (fun hc8 => ?_)
      · refine CW.skip ?_
        refine QW.then_ ?_
        refine CW.seq ?_
        refine CW.block ?_
        refine CW.seq ?_
        refine CW.region ?_
        refine RG.vl rfl rfl rfl (Ev.move rfl rfl) ?_
        refine RG.vl rfl rfl rfl (Ev.assign rfl rfl) ?_
        refine RG.done ?_
        refine QW.then_ ?_
        refine CW.seq ?_
        refine CW.region ?_
        refine RG.vl rfl rfl rfl (Ev.move rfl rfl) ?_
        refine RG.vl rfl rfl rfl (Ev.move rfl rfl) ?_
        refine RG.vl rfl rfl rfl (Ev.neI rfl rfl rfl) ?_
        refine RG.vl rfl rfl rfl (Ev.move rfl rfl) ?_
        refine RG.split (d := 22) rfl (fun hg9 => ?_) (fun hg9 => ?_)
        · refine RG.vl rfl rfl rfl (Ev.move rfl rfl) ?_
          refine RG.vl rfl rfl rfl (Ev.move rfl rfl) ?_
          refine RG.vl rfl rfl rfl (Ev.move rfl rfl) ?_
          refine RG.vl rfl rfl rfl (Ev.nilC rfl rfl) ?_
          refine RG.vl rfl rfl rfl (Ev.idxA rfl rfl rfl Try.underlying64 sz_62 (by omega)) ?_
          refine RG.vl rfl rfl rfl (Ev.idxA rfl rfl rfl Try.underlying62 sz_5 (by omega)) ?_
          refine RG.vl rfl rfl rfl (Ev.ldAA rfl rfl Try.underlying5 rfl (hbk.cells) ((show (mc _)[row * 5 + i * 1]? = some (.int .u8 (M4 row i : Int)) by rw [mc_at _ (by omega) (by omega)]))) ?_
          refine RG.vl rfl rfl rfl (Ev.neI rfl rfl rfl) ?_
          refine RG.vl rfl rfl rfl (Ev.pickT rfl rfl rfl) ?_
          refine RG.done ?_
          refine QW.sub (S' := [(0, _), (1, _), (5, _), (6, _), (8, _), (9, _), (16, _), (31, _)]) ⟨rfl, rfl, rfl, rfl, rfl, rfl, rfl, rfl, trivial⟩ ?_
          refine QW.then_ ?_
          refine CW.condP rfl (fun hc10 => ?_) (fun hc10 => ?_)
          · refine CW.region ?_
            refine RG.vl rfl rfl rfl (Ev.move rfl rfl) ?_
            refine RG.vl rfl rfl rfl (Ev.move rfl rfl) ?_
            refine RG.vl rfl rfl rfl (Ev.move rfl rfl) ?_
            refine RG.vl rfl rfl rfl (Ev.move rfl rfl) ?_
            refine RG.vl rfl rfl rfl (Ev.move rfl rfl) ?_
            refine RG.vl rfl rfl rfl (Ev.move rfl rfl) ?_
            refine RG.vl rfl rfl rfl (Ev.nilC rfl rfl) ?_
            refine RG.vl rfl rfl rfl (Ev.idxA rfl rfl rfl Try.underlying64 sz_62 (by omega)) ?_
            refine RG.vl rfl rfl rfl (Ev.idxA rfl rfl rfl Try.underlying62 sz_5 (by omega)) ?_
            refine RG.vl rfl rfl rfl (Ev.ldAA rfl rfl Try.underlying5 rfl (hbk.cells) ((show (mc _)[row * 5 + i * 1]? = some (.int .u8 (M4 row i : Int)) by rw [mc_at _ (by omega) (by omega)]))) ?_
            refine RG.call rfl rfl rfl rfl rfl rfl rfl en_57 (subtract_ret w0 g row i (M4 row i) M4 _ hxwl7 hg0 hbk hgr.el (by omega) (by omega) (hgr.el row i (by omega) (by omega))) ?_
            rintro _ w11 ⟨rfl, hbw12, hxw13⟩
            replace hxwl7 := hxw13
            refine RG.done ?_
            refine QW.blockN ?_
            refine QW.then_ ?_
            refine CW.region ?_
            refine RG.vl rfl rfl rfl (Ev.addI rfl rfl rfl (by omega)) ?_
            refine RG.vl rfl rfl rfl (Ev.move rfl rfl) ?_
            refine RG.done ?_
            refine QW.round2 (row + 1) (_) ⟨rfl, trivial⟩ ⟨rfl, rfl, rfl, rfl, rfl, trivial⟩ ⟨⟨by omega, gr_sub hgr hk4 (by omega) (by omega) (by omega), hbw12⟩, hxwl7⟩ (by omega)
          · refine CW.skip ?_
            refine QW.blockN ?_
            refine QW.then_ ?_
            refine CW.region ?_
            refine RG.vl rfl rfl rfl (Ev.addI rfl rfl rfl (by omega)) ?_
            refine RG.vl rfl rfl rfl (Ev.move rfl rfl) ?_
            refine RG.done ?_
            refine QW.round2 (row + 1) (M4) ⟨rfl, trivial⟩ ⟨rfl, rfl, rfl, rfl, rfl, trivial⟩ ⟨⟨by omega, gr_skip hgr (by omega), hbk⟩, hxwl7⟩ (by omega)
        · refine RG.pass rfl rfl rfl ?_
          refine RG.pass rfl rfl rfl ?_
          refine RG.pass rfl rfl rfl ?_
          refine RG.pass rfl rfl rfl ?_
          refine RG.pass rfl rfl rfl ?_
          refine RG.pass rfl rfl rfl ?_
          refine RG.pass rfl rfl rfl ?_
          refine RG.pass rfl rfl rfl ?_
          refine RG.vl rfl rfl rfl (Ev.pickF rfl rfl rfl) ?_
          refine RG.done ?_
          refine QW.sub (S' := [(0, _), (1, _), (5, _), (6, _), (8, _), (9, _), (16, _), (31, _)]) ⟨rfl, rfl, rfl, rfl, rfl, rfl, rfl, rfl, trivial⟩ ?_
          refine QW.then_ ?_
          refine CW.condF rfl ?_
          refine CW.skip ?_
          refine QW.blockN ?_
          refine QW.then_ ?_
          refine CW.region ?_
          refine RG.vl rfl rfl rfl (Ev.addI rfl rfl rfl (by omega)) ?_
          refine RG.vl rfl rfl rfl (Ev.move rfl rfl) ?_
          refine RG.done ?_
          refine QW.round2 (row + 1) (M4) ⟨rfl, trivial⟩ ⟨rfl, rfl, rfl, rfl, rfl, trivial⟩ ⟨⟨by omega, gr_skip hgr (by omega), hbk⟩, hxwl7⟩ (by omega)
      · refine CW.exit ?_
        refine QW.thenExit ?_
        refine QW.thenExit ?_
        refine QW.blockHit ?_
        refine QW.blockN ?_
        refine QW.then_ ?_
        refine CW.region ?_
        refine RG.vl rfl rfl rfl (Ev.addI rfl rfl rfl (by omega)) ?_
        refine RG.vl rfl rfl rfl (Ev.move rfl rfl) ?_
        refine RG.done ?_
        refine QW.round2 (i + 1) (M4) ⟨rfl, trivial⟩ ⟨rfl, rfl, rfl, trivial⟩ ⟨⟨by omega, by obtain rfl : row = 4 := (by omega); exact gr_end hgr (by omega), hbk⟩, hxwl7⟩ (by omega)
  · refine CW.exit ?_
    refine QW.thenExit ?_
    refine QW.thenExit ?_
    refine QW.blockHit ?_
    refine QW.then_ ?_
    refine CW.seq ?_
    refine CW.seq ?_
    obtain rfl : i = k := by omega
    refine CW.region ?_
    refine RG.vl rfl rfl rfl (Ev.move rfl rfl) ?_
    refine RG.vl rfl rfl rfl (Ev.assign rfl rfl) ?_
    refine RG.done ?_
    refine QW.then_ ?_
    refine CW.block ?_
    refine CW.loop1 [(0, _)] ⟨rfl, trivial⟩ (fun (row : Nat) => [(7, .int .i64 (row : Int))]) (fun row w' => (i ≤ row ∧ row ≤ 4 ∧ (∀ r, i ≤ r → r < row → M2 r 4 = 0) ∧ Blk w' g 64 (mc M2)) ∧ Ex w0 w') (fun row => 4 - row) (i) ⟨rfl, trivial⟩ ⟨⟨Nat.le_refl _, hk4, fun r h1 h2 => absurd h1 (by omega), hbk⟩, hxwl1⟩ ?_
    rintro row wl14 ⟨⟨hrk, hrow4, hz4, hbk⟩, hxwl14⟩
    refine CW.sub (S' := [(7, _), (0, _)]) ⟨rfl, rfl, trivial⟩ ?_
    refine CW.seq ?_
    refine CW.seq ?_
    refine CW.region ?_
    refine RG.vl rfl rfl rfl (Ev.move rfl rfl) ?_
    refine RG.vl rfl rfl rfl (Ev.lss rfl rfl rfl) ?_
    refine RG.done ?_
    refine QW.then_ ?_
    refine CW.condP rfl (fun hc15 => ?_) (fun hc15 => ?_)
    · refine CW.skip ?_
      refine QW.then_ ?_
      refine CW.seq ?_
      refine CW.block ?_
      refine CW.seq ?_
      refine CW.region ?_
      refine RG.vl rfl rfl rfl (Ev.move rfl rfl) ?_
      refine RG.vl rfl rfl rfl (Ev.move rfl rfl) ?_
      refine RG.vl rfl rfl rfl (Ev.nilC rfl rfl) ?_
      refine RG.vl rfl rfl rfl (Ev.idxA rfl rfl rfl Try.underlying64 sz_62 (by omega)) ?_
      refine RG.vl rfl rfl rfl (Ev.idxA (i := 4) rfl rfl rfl Try.underlying62 sz_5 (by omega)) ?_
      refine RG.vl rfl rfl rfl (Ev.ldAA rfl rfl Try.underlying5 rfl (hbk.cells) ((show (mc _)[row * 5 + 4 * 1]? = some (.int .u8 (M2 row 4 : Int)) by rw [mc_at _ (by omega) (by omega)]))) ?_
      refine RG.vl rfl rfl rfl (Ev.neI rfl rfl rfl) ?_
      refine RG.done ?_
      refine QW.then_ ?_
      refine CW.condP rfl (fun hc16 => ?_) (fun hc16 => ?_)
      · refine CW.seq ?_
        refine CW.region ?_
        refine RG.vl rfl rfl rfl (Ev.assign rfl rfl) ?_
        refine RG.done ?_
        refine QW.then_ ?_
        refine CW.ret ?_
        refine QW.blockR ?_
        refine QW.thenRet ?_
        refine QW.thenRet ?_
        refine QW.blockR ?_
        refine QW.thenRet ?_
        refine QW.ret1 rfl rfl ?_
        exact ⟨false, _, rfl, hbk, gs_no hgs hrk (by omega) (by omega), hxwl14⟩
      · refine CW.skip ?_
        refine QW.blockN ?_
        refine QW.then_ ?_
        refine CW.region ?_
        refine RG.vl rfl rfl rfl (Ev.move rfl rfl) ?_
        refine RG.vl rfl rfl rfl (Ev.addI rfl rfl rfl (by omega)) ?_
        refine RG.vl rfl rfl rfl (Ev.assign rfl rfl) ?_
        refine RG.done ?_
        refine QW.round1 (row + 1) ⟨rfl, trivial⟩ ⟨rfl, trivial⟩ ⟨⟨by omega, by omega, fun r h1 h2 => by rcases Nat.lt_or_ge r row with h | h; exact hz4 r h1 h; obtain rfl : r = row := (by omega); omega, hbk⟩, hxwl14⟩ (by omega)
    · refine CW.exit ?_
      refine QW.thenExit ?_
      refine QW.thenExit ?_
      refine QW.blockHit ?_
      refine QW.then_ ?_
      refine CW.seq ?_
      refine CW.region ?_
      refine RG.vl rfl rfl rfl (Ev.assign rfl rfl) ?_
      refine RG.done ?_
      refine QW.then_ ?_
      refine CW.ret ?_
      refine QW.ret1 rfl rfl ?_
      obtain rfl : row = 4 := by omega
      exact ⟨true, _, rfl, hbk, gs_yes hgs hk4 (fun r h1 h2 => hz4 r h1 h2), hxwl14⟩

end Go.Proofs.Ytjhgihgggofocaa

/- A range over a function whose iterator tells something of the memory behind each element; a return of two boxed results behind it. -/
namespace Go.Proofs.Ytjhgihgggofocaa
open Go.RowKit
/-- What a round that goes on keeps: all that lay below n0; every block of cells. -/
def Kc (n0 : Nat) (A B : World) : Prop := Below n0 A B ∧ ∀ (k : Nat) (c : Array Value) (T : TypeId) (fz : Nat × Nat), A.heap[k]? = some (.cells c T fz) → B.heap[k]? = some (.cells c T fz)
theorem Kc.trans {n0 : Nat} {A B C : World} (h : Kc n0 A B) (k : Kc n0 B C) : Kc n0 A C := ⟨Below.trans h.1 k.1, fun i c T fz hi => k.2 i c T fz (h.2 i c T fz hi)⟩
theorem grown_put {A : World} {l : Nat} (o' : Obj) : A.grownBy (A.putObj l o') (some l) :=
  ⟨rfl, rfl, rfl, by simp, fun k _ hk => World.putObj_heap_other (fun e => hk (by rw [e]))⟩
theorem Kc.put {n0 : Nat} {A : World} {l : Nat} {o : Obj} (o' : Obj) (hl : n0 ≤ l) (h : A.heap[l]? = some o) (hc : o.isCells = false) : Kc n0 A (A.putObj l o') := by
  refine ⟨(Below.refl _ A).grown (grown_put o') (by have := (Array.getElem?_eq_some_iff.1 h).1; omega) (fun k e => by cases e; exact hl), fun k c T fz hk => ?_⟩
  have hne : k ≠ l := fun e => by subst e; rw [h] at hk; cases hk; cases hc
  exact (World.putObj_heap_other hne).trans hk
theorem Kc.of_ex {n0 : Nat} {A B : World} (h : Ex A B) (hn : n0 ≤ A.heap.size) : Kc n0 A B := ⟨Below.mono h hn, fun k _ _ _ hk => (h.block k (Array.getElem?_eq_some_iff.1 hk).1).trans hk⟩
theorem others_ex {A B : World} (h : Ex A B) : KeepsOthers A B := ⟨h.size, fun k _ hk _ => (h.block k (Array.getElem?_eq_some_iff.1 hk).1).trans hk⟩
/-- How the body of a round is left. -/
def toldPost {α : Type} (n0 : Nat) (I Ix : List α → World → Prop) (xs : List α) (A : World) : Exit → Act → World → Prop
  | .normal, _, B => KeepsOthers A B ∧ Kc n0 A B ∧ I xs B
  | .ret, _, B => KeepsOthers A B ∧ Ix xs B
  | _, _, _ => False
/-- An invariant that does not mind new blocks, nor what happens to blocks from n on. -/
def Calm {α : Type} (n : Nat) (J : List α → World → Prop) : Prop := ∀ s A B row, J s A → A.grownBy B row → (∀ r, row = some r → n ≤ r) → J s B
/-- What an iterator promises that tells Rx of each element. -/
def SeqTold {α : Type} (k : Nat) (P : Program) (gf : Nat) (lb : Array Value) (encs : α → Array Value) (Rx : List α → α → World → Prop) (S : List α → Prop) (w : World) : Prop :=
  ∀ (l : Nat) (J Jx : List α → World → Prop) (W : World), Below w.heap.size w W → w.heap.size ≤ W.heap.size → Calm W.heap.size J →
    (∀ pre x A, J pre A → Rx pre x A → YieldAt Fence.wide (k - 1) P l (encs x) A fun e B => (e = .returned (.bool true) ∧ J (pre ++ [x]) B ∧ Kc w.heap.size A B) ∨ (e = .returned (.bool false) ∧ Jx (pre ++ [x]) B)) →
    J [] W → CallsIn Fence.wide k P gf (#[.func (.yield l) #[] #[]] ++ lb) W fun e B => (∃ v, e = .returned v) ∧ ((∃ xs, S xs ∧ J xs B) ∨ ∃ pre, Jx pre B)
theorem wpIn_rangeTold {α : Type} {P : Program} {g : Operand} {ps : Array Tmp} {assign body : Code} {Q : Exit → Act → World → Prop} {a : Act} {w : World} {k : Nat} (h1 : 1 ≤ k) {gf : Nat} {lb : Array Value}
    (hg : a.eval g = .func (.func gf) #[] lb) (eg : ∀ args w, (callFunc gf args).run P w = .ok (.enter gf args) w) {encs : α → Array Value} {Rx : List α → α → World → Prop} {S : List α → Prop} (hseq : SeqTold (k - 1) P gf lb encs Rx S w) (hps : ∀ x, (encs x).size = ps.size)
    (I Ix : List α → World → Prop) (hI : Calm w.heap.size I) (hIx : ∀ s A l o o', Ix s A → w.heap.size ≤ l → A.heap[l]? = some o → o.isCells = false → Ix s (A.putObj l o'))
    (hRx : ∀ s x A l o o', Rx s x A → A.heap[l]? = some o → o.isCells = false → Rx s x (A.putObj l o')) (h0 : I [] w) (a₁ : α → Act)
    (hassign : ∀ (l : Nat) (x : α) (W : World) (K : Act → World → Prop), K (a₁ x) W → assign.wpIn (Fence.wide.inRound l) (k - 1 - 1) P (Exit.then K (fun _ _ _ => False)) { tmps := (ps.zip (encs x)).foldl (fun t (p, v) => t.setIfInBounds p v) a.tmps, defers := [] } W)
    (hbody : ∀ (l : Nat) (pre : List α) (x : α) (W : World), I pre W → Rx pre x W → body.wpIn (Fence.wide.inRound l) (k - 1 - 1) P (toldPost w.heap.size I Ix (pre ++ [x]) W) (a₁ x) W)
    (hdone : ∀ (D : Nat) (xs : List α) (W : World), w.heap.size ≤ D → S xs → I xs W → W.heap[D]? = some (.deferred (some [])) → Q .normal { a with defers := { target := .collected D, args := #[] } :: a.defers } W)
    (hstop : ∀ (D : Nat) (pre : List α) (W : World), w.heap.size ≤ D → Ix pre W → W.heap[D]? = some (.deferred (some [])) → Code.ret.wpIn Fence.wide k P Q { a with defers := { target := .collected D, args := #[] } :: a.defers } W) :
    (Code.rangeFunc g ps assign body).wpIn Fence.wide k P Q a w := by
  refine wpIn_rangeFunc fun fn hfn => ?_
  obtain ⟨rec, hrec⟩ : ∃ rec : LoopState → Option Code → Loop, rec = fun st pe => { state := st, pending := pe, fn, tmps := a.tmps, params := ps, assign, body, defers := w.heap.size } := ⟨_, rfl⟩
  obtain ⟨W1, hW1⟩ : ∃ W1, (w.alloc (.deferred (some []))).alloc (.loop (rec .ready none)) = W1 := ⟨_, rfl⟩
  have hsz : W1.heap.size = w.heap.size + 2 := by rw [← hW1]; simp
  have hL1 : W1.heap[w.heap.size + 1]? = some (.loop (rec .ready none)) := by
    have := World.alloc_heap_new (w.alloc (.deferred (some []))) (.loop (rec .ready none))
    rw [World.size_alloc, hW1] at this; exact this
  have hK1 : W1.heap[w.heap.size]? = some (.deferred (some [])) := by
    rw [← hW1]; exact (Below.heap_alloc _ _ _ (by simp)).trans (World.alloc_heap_new w _)
  have hx1 : Ex w W1 := by rw [← hW1]; exact Ex.tr (Ex.of_alloc w _) (Ex.of_alloc _ _)
  have hI1 : I [] W1 := hI [] w W1 none h0 ⟨hx1.os, hx1.tape, hx1.output, hx1.size, fun k hk _ => hx1.block k hk⟩ (fun r e => by cases e)
  have putI : ∀ s A o', I s A → I s (A.putObj (w.heap.size + 1) o') := fun s A o' h => hI s A _ (some (w.heap.size + 1)) h (grown_put o') (fun r e => by cases e; omega)
  refine ⟨w.heap.size + 1, [{ target := .collected w.heap.size, args := #[] }], W1, { target := .fn (.func gf) lb, args := #[.func (.yield (w.heap.size + 1)) #[] #[]] }, W1, gf, #[.func (.yield (w.heap.size + 1)) #[] #[]] ++ lb, W1, ?_, ?_, fun f' _ => trivial, ?_, fun _ => h1, ?_⟩
  · rw [← hW1, hrec]; exact run_enterLoop_outer _ _ _ _ _
  · simp only [resolve, hg]
    simp [go_sem]
  · simp [invoke, go_sem, eg]
  refine (hseq (w.heap.size + 1) (fun pre A => I pre A ∧ A.heap[w.heap.size + 1]? = some (.loop (rec .ready none)) ∧ A.heap[w.heap.size]? = some (.deferred (some [])))
    (fun pre A => Ix pre A ∧ A.heap[w.heap.size + 1]? = some (.loop (rec .done (some .ret))) ∧ A.heap[w.heap.size]? = some (.deferred (some []))) W1 hx1 hx1.size ?_ ?_ ⟨hI1, hL1, hK1⟩).mono ?_
  · rintro s A B row ⟨h, hl, hk⟩ hgr hr
    have l1 := (Array.getElem?_eq_some_iff.1 hl).1
    have l2 := (Array.getElem?_eq_some_iff.1 hk).1
    exact ⟨hI s A B row h hgr (fun r e => by have := hr r e; omega), (hgr.block _ l1 (fun e => by have := hr _ e.symm; omega)).trans hl, (hgr.block _ l2 (fun e => by have := hr _ e.symm; omega)).trans hk⟩
  · rintro pre x A ⟨hi, hl, hk⟩ hrx
    have hlt : w.heap.size + 1 < A.heap.size := (Array.getElem?_eq_some_iff.1 hl).1
    have hy := run_yield (P := P) (args := encs x) hl (by rw [hrec]; exact hps x)
    rw [hrec] at hy
    refine ⟨fn, _, assign, body, hy, roundIn_of_wpIn hfn (hassign _ x A _ ⟨_, run_beginRound hl (by rw [hrec]), ?_⟩)⟩
    obtain ⟨A2, hA2⟩ : ∃ A2, A.putObj (w.heap.size + 1) (.loop { rec .ready none with state := .busy }) = A2 := ⟨_, rfl⟩
    have hl2 : A2.heap[w.heap.size + 1]? = some (.loop { rec .ready none with state := .busy }) := by rw [← hA2]; exact World.putObj_heap_same hlt
    have hk2 : A2.heap[w.heap.size]? = some (.deferred (some [])) := by rw [← hA2]; exact (World.putObj_heap_other (by omega)).trans hk
    have hkc : Kc w.heap.size A A2 := by rw [← hA2]; exact Kc.put _ (by omega) hl rfl
    have hi2 : I pre A2 := by rw [← hA2]; exact putI _ _ _ hi
    have hrx2 : Rx pre x A2 := by rw [← hA2]; exact hRx _ _ _ _ _ _ hrx hl rfl
    rw [hA2]
    refine wpIn_mono (hbody _ pre x A2 hi2 hrx2) ?_
    rintro e a3 B hp
    have fin : ∀ (jump : Option Code), KeepsOthers A2 B → (Instr.endRound (w.heap.size + 1) jump).run P B = .ok (.bool jump.isNone) (B.putObj (w.heap.size + 1) (.loop (rec (if jump.isNone then .ready else .done) jump))) ∧ B.heap[w.heap.size + 1]? = some (.loop { rec .ready none with state := .busy }) ∧
        (B.putObj (w.heap.size + 1) (.loop (rec (if jump.isNone then .ready else .done) jump))).heap[w.heap.size + 1]? = some (.loop (rec (if jump.isNone then .ready else .done) jump)) ∧
        (B.putObj (w.heap.size + 1) (.loop (rec (if jump.isNone then .ready else .done) jump))).heap[w.heap.size]? = some (.deferred (some [])) := fun jump hko => by
      have hl3 := hko.same _ _ hl2 rfl
      have := run_endRound (P := P) jump hl3
      rw [hrec] at this ⊢
      exact ⟨this, by rw [hrec] at hl3; exact hl3, World.putObj_heap_same (Array.getElem?_eq_some_iff.1 hl3).1, (World.putObj_heap_other (by omega)).trans (hko.same _ _ hk2 rfl)⟩
    cases e with
    | normal =>
      obtain ⟨hko, hkb, hib⟩ := hp
      obtain ⟨hr, hl3, hl4, hk4⟩ := fin none hko
      exact ⟨_, _, hr, .inl ⟨rfl, ⟨putI _ _ _ hib, hl4, hk4⟩, (hkc.trans hkb).trans (Kc.put _ (by omega) hl3 rfl)⟩⟩
    | ret =>
      obtain ⟨hko, hib⟩ := hp
      obtain ⟨hr, hl3, hl4, hk4⟩ := fin (some .ret) hko
      exact ⟨_, _, hr, .inr ⟨rfl, hIx _ _ _ _ _ hib (by omega) hl3 rfl, hl4, hk4⟩⟩
    | exit id => exact hp.elim
    | goto t => exact hp.elim
    | panic ch => exact hp.elim
    | outgrown => exact hp.elim
  · rintro e B ⟨⟨v, rfl⟩, ⟨xs, hS, hi, hl, hk⟩ | ⟨pre, hi, hl, hk⟩⟩
    · refine ⟨none, _, (by have := run_endLoop (P := P) hl (by rw [hrec]; simp); rw [hrec] at this; exact this), hdone _ xs _ (Nat.le_refl _) hS (putI _ _ _ hi) ((World.putObj_heap_other (by omega)).trans hk)⟩
    · refine ⟨some .ret, _, (by have := run_endLoop (P := P) hl (by rw [hrec]; simp); rw [hrec] at this; exact this), hstop _ pre _ (Nat.le_refl _) (hIx _ _ _ _ _ hi (by omega) hl rfl) ((World.putObj_heap_other (by omega)).trans hk)⟩
/-! results in two boxes -/
section
variable {P : Program} {Q : Exit → Act → World → Prop} {k n : Nat} {S : Slots} {w : World}
theorem CWI.ofCW {c : Code} (h : CW P c Q n S w) : CWI Fence.wide k P c Q [] n S w := fun a ha => wpIn_wide.2 (h a ha.fr)
theorem results_cells2 {fn : Func} {tmps : Array Value} {p q T U m g h : Nat} {D E : TypeDesc} {us : List Value} {x : Value} {t2 : TypeId} (hr : fn.results = #[.cell p T, .cell q U]) (hp : tmps.getD p undef = .pointer (some ⟨g, 0, none⟩)) (hq : tmps.getD q undef = .pointer (some ⟨h, 0, none⟩))
    (ht : P.underlying T = some D) (hD : aggD D = true) (hs : sizeP P T = some m) (hm : us.length = m) (hb : Blk w g T us) (hu : P.underlying U = some E) (hE : aggD E = false) (hb2 : Blk w h t2 [x]) : (results fn tmps).run P w = .ok (.tuple #[.agg us.toArray, x]) w := by
  have hl := run_loadCells_list (P := P) w ⟨g, 0, none⟩ us (fun j v hj => hb.cells j v hj)
  have hc : w.cell? ⟨h, 0, none⟩ = some x := by have := hb2.cells 0 x rfl; rwa [add_zero_] at this
  simp only [results, hr]
  have hp' : tmps[p]?.getD undef = .pointer (some ⟨g, 0, none⟩) := by simpa [Array.getD_eq_getD_getElem?] using hp
  have hq' : tmps[q]?.getD undef = .pointer (some ⟨h, 0, none⟩) := by simpa [Array.getD_eq_getD_getElem?] using hq
  simp [Sem.run_bind, Result.andThen, hp', hq', asAddr, loadVar, run_isAgg ht, hD, run_sizeOf hs, ← hm, hl, run_isAgg hu, hE, hc]
/-- A return of two boxed results ahead of the range, and behind it. -/
theorem retBox {fn : Func} {Φ : Value → World → Prop} {p q T U m g h : Nat} {D E : TypeDesc} {us : List Value} {x : Value} {t2 : TypeId} (hr : fn.results = #[.cell p T, .cell q U]) (hp : lk S p = some (.pointer (some ⟨g, 0, none⟩))) (hq : lk S q = some (.pointer (some ⟨h, 0, none⟩)))
    (ht : P.underlying T = some D) (hD : aggD D = true) (hs : sizeP P T = some m) (hm : us.length = m) (hb : Blk w g T us) (hu : P.underlying U = some E) (hE : aggD E = false) (hb2 : Blk w h t2 [x]) (hφ : Φ (.tuple #[.agg us.toArray, x]) w) :
    QW (bodyPostM Fence.wide k P fn (fun e w' => ∃ v, e = .returned v ∧ Φ v w')) .ret n S w := by
  intro a ha
  have hp' : a.tmps.getD p undef = .pointer (some ⟨g, 0, none⟩) := by have := ha.eval (x := .tmp p) hp; simpa [Act.eval, Array.getD_eq_getD_getElem?] using this
  have hq' : a.tmps.getD q undef = .pointer (some ⟨h, 0, none⟩) := by have := ha.eval (x := .tmp q) hq; simpa [Act.eval, Array.getD_eq_getD_getElem?] using this
  show LeavesInM Fence.wide k P fn a.tmps _ a.defers .returning w
  rw [ha.df]
  exact ⟨_, results_cells2 hr hp' hq' ht hD hs hm hb hu hE hb2, _, rfl, hφ⟩
theorem retBoxM {fn : Func} {Φ : Value → World → Prop} {p q T U m g h d : Nat} {D E : TypeDesc} {us : List Value} {x : Value} {t2 : TypeId} (hr : fn.results = #[.cell p T, .cell q U]) (hp : lk S p = some (.pointer (some ⟨g, 0, none⟩))) (hq : lk S q = some (.pointer (some ⟨h, 0, none⟩)))
    (ht : P.underlying T = some D) (hD : aggD D = true) (hs : sizeP P T = some m) (hm : us.length = m) (hb : Blk w g T us) (hu : P.underlying U = some E) (hE : aggD E = false) (hb2 : Blk w h t2 [x]) (hK : w.heap[d]? = some (.deferred (some []))) (hφ : Φ (.tuple #[.agg us.toArray, x]) (w.putObj d (.deferred none))) :
    ∀ a, FrD [{ target := .collected d, args := #[] }] n S a → bodyPostM Fence.wide k P fn (fun e w' => ∃ v, e = .returned v ∧ Φ v w') .ret a w := by
  intro a ha
  have hp' : a.tmps.getD p undef = .pointer (some ⟨g, 0, none⟩) := by have := ha.1.eval (x := .tmp p) hp; simpa [Act.eval, Array.getD_eq_getD_getElem?] using this
  have hq' : a.tmps.getD q undef = .pointer (some ⟨h, 0, none⟩) := by have := ha.1.eval (x := .tmp q) hq; simpa [Act.eval, Array.getD_eq_getD_getElem?] using this
  have n1 : ∀ {e : Nat} {t : TypeId} {cs : List Value}, Blk w e t cs → Blk (w.putObj d (.deferred none)) e t cs := fun {e t cs} hb => by
    have hne : e ≠ d := fun x => by subst x; unfold Blk at hb; rw [hK] at hb; cases hb
    exact (World.putObj_heap_other hne).trans hb
  show LeavesInM Fence.wide k P fn a.tmps _ a.defers .returning w
  rw [ha.2]
  exact ⟨by simp, .inl ⟨_, _, rfl, run_takeDeferred hK, ⟨_, results_cells2 hr hp' hq' ht hD hs hm (n1 hb) hu hE (n1 hb2), _, rfl, hφ⟩⟩⟩
end
end Go.Proofs.Ytjhgihgggofocaa

/- Walks (SI). Written by program. -/
namespace Go.Proofs.Ytjhgihgggofocaa
open Go.RowKit
set_option maxRecDepth 100000 in
set_option maxHeartbeats 2000000 in
theorem eqsOf_ret (n : Nat) (u : Value) (P sL : List Nat) (w : World) (hl : RdL w 1 encZ u P) (hP : P.length ≤ 4) (hn : n ≤ 63) (hp : ∀ a ∈ P, a < n) (hs : sL.length = 4) :
    Ret Try.prog 37 [.int .i64 (n : Int), u, .agg (encs4 sL).toArray] w (fun v w' => v = .agg (mc (eqM n P sL)).toArray ∧ Ex w w') := by
  obtain ⟨s0, s1, s2, s3, rfl⟩ : ∃ a b c d, sL = [a, b, c, d] := by match sL, hs with | [a, b, c, d], _ => exact ⟨a, b, c, d, rfl⟩
  obtain ⟨sL, hsL⟩ : ∃ l : List Nat, l = [s0, s1, s2, s3] := ⟨_, rfl⟩
  have hs4 : sL.length = 4 := by rw [hsL]; rfl
  rw [← hsL]
  have hB0 : Ex w w := Ex.rfl_ _
  refine Ret.of Try.func37 rfl Try.ntmps37 rfl ?_
  refine CW.seq ?_
  refine CW.region ?_
  refine RG.box rfl rfl rfl rfl rfl (fun gS w1 egS hx1 hb1 => ?_)
  have hle2 : w.heap.size ≤ gS := by have := (Ex.rfl_ w).size; omega
  have hE3 := hx1
  refine RG.alloc_ rfl rfl rfl rfl inf_64 (fun gR w4 egR hx4 hb4 => ?_)
  have hle5 : w.heap.size ≤ gR := by have := hE3.size; omega
  have hle6 : w1.heap.size ≤ gR := by have := (Ex.rfl_ w1).size; omega
  have hlt7 : gS < gR := by have := Blk.lt hb1; omega
  replace hE3 := Ex.tr hE3 hx4
  have hE8 := hx4
  refine RG.done ?_
  refine QW.then_ ?_
  refine CW.seq ?_
  refine CW.region ?_
  refine RG.alloc_ rfl rfl rfl rfl inf_64 (fun gE w9 egE hx9 hb9 => ?_)
  have hle10 : w.heap.size ≤ gE := by have := hE3.size; omega
  have hle11 : w1.heap.size ≤ gE := by have := hE8.size; omega
  have hle12 : w4.heap.size ≤ gE := by have := (Ex.rfl_ w4).size; omega
  have hlt13 : gS < gE := by have := Blk.lt (hb1.ext hE8); omega
  have hlt14 : gR < gE := by have := Blk.lt hb4; omega
  replace hE3 := Ex.tr hE3 hx9
  replace hE8 := Ex.tr hE8 hx9
  have hE15 := hx9
  refine RG.done ?_
  refine QW.then_ ?_
  refine CW.seq ?_
  refine CW.seq ?_
  refine CW.region ?_
  refine RG.vl rfl rfl rfl (Ev.move rfl rfl) ?_
  refine RG.done ?_
  refine QW.then_ ?_
  refine CW.block ?_
  refine CW.loop1 [(0, _), (1, _), (5, _), (6, _), (7, _)] ⟨rfl, rfl, rfl, rfl, rfl, trivial⟩ (fun (row : Nat) => [(11, .int .i64 (row : Int))]) (fun row w' => (row ≤ 4 ∧ Blk w' gE 64 (mc (stO n P sL row)) ∧ Blk w' gS 57 (encs4 sL) ∧ Blk w' gR 64 (mc fun _ _ => 0)) ∧ Ex w w') (fun row => 4 - row) (0) ⟨rfl, trivial⟩ ⟨⟨by omega, by rw [stO_zero, ← mc_zero]; exact hb9, (hb1.ext hE8), (hb4.ext hE15)⟩, (Ex.tr hB0 hE3)⟩ ?_
  rintro row wl16 ⟨⟨hrow, hbE, hbS, hbR⟩, hxwl16⟩
  refine CW.sub (S' := [(11, _), (0, _), (1, _), (5, _), (6, _), (7, _)]) ⟨rfl, rfl, rfl, rfl, rfl, rfl, trivial⟩ ?_
  refine CW.seq ?_
  refine CW.region ?_
  refine RG.vl rfl rfl rfl (Ev.lss rfl rfl rfl) ?_
  refine RG.done ?_
  refine QW.then_ ?_
  refine CW.seq ?_
  refine CW.condP rfl (fun hc17 => ?_) (fun hc17 => ?_)
  · refine CW.skip ?_
    refine QW.then_ ?_
    refine CW.seq ?_
    refine CW.block ?_
    refine CW.seq ?_
    refine CW.region ?_
    refine RG.vl rfl rfl rfl (Ev.move rfl rfl) ?_
    refine RG.vl rfl rfl rfl (Ev.assign rfl rfl) ?_
    refine RG.done ?_
    refine QW.then_ ?_
    refine CW.seq ?_
    refine CW.seq ?_
    refine CW.region ?_
    refine RG.vl rfl rfl rfl (Ev.move rfl rfl) ?_
    refine RG.vl rfl rfl rfl (Ev.lenL rfl rfl rfl Try.underlying23 ((hl.ext hxwl16))) ?_
    refine RG.vl rfl rfl rfl (Ev.move rfl rfl) ?_
    refine RG.done ?_
    refine QW.then_ ?_
    refine CW.block ?_
    refine CW.loop1 [(0, _), (1, _), (5, _), (6, _), (7, _), (8, _), (11, _), (14, _), (15, _)] ⟨rfl, rfl, rfl, rfl, rfl, rfl, rfl, rfl, rfl, trivial⟩ (fun (j : Nat) => [(16, .int .i64 (j : Int))]) (fun j w' => (j ≤ P.length ∧ Blk w' gE 64 (mc (stI n P sL row j)) ∧ Blk w' gS 57 (encs4 sL) ∧ Blk w' gR 64 (mc fun _ _ => 0)) ∧ Ex w w') (fun j => P.length - j) (0) ⟨rfl, trivial⟩ ⟨⟨Nat.zero_le _, by rw [stI_zero]; exact hbE, hbS, hbR⟩, (Ex.tr hB0 hxwl16)⟩ ?_
    rintro j wl18 ⟨⟨hj, hbE, hbS, hbR⟩, hxwl18⟩
    refine CW.sub (S' := [(16, _), (0, _), (1, _), (5, _), (6, _), (7, _), (8, _), (11, _), (14, _), (15, _)]) ⟨rfl, rfl, rfl, rfl, rfl, rfl, rfl, rfl, rfl, rfl, trivial⟩ ?_
    refine CW.seq ?_
    refine CW.region ?_
    refine RG.vl rfl rfl rfl (Ev.lss rfl rfl rfl) ?_
    refine RG.done ?_
    refine QW.then_ ?_
    refine CW.seq ?_
    refine CW.condP rfl (fun hc19 => ?_) (fun hc19 => ?_)
    · refine CW.skip ?_
      refine QW.then_ ?_
      refine CW.seq ?_
      refine CW.block ?_
      refine CW.seq ?_
      obtain ⟨a, hpl⟩ : ∃ a, P[j]? = some a := ⟨_, List.getElem?_eq_getElem (by omega)⟩
      refine CW.region ?_
      refine RG.vl rfl rfl rfl (Ev.move rfl rfl) ?_
      refine RG.idxL rfl rfl rfl rfl rfl rfl Try.underlying23 sz_3 ((hl.ext hxwl18)) (hpl) (fun p20 hp20b hp20 => ?_)
      refine RG.vl rfl rfl rfl (Ev.ld0 rfl rfl Try.underlying3 rfl (hp20) (rfl)) ?_
      refine RG.vl rfl rfl rfl (Ev.assign rfl rfl) ?_
      refine RG.vl rfl rfl rfl (Ev.assign rfl rfl) ?_
      refine RG.done ?_
      refine QW.then_ ?_
      have han := hp a (List.mem_of_getElem? hpl)
      obtain ⟨m, hm⟩ : ∃ m, m = n - 1 - a := ⟨_, rfl⟩
      have hmul : (row + 1) * m ≤ 4 * 62 := Nat.mul_le_mul (by omega) (by omega)
      refine CW.draw [15] (.ex) 16 rfl mixed (fun wd21 hxwd21 => ?_)
      replace hxwl18 := Ex.tr hxwl18 hxwd21
      have hE22 := hxwd21
      refine AG.takeW 0 rfl (by kernel_rfl) (by kernel_rfl) rfl rfl rfl (fun _ => Ev.move rfl rfl) ?_
      refine AG.takeW 1 rfl (by kernel_rfl) (by kernel_rfl) rfl rfl rfl (fun _ => Ev.move rfl rfl) ?_
      refine AG.takeW 2 rfl (by kernel_rfl) (by kernel_rfl) rfl rfl rfl (fun _ => Ev.move rfl rfl) ?_
      refine AG.takeW 3 rfl (by kernel_rfl) (by kernel_rfl) rfl rfl rfl (fun _ => (Ev.addI rfl rfl rfl (by omega)).conv (congrArg (Value.int .i64) (show (row : Int) + 1 = ((row + 1 : Nat) : Int) by omega))) ?_
      refine AG.takeW 4 rfl (by kernel_rfl) (by kernel_rfl) rfl rfl rfl (fun _ => Ev.move rfl rfl) ?_
      refine AG.takeW 5 rfl (by kernel_rfl) (by kernel_rfl) rfl rfl rfl (fun _ => Ev.subI rfl rfl rfl (by omega)) ?_
      refine AG.takeW 6 rfl (by kernel_rfl) (by kernel_rfl) rfl rfl rfl (fun _ => Ev.move rfl rfl) ?_
      refine AG.takeW 7 rfl (by kernel_rfl) (by kernel_rfl) rfl rfl rfl (fun _ => (Ev.subI rfl rfl rfl (by omega)).conv (congrArg (Value.int .i64) (show _ = (m : Int) by omega))) ?_
      refine AG.takeW 8 rfl (by kernel_rfl) (by kernel_rfl) rfl rfl rfl (fun _ => (Ev.mulI rfl rfl rfl (by rw [← Int.natCast_mul]; omega)).conv (congrArg (Value.int .i64) (Int.natCast_mul (row + 1) m).symm)) ?_
      refine AG.takeW 13 rfl (by kernel_rfl) (by kernel_rfl) rfl rfl rfl (fun _ => Ev.idxA rfl rfl rfl Try.underlying64 sz_62 (by omega)) ?_
      refine AG.only 9 rfl (by kernel_rfl) ?_
      refine RG.call rfl rfl rfl rfl rfl rfl rfl en_55 (Pow_el _ ((row + 1) * m)) ?_
      rintro _ w24 ⟨rfl, hx24⟩
      replace hxwl18 := Ex.tr hxwl18 hx24
      replace hE22 := Ex.tr hE22 hx24
      have hE25 := hx24
      refine RG.done ?_
      refine QW.an (fun _ => hE25) ?_
      refine AG.takeW 10 rfl (by kernel_rfl) (by kernel_rfl) rfl rfl rfl (fun _ => Ev.move rfl rfl) ?_
      refine AG.takeW 11 rfl (by kernel_rfl) (by kernel_rfl) rfl rfl rfl (fun _ => Ev.extract rfl rfl rfl) ?_
      refine AG.takeW 12 rfl (by kernel_rfl) (by kernel_rfl) rfl rfl rfl (fun _ => Ev.extract rfl rfl rfl) ?_
      refine AG.takeW 14 rfl (by kernel_rfl) (by kernel_rfl) rfl rfl rfl (fun _ => Ev.idxA rfl rfl rfl Try.underlying62 sz_5 (by omega)) ?_
      refine AG.only 15 rfl (by kernel_rfl) ?_
      refine RG.st2 (g := gE) rfl rfl rfl rfl rfl sz_5 rfl (hbE.ext hE22) (by rw [mc_len, Nat.blt_eq]; omega) (fun ws27 hwws27 hbws27 => ?_)
      replace hbS := Blk.far (hbS.ext hE22) hwws27 (by omega)
      replace hbR := Blk.far (hbR.ext hE22) hwws27 (by omega)
      replace hxwl18 := Wr.below hxwl18 hwws27 hle10
      rw [mc_set _ _ (by omega), hm, stI_more hP hpl] at hbws27
      refine RG.done ?_
      refine QW.an (fun h => by simp at h) ?_
      refine AG.done (by kernel_rfl) ?_
      refine QW.sub (S' := [(0, _), (1, _), (5, _), (6, _), (7, _), (8, _), (11, _), (14, _), (15, _), (16, _)]) ⟨rfl, rfl, rfl, rfl, rfl, rfl, rfl, rfl, rfl, rfl, trivial⟩ ?_
      refine QW.blockN ?_
      refine QW.then_ ?_
      refine CW.region ?_
      refine RG.vl rfl rfl rfl (Ev.addI rfl rfl rfl (by omega)) ?_
      refine RG.vl rfl rfl rfl (Ev.move rfl rfl) ?_
      refine RG.done ?_
      refine QW.round1 (j + 1) ⟨rfl, trivial⟩ ⟨rfl, rfl, rfl, rfl, rfl, rfl, rfl, rfl, rfl, trivial⟩ ⟨⟨by omega, hbws27, hbS, hbR⟩, (Ex.tr hB0 hxwl18)⟩ (by omega)
    · refine CW.exit ?_
      refine QW.thenExit ?_
      refine QW.thenExit ?_
      refine QW.blockHit ?_
      refine QW.then_ ?_
      obtain rfl : j = P.length := by omega
      refine CW.draw [6] (.ex) 7 rfl mixed (fun wd28 hxwd28 => ?_)
      replace hxwl18 := Ex.tr hxwl18 hxwd28
      have hE29 := hxwd28
      refine AG.takeW 0 rfl (by kernel_rfl) (by kernel_rfl) rfl rfl rfl (fun _ => Ev.move rfl rfl) ?_
      refine AG.takeW 1 rfl (by kernel_rfl) (by kernel_rfl) rfl rfl rfl (fun _ => Ev.move rfl rfl) ?_
      refine AG.takeW 2 rfl (by kernel_rfl) (by kernel_rfl) rfl rfl rfl (fun _ => Ev.idxA rfl rfl rfl Try.underlying57 sz_5 (by omega)) ?_
      refine AG.take 3 rfl (by kernel_rfl) (by kernel_rfl) rfl rfl rfl (fun wq hq => Ev.ldAt rfl rfl Try.underlying5 rfl (((hbS.ext hE29).ext hq).cells) ((show (encs4 sL)[row * 1]? = some (.int .u8 (cf sL row : Int)) by rw [List.getElem?_map, Nat.mul_one, getElem?_cf (by omega)]; rfl))) ?_
      refine AG.takeW 4 rfl (by kernel_rfl) (by kernel_rfl) rfl rfl rfl (fun _ => Ev.idxA rfl rfl rfl Try.underlying64 sz_62 (by omega)) ?_
      refine AG.takeW 5 rfl (by kernel_rfl) (by kernel_rfl) rfl rfl rfl (fun _ => Ev.idxA (i := 4) rfl rfl rfl Try.underlying62 sz_5 (by omega)) ?_
      refine AG.only 6 rfl (by kernel_rfl) ?_
      refine RG.st2 (g := gE) rfl rfl rfl rfl rfl sz_5 rfl (hbE.ext hE29) (by rw [mc_len, Nat.blt_eq]; omega) (fun ws31 hwws31 hbws31 => ?_)
      replace hbS := Blk.far (hbS.ext hE29) hwws31 (by omega)
      replace hbR := Blk.far (hbR.ext hE29) hwws31 (by omega)
      replace hxwl18 := Wr.below hxwl18 hwws31 hle10
      replace hbws31 : Blk ws31 gE 64 ((mc _).set (row * 5 + 4 * 1) _) := hbws31
      rw [mc_set _ _ (by omega), stI_end] at hbws31
      refine RG.done ?_
      refine QW.an (fun h => by simp at h) ?_
      refine AG.done (by kernel_rfl) ?_
      refine QW.blockN ?_
      refine QW.then_ ?_
      refine CW.region ?_
      refine RG.vl rfl rfl rfl (Ev.addI rfl rfl rfl (by omega)) ?_
      refine RG.vl rfl rfl rfl (Ev.move rfl rfl) ?_
      refine RG.done ?_
      refine QW.round1 (row + 1) ⟨rfl, trivial⟩ ⟨rfl, rfl, rfl, rfl, rfl, trivial⟩ ⟨⟨by omega, hbws31, hbS, hbR⟩, (Ex.tr hB0 hxwl18)⟩ (by omega)
  · refine CW.exit ?_
    refine QW.thenExit ?_
    refine QW.thenExit ?_
    refine QW.blockHit ?_
    refine QW.then_ ?_
    refine CW.seq ?_
    obtain rfl : row = 4 := by omega
    rw [stO_end] at hbE
    refine CW.region ?_
    refine RG.vl rfl rfl rfl (Ev.ldAgg rfl rfl Try.underlying64 rfl sz_64 rfl (hbE.cells)) ?_
    refine RG.stAll (g := gR) rfl rfl rfl rfl rfl sz_64 rfl rfl rfl hbR (fun ws32 hwws32 hbws32 => ?_)
    replace hbE := Blk.far hbE hwws32 (by omega)
    replace hbS := Blk.far hbS hwws32 (by omega)
    replace hxwl16 := Wr.below hxwl16 hwws32 hle5
    refine RG.done ?_
    refine QW.then_ ?_
    refine CW.ret ?_
    refine QW.retC rfl rfl Try.underlying64 rfl sz_64 rfl hbws32 ?_
    have hB := (Ex.tr hB0 hxwl16)
    exact ⟨rfl, hB⟩

set_option maxRecDepth 100000 in
set_option maxHeartbeats 1000000 in
theorem cand_ret (n : Nat) (A : Option Addr) (m c : Nat) (cs : List Value) (w : World)  :
    Ret Try.prog 36 [.int .i64 (n : Int), .slice A m c, .agg cs.toArray] w (fun v w' => (∃ gN gE gG, v = .func (.func 53) #[] #[.pointer (some ⟨gE, 0, none⟩), .pointer (some ⟨gN, 0, none⟩), .pointer (some ⟨gG, 0, none⟩)] ∧ Blk w' gN 3 [.int .i64 (n : Int)] ∧ Blk w' gE 23 [.slice A m c] ∧ Blk w' gG 56 cs) ∧ Ex w w') := by
  have hB0 : Ex w w := Ex.rfl_ _
  refine Ret.of Try.func36 rfl Try.ntmps36 rfl ?_
  refine CW.seq ?_
  refine CW.region ?_
  refine RG.box rfl rfl rfl rfl rfl (fun gN w1 egN hx1 hb1 => ?_)
  have hle2 : w.heap.size ≤ gN := by have := (Ex.rfl_ w).size; omega
  have hE3 := hx1
  refine RG.box rfl rfl rfl rfl rfl (fun gE w4 egE hx4 hb4 => ?_)
  have hle5 : w.heap.size ≤ gE := by have := hE3.size; omega
  have hle6 : w1.heap.size ≤ gE := by have := (Ex.rfl_ w1).size; omega
  have hlt7 : gN < gE := by have := Blk.lt hb1; omega
  replace hE3 := Ex.tr hE3 hx4
  have hE8 := hx4
  refine RG.box rfl rfl rfl rfl rfl (fun gG w9 egG hx9 hb9 => ?_)
  have hle10 : w.heap.size ≤ gG := by have := hE3.size; omega
  have hle11 : w1.heap.size ≤ gG := by have := hE8.size; omega
  have hle12 : w4.heap.size ≤ gG := by have := (Ex.rfl_ w4).size; omega
  have hlt13 : gN < gG := by have := Blk.lt (hb1.ext hE8); omega
  have hlt14 : gE < gG := by have := Blk.lt hb4; omega
  replace hE3 := Ex.tr hE3 hx9
  replace hE8 := Ex.tr hE8 hx9
  have hE15 := hx9
  refine RG.vl rfl rfl rfl (Ev.assign rfl rfl) ?_
  refine RG.done ?_
  refine QW.then_ ?_
  refine CW.seq ?_
  refine CW.region ?_
  refine RG.vl rfl rfl rfl (Ev.mkFn rfl rfl rfl rfl rfl) ?_
  refine RG.vl rfl rfl rfl (Ev.assign rfl rfl) ?_
  refine RG.done ?_
  refine QW.then_ ?_
  refine CW.ret ?_
  refine QW.ret1 rfl rfl ?_
  have hB := (Ex.tr hB0 hE3)
  exact ⟨⟨gN, gE, gG, rfl, (hb1.ext hE8), (hb4.ext hE15), hb9⟩, hB⟩

end Go.Proofs.Ytjhgihgggofocaa

/- The places that are tried, in order; what the iterator's steps keep. -/
namespace Go.Proofs.Ytjhgihgggofocaa
open Go.RowKit
def singL (er : List Nat) (a : Nat) : List (List Nat) := ((List.range a).filter fun i => decide (i ∉ er)).map fun i => er ++ [i]
def rowP (n a : Nat) : List (List Nat) := ((List.range n).drop (a + 1)).map fun j => [a, j]
def pairT (a b : Nat) (n : Nat) : List (List Nat) := (List.range a).flatMap (rowP n) ++ rowP b a
def candL (n : Nat) (er : List Nat) : List (List Nat) := [er] ++ (if er.length ≤ 2 then singL er n else []) ++ (if er.length = 0 then (List.range n).flatMap (rowP n) else [])
theorem rng (a : Nat) : ∀ m, ∃ t, List.range (a + m) = List.range a ++ t
  | 0 => ⟨[], by simp⟩
  | m + 1 => by
    obtain ⟨t, h⟩ := rng a m
    exact ⟨t ++ [a + m], by rw [← Nat.add_assoc, List.range_succ, h, List.append_assoc]⟩
theorem rng_le {a n : Nat} (h : a ≤ n) : ∃ t, List.range n = List.range a ++ t := by
  obtain ⟨t, ht⟩ := rng a (n - a)
  exact ⟨t, by rw [← ht, Nat.add_sub_cancel' h]⟩
theorem sing_yes {er : List Nat} {a : Nat} (h : a ∉ er) : singL er (a + 1) = singL er a ++ [er ++ [a]] := by unfold singL; rw [List.range_succ, List.filter_append, List.map_append]; simp [h]
theorem sing_no {er : List Nat} {a : Nat} (h : a ∈ er) : singL er (a + 1) = singL er a := by unfold singL; rw [List.range_succ, List.filter_append, List.map_append]; simp [h]
theorem sing_pre (er : List Nat) {a n : Nat} (h : a ≤ n) : singL er a <+: singL er n := by
  obtain ⟨t, ht⟩ := rng_le h
  refine ⟨(t.filter fun i => decide (i ∉ er)).map fun i => er ++ [i], ?_⟩
  unfold singL
  rw [ht, List.filter_append, List.map_append]
theorem row_more {a b : Nat} (h : a < b) : rowP (b + 1) a = rowP b a ++ [[a, b]] := by
  unfold rowP
  rw [List.range_succ, List.drop_append_of_le_length (by rw [List.length_range]; omega), List.map_append]; rfl
theorem row_nil {a b : Nat} (h : b ≤ a + 1) : rowP b a = [] := by unfold rowP; rw [List.drop_eq_nil_of_le (by rw [List.length_range]; exact h)]; rfl
theorem row_pre {a b n : Nat} (h : b ≤ n) : rowP b a <+: rowP n a := by
  obtain ⟨t, ht⟩ := rng_le h
  rcases Nat.lt_or_ge (a + 1) b with h2 | h2
  · refine ⟨t.map fun j => [a, j], ?_⟩
    unfold rowP
    rw [ht, List.drop_append_of_le_length (by rw [List.length_range]; omega), List.map_append]
  · rw [row_nil h2]; exact List.nil_prefix
theorem pair_more {a b n : Nat} (h : a < b) : pairT a (b + 1) n = pairT a b n ++ [[a, b]] := by unfold pairT; rw [row_more h, List.append_assoc]
theorem pair_start (a n : Nat) : pairT a (a + 1) n = (List.range a).flatMap (rowP n) := by unfold pairT; rw [row_nil (Nat.le_refl _), List.append_nil]
theorem pair_end (a n : Nat) : pairT a n n = (List.range (a + 1)).flatMap (rowP n) := by unfold pairT; rw [List.range_succ, List.flatMap_append]; simp
theorem cand_a (n : Nat) (er : List Nat) : [er] <+: candL n er := ⟨_, by unfold candL; rw [List.append_assoc]⟩
theorem cand_b {n a : Nat} {er : List Nat} (h2 : er.length ≤ 2) (ha : a < n) (hn : a ∉ er) : [er] ++ singL er a ++ [er ++ [a]] <+: candL n er := by
  unfold candL
  rw [if_pos h2, List.append_assoc, ← sing_yes hn, List.append_assoc]
  exact (List.prefix_append_right_inj _).2 (List.IsPrefix.trans (sing_pre er (show a + 1 ≤ n by omega)) (List.prefix_append _ _))
theorem cand_c {n a b : Nat} {er : List Nat} (h0 : er.length = 0) (hab : a < b) (hb : b < n) : [er] ++ singL er n ++ pairT a b n ++ [[a, b]] <+: candL n er := by
  unfold candL
  rw [if_pos (by omega), if_pos h0, List.append_assoc, ← pair_more hab]
  refine (List.prefix_append_right_inj _).2 ?_
  obtain ⟨t, ht⟩ := rng_le (show a + 1 ≤ n by omega)
  rw [ht, List.range_succ, List.flatMap_append, List.flatMap_append]
  unfold pairT
  rw [List.append_assoc]
  refine (List.prefix_append_right_inj _).2 ?_
  simp only [List.flatMap_cons, List.flatMap_nil, List.append_nil]
  exact List.IsPrefix.trans (row_pre (show b + 1 ≤ n by omega)) (List.prefix_append _ _)
theorem cand_3 {n : Nat} {er : List Nat} (h : 3 ≤ er.length) : candL n er = [er] := by unfold candL; rw [if_neg (by omega), if_neg (by omega)]; rfl
theorem cand_1 {n : Nat} {er : List Nat} (h : er.length ≤ 2) (h1 : er.length ≠ 0) : candL n er = [er] ++ singL er n := by unfold candL; rw [if_pos h, if_neg h1, List.append_nil]
theorem cand_0 {n : Nat} {er : List Nat} (h : er.length = 0) : candL n er = [er] ++ singL er n ++ (List.range n).flatMap (rowP n) := by unfold candL; rw [if_pos (by omega), if_pos h]
/-! memory -/
abbrev El2 := Value × List Nat
structure JAt (J : List El2 → World → Prop) (B : Nat) (pre : List El2) (W : World) : Prop where
  calm : Calm B J
  val : J pre W
  size : B ≤ W.heap.size
theorem JAt.ext {J : List El2 → World → Prop} {B : Nat} {pre : List El2} {W W' : World} (h : JAt J B pre W) (hx : Ex W W') : JAt J B pre W' :=
  ⟨h.calm, h.calm _ _ _ none h.val ⟨hx.os, hx.tape, hx.output, hx.size, fun k hk _ => hx.block k hk⟩ (fun r e => by cases e), Nat.le_trans h.size hx.size⟩
theorem JAt.own {J : List El2 → World → Prop} {B B' : Nat} {pre : List El2} {W W' : World} {e sz n : Nat} {v : Value} {us : List Value} (h : JAt J B pre W) (ho : W.ownsRow B' e sz v n us) (hB : B ≤ B') (hg : W.grownBy W' v.ownBlock) : JAt J B pre W' :=
  ⟨h.calm, h.calm _ _ _ _ h.val hg (fun r er => by have := (World.ownsRow.lt ho r er).1; omega), Nat.le_trans h.size hg.size⟩
theorem Own.kc {α : Type} {A A' : World} {n0 B sz : Nat} {e : TypeId} {enc : α → List Value} {v : Value} {xs : List α} (h : Own A B e sz enc v xs) (k : Kc n0 A A') : Own A' B e sz enc v xs := by
  refine ⟨h.1, ?_⟩
  rcases h.2 with h0 | ⟨g, cap, cur, h1, h2, h3, h4⟩
  · exact .inl h0
  · exact .inr ⟨g, cap, cur, h1, h2, k.2 _ _ _ _ h3, h4⟩
/-- append of one number: the list that was appended to stays as it was. -/
theorem RG.appKeep {P : Program} {ops : Array Oper} {Q : Exit → Act → World → Prop} {n : Nat} {l : List Oper} {S : Slots} {w : World} {o : Oper} {d : Nat} {T e by_ B : Nat} {z v u : Value} {x y : Operand} {c : Call} {xs : List Nat} {a : Nat} (hw : wantS ops S o = some true) (hd : o.dst = some d) (hdn : Nat.blt d n = true) (ho : o.op = .call c) (hc : c = { callee := .builtin .append, args := #[x, y], argTypes := #[T, T] })
    (hx : ev S x = some v) (hy : ev S y = some u) (ht : P.underlying T = some (.slice e)) (hi : (P.info? e).map (fun i => (i.zero, i.size, i.bytes)) = some (some z, 1, by_)) (hz : z.cells.size = 1)
    (hown : Own w B e 1 encZ v xs) (hr : RdL w 1 encZ u [a]) (hlen : xs.length ≤ 1000) (hby : by_ ≤ 1000) (hB : B ≤ w.heap.size)
    (kk : ∀ v' w', RdL w' 1 encZ v' (xs ++ [a]) → Own w' B e 1 encZ v xs → w.grownBy w' v.ownBlock → RG P ops Q n l ((d, v') :: S) w') : RG P ops Q n (o :: l) S w := by
  have hml : xs.length + [a].length ≤ maxLen := by simp only [maxLen, List.length_singleton]; omega
  have hbb : (xs.length + [a].length) * by_ ≤ 140737488355328 := by
    have := Nat.mul_le_mul (show xs.length + [a].length ≤ 1001 by simp only [List.length_singleton]; omega) hby
    omega
  rcases hown.2 with ⟨rfl, hx0⟩ | ⟨g, cap, cur, rfl, hbg, hg, hnc, hcm, hcs, htake⟩
  · refine RG.appO hw hd hdn ho hc hx hy ht hi hz rfl encZ_len (fun _ => rfl) hown hr hml hbb hB fun v' w' h2 h3 _ => kk v' w' (h2.rdl encZ_len) ?_ h3
    have : xs = [] := List.eq_nil_of_length_eq_zero hx0
    subst this
    exact Own.nil_ _ _ _ _ _
  · by_cases hroom : xs.length + 1 ≤ cap
    · obtain ⟨A, cp, rfl, hA⟩ := hr.flat encZ_len
      obtain ⟨ad, rfl, hca⟩ := hA (by simp)
      obtain ⟨i, hii, hz0, hz1, hz2⟩ := info_parts hi
      have hrun := run_append_room (P := P) w T o.type e i ht hii g xs.length cap cur hg ad 1 cp [.int .i64 (a : Int)] (by rw [hz1]; rfl) hca (fun u hu => by simp at hu; subst hu; rfl) hroom (by rw [hz1, hcs]; simp; omega)
      obtain ⟨cur', hcur'⟩ : ∃ c : Array Value, c = (cur.toList.take (xs.length * i.size) ++ [Value.int .i64 (a : Int)] ++ cur.toList.drop (xs.length * i.size + [Value.int .i64 (a : Int)].length)).toArray := ⟨_, rfl⟩
      rw [← hcur'] at hrun
      have hl1 := length_flatMap_enc encZ_len xs
      rw [hz1, Nat.mul_one] at hcur'
      rw [Nat.mul_one] at htake hcs hl1
      have hsz : cur'.size = cap := by rw [hcur']; simp; omega
      have ht1 : cur'.toList.take xs.length = xs.flatMap encZ := by
        rw [hcur', htake, List.append_assoc, List.toList_toArray, List.take_append_of_le_length (by omega), ← hl1, List.take_length]
      have ht2 : cur'.toList.take (xs.length + 1) = (xs ++ [a]).flatMap encZ := by
        rw [hcur', htake, List.toList_toArray, List.flatMap_append, List.take_append_of_le_length (by rw [List.length_append, hl1]; exact Nat.le_refl _), List.take_of_length_le (by rw [List.length_append, hl1]; exact Nat.le_refl _)]; rfl
      have hg' := setRow_heap w g cur cur' e _ hg
      have hwr := wr_setRow w g cur'
      have o1 : Own (w.setRow g cur') B e 1 encZ (.slice (some ⟨g, 0, none⟩) (xs.length + 1) cap) (xs ++ [a]) := by
        refine ⟨by rw [length_flatMap_enc encZ_len], .inr ⟨g, cap, cur', ?_, hbg, hg', by simpa using hroom, hcm, by rw [hsz, Nat.mul_one], by rw [Nat.mul_one, List.length_append]; exact ht2⟩⟩
        rw [List.length_append]; rfl
      have o2 : Own (w.setRow g cur') B e 1 encZ (.slice (some ⟨g, 0, none⟩) xs.length cap) xs := ⟨hown.1, .inr ⟨g, cap, cur', rfl, hbg, hg', hnc, hcm, by rw [hsz, Nat.mul_one], by rw [Nat.mul_one]; exact ht1⟩⟩
      refine RG.run (v := .slice (some ⟨g, 0, none⟩) (xs.length + 1) cap) (w' := w.setRow g cur') hw hd hdn (fun a ha => ?_) (kk _ _ (o1.rdl encZ_len) o2 hwr.grownBy)
      simp only [execOp, ho, hc]
      simp [resolve, invoke, builtin, ha.eval hx, ha.eval hy, hrun]
    · obtain rfl : cap = xs.length := by omega
      refine RG.appF (enc := encZ) (olds := xs.flatMap encZ) (us := [a]) hw hd hdn ho hc hx hy ht hi hz encZ_len hown.1 (World.ownsRow.cells hown rfl) hr (by simp) hml hbb fun v' w' hx2 h2 => kk v' w' (RdL.of_own (B := w.heap.size) (e := e) encZ_len (by rw [List.length_append, List.flatMap_append]; exact h2)) (hown.ext hx2) ⟨hx2.os, hx2.tape, hx2.output, hx2.size, fun k hk _ => hx2.block k hk⟩
end Go.Proofs.Ytjhgihgggofocaa

/- A region in which yield is called: what stands ahead of it and behind it is walked as elsewhere. -/
namespace Go.Proofs.Ytjhgihgggofocaa
open Go.RowKit
theorem oper_wide {k : Nat} {P : Program} {o : Oper} {a : Act} {w : World} {next next' : Act → World → Prop} {Q Q' : Exit → Act → World → Prop} (hn : ∀ a w, next a w → next' a w) (hq : ∀ ch a w, Q (.panic ch) a w → Q' (.panic ch) a w) (hl : LetsOut Q → LetsOut Q') (h : o.wp P a w next Q) : o.wpIn Fence.wide k P a w next' Q' := by
  refine ⟨fun f _ => trivial, ?_⟩
  show o.uponIn _ k P a _ Q' ((Oper.semAt none a.eval o).run P w)
  rw [Oper.semAt_none]
  unfold Oper.wp at h
  generalize (execOp a.eval o).run P w = r at h ⊢
  unfold Oper.upon at h
  split at h
  · exact hn _ _ h
  · exact hn _ _ h
  · exact hn _ _ h
  · refine ⟨(fun h => by cases h), callsIn_wide.2 (Calls.mono h ?_)⟩
    intro e w2 h2
    cases e with
    | returned v => exact hn _ _ h2
    | panicked ch => exact hq _ _ _ h2
    | outgrown => exact hl h2
  · refine ⟨(fun h => by cases h), fun c cs _ => ?_⟩
    obtain ⟨v, w2, r, s⟩ := h c cs
    exact ⟨v, w2, hn _ _ r, stepsIn_wide.2 s⟩
  · exact hq _ _ _ h
  · exact h.elim
theorem listIn_wide {k : Nat} {P : Program} {ops : Array Oper} {Q : Exit → Act → World → Prop} (hQ : ∀ a w, Q .outgrown a w → False) : ∀ (os : List Oper) (a : Act) (w : World), wpList P ops Q os a w → wpListIn Fence.wide k P ops Q os a w := by
  intro os
  induction os with
  | nil => exact fun a w h => h
  | cons o os ih =>
    intro a w h
    unfold wpList at h
    unfold wpListIn
    split at h
    · rename_i hw
      rw [if_pos hw]
      rcases h with h | ⟨_, a', w', h⟩
      · exact oper_wide ih (fun _ _ _ h => h) (fun h => h) h
      · exact (hQ a' w' h).elim
    · rename_i hw
      rw [if_neg hw]
      exact ⟨fun f _ => trivial, ih _ _ h⟩
theorem pre_wide {k : Nat} {P : Program} {ops : Array Oper} {Q : Exit → Act → World → Prop} (hQ : ∀ a w, Q .outgrown a w → False) : ∀ (i : Nat) (os : List Oper) (a : Act) (w : World),
    wpList P ops (Exit.then (fun a w => wpListIn Fence.wide k P ops Q (os.drop i) a w) Q) (os.take i) a w → wpListIn Fence.wide k P ops Q os a w := by
  intro i
  induction i with
  | zero => exact fun os a w h => h
  | succ i ih =>
    intro os a w h
    cases os with
    | nil => exact h
    | cons o os =>
      change wpList P ops _ (o :: os.take i) a w at h
      unfold wpList at h
      unfold wpListIn
      split at h
      · rename_i hw
        rw [if_pos hw]
        rcases h with h | ⟨_, a', w', h⟩
        · exact oper_wide (ih os) (fun _ _ _ h => h) (fun ⟨a, w, h⟩ => ⟨a, w, h⟩) h
        · exact (hQ a' w' h).elim
      · rename_i hw
        rw [if_neg hw]
        exact ⟨fun f _ => trivial, ih os _ _ h⟩
section
variable {k n : Nat} {P : Program} {ops : Array Oper} {Q : Exit → Act → World → Prop} {l : List Oper} {S : Slots} {w : World}
theorem RGI.ofRG (hQ : ∀ a w, Q .outgrown a w → False) (h : RG P ops Q n l S w) : RGI Fence.wide k P ops Q [] n l S w := fun a ha => listIn_wide hQ l a w (h a ha.fr)
theorem RGI.ahead (i : Nat) (hQ : ∀ a w, Q .outgrown a w → False) (h : RG P ops (Exit.then (fun a w => wpListIn Fence.wide k P ops Q (l.drop i) a w) Q) n (l.take i) S w) : RGI Fence.wide k P ops Q [] n l S w := fun a ha => pre_wide hQ i l a w (h a ha.fr)
theorem RGI.rest (h : RGI Fence.wide k P ops Q [] n l S w) : QW (Exit.then (fun a w => wpListIn Fence.wide k P ops Q l a w) Q) .normal n S w := fun a ha => h a ⟨⟨rfl, ha.sz, ha.get⟩, ha.df⟩
end
end Go.Proofs.Ytjhgihgggofocaa

/- Walks (SK). Written by program. -/
namespace Go.Proofs.Ytjhgihgggofocaa
open Go.RowKit
set_option maxRecDepth 100000 in
set_option maxHeartbeats 2000000 in
theorem iter_ret (kf : Nat) (w0 : World) (lp gE gN gG n : Nat) (A : Option Addr) (c : Nat) (er : List Nat) (J Jx : List El2 → World → Prop) (w : World) (hx0 : Ex w0 w) (hE : Blk w0 gE 23 [.slice A er.length c]) (hN : Blk w0 gN 3 [.int .i64 (n : Int)]) (hG : Blk w0 gG 56 (goneC er)) (hl : RdL w0 1 encZ (.slice A er.length c) er) (her : er.length ≤ 4) (hn : n ≤ 63) (hcalm : Calm w.heap.size J) (hY : ∀ pre x A, J pre A → (RdL A 1 encZ x.1 x.2 ∧ (pre ++ [x]).map Prod.snd <+: candL n er) → YieldAt Fence.wide (kf - 1) Try.prog lp #[x.1] A fun e B => (e = .returned (.bool true) ∧ J (pre ++ [x]) B ∧ Kc w0.heap.size A B) ∨ (e = .returned (.bool false) ∧ Jx (pre ++ [x]) B)) (h0 : J [] w) :
    Ret Try.prog 53 [.func (.yield lp) #[] #[], .pointer (some ⟨gE, 0, none⟩), .pointer (some ⟨gN, 0, none⟩), .pointer (some ⟨gG, 0, none⟩)] w (fun _ w' => (∃ xs : List El2, xs.map Prod.snd = candL n er ∧ J xs w') ∨ ∃ pre, Jx pre w') := by
  have hx00 := hx0
  have hJ0 : JAt J w.heap.size [] w := ⟨hcalm, h0, Nat.le_refl _⟩
  have hB0 : Ex w w := Ex.rfl_ _
  refine Ret.of Try.func53 rfl Try.ntmps53 rfl ?_
  refine CW.seq ?_
  refine CW.region ?_
  refine RG.vl rfl rfl rfl (Ev.ld0 rfl rfl Try.underlying23 rfl ((hE.ext hx00).cells) (rfl)) ?_
  refine RG.vl rfl rfl rfl (Ev.lenL rfl rfl rfl Try.underlying23 ((hl.ext hx00))) ?_
  refine RG.vl rfl rfl rfl (Ev.subI rfl rfl rfl (by omega)) ?_
  refine RG.vl rfl rfl rfl (Ev.quoI rfl rfl rfl (by omega)) ?_
  refine RG.vl rfl rfl rfl (Ev.assign rfl rfl) ?_
  refine RG.done ?_
  refine QW.then_ ?_
  refine CW.seq ?_
  refine CW.region ?_
  refine RG.vl rfl rfl rfl (Ev.ld0 rfl rfl Try.underlying23 rfl ((hE.ext hx00).cells) (rfl)) ?_
  refine RG.call rfl rfl rfl rfl rfl rfl rfl en_54 (cloneI_ret _ er _ ((hl.ext hx00)) (by omega)) ?_
  have hpre1 := hB0
  rintro vp w1 ⟨hpl, hx1⟩
  have hE2 := hx1
  replace hx00 := Ex.tr hx00 hx1
  refine RG.vl rfl rfl rfl (Ev.assign rfl rfl) ?_
  refine RG.done ?_
  refine QW.then_ ?_
  refine CW.seq ?_
  refine CW.seq ?_
  refine CW.fenced kf ?_
  refine CWI.region ?_
  refine RGI.ahead 2 (fun _ _ h => by obtain ⟨_, e, _⟩ := h; cases e) ?_
  refine RG.vl rfl rfl rfl (Ev.move rfl rfl) ?_
  refine RG.vl rfl rfl rfl (Ev.move rfl rfl) ?_
  refine RG.done ?_
  refine RGI.rest ?_
  have hJy3 := (hJ0.ext hE2)
  have hrxy3 := (hpl.rdl encZ_len)
  have hpfy3 : ([] ++ [((vp, er) : El2)]).map Prod.snd <+: candL n er := by
    exact cand_a n er
  refine RGI.yield_ (vs := [vp]) open_wide (hY [] (vp, er) _ hJy3.val ⟨hrxy3, hpfy3⟩) rfl rfl rfl rfl rfl rfl rfl (fun e w' h => by rcases h with ⟨rfl, _⟩ | ⟨rfl, _⟩ <;> exact ⟨_, rfl⟩) (fun q wyy3 hq => ?_)
  cases q
  · rcases hq with ⟨h, _⟩ | ⟨_, hJx1⟩
    · simp at h
    refine RGI.ofRG (fun _ _ h => by obtain ⟨_, e, _⟩ := h; cases e) ?_
    refine RG.vl rfl rfl rfl (Ev.notT rfl rfl) ?_
    refine RG.vl rfl rfl rfl (Ev.move rfl rfl) ?_
    refine RG.pass rfl rfl rfl ?_
    refine RG.pass rfl rfl rfl ?_
    refine RG.vl rfl rfl rfl (Ev.pickT rfl rfl rfl) ?_
    refine RG.done ?_
    refine QW.sub (S' := [(0, _), (2, _), (3, _), (5, _), (6, _), (23, _)]) ⟨rfl, rfl, rfl, rfl, rfl, rfl, trivial⟩ ?_
    refine QW.then_ ?_
    refine CW.condT rfl ?_
    refine CW.ret ?_
    refine QW.thenRet ?_
    refine QW.ret0 rfl ?_
    exact .inr ⟨_, hJx1⟩
  · rcases hq with ⟨_, hJ1, hK⟩ | ⟨h, _⟩
    rotate_left
    · simp at h
    have hxyy3 := Below.trans (Ex.tr hx0 hE2) hK.1
    have hJ2 : JAt J w.heap.size _ _ := ⟨hJy3.calm, hJ1, Nat.le_trans hJy3.size hK.1.size⟩
    have hpl2 := Own.kc hpl hK
    refine RGI.ofRG (fun _ _ h => by obtain ⟨_, e, _⟩ := h; cases e) ?_
    refine RG.vl rfl rfl rfl (Ev.notF rfl rfl) ?_
    refine RG.vl rfl rfl rfl (Ev.move rfl rfl) ?_
    refine RG.vl rfl rfl rfl (Ev.move rfl rfl) ?_
    refine RG.vl rfl rfl rfl (Ev.eqI rfl rfl rfl) ?_
    refine RG.vl rfl rfl rfl (Ev.pickF rfl rfl rfl) ?_
    refine RG.done ?_
    refine QW.sub (S' := [(0, _), (2, _), (3, _), (5, _), (6, _), (23, _)]) ⟨rfl, rfl, rfl, rfl, rfl, rfl, trivial⟩ ?_
    refine QW.then_ ?_
    refine CW.condP rfl (fun hc4 => ?_) (fun hc4 => ?_)
    · refine CW.ret ?_
      refine QW.thenRet ?_
      refine QW.ret0 rfl ?_
      exact .inl ⟨_, by rw [cand_3 (by omega)]; rfl, (hJ2).val⟩
    · refine CW.skip ?_
      refine QW.then_ ?_
      refine CW.seq ?_
      refine CW.seq ?_
      refine CW.region ?_
      refine RG.vl rfl rfl rfl (Ev.ld0 rfl rfl Try.underlying3 rfl ((hN.ext hxyy3).cells) (rfl)) ?_
      refine RG.vl rfl rfl rfl (Ev.move rfl rfl) ?_
      refine RG.done ?_
      refine QW.then_ ?_
      refine CW.block ?_
      refine CW.loop2 [(0, _), (2, _), (3, _), (5, _), (6, _), (24, _)] ⟨rfl, rfl, rfl, rfl, rfl, rfl, trivial⟩ (fun (a : Nat) (pre : List El2) => [(25, .int .i64 (a : Int))]) (fun a pre w' => (a ≤ n ∧ pre.map Prod.snd = [er] ++ singL er a ∧ JAt J w.heap.size pre w' ∧ Own w' w.heap.size 3 1 encZ vp er) ∧ Ex w0 w') (fun a pre => n - a) (0) (([] ++ [((vp, er) : El2)])) ⟨rfl, trivial⟩ ⟨⟨Nat.zero_le _, rfl, hJ2, hpl2⟩, hxyy3⟩ ?_
      rintro a pre wl5 ⟨⟨ha, hpre, hJ, hpl⟩, hxwl5⟩
      refine CW.sub (S' := [(25, _), (0, _), (2, _), (3, _), (5, _), (6, _), (24, _)]) ⟨rfl, rfl, rfl, rfl, rfl, rfl, rfl, trivial⟩ ?_
      
      refine CW.seq ?_
      refine CW.region ?_
      refine RG.vl rfl rfl rfl (Ev.lss rfl rfl rfl) ?_
      refine RG.done ?_
      refine QW.then_ ?_
      refine CW.seq ?_
      refine CW.condP rfl (fun hc6 => ?_) (fun hc6 => ?_)
      · refine CW.skip ?_
        refine QW.then_ ?_
        refine CW.seq ?_
        refine CW.block ?_
        refine CW.seq ?_
        refine CW.region ?_
        refine RG.vl rfl rfl rfl (Ev.move rfl rfl) ?_
        refine RG.vl rfl rfl rfl (Ev.assign rfl rfl) ?_
        refine RG.done ?_
        refine QW.then_ ?_
        refine CW.seq ?_
        refine CW.fenced kf ?_
        refine CWI.region ?_
        refine RGI.ahead 10 (fun _ _ h => by obtain ⟨_, e, _⟩ := h; cases e) ?_
        refine RG.vl rfl rfl rfl (Ev.move rfl rfl) ?_
        refine RG.vl rfl rfl rfl (Ev.idxA rfl rfl rfl Try.underlying56 sz_4 (by omega)) ?_
        refine RG.vl rfl rfl rfl (Ev.ldAt rfl rfl Try.underlying4 rfl ((hG.ext hxwl5).cells) ((show (goneC er)[a * 1]? = some (.bool (decide (a ∈ er))) by rw [Nat.mul_one]; exact goneC_at er (by omega)))) ?_
        refine RG.vl rfl rfl rfl (Ev.notP rfl rfl) ?_
        refine RG.vl rfl rfl rfl (Ev.move rfl rfl) ?_
        refine RG.split (d := 32) rfl (fun hg7 => ?_) (fun hg7 => ?_)
        · refine RG.vl rfl rfl rfl (Ev.move rfl rfl) ?_
          refine RG.vl rfl rfl rfl (Ev.move rfl rfl) ?_
          refine RG.vl rfl rfl rfl (Ev.move rfl rfl) ?_
          refine RG.litO (os := [.tmp 35]) (enc := encZ) ([a]) rfl rfl rfl rfl rfl rfl rfl Try.underlying23 inf_3 rfl rfl rfl rfl rfl encZ_len rfl rfl (fun v8 wk9 hxwk9 hown10 hnew11 => ?_)
          replace hxwl5 := Ex.tr hxwl5 hxwk9
          have hE12 := hxwk9
          have hJa13 := (hJ.ext hE12)
          have hoa13 := (Own.ext hpl hE12)
          have hxa13 := hxwl5
          refine RG.appKeep rfl rfl rfl rfl rfl rfl rfl Try.underlying23 inf_3 rfl hoa13 (hown10.rdl encZ_len) (by omega) (by decide) hJa13.size (fun vaa13 waa13 hraa13 hpaa13 hgaa13 => ?_)
          have hxba13 := own_block hoa13 hxa13 hgaa13 hx0.size hJa13.size
          have hJba13 := hJa13.own hoa13 (Nat.le_refl _) hgaa13
          refine RG.done ?_
          refine RGI.rest ?_
          have hJy14 := hJba13
          have hrxy14 := hraa13
          have hpfy14 : (pre ++ [((vaa13, (er ++ [a])) : El2)]).map Prod.snd <+: candL n er := by
            rw [List.map_append, hpre]; exact cand_b (by omega) (by omega) (by assumption)
          refine RGI.yield_ (vs := [vaa13]) open_wide (hY pre (vaa13, (er ++ [a])) _ hJy14.val ⟨hrxy14, hpfy14⟩) rfl rfl rfl rfl rfl rfl rfl (fun e w' h => by rcases h with ⟨rfl, _⟩ | ⟨rfl, _⟩ <;> exact ⟨_, rfl⟩) (fun q wyy14 hq => ?_)
          cases q
          · rcases hq with ⟨h, _⟩ | ⟨_, hJx1⟩
            · simp at h
            refine RGI.ofRG (fun _ _ h => by obtain ⟨_, e, _⟩ := h; cases e) ?_
            refine RG.vl rfl rfl rfl (Ev.notT rfl rfl) ?_
            refine RG.vl rfl rfl rfl (Ev.pickT rfl rfl rfl) ?_
            refine RG.done ?_
            refine QW.sub (S' := [(0, _), (2, _), (3, _), (5, _), (6, _), (24, _), (25, _), (40, _)]) ⟨rfl, rfl, rfl, rfl, rfl, rfl, rfl, rfl, trivial⟩ ?_
            refine QW.then_ ?_
            refine CW.condT rfl ?_
            refine CW.ret ?_
            refine QW.blockR ?_
            refine QW.thenRet ?_
            refine QW.thenRet ?_
            refine QW.blockR ?_
            refine QW.thenRet ?_
            refine QW.ret0 rfl ?_
            exact .inr ⟨_, hJx1⟩
          · rcases hq with ⟨_, hJ1, hK⟩ | ⟨h, _⟩
            rotate_left
            · simp at h
            have hxyy14 := Below.trans hxba13 hK.1
            have hJ2 : JAt J w.heap.size _ _ := ⟨hJy14.calm, hJ1, Nat.le_trans hJy14.size hK.1.size⟩
            have hpl2 := Own.kc hpaa13 hK
            refine RGI.ofRG (fun _ _ h => by obtain ⟨_, e, _⟩ := h; cases e) ?_
            refine RG.vl rfl rfl rfl (Ev.notF rfl rfl) ?_
            refine RG.vl rfl rfl rfl (Ev.pickT rfl rfl rfl) ?_
            refine RG.done ?_
            refine QW.sub (S' := [(0, _), (2, _), (3, _), (5, _), (6, _), (24, _), (25, _), (40, _)]) ⟨rfl, rfl, rfl, rfl, rfl, rfl, rfl, rfl, trivial⟩ ?_
            refine QW.then_ ?_
            refine CW.condF rfl ?_
            refine CW.skip ?_
            refine QW.blockN ?_
            refine QW.then_ ?_
            refine CW.region ?_
            refine RG.vl rfl rfl rfl (Ev.addI rfl rfl rfl (by omega)) ?_
            refine RG.vl rfl rfl rfl (Ev.move rfl rfl) ?_
            refine RG.done ?_
            refine QW.round2 (a + 1) ((pre ++ [((vaa13, (er ++ [a])) : El2)])) ⟨rfl, trivial⟩ ⟨rfl, rfl, rfl, rfl, rfl, rfl, trivial⟩ ⟨⟨by omega, by rw [List.map_append, hpre, sing_yes (by assumption), ← List.append_assoc, List.map_singleton], hJ2, hpl2⟩, hxyy14⟩ (by omega)
        · refine RG.pass rfl rfl rfl ?_
          refine RG.pass rfl rfl rfl ?_
          refine RG.pass rfl rfl rfl ?_
          refine RG.pass rfl rfl rfl ?_
          refine RG.pass rfl rfl rfl ?_
          refine RG.done ?_
          refine RGI.rest ?_
          refine RGI.ofRG (fun _ _ h => by obtain ⟨_, e, _⟩ := h; cases e) ?_
          refine RG.pass rfl rfl rfl ?_
          refine RG.pass rfl rfl rfl ?_
          refine RG.vl rfl rfl rfl (Ev.pickF rfl rfl rfl) ?_
          refine RG.done ?_
          refine QW.sub (S' := [(0, _), (2, _), (3, _), (5, _), (6, _), (24, _), (25, _), (40, _)]) ⟨rfl, rfl, rfl, rfl, rfl, rfl, rfl, rfl, trivial⟩ ?_
          refine QW.then_ ?_
          refine CW.condF rfl ?_
          refine CW.skip ?_
          refine QW.blockN ?_
          refine QW.then_ ?_
          refine CW.region ?_
          refine RG.vl rfl rfl rfl (Ev.addI rfl rfl rfl (by omega)) ?_
          refine RG.vl rfl rfl rfl (Ev.move rfl rfl) ?_
          refine RG.done ?_
          refine QW.round2 (a + 1) (pre) ⟨rfl, trivial⟩ ⟨rfl, rfl, rfl, rfl, rfl, rfl, trivial⟩ ⟨⟨by omega, by rw [hpre, sing_no (Decidable.not_not.1 (by assumption))], hJ, hpl⟩, hxwl5⟩ (by omega)
      · refine CW.exit ?_
        refine QW.thenExit ?_
        refine QW.thenExit ?_
        refine QW.blockHit ?_
        refine QW.then_ ?_
        refine CW.seq ?_
        refine CW.seq ?_
        refine CW.region ?_
        refine RG.vl rfl rfl rfl (Ev.move rfl rfl) ?_
        refine RG.vl rfl rfl rfl (Ev.eqI rfl rfl rfl) ?_
        refine RG.done ?_
        refine QW.then_ ?_
        refine CW.condP rfl (fun hc15 => ?_) (fun hc15 => ?_)
        · refine CW.ret ?_
          refine QW.thenRet ?_
          refine QW.ret0 rfl ?_
          obtain rfl : a = n := by omega
          exact .inl ⟨_, by rw [cand_1 (by omega) (by omega)]; exact hpre, (hJ).val⟩
        · refine CW.skip ?_
          refine QW.then_ ?_
          refine CW.seq ?_
          refine CW.region ?_
          refine RG.vl rfl rfl rfl (Ev.ld0 rfl rfl Try.underlying3 rfl ((hN.ext hxwl5).cells) (rfl)) ?_
          refine RG.vl rfl rfl rfl (Ev.move rfl rfl) ?_
          refine RG.done ?_
          refine QW.then_ ?_
          refine CW.block ?_
          refine CW.loop2 [(0, _), (2, _), (44, _)] ⟨rfl, rfl, rfl, trivial⟩ (fun (a : Nat) (pre : List El2) => [(45, .int .i64 (a : Int))]) (fun a pre w' => (a ≤ n ∧ pre.map Prod.snd = [er] ++ singL er n ++ (List.range a).flatMap (rowP n) ∧ JAt J w.heap.size pre w') ∧ Ex w0 w') (fun a pre => n - a) (0) (pre) ⟨rfl, trivial⟩ ⟨⟨Nat.zero_le _, by obtain rfl : a = n := (by omega); rw [hpre]; exact (List.append_nil _).symm, hJ⟩, hxwl5⟩ ?_
          rintro a pre wl16 ⟨⟨ha, hpre, hJ⟩, hxwl16⟩
          refine CW.sub (S' := [(45, _), (0, _), (2, _), (44, _)]) ⟨rfl, rfl, rfl, rfl, trivial⟩ ?_
          
          refine CW.seq ?_
          refine CW.region ?_
          refine RG.vl rfl rfl rfl (Ev.lss rfl rfl rfl) ?_
          refine RG.done ?_
          refine QW.then_ ?_
          refine CW.seq ?_
          refine CW.condP rfl (fun hc17 => ?_) (fun hc17 => ?_)
          · refine CW.skip ?_
            refine QW.then_ ?_
            refine CW.seq ?_
            refine CW.block ?_
            refine CW.seq ?_
            refine CW.region ?_
            refine RG.vl rfl rfl rfl (Ev.move rfl rfl) ?_
            refine RG.vl rfl rfl rfl (Ev.assign rfl rfl) ?_
            refine RG.done ?_
            refine QW.then_ ?_
            refine CW.seq ?_
            refine CW.region ?_
            refine RG.vl rfl rfl rfl (Ev.move rfl rfl) ?_
            refine RG.vl rfl rfl rfl (Ev.addI rfl rfl rfl (by omega)) ?_
            refine RG.vl rfl rfl rfl (Ev.assign rfl rfl) ?_
            refine RG.done ?_
            refine QW.then_ ?_
            refine CW.block ?_
            refine CW.loop2 [(0, _), (2, _), (8, _), (44, _), (45, _)] ⟨rfl, rfl, rfl, rfl, rfl, trivial⟩ (fun (b : Nat) (pre2 : List El2) => [(9, .int .i64 (b : Int))]) (fun b pre2 w' => (a + 1 ≤ b ∧ b ≤ n ∧ pre2.map Prod.snd = [er] ++ singL er n ++ pairT a b n ∧ JAt J w.heap.size pre2 w') ∧ Ex w0 w') (fun b pre2 => n - b) (a + 1) (pre) ⟨congrArg (fun x => some (Value.int .i64 x)) (by omega), trivial⟩ ⟨⟨by omega, by omega, by rw [pair_start]; exact hpre, hJ⟩, hxwl16⟩ ?_
            rintro b pre2 wl18 ⟨⟨hab, hb, hpre2, hJ⟩, hxwl18⟩
            refine CW.sub (S' := [(9, _), (0, _), (2, _), (8, _), (44, _), (45, _)]) ⟨rfl, rfl, rfl, rfl, rfl, rfl, trivial⟩ ?_
            
            refine CW.seq ?_
            refine CW.seq ?_
            refine CW.region ?_
            refine RG.vl rfl rfl rfl (Ev.move rfl rfl) ?_
            refine RG.vl rfl rfl rfl (Ev.ld0 rfl rfl Try.underlying3 rfl ((hN.ext hxwl18).cells) (rfl)) ?_
            refine RG.vl rfl rfl rfl (Ev.lss rfl rfl rfl) ?_
            refine RG.done ?_
            refine QW.then_ ?_
            refine CW.condP rfl (fun hc19 => ?_) (fun hc19 => ?_)
            · refine CW.skip ?_
              refine QW.then_ ?_
              refine CW.seq ?_
              refine CW.block ?_
              refine CW.seq ?_
              refine CW.fenced kf ?_
              refine CWI.region ?_
              refine RGI.ahead 4 (fun _ _ h => by obtain ⟨_, e, _⟩ := h; cases e) ?_
              refine RG.vl rfl rfl rfl (Ev.move rfl rfl) ?_
              refine RG.vl rfl rfl rfl (Ev.move rfl rfl) ?_
              refine RG.vl rfl rfl rfl (Ev.move rfl rfl) ?_
              refine RG.litO (os := [.tmp 56, .tmp 57]) (enc := encZ) ([a, b]) rfl rfl rfl rfl rfl rfl rfl Try.underlying23 inf_3 rfl rfl rfl rfl rfl encZ_len rfl rfl (fun v20 wk21 hxwk21 hown22 hnew23 => ?_)
              replace hxwl18 := Ex.tr hxwl18 hxwk21
              have hE24 := hxwk21
              refine RG.done ?_
              refine RGI.rest ?_
              have hJy25 := (hJ.ext hE24)
              have hrxy25 := (hown22.rdl encZ_len)
              have hpfy25 : (pre2 ++ [((v20, [a, b]) : El2)]).map Prod.snd <+: candL n er := by
                rw [List.map_append, hpre2]; exact cand_c (by omega) (by omega) (by omega)
              refine RGI.yield_ (vs := [v20]) open_wide (hY pre2 (v20, [a, b]) _ hJy25.val ⟨hrxy25, hpfy25⟩) rfl rfl rfl rfl rfl rfl rfl (fun e w' h => by rcases h with ⟨rfl, _⟩ | ⟨rfl, _⟩ <;> exact ⟨_, rfl⟩) (fun q wyy25 hq => ?_)
              cases q
              · rcases hq with ⟨h, _⟩ | ⟨_, hJx1⟩
                · simp at h
                refine RGI.ofRG (fun _ _ h => by obtain ⟨_, e, _⟩ := h; cases e) ?_
                refine RG.vl rfl rfl rfl (Ev.notT rfl rfl) ?_
                refine RG.done ?_
                refine QW.then_ ?_
                refine CW.condT rfl ?_
                refine CW.ret ?_
                refine QW.blockR ?_
                refine QW.thenRet ?_
                refine QW.thenRet ?_
                refine QW.blockR ?_
                refine QW.blockR ?_
                refine QW.thenRet ?_
                refine QW.thenRet ?_
                refine QW.blockR ?_
                refine QW.ret0 rfl ?_
                exact .inr ⟨_, hJx1⟩
              · rcases hq with ⟨_, hJ1, hK⟩ | ⟨h, _⟩
                rotate_left
                · simp at h
                have hxyy25 := Below.trans hxwl18 hK.1
                have hJ2 : JAt J w.heap.size _ _ := ⟨hJy25.calm, hJ1, Nat.le_trans hJy25.size hK.1.size⟩
                refine RGI.ofRG (fun _ _ h => by obtain ⟨_, e, _⟩ := h; cases e) ?_
                refine RG.vl rfl rfl rfl (Ev.notF rfl rfl) ?_
                refine RG.done ?_
                refine QW.then_ ?_
                refine CW.condF rfl ?_
                refine CW.skip ?_
                refine QW.blockN ?_
                refine QW.then_ ?_
                refine CW.region ?_
                refine RG.vl rfl rfl rfl (Ev.move rfl rfl) ?_
                refine RG.vl rfl rfl rfl (Ev.addI rfl rfl rfl (by omega)) ?_
                refine RG.vl rfl rfl rfl (Ev.assign rfl rfl) ?_
                refine RG.done ?_
                refine QW.round2 (b + 1) ((pre2 ++ [((v20, [a, b]) : El2)])) ⟨rfl, trivial⟩ ⟨rfl, rfl, rfl, rfl, rfl, trivial⟩ ⟨⟨by omega, by omega, by rw [List.map_append, hpre2, pair_more (by omega), ← List.append_assoc, List.map_singleton], hJ2⟩, hxyy25⟩ (by omega)
            · refine CW.exit ?_
              refine QW.thenExit ?_
              refine QW.thenExit ?_
              refine QW.blockHit ?_
              refine QW.blockN ?_
              refine QW.then_ ?_
              refine CW.region ?_
              refine RG.vl rfl rfl rfl (Ev.addI rfl rfl rfl (by omega)) ?_
              refine RG.vl rfl rfl rfl (Ev.move rfl rfl) ?_
              refine RG.done ?_
              refine QW.round2 (a + 1) (pre2) ⟨rfl, trivial⟩ ⟨rfl, rfl, rfl, trivial⟩ ⟨⟨by omega, by obtain rfl : b = n := (by omega); rw [← pair_end]; exact hpre2, hJ⟩, hxwl18⟩ (by omega)
          · refine CW.exit ?_
            refine QW.thenExit ?_
            refine QW.thenExit ?_
            refine QW.blockHit ?_
            refine QW.end0 rfl ?_
            obtain rfl : a = n := by omega
            exact .inl ⟨_, by rw [cand_0 (by omega)]; exact hpre, (hJ).val⟩

end Go.Proofs.Ytjhgihgggofocaa

/- A region that draws its order, inside a round. -/
namespace Go.Proofs.Ytjhgihgggofocaa
open Go.RowKit
theorem oper_round {k l : Nat} {P : Program} {o : Oper} {a : Act} {w : World} {next next' : Act → World → Prop} {Q : Exit → Act → World → Prop} (ho : ∀ c, o.op ≠ .defer c) (hn : ∀ a w, next a w → next' a w) (h : o.wp P a w next Q) : o.wpIn (Fence.wide.inRound l) k P a w next' Q := by
  refine ⟨fun f _ => trivial, ?_⟩
  show o.uponIn _ k P a _ Q ((Oper.semAt (some l) a.eval o).run P w)
  rw [Oper.semAt_some l a.eval o ho]
  unfold Oper.wp at h
  generalize (execOp a.eval o).run P w = r at h ⊢
  unfold Oper.upon at h
  split at h
  · exact hn _ _ h
  · exact hn _ _ h
  · exact hn _ _ h
  · refine ⟨(fun h => by cases h), CallsIn.inRound l (callsIn_wide.2 (Calls.mono h ?_))⟩
    intro e w2 h2
    cases e with
    | returned v => exact hn _ _ h2
    | panicked ch => exact h2
    | outgrown => exact h2
  · exact ⟨(fun h => by cases h), rowsIn_round (Rows.mono h fun v w2 h2 => hn _ _ h2)⟩
  · exact h
  · exact h.elim
theorem opsIn_round {k l : Nat} {P : Program} {ops : Array Oper} {Q : Exit → Act → World → Prop} (hQ : ∀ a w, Q .outgrown a w → False) (hd : ∀ (i : Nat) (o : Oper), ops[i]? = some o → ∀ c, o.op ≠ .defer c) : ∀ (is : List Nat) (a : Act) (w : World), wpOps P ops Q is a w → wpOpsIn (Fence.wide.inRound l) k P ops Q is a w := by
  intro is
  induction is with
  | nil => exact fun a w h => h
  | cons i is ih =>
    intro a w h
    unfold wpOps at h
    unfold wpOpsIn
    cases hi : ops[i]? with
    | none => rw [hi] at h; exact ih a w h
    | some o =>
      rw [hi] at h
      dsimp only at h ⊢
      split at h
      · rename_i hw
        rw [if_pos hw]
        rcases h with h | ⟨_, a', w', h⟩
        · exact oper_round (hd i o hi) ih h
        · exact (hQ a' w' h).elim
      · rename_i hw
        rw [if_neg hw]
        exact ⟨fun f _ => trivial, ih _ _ h⟩
theorem noDefer_all {l : List Oper} (h : noDefer l = true) (i : Nat) (o : Oper) (hi : l.toArray[i]? = some o) : ∀ c, o.op ≠ .defer c := fun c hc => by
  have hm : o ∈ l := List.mem_of_getElem? (by simpa using hi)
  have := List.all_eq_true.1 h o hm
  rw [hc] at this; cases this
theorem CWJ.draw {r k n : Nat} {P : Program} {Q : Exit → Act → World → Prop} {S : Slots} {w : World} {id : Nat} {l : List Oper} (U : List Nat) (row : Rk) (m : Nat) (hl : l.length = m) (hm : P.follows .mixedOrders = true) (hd : noDefer l = true) (hQ : ∀ a w, Q .outgrown a w → False)
    (kk : ∀ w1, Ex w w1 → AG P l.toArray Q U row n m (Array.replicate m false) S w1) : CWJ r k P (.region id l.toArray true) Q n S w := by
  intro a ha
  subst hl
  have h := wpZ_sound _ _ _ _ _ (kk w.drew (Ex.of_drew w) a ha)
  refine wpIn_mono (wpIn_region_draw (Q := NP Q) fun t => ?_) fun e a w h => h.out
  simp only [Region.schedule, hm, Bool.true_or, if_true]
  exact opsIn_round (fun a w h => hQ a w h.out) (noDefer_all hd) _ _ _ (wpAny_sound _ t _ a _ h)
/-- The body of a round is gone into. -/
theorem CWJ.into {r k n : Nat} {P : Program} {Q : Exit → Act → World → Prop} {S : Slots} {w : World} {c : Code} {a : Act} (ha : Fr n S a) (h : CWJ r k P c Q n S w) : c.wpIn (Fence.wide.inRound r) k P Q a w := h a ha
theorem QW.of {Q : Exit → Act → World → Prop} {e : Exit} {n : Nat} {S : Slots} {w : World} (h : ∀ a, Q e a w) : QW Q e n S w := fun a _ => h a
end Go.Proofs.Ytjhgihgggofocaa

/- Decode as it goes: what it says, the round's result; stores behind a range over a function. -/
namespace Go.Proofs.Ytjhgihgggofocaa
open Go.RowKit
def fixL (l P : List Nat) (M : Mx) : Nat → List Nat
  | 0 => l
  | i + 1 => (fixL l P M i).set (cf P i) (cf (fixL l P M i) (cf P i) ^^^ M i 4)
theorem fixL_len (l P : List Nat) (M : Mx) : ∀ i, (fixL l P M i).length = l.length
  | 0 => rfl
  | i + 1 => by rw [fixL, List.length_set, fixL_len l P M i]
theorem fixL_el {l P : List Nat} {M : Mx} (hl : El l) (hM : EM M) : ∀ i, i ≤ 4 → El (fixL l P M i)
  | 0, _ => hl
  | i + 1, hi => fun a ha => by
    have ih := fixL_el (P := P) hl hM i (by omega)
    rw [fixL] at ha
    rcases List.mem_or_eq_of_mem_set ha with h | h
    · exact ih a h
    · rw [h]; exact xor_lt64 _ _ (ih.cf _) (hM i 4 (by omega) (by omega))
theorem fixL_more {l P : List Nat} {M : Mx} {i a : Nat} (h : P[i]? = some a) : (fixL l P M i).set a (cf (fixL l P M i) a ^^^ M i 4) = fixL l P M (i + 1) := by rw [fixL, cf_some h]
def freeL (P er : List Nat) : List Nat := P.filter fun a => decide (a ∉ er)
theorem freeL_yes {P er : List Nat} {i a : Nat} (h : P[i]? = some a) (hn : a ∉ er) : freeL (P.take (i + 1)) er = freeL (P.take i) er ++ [a] := by unfold freeL; rw [List.take_add_one, h, Option.toList_some, List.filter_append]; simp [hn]
theorem freeL_no {P er : List Nat} {i a : Nat} (h : P[i]? = some a) (hn : a ∈ er) : freeL (P.take (i + 1)) er = freeL (P.take i) er := by unfold freeL; rw [List.take_add_one, h, Option.toList_some, List.filter_append]; simp [hn]
theorem freeL_len (P er : List Nat) (i : Nat) : (freeL (P.take i) er).length ≤ P.length := by
  have h := List.length_filter_le (fun a => decide (a ∉ er)) (P.take i)
  rw [List.length_take] at h
  unfold freeL; omega
def NoF (l P : List Nat) : Prop := ∃ M, SolvR (eqM l.length P (syL l)) P.length false M
def YesF (l P c : List Nat) : Prop := ∃ M, SolvR (eqM l.length P (syL l)) P.length true M ∧ c = fixL l P M P.length
def okE (n : Nat) (ei : List Int) : Prop := (∀ a ∈ ei, 0 ≤ a ∧ a < n) ∧ ei.Nodup
def erN (ei : List Int) : List Nat := ei.map Int.toNat
/-- What is found: nothing within the bound, or the first places that fit. -/
def Found (l er : List Nat) (e : Int) (c es : List Nat) : Prop :=
  ((∀ P ∈ candL l.length er, NoF l P) ∧ e = 190 ∧ c = [] ∧ es = []) ∨ ∃ pre P rest, candL l.length er = pre ++ P :: rest ∧ (∀ Q ∈ pre, NoF l Q) ∧ YesF l P c ∧ e = 0 ∧ es = freeL P er
def DecP (l : List Nat) (ei : List Int) (e : Int) (c es : List Nat) : Prop :=
  ((isW l = false ∨ ¬ okE l.length ei) ∧ e = 2 ∧ c = [] ∧ es = []) ∨ (isW l = true ∧ okE l.length ei ∧ ((4 < ei.length ∧ e = 190 ∧ c = [] ∧ es = []) ∨ (ei.length ≤ 4 ∧ Found l (erN ei) e c es)))
theorem cand_in {n : Nat} {er P : List Nat} (h : P ∈ candL n er) (her : er.length ≤ 4) (hn : ∀ a ∈ er, a < n) : P.length ≤ 4 ∧ ∀ a ∈ P, a < n := by
  unfold candL at h
  rcases List.mem_append.1 h with h | h
  · rcases List.mem_append.1 h with h | h
    · rw [List.mem_singleton.1 h]; exact ⟨her, hn⟩
    · split at h
      · unfold singL at h
        obtain ⟨i, hi, rfl⟩ := List.mem_map.1 h
        have hi := List.mem_range.1 (List.mem_filter.1 hi).1
        refine ⟨by rw [List.length_append, List.length_singleton]; omega, fun a ha => ?_⟩
        rcases List.mem_append.1 ha with ha | ha
        · exact hn a ha
        · rw [List.mem_singleton.1 ha]; exact hi
      · cases h
  · split at h
    · obtain ⟨i, hi, h⟩ := List.mem_flatMap.1 h
      have hi := List.mem_range.1 hi
      unfold rowP at h
      obtain ⟨j, hj, rfl⟩ := List.mem_map.1 h
      have hj := List.mem_range.1 (List.mem_of_mem_drop hj)
      refine ⟨by show (2 : Nat) ≤ 4; omega, fun a ha => ?_⟩
      rcases List.mem_cons.1 ha with rfl | ha
      · exact hi
      · rw [List.mem_singleton.1 ha]; exact hj
    · cases h
theorem rdl_z {w : World} {u : Value} {ei : List Int} (h : RdL w 1 encI u ei) (h0 : ∀ a ∈ ei, 0 ≤ a) : RdL w 1 encZ u (erN ei) := by
  obtain ⟨A, c, rfl, h1, h2, h3⟩ := h
  have hl : (erN ei).length = ei.length := List.length_map ..
  refine ⟨A, c, by rw [hl], by rw [hl]; exact h1, h2, fun hp => ?_⟩
  obtain ⟨ad, rfl, hb, hc⟩ := h3 (by rw [← hl]; exact hp)
  refine ⟨ad, rfl, hb, fun i a hi => ?_⟩
  unfold erN at hi
  rw [List.getElem?_map] at hi
  obtain ⟨z, hz, rfl⟩ := Option.map_eq_some_iff.1 hi
  have h0' := h0 z (List.mem_of_getElem? hz)
  have := hc i z hz
  rw [show encZ z.toNat = encI z from congrArg (fun x : Int => [Value.int .i64 x]) (by omega)]
  exact this
theorem dup_no {ei : List Int} {i : Nat} {a : Int} (h : ei[i]? = some a) (hm : a ∈ ei.take i) : ¬ ei.Nodup := fun hd => by
  obtain ⟨j, hj⟩ := List.mem_iff_getElem?.1 hm
  have hji : j < i := by
    have := (List.getElem?_eq_some_iff.1 hj).1
    rw [List.length_take] at this; omega
  rw [List.getElem?_take_of_lt hji] at hj
  obtain ⟨h1, h2⟩ := List.getElem?_eq_some_iff.1 hj
  obtain ⟨h3, h4⟩ := List.getElem?_eq_some_iff.1 h
  have := List.pairwise_iff_getElem.1 hd j i h1 h3 hji
  exact this (by rw [h2, h4])
theorem toNat_mem {ei : List Int} {a : Int} (h0 : ∀ x ∈ ei, 0 ≤ x) (ha : 0 ≤ a) (h : a.toNat ∈ erN ei) : a ∈ ei := by
  unfold erN at h
  obtain ⟨x, hx, e⟩ := List.mem_map.1 h
  have := h0 x hx
  have : x = a := by omega
  rw [← this]; exact hx
theorem nodup_more {ei : List Int} {i : Nat} {a : Int} (hd : (ei.take i).Nodup) (h : ei[i]? = some a) (hn : a ∉ ei.take i) : (ei.take (i + 1)).Nodup := by
  rw [List.take_add_one, h, Option.toList_some]
  refine List.nodup_append.2 ⟨hd, by simp, fun x hx y hy => ?_⟩
  rw [List.mem_singleton.1 hy]; rintro rfl; exact hn hx
theorem erN_more {ei : List Int} {i : Nat} {a : Int} (h : ei[i]? = some a) : erN (ei.take (i + 1)) = erN (ei.take i) ++ [a.toNat] := by unfold erN; rw [List.take_add_one, h, Option.toList_some, List.map_append]; rfl
theorem others_wr {A B : World} {g : Nat} {t : TypeId} {cs : List Value} (h : Wr A B g) (hb : Blk A g t cs) : KeepsOthers A B :=
  ⟨by rw [h.size]; exact Nat.le_refl _, fun k o hk ho => by
    have hne : k ≠ g := fun e => by subst e; unfold Blk at hb; rw [hb] at hk; cases hk; cases ho
    exact (h.block k hne).trans hk⟩
theorem Blk.put {A : World} {g l : Nat} {t : TypeId} {cs : List Value} {o : Obj} (o' : Obj) (hb : Blk A g t cs) (h : A.heap[l]? = some o) (hc : o.isCells = false) : Blk (A.putObj l o') g t cs := by
  have hne : g ≠ l := fun e => by subst e; unfold Blk at hb; rw [hb] at h; cases h; cases hc
  exact (World.putObj_heap_other hne).trans hb
theorem Own.put {α : Type} {A : World} {l B sz : Nat} {e : TypeId} {enc : α → List Value} {v : Value} {xs : List α} {o : Obj} (o' : Obj) (ho : Own A B e sz enc v xs) (h : A.heap[l]? = some o) (hc : o.isCells = false) : Own (A.putObj l o') B e sz enc v xs := ho.kc (n0 := 0) (Kc.put o' (Nat.zero_le _) h hc)
theorem RdL.put {α : Type} {A : World} {l sz : Nat} {enc : α → List Value} {v : Value} {xs : List α} {o : Obj} (o' : Obj) (hr : RdL A sz enc v xs) (h : A.heap[l]? = some o) (hc : o.isCells = false) : RdL (A.putObj l o') sz enc v xs := by
  refine hr.keep (by simp) fun ad _ _ us j hcs i u hu => ?_
  have h1 := hcs i u hu
  have hb : ((ad.add j).add i).block ≠ l := fun e => by
    rw [World.cell?, e, h] at h1
    cases o <;> first | (cases hc; done) | (simp at h1)
  exact (World.cell?_of_block (World.putObj_heap_other hb)).trans h1
theorem CW.label {P : Program} {Q : Exit → Act → World → Prop} {n m : Nat} {S : Slots} {w : World} (k : QW Q .normal n S w) : CW P (.label m) Q n S w := fun a ha => wp_label (k a ha)
/-! stores behind a mark -/
section
variable {F : Fence} {k n g : Nat} {P : Program} {ops : Array Oper} {Q : Exit → Act → World → Prop} {ds : List Deferred} {l : List Oper} {S : Slots} {w : World} {o : Oper}
theorem RGI.run0 {w' : World} (hO : Open F) (hw : wantS ops S o = some true) (hd : o.dst = none) (hnd : ∀ c, o.op ≠ .defer c)
    (hr : ∀ a, Fr n S a → (execOp a.eval o).run P w = .ok .skip w') (kk : RGI F k P ops Q ds n l S w') : RGI F k P ops Q ds n (o :: l) S w := by
  intro a ha
  unfold wpListIn
  rw [if_pos (ha.1.wanted hw)]
  refine ⟨fun f _ => hO.fn f, ?_⟩
  rw [Oper.semAt_plain F _ _ hnd]
  have e := hr _ ha.1
  rw [show a.eval = Act.eval { a with defers := [] } from rfl, e]
  show wpListIn F k P ops Q l (a.put o.dst undef) w'
  rw [hd]
  exact kk _ ha
theorem RGI.stAll (hO : Open F) {T m : Nat} {x y : Operand} {v : Value} {cs : List Value} (hw : wantS ops S o = some true) (hd : o.dst = none) (ho : o.op = .store T x y) (hx : ev S x = some (.pointer (some ⟨g, 0, none⟩))) (hy : ev S y = some v)
    (hs : sizeP P T = some m) (hv : v.cells.size = m) (hcs : cs.length = m) (h1 : v.cells.toList.all (·.oneCell') = true) (hb : Blk w g T cs)
    (kk : ∀ w', Wr w w' g → Blk w' g T v.cells.toList → RGI F k P ops Q ds n l S w') : RGI F k P ops Q ds n (o :: l) S w := by
  refine RGI.run0 hO (w' := w.setRow g v.cells.toList.toArray) hw hd (by rw [ho]; intro c h; cases h) (fun a ha => ?_) (kk _ (wr_setRow _ _ _) (blk_setRow hb))
  simp only [execOp, ho]; rw [ha.eval hx, ha.eval hy]
  simp [Instr.storeAt, Instr.sureAddr, storeVar_blk hb v rfl hs (by simpa using hv) hcs h1]
theorem RGI.st1 (hO : Open F) {T : Nat} {t : TypeId} {x y : Operand} {v c : Value} (hw : wantS ops S o = some true) (hd : o.dst = none) (ho : o.op = .store T x y) (hx : ev S x = some (.pointer (some ⟨g, 0, none⟩))) (hy : ev S y = some v)
    (hs : sizeP P T = some 1) (h1 : v.oneCell' = true) (hb : Blk w g t [c])
    (kk : ∀ w', Wr w w' g → Blk w' g t [v] → RGI F k P ops Q ds n l S w') : RGI F k P ops Q ds n (o :: l) S w := by
  have hvc : v.cells = #[v] := by cases v <;> first | rfl | simp [Value.oneCell'] at h1
  have hst := run_storeCells_at P g 0 t [v] 0 #[c] w hb (by simp) (fun u hu => by simp at hu; subst hu; exact h1)
  refine RGI.run0 hO (w' := w.setRow g #[v]) hw hd (by rw [ho]; intro c h; cases h) (fun a ha => ?_) (kk _ (wr_setRow _ _ _) (blk_setRow (us := [v]) hb))
  simp only [execOp, ho]; rw [ha.eval hx, ha.eval hy]
  simp [Instr.storeAt, Instr.sureAddr, storeVar, run_sizeOf hs, hvc, hst]
end
end Go.Proofs.Ytjhgihgggofocaa

/- Strings that are ranged over, lists of runes. -/
namespace Go.Proofs.Ytjhgihgggofocaa
open Go.RowKit
/-- Block r holds an iterator over s at pos. -/
def Si (w : World) (r : Nat) (s : ByteArray) (pos : Nat) : Prop := w.heap[r]? = some (.stringIter s pos)
section
variable {P : Program} {ops : Array Oper} {Q : Exit → Act → World → Prop} {n d : Nat} {l : List Oper} {S : Slots} {w : World} {o : Oper} {r : Nat} {s : ByteArray} {pos : Nat}
theorem Si.ext {w' : World} (h : Si w r s pos) (hx : Ex w w') : Si w' r s pos := (hx.block r (Array.getElem?_eq_some_iff.1 h).1).trans h
theorem Si.lt (h : Si w r s pos) : r < w.heap.size := (Array.getElem?_eq_some_iff.1 h).1
theorem Si.far {w' : World} {g : Nat} (h : Si w r s pos) (k : Wr w w' g) (hne : r ≠ g) : Si w' r s pos := (k.block r hne).trans h
theorem run_next_si {ty : TypeId} (h : Si w r s pos) (hp : pos < s.size) :
    (Instr.next (.pointer (some ⟨r, 0, none⟩)) true ty).run P w = .ok (.tuple #[.bool true, .int .i64 pos, .int .i32 (Utf8.decode s pos).1]) (ChangeMaps.setBlock w r (.stringIter s (pos + (Utf8.decode s pos).2))) := by
  unfold Si at h
  simp only [Instr.next, getObj, setObj, Sem.run_bind, Sem.run, h, Result.andThen, hp, if_true]
  simp [goInt, ChangeMaps.setBlock]
theorem run_next_si_end {ty : TypeId} (h : Si w r s pos) (hp : ¬ pos < s.size) : (Instr.next (.pointer (some ⟨r, 0, none⟩)) true ty).run P w = .ok (.tuple #[.bool false]) w := by
  unfold Si at h
  simp [Instr.next, getObj, Sem.run, h, hp]
theorem RG.sRange {T : Nat} {x : Operand} (hw : wantS ops S o = some true) (hd : o.dst = some d) (hdn : Nat.blt d n = true) (ho : o.op = .range T x) (hx : ev S x = some (.string s)) (ht : P.underlying T = some .string)
    (kk : ∀ r w', r = w.heap.size → Ex w w' → Si w' r s 0 → RG P ops Q n l ((d, .pointer (some ⟨r, 0, none⟩)) :: S) w') : RG P ops Q n (o :: l) S w := by
  refine RG.run (w' := w.iter s 0) hw hd hdn (fun a ha => ?_) (kk w.heap.size _ rfl (Ex.of_alloc w _) (World.iter_heap w s 0))
  simp only [execOp, ho]; rw [ha.eval hx]
  simp [run_range_string w T s ht]
theorem RG.sNext {x : Operand} (hw : wantS ops S o = some true) (hd : o.dst = some d) (hdn : Nat.blt d n = true) (ho : o.op = .next x true) (hx : ev S x = some (.pointer (some ⟨r, 0, none⟩))) (h : Si w r s pos)
    (k0 : s.size ≤ pos → RG P ops Q n l ((d, .tuple #[.bool false]) :: S) w)
    (k1 : ∀ w', pos < s.size → Wr w w' r → Si w' r s (pos + (Utf8.decode s pos).2) → RG P ops Q n l ((d, .tuple #[.bool true, .int .i64 pos, .int .i32 (Utf8.decode s pos).1]) :: S) w') : RG P ops Q n (o :: l) S w := by
  by_cases hp : pos < s.size
  · have hlt := h.lt
    have hs := MapKept.heap_set (o' := .stringIter s (pos + (Utf8.decode s pos).2)) (show w.heap[r]? = some (.stringIter s pos) from h)
    refine RG.run (w' := ChangeMaps.setBlock w r (.stringIter s (pos + (Utf8.decode s pos).2))) hw hd hdn (fun a ha => ?_) (k1 _ hp ⟨rfl, rfl, rfl, by simp [ChangeMaps.setBlock], fun j hj => hs.2 j hj⟩ hs.1)
    simp only [execOp, ho]; rw [ha.eval hx]
    simp [run_next_si h hp]
  · refine RG.run hw hd hdn (fun a ha => ?_) (k0 (by omega))
    simp only [execOp, ho]; rw [ha.eval hx]
    simp [run_next_si_end h hp]
/-- A byte below 128 is a rune. -/
theorem dec_lo {t : List UInt8} {i : Nat} {c : UInt8} (h : t[i]? = some c) (hc : c.toNat < 128) : Utf8.decode ⟨t.toArray⟩ i = (c.toNat, 1) := by
  obtain ⟨hi, e⟩ := List.getElem?_eq_some_iff.1 h
  have hs : i < (⟨t.toArray⟩ : ByteArray).size := by simpa [ByteArray.size] using hi
  have hb : ((⟨t.toArray⟩ : ByteArray)[i]'hs) = c := by rw [← e]; rfl
  rw [decode_ascii _ _ hs (by rw [hb]; exact hc), hb]
theorem dec_hi {t : List UInt8} {i : Nat} {c : UInt8} (h : t[i]? = some c) (hc : 128 ≤ c.toNat) : 128 ≤ (Utf8.decode ⟨t.toArray⟩ i).1 ∧ 1 ≤ (Utf8.decode ⟨t.toArray⟩ i).2 := by
  obtain ⟨hi, e⟩ := List.getElem?_eq_some_iff.1 h
  have hs : i < (⟨t.toArray⟩ : ByteArray).size := by simpa [ByteArray.size] using hi
  exact decode_high _ _ hs (by rw [show ((⟨t.toArray⟩ : ByteArray)[i]'hs) = c from by rw [← e]; rfl]; exact hc)
/-- A scope through which the run goes without a jump. -/
theorem CW.scope {c : Code} (k : CW P c (Exit.noGoto Q) n S w) : CW P (.scope c) Q n S w := fun a ha => wp_scope_straight (k a ha)
theorem QW.noGotoN (k : QW Q .normal n S w) : QW (Exit.noGoto Q) .normal n S w := k
theorem QW.noGotoR (k : QW Q .ret n S w) : QW (Exit.noGoto Q) .ret n S w := k
theorem QW.noGotoX {id : Nat} (k : QW Q (.exit id) n S w) : QW (Exit.noGoto Q) (.exit id) n S w := k
/-- Any integer as a string: its letters. -/
theorem Ev.runeStrAny {src dst : TypeId} {x : Operand} {k : IntKind} {p : Int} (ho : o.op = .convert src dst x) (hx : ev S x = some (.int k p)) (hs : P.underlying src = some (.int k)) (hd : P.underlying dst = some .string) : Ev P n o S w (.string (Utf8.encode p)) := fun a ha => by
  simp only [execOp, ho]; rw [ha.eval hx]
  simp [convert, run_underlying hs, run_underlying hd, Conv.intToString]
end
/-! []rune(s) -/
abbrev encR (r : Nat) : List Value := [.int .i32 (r : Int)]
theorem encR_len (r : Nat) : (encR r).length = 1 := rfl
theorem runes_lo {t : List UInt8} (h : ∀ c ∈ t, c.toNat < 128) : ∀ (b i : Nat) (acc : Array Value), t.length ≤ i + b → Conv.runesFrom ⟨t.toArray⟩ b i acc = acc ++ ((t.drop i).map fun c => Value.int .i32 (c.toNat : Int)).toArray
  | 0, i, acc, hb => by rw [List.drop_eq_nil_of_le (by omega)]; simp [Conv.runesFrom]
  | b + 1, i, acc, hb => by
    unfold Conv.runesFrom
    have hsz : (⟨t.toArray⟩ : ByteArray).size = t.length := by simp [ByteArray.size]
    by_cases hi : i < t.length
    · rw [if_pos (by rw [hsz]; exact hi), dec_lo (List.getElem?_eq_getElem hi) (h _ (List.getElem_mem hi))]
      show Conv.runesFrom _ b (i + 1) _ = _
      rw [runes_lo h b (i + 1) _ (by omega), List.drop_eq_getElem_cons hi]
      apply Array.ext'
      simp only [Array.toList_append, Array.toList_push, List.map_cons, List.append_assoc, List.cons_append, List.nil_append]
      rfl
    · rw [if_neg (by rw [hsz]; exact hi), List.drop_eq_nil_of_le (by omega)]
      simp
/-- A row of runes, and what lies behind it. -/
def Rn (w : World) (g e : Nat) (cap : Nat) (t : List UInt8) : Prop := Blk w g e (t.map (fun c => Value.int .i32 (c.toNat : Int)) ++ List.replicate (cap - t.length) (.int .i32 0)) ∧ t.length ≤ cap ∧ cap ≤ maxLen
theorem Rn.rdl {w : World} {g e cap : Nat} {t : List UInt8} (h : Rn w g e cap t) : RdL w 1 encR (.slice (some ⟨g, 0, none⟩) t.length cap) (t.map (·.toNat)) := by
  obtain ⟨hb, h1, h2⟩ := h
  refine ⟨_, cap, by rw [List.length_map], by rw [List.length_map]; exact h1, h2, fun hl => ⟨_, rfl, (Array.getElem?_eq_some_iff.1 hb).1, fun i a hi j u hu => ?_⟩⟩
  have hlt := (List.getElem?_eq_some_iff.1 hi).1
  rw [List.length_map] at hlt
  match j, hu with
  | 0, hu =>
    simp only [encR, List.getElem?_cons_zero, Option.some.injEq] at hu
    subst hu
    rw [add_of_add, add_at, Nat.mul_one, Nat.add_zero, hb.cell i, List.getElem?_append_left (by rw [List.length_map]; exact hlt)]
    rw [List.getElem?_map] at hi ⊢
    cases hq : t[i]? with
    | none => rw [hq] at hi; cases hi
    | some c => rw [hq] at hi; simp at hi; subst hi; rfl
  | j + 1, hu => simp [encR] at hu
section
variable {P : Program} {ops : Array Oper} {Q : Exit → Act → World → Prop} {n d : Nat} {l : List Oper} {S : Slots} {w : World} {o : Oper}
theorem RG.toRunes {src dst e : Nat} {x : Operand} {t : List UInt8} (hw : wantS ops S o = some true) (hd : o.dst = some d) (hdn : Nat.blt d n = true) (ho : o.op = .convert src dst x) (hx : ev S x = some (.string ⟨t.toArray⟩))
    (h1 : P.underlying src = some .string) (h2 : P.underlying dst = some (.slice e)) (h3 : P.underlying e = some (.int .i32)) (hl : t.length ≤ 1000000) (ha : ∀ c ∈ t, c.toNat < 128)
    (kk : ∀ g cap w', g = w.heap.size → Ex w w' → Rn w' g e cap t → RG P ops Q n l ((d, .slice (some ⟨g, 0, none⟩) t.length cap) :: S) w') : RG P ops Q n (o :: l) S w := by
  have hsz : (⟨t.toArray⟩ : ByteArray).size = t.length := by simp [ByteArray.size]
  have hr := runes_lo ha t.length 0 #[] (by omega)
  rw [List.drop_zero, Array.empty_append] at hr
  have hrs : (Conv.runesFrom ⟨t.toArray⟩ t.length 0 #[]).size = t.length := by rw [hr]; simp
  have hrun := run_runes_of_string (P := P) w src dst e ⟨t.toArray⟩ h1 h2 h3 (by rw [hsz, hrs]; omega)
  rw [hsz, hrs, hr] at hrun
  have hnew : (w.drew.alloc (.cells ((t.map fun c => Value.int .i32 (c.toNat : Int)).toArray ++ Array.replicate (grownCap w t.length 0 e - t.length) (.int .i32 0)) e)).heap[w.heap.size]? = some (.cells ((t.map fun c => Value.int .i32 (c.toNat : Int)).toArray ++ Array.replicate (grownCap w t.length 0 e - t.length) (.int .i32 0)) e) := by
    show (w.heap.push _)[w.heap.size]? = _
    simp
  have hex : Ex w (w.drew.alloc (.cells ((t.map fun c => Value.int .i32 (c.toNat : Int)).toArray ++ Array.replicate (grownCap w t.length 0 e - t.length) (.int .i32 0)) e)) :=
    ⟨rfl, rfl, rfl, by show w.heap.size ≤ (w.heap.push _).size; simp, fun k hk => Below.heap_alloc w.drew _ k hk⟩
  refine RG.run hw hd hdn (fun a ha' => ?_) (kk w.heap.size (grownCap w t.length 0 e) _ rfl hex ⟨?_, grownCap_ge _ _ _ _, grownCap_le_maxLen _ _ _ _ (by unfold maxLen; omega)⟩)
  · simp only [execOp, ho]; rw [ha'.eval hx]
    simp [hrun]
  · unfold Blk
    rw [hnew]
    congr 2
    apply Array.ext'
    simp
end
end Go.Proofs.Ytjhgihgggofocaa

/- Walks (SN). Written by program. -/
namespace Go.Proofs.Ytjhgihgggofocaa
open Go.RowKit
theorem iter_told (k n : Nat) (A : Option Addr) (c : Nat) (er : List Nat) (w : World) {gE gN gG : Nat} (hE : Blk w gE 23 [.slice A er.length c]) (hN : Blk w gN 3 [.int .i64 (n : Int)]) (hG : Blk w gG 56 (goneC er)) (hl : RdL w 1 encZ (.slice A er.length c) er) (her : er.length ≤ 4) (hn : n ≤ 63) :
    SeqTold k Try.prog 53 #[.pointer (some ⟨gE, 0, none⟩), .pointer (some ⟨gN, 0, none⟩), .pointer (some ⟨gG, 0, none⟩)] (fun x : El2 => #[x.1]) (fun pre x A => RdL A 1 encZ x.1 x.2 ∧ (pre ++ [x]).map Prod.snd <+: candL n er) (fun xs => xs.map Prod.snd = candL n er) w := fun l J Jx W hW _ hc hY h0 => by
  refine callsIn_wide.2 (Calls.mono (iter_ret k w l gE gN gG n A c er J Jx W hW hE hN hG hl her hn hc hY h0) ?_)
  rintro e B ⟨v, rfl, h⟩
  exact ⟨⟨v, rfl⟩, h⟩

set_option maxRecDepth 100000 in
set_option maxHeartbeats 4000000 in
theorem decode_ret (u v0 : Value) (l : List Nat) (ei : List Int) (w : World) (hl : RdL w 1 encN u l) (he : RdL w 1 encI v0 ei) (hlen : l.length ≤ 100000) (hlen2 : ei.length ≤ 100000) :
    Ret Try.prog 13 [u, v0] w (fun v w' => ∃ r x c es e, v = .tuple #[.agg ([r, x] : List Value).toArray, .int .i64 e] ∧ Own w' w.heap.size 5 1 encN r c ∧ Own w' w.heap.size 3 1 encZ x es ∧ DecP l ei e c es ∧ Ex w w') := by
  obtain ⟨uA, uC, rfl⟩ := hl.shape
  obtain ⟨eA, eC, rfl⟩ := he.shape
  have hB0 : Ex w w := Ex.rfl_ _
  refine Ret.ofM 6 Try.func13 rfl Try.ntmps13 rfl (CWI.ofCW ?_)
  refine CW.seq ?_
  refine CW.region ?_
  refine RG.box rfl rfl rfl rfl rfl (fun gW w1 egW hx1 hb1 => ?_)
  have hle2 : w.heap.size ≤ gW := by have := (Ex.rfl_ w).size; omega
  have hE3 := hx1
  refine RG.alloc_ rfl rfl rfl rfl inf_28 (fun gX w4 egX hx4 hb4 => ?_)
  have hle5 : w.heap.size ≤ gX := by have := hE3.size; omega
  have hle6 : w1.heap.size ≤ gX := by have := (Ex.rfl_ w1).size; omega
  have hlt7 : gW < gX := by have := Blk.lt hb1; omega
  replace hE3 := Ex.tr hE3 hx4
  have hE8 := hx4
  refine RG.alloc_ rfl rfl rfl rfl inf_29 (fun gY w9 egY hx9 hb9 => ?_)
  have hle10 : w.heap.size ≤ gY := by have := hE3.size; omega
  have hle11 : w1.heap.size ≤ gY := by have := hE8.size; omega
  have hle12 : w4.heap.size ≤ gY := by have := (Ex.rfl_ w4).size; omega
  have hlt13 : gW < gY := by have := Blk.lt (hb1.ext hE8); omega
  have hlt14 : gX < gY := by have := Blk.lt hb4; omega
  replace hE3 := Ex.tr hE3 hx9
  replace hE8 := Ex.tr hE8 hx9
  have hE15 := hx9
  refine RG.done ?_
  refine QW.then_ ?_
  refine CW.scope ?_
  refine CW.seq ?_
  refine CW.seq ?_
  refine CW.region ?_
  refine RG.vl rfl rfl rfl (Ev.ld0 rfl rfl Try.underlying22 rfl ((hb1.ext hE8).cells) (rfl)) ?_
  refine RG.call rfl rfl rfl rfl rfl rfl rfl en_34 (isW_ret _ l _ ((hl.ext hE3)) hlen) ?_
  rintro _ w16 ⟨rfl, hx16⟩
  replace hE3 := Ex.tr hE3 hx16
  replace hE8 := Ex.tr hE8 hx16
  replace hE15 := Ex.tr hE15 hx16
  have hE17 := hx16
  refine RG.vl rfl rfl rfl (Ev.not rfl rfl) ?_
  refine RG.done ?_
  refine QW.then_ ?_
  refine CW.cond rfl (fun hc18 => ?_) (fun hc18 => ?_)
  · refine CW.seq ?_
    refine CW.region ?_
    refine RG.vl rfl rfl rfl (Ev.build1 rfl rfl rfl inf_28 rfl rfl (by kernel_rfl) rfl) ?_
    refine RG.stAll (g := gX) rfl rfl rfl rfl rfl sz_28 rfl rfl rfl (hb4.ext hE15) (fun ws19 hwws19 hbws19 => ?_)
    replace hb9 := Blk.far (hb9.ext hE17) hwws19 (by omega)
    replace hE3 := Wr.below hE3 hwws19 hle5
    replace hE8 := Wr.below hE8 hwws19 hle6
    refine RG.st (g := gY) (k := 0) rfl rfl rfl rfl rfl sz_29 rfl hb9 rfl (fun ws20 hwws20 hbws20 => ?_)
    replace hbws19 := Blk.far hbws19 hwws20 (by omega)
    replace hE3 := Wr.below hE3 hwws20 hle10
    replace hE8 := Wr.below hE8 hwws20 hle11
    refine RG.done ?_
    refine QW.then_ ?_
    refine CW.ret ?_
    refine QW.thenRet ?_
    refine QW.noGotoR ?_
    refine retBox rfl rfl rfl Try.underlying28 rfl sz_28 rfl (us := [.slice none 0 0, .slice none 0 0]) hbws19 Try.underlying29 rfl (x := .int .i64 2) hbws20 ?_
    have hB := (Ex.tr hB0 hE3)
    exact ⟨_, _, [], [], 2, rfl, Own.nil_ _ _ _ _ _, Own.nil_ _ _ _ _ _, .inl ⟨.inl (by simpa using (by assumption : (!isW l) = true)), rfl, rfl, rfl⟩, hB⟩
  · refine CW.skip ?_
    refine QW.then_ ?_
    refine CW.seq ?_
    have hyes : isW l = true := by simpa using (by assumption : (!isW l) = false)
    obtain ⟨hw1, hw2, hel⟩ := isW_iff.1 hyes
    have hsyl : El (syL l) := El.cons_ (sy_lt hel 0) (El.cons_ (sy_lt hel 1) (El.cons_ (sy_lt hel 2) (el1 (sy_lt hel 3))))
    refine CW.region ?_
    refine RG.alloc_ rfl rfl rfl rfl inf_56 (fun gG w21 egG hx21 hb21 => ?_)
    have hle22 : w.heap.size ≤ gG := by have := hE3.size; omega
    have hle23 : w1.heap.size ≤ gG := by have := hE8.size; omega
    have hle24 : w4.heap.size ≤ gG := by have := hE15.size; omega
    have hle25 : w9.heap.size ≤ gG := by have := hE17.size; omega
    have hle26 : w16.heap.size ≤ gG := by have := (Ex.rfl_ w16).size; omega
    have hlt27 : gW < gG := by have := Blk.lt (hb1.ext hE8); omega
    have hlt28 : gX < gG := by have := Blk.lt (hb4.ext hE15); omega
    have hlt29 : gY < gG := by have := Blk.lt (hb9.ext hE17); omega
    replace hE3 := Ex.tr hE3 hx21
    replace hE8 := Ex.tr hE8 hx21
    replace hE15 := Ex.tr hE15 hx21
    replace hE17 := Ex.tr hE17 hx21
    refine RG.done ?_
    refine QW.then_ ?_
    refine CW.seq ?_
    refine CW.seq ?_
    refine CW.region ?_
    refine RG.vl rfl rfl rfl (Ev.move rfl rfl) ?_
    refine RG.vl rfl rfl rfl (Ev.lenL rfl rfl rfl Try.underlying23 ((he.ext hE3))) ?_
    refine RG.vl rfl rfl rfl (Ev.move rfl rfl) ?_
    refine RG.done ?_
    refine QW.then_ ?_
    refine CW.block ?_
    refine CW.loop1 [(1, _), (2, _), (4, _), (5, _), (6, _), (19, _), (20, _)] ⟨rfl, rfl, rfl, rfl, rfl, rfl, rfl, trivial⟩ (fun (i : Nat) => [(21, .int .i64 (i : Int))]) (fun i w' => (i ≤ ei.length ∧ (∀ a ∈ ei.take i, 0 ≤ a ∧ a < l.length) ∧ (ei.take i).Nodup ∧ Blk w' gG 56 (goneC (erN (ei.take i))) ∧ Blk w' gW 22 [.slice uA l.length uC] ∧ Blk w' gX 28 [.slice none 0 0, .slice none 0 0] ∧ Blk w' gY 29 [.int .i64 0]) ∧ Ex w w') (fun i => ei.length - i) (0) ⟨rfl, trivial⟩ ⟨⟨Nat.zero_le _, by simp, by simp, by rw [show erN (ei.take 0) = [] from rfl, ← goneC_nil]; exact hb21, (hb1.ext hE8), (hb4.ext hE15), (hb9.ext hE17)⟩, (Ex.tr hB0 hE3)⟩ ?_
    rintro i wl30 ⟨⟨hi, hall, hnd, hbG, hbW, hbX, hbY⟩, hxwl30⟩
    refine CW.sub (S' := [(21, _), (1, _), (2, _), (4, _), (5, _), (6, _), (19, _), (20, _)]) ⟨rfl, rfl, rfl, rfl, rfl, rfl, rfl, rfl, trivial⟩ ?_
    refine CW.seq ?_
    refine CW.region ?_
    refine RG.vl rfl rfl rfl (Ev.lss rfl rfl rfl) ?_
    refine RG.done ?_
    refine QW.then_ ?_
    refine CW.seq ?_
    refine CW.condP rfl (fun hc31 => ?_) (fun hc31 => ?_)
    · refine CW.skip ?_
      refine QW.then_ ?_
      refine CW.seq ?_
      refine CW.block ?_
      refine CW.seq ?_
      obtain ⟨a, hx⟩ : ∃ a, ei[i]? = some a := ⟨_, List.getElem?_eq_getElem (by omega)⟩
      refine CW.region ?_
      refine RG.idxL rfl rfl rfl rfl rfl rfl Try.underlying23 sz_3 ((he.ext hxwl30)) (hx) (fun p32 hp32b hp32 => ?_)
      refine RG.vl rfl rfl rfl (Ev.ld0 rfl rfl Try.underlying3 rfl (hp32) (rfl)) ?_
      refine RG.vl rfl rfl rfl (Ev.assign rfl rfl) ?_
      refine RG.done ?_
      refine QW.then_ ?_
      refine CW.seq ?_
      refine CW.seq ?_
      refine CW.region ?_
      refine RG.vl rfl rfl rfl (Ev.move rfl rfl) ?_
      refine RG.vl rfl rfl rfl (Ev.lss rfl rfl rfl) ?_
      refine RG.vl rfl rfl rfl (Ev.move rfl rfl) ?_
      refine RG.split (d := 27) rfl (fun hg33 => ?_) (fun hg33 => ?_)
      · refine RG.pass rfl rfl rfl ?_
        refine RG.pass rfl rfl rfl ?_
        refine RG.pass rfl rfl rfl ?_
        refine RG.pass rfl rfl rfl ?_
        refine RG.vl rfl rfl rfl (Ev.pickT rfl rfl rfl) ?_
        refine RG.vl rfl rfl rfl (Ev.move rfl rfl) ?_
        refine RG.pass rfl rfl rfl ?_
        refine RG.pass rfl rfl rfl ?_
        refine RG.pass rfl rfl rfl ?_
        refine RG.vl rfl rfl rfl (Ev.pickT rfl rfl rfl) ?_
        refine RG.done ?_
        refine QW.sub (S' := [(1, _), (2, _), (4, _), (5, _), (6, _), (8, _), (19, _), (20, _), (21, _), (37, _)]) ⟨rfl, rfl, rfl, rfl, rfl, rfl, rfl, rfl, rfl, rfl, trivial⟩ ?_
        refine QW.then_ ?_
        refine CW.condT rfl ?_
        refine CW.seq ?_
        refine CW.region ?_
        refine RG.vl rfl rfl rfl (Ev.build1 rfl rfl rfl inf_28 rfl rfl (by kernel_rfl) rfl) ?_
        refine RG.stAll (g := gX) rfl rfl rfl rfl rfl sz_28 rfl rfl rfl hbX (fun ws34 hwws34 hbws34 => ?_)
        replace hbG := Blk.far hbG hwws34 (by omega)
        replace hbW := Blk.far hbW hwws34 (by omega)
        replace hbY := Blk.far hbY hwws34 (by omega)
        replace hxwl30 := Wr.below hxwl30 hwws34 hle5
        refine RG.st (g := gY) (k := 0) rfl rfl rfl rfl rfl sz_29 rfl hbY rfl (fun ws35 hwws35 hbws35 => ?_)
        replace hbG := Blk.far hbG hwws35 (by omega)
        replace hbW := Blk.far hbW hwws35 (by omega)
        replace hbws34 := Blk.far hbws34 hwws35 (by omega)
        replace hxwl30 := Wr.below hxwl30 hwws35 hle10
        refine RG.done ?_
        refine QW.then_ ?_
        refine CW.ret ?_
        refine QW.thenRet ?_
        refine QW.blockR ?_
        refine QW.thenRet ?_
        refine QW.thenRet ?_
        refine QW.blockR ?_
        refine QW.thenRet ?_
        refine QW.noGotoR ?_
        refine retBox rfl rfl rfl Try.underlying28 rfl sz_28 rfl (us := [.slice none 0 0, .slice none 0 0]) hbws34 Try.underlying29 rfl (x := .int .i64 2) hbws35 ?_
        have hB := (Ex.tr hB0 hxwl30)
        have ham := List.mem_of_getElem? hx
        have hbad : ¬ okE l.length ei := fun h => by
          have h1 := h.1 a ham
          first | omega | exact dup_no hx (toNat_mem (fun y hy => (hall y hy).1) (by omega) (by assumption)) h.2
        exact ⟨_, _, [], [], 2, rfl, Own.nil_ _ _ _ _ _, Own.nil_ _ _ _ _ _, .inl ⟨.inr hbad, rfl, rfl, rfl⟩, hB⟩
      · refine RG.vl rfl rfl rfl (Ev.move rfl rfl) ?_
        refine RG.vl rfl rfl rfl (Ev.ld0 rfl rfl Try.underlying22 rfl (hbW.cells) (rfl)) ?_
        refine RG.vl rfl rfl rfl (Ev.lenL rfl rfl rfl Try.underlying22 ((hl.ext hxwl30))) ?_
        refine RG.vl rfl rfl rfl (Ev.geq rfl rfl rfl) ?_
        refine RG.vl rfl rfl rfl (Ev.pickF rfl rfl rfl) ?_
        refine RG.vl rfl rfl rfl (Ev.move rfl rfl) ?_
        refine RG.split (d := 33) rfl (fun hg36 => ?_) (fun hg36 => ?_)
        · refine RG.pass rfl rfl rfl ?_
          refine RG.pass rfl rfl rfl ?_
          refine RG.pass rfl rfl rfl ?_
          refine RG.vl rfl rfl rfl (Ev.pickT rfl rfl rfl) ?_
          refine RG.done ?_
          refine QW.sub (S' := [(1, _), (2, _), (4, _), (5, _), (6, _), (8, _), (19, _), (20, _), (21, _), (37, _)]) ⟨rfl, rfl, rfl, rfl, rfl, rfl, rfl, rfl, rfl, rfl, trivial⟩ ?_
          refine QW.then_ ?_
          refine CW.condT rfl ?_
          refine CW.seq ?_
          refine CW.region ?_
          refine RG.vl rfl rfl rfl (Ev.build1 rfl rfl rfl inf_28 rfl rfl (by kernel_rfl) rfl) ?_
          refine RG.stAll (g := gX) rfl rfl rfl rfl rfl sz_28 rfl rfl rfl hbX (fun ws37 hwws37 hbws37 => ?_)
          replace hbG := Blk.far hbG hwws37 (by omega)
          replace hbW := Blk.far hbW hwws37 (by omega)
          replace hbY := Blk.far hbY hwws37 (by omega)
          replace hxwl30 := Wr.below hxwl30 hwws37 hle5
          refine RG.st (g := gY) (k := 0) rfl rfl rfl rfl rfl sz_29 rfl hbY rfl (fun ws38 hwws38 hbws38 => ?_)
          replace hbG := Blk.far hbG hwws38 (by omega)
          replace hbW := Blk.far hbW hwws38 (by omega)
          replace hbws37 := Blk.far hbws37 hwws38 (by omega)
          replace hxwl30 := Wr.below hxwl30 hwws38 hle10
          refine RG.done ?_
          refine QW.then_ ?_
          refine CW.ret ?_
          refine QW.thenRet ?_
          refine QW.blockR ?_
          refine QW.thenRet ?_
          refine QW.thenRet ?_
          refine QW.blockR ?_
          refine QW.thenRet ?_
          refine QW.noGotoR ?_
          refine retBox rfl rfl rfl Try.underlying28 rfl sz_28 rfl (us := [.slice none 0 0, .slice none 0 0]) hbws37 Try.underlying29 rfl (x := .int .i64 2) hbws38 ?_
          have hB := (Ex.tr hB0 hxwl30)
          have ham := List.mem_of_getElem? hx
          have hbad : ¬ okE l.length ei := fun h => by
            have h1 := h.1 a ham
            first | omega | exact dup_no hx (toNat_mem (fun y hy => (hall y hy).1) (by omega) (by assumption)) h.2
          exact ⟨_, _, [], [], 2, rfl, Own.nil_ _ _ _ _ _, Own.nil_ _ _ _ _ _, .inl ⟨.inr hbad, rfl, rfl, rfl⟩, hB⟩
        · refine RG.vl rfl rfl rfl ((Ev.move rfl rfl).conv (congrArg (Value.int .i64) (show a = ((a.toNat : Nat) : Int) by omega))) ?_
          refine RG.vl rfl rfl rfl (Ev.idxA rfl rfl rfl Try.underlying56 sz_4 (by omega)) ?_
          refine RG.vl rfl rfl rfl (Ev.ldAt rfl rfl Try.underlying4 rfl (hbG.cells) ((show (goneC (erN (ei.take i)))[a.toNat * 1]? = some (.bool (decide (a.toNat ∈ erN (ei.take i)))) by rw [Nat.mul_one]; exact goneC_at _ (by omega)))) ?_
          refine RG.vl rfl rfl rfl (Ev.pickF rfl rfl rfl) ?_
          refine RG.done ?_
          refine QW.sub (S' := [(1, _), (2, _), (4, _), (5, _), (6, _), (8, _), (19, _), (20, _), (21, _), (37, _)]) ⟨rfl, rfl, rfl, rfl, rfl, rfl, rfl, rfl, rfl, rfl, trivial⟩ ?_
          refine QW.then_ ?_
          refine CW.condP rfl (fun hc39 => ?_) (fun hc39 => ?_)
          · refine CW.seq ?_
            refine CW.region ?_
            refine RG.vl rfl rfl rfl (Ev.build1 rfl rfl rfl inf_28 rfl rfl (by kernel_rfl) rfl) ?_
            refine RG.stAll (g := gX) rfl rfl rfl rfl rfl sz_28 rfl rfl rfl hbX (fun ws40 hwws40 hbws40 => ?_)
            replace hbG := Blk.far hbG hwws40 (by omega)
            replace hbW := Blk.far hbW hwws40 (by omega)
            replace hbY := Blk.far hbY hwws40 (by omega)
            replace hxwl30 := Wr.below hxwl30 hwws40 hle5
            refine RG.st (g := gY) (k := 0) rfl rfl rfl rfl rfl sz_29 rfl hbY rfl (fun ws41 hwws41 hbws41 => ?_)
            replace hbG := Blk.far hbG hwws41 (by omega)
            replace hbW := Blk.far hbW hwws41 (by omega)
            replace hbws40 := Blk.far hbws40 hwws41 (by omega)
            replace hxwl30 := Wr.below hxwl30 hwws41 hle10
            refine RG.done ?_
            refine QW.then_ ?_
            refine CW.ret ?_
            refine QW.thenRet ?_
            refine QW.blockR ?_
            refine QW.thenRet ?_
            refine QW.thenRet ?_
            refine QW.blockR ?_
            refine QW.thenRet ?_
            refine QW.noGotoR ?_
            refine retBox rfl rfl rfl Try.underlying28 rfl sz_28 rfl (us := [.slice none 0 0, .slice none 0 0]) hbws40 Try.underlying29 rfl (x := .int .i64 2) hbws41 ?_
            have hB := (Ex.tr hB0 hxwl30)
            have ham := List.mem_of_getElem? hx
            have hbad : ¬ okE l.length ei := fun h => by
              have h1 := h.1 a ham
              first | omega | exact dup_no hx (toNat_mem (fun y hy => (hall y hy).1) (by omega) (by assumption)) h.2
            exact ⟨_, _, [], [], 2, rfl, Own.nil_ _ _ _ _ _, Own.nil_ _ _ _ _ _, .inl ⟨.inr hbad, rfl, rfl, rfl⟩, hB⟩
          · refine CW.skip ?_
            refine QW.then_ ?_
            refine CW.region ?_
            refine RG.vl rfl rfl rfl ((Ev.move rfl rfl).conv (congrArg (Value.int .i64) (show a = ((a.toNat : Nat) : Int) by omega))) ?_
            refine RG.vl rfl rfl rfl (Ev.idxA rfl rfl rfl Try.underlying56 sz_4 (by omega)) ?_
            refine RG.st (g := gG) (k := _) rfl rfl rfl rfl rfl sz_4 rfl hbG (by rw [goneC_len, Nat.blt_eq]; omega) (fun ws42 hwws42 hbws42 => ?_)
            replace hbW := Blk.far hbW hwws42 (by omega)
            replace hbX := Blk.far hbX hwws42 (by omega)
            replace hbY := Blk.far hbY hwws42 (by omega)
            replace hxwl30 := Wr.below hxwl30 hwws42 hle22
            rw [goneC_set] at hbws42
            refine RG.done ?_
            refine QW.blockN ?_
            refine QW.then_ ?_
            refine CW.region ?_
            refine RG.vl rfl rfl rfl (Ev.addI rfl rfl rfl (by omega)) ?_
            refine RG.vl rfl rfl rfl (Ev.move rfl rfl) ?_
            refine RG.done ?_
            refine QW.round1 (i + 1) ⟨rfl, trivial⟩ ⟨rfl, rfl, rfl, rfl, rfl, rfl, rfl, trivial⟩ ⟨⟨by omega, fun y hy => by rw [List.take_add_one, hx] at hy; rcases List.mem_append.1 hy with h | h; exact hall y h; rw [Option.mem_toList] at h; injection h with h; omega, nodup_more hnd hx (fun hm => absurd (List.mem_map_of_mem hm : a.toNat ∈ erN (ei.take i)) (by assumption)), by rw [erN_more hx]; exact hbws42, hbW, hbX, hbY⟩, (Ex.tr hB0 hxwl30)⟩ (by omega)
    · refine CW.exit ?_
      refine QW.thenExit ?_
      refine QW.thenExit ?_
      refine QW.blockHit ?_
      refine QW.then_ ?_
      refine CW.seq ?_
      refine CW.seq ?_
      obtain rfl : i = ei.length := by omega
      rw [List.take_length] at hall hnd hbG
      have hok : okE l.length ei := ⟨hall, hnd⟩
      refine CW.region ?_
      refine RG.vl rfl rfl rfl (Ev.move rfl rfl) ?_
      refine RG.vl rfl rfl rfl (Ev.lenL rfl rfl rfl Try.underlying23 ((he.ext hxwl30))) ?_
      refine RG.vl rfl rfl rfl (Ev.gtr rfl rfl rfl) ?_
      refine RG.done ?_
      refine QW.then_ ?_
      refine CW.condP rfl (fun hc43 => ?_) (fun hc43 => ?_)
      · refine CW.seq ?_
        refine CW.region ?_
        refine RG.vl rfl rfl rfl (Ev.build1 rfl rfl rfl inf_28 rfl rfl (by kernel_rfl) rfl) ?_
        refine RG.stAll (g := gX) rfl rfl rfl rfl rfl sz_28 rfl rfl rfl hbX (fun ws44 hwws44 hbws44 => ?_)
        replace hbG := Blk.far hbG hwws44 (by omega)
        replace hbW := Blk.far hbW hwws44 (by omega)
        replace hbY := Blk.far hbY hwws44 (by omega)
        replace hxwl30 := Wr.below hxwl30 hwws44 hle5
        refine RG.st (g := gY) (k := 0) rfl rfl rfl rfl rfl sz_29 rfl hbY rfl (fun ws45 hwws45 hbws45 => ?_)
        replace hbG := Blk.far hbG hwws45 (by omega)
        replace hbW := Blk.far hbW hwws45 (by omega)
        replace hbws44 := Blk.far hbws44 hwws45 (by omega)
        replace hxwl30 := Wr.below hxwl30 hwws45 hle10
        refine RG.done ?_
        refine QW.then_ ?_
        refine CW.ret ?_
        refine QW.thenRet ?_
        refine QW.noGotoR ?_
        refine retBox rfl rfl rfl Try.underlying28 rfl sz_28 rfl (us := [.slice none 0 0, .slice none 0 0]) hbws44 Try.underlying29 rfl (x := .int .i64 190) hbws45 ?_
        have hB := (Ex.tr hB0 hxwl30)
        exact ⟨_, _, [], [], 190, rfl, Own.nil_ _ _ _ _ _, Own.nil_ _ _ _ _ _, .inr ⟨hyes, hok, .inl ⟨by omega, rfl, rfl, rfl⟩⟩, hB⟩
      · refine CW.skip ?_
        refine QW.then_ ?_
        refine CW.seq ?_
        have hez := rdl_z he (fun a ha => (hok.1 a ha).1)
        refine CW.region ?_
        refine RG.vl rfl rfl rfl (Ev.ld0 rfl rfl Try.underlying22 rfl (hbW.cells) (rfl)) ?_
        refine RG.call rfl rfl rfl rfl rfl rfl rfl en_35 (syn_ret _ l _ ((hl.ext hxwl30)) hel hw2) ?_
        rintro _ w46 ⟨rfl, hx46⟩
        replace hxwl30 := Ex.tr hxwl30 hx46
        have hE47 := hx46
        refine RG.local_ rfl rfl rfl rfl (fun _ => rfl) rfl rfl (fun _ => rfl) inf_57 rfl rfl rfl (fun gS w48 egS hx48 hb48 => ?_)
        have hle49 : w.heap.size ≤ gS := by have := hxwl30.size; omega
        have hle50 : wl30.heap.size ≤ gS := by have := hE47.size; omega
        have hle51 : w46.heap.size ≤ gS := by have := (Ex.rfl_ w46).size; omega
        have hlt52 : gG < gS := by have := Blk.lt (hbG.ext hE47); omega
        have hlt53 : gW < gS := by have := Blk.lt (hbW.ext hE47); omega
        have hlt54 : gX < gS := by have := Blk.lt (hbX.ext hE47); omega
        have hlt55 : gY < gS := by have := Blk.lt (hbY.ext hE47); omega
        replace hxwl30 := Ex.tr hxwl30 hx48
        replace hE47 := Ex.tr hE47 hx48
        refine RG.done ?_
        refine QW.then_ ?_
        refine CW.seq ?_
        refine CW.label ?_
        refine QW.then_ ?_
        refine CW.seq ?_
        refine CW.seq ?_
        refine CW.region ?_
        refine RG.vl rfl rfl rfl (Ev.ld0 rfl rfl Try.underlying22 rfl ((hbW.ext hE47).cells) (rfl)) ?_
        refine RG.vl rfl rfl rfl (Ev.lenL rfl rfl rfl Try.underlying22 ((hl.ext hxwl30))) ?_
        refine RG.vl rfl rfl rfl (Ev.move rfl rfl) ?_
        refine RG.vl rfl rfl rfl (Ev.ldAgg rfl rfl Try.underlying56 rfl sz_56 rfl ((hbG.ext hE47).cells)) ?_
        refine RG.call rfl rfl rfl rfl rfl rfl rfl en_36 (cand_ret l.length _ _ _ (goneC (erN ei)) _) ?_
        rintro _ w56 ⟨⟨gN, gE, gC, rfl, hN, hE, hC⟩, hx56⟩
        replace hxwl30 := Ex.tr hxwl30 hx56
        replace hE47 := Ex.tr hE47 hx56
        have hE57 := hx56
        refine RG.done ?_
        refine QW.then_ ?_
        refine CW.block ?_
        replace hl := (hl.ext hxwl30)
        replace he := (he.ext hxwl30)
        replace hbG := (hbG.ext hE47)
        replace hbW := (hbW.ext hE47)
        replace hbX := (hbX.ext hE47)
        replace hbY := (hbY.ext hE47)
        replace hez := (hez.ext hxwl30)
        replace hb48 := (hb48.ext hE57)
        have hR58 := (Ex.tr hB0 hxwl30)
        have hR59 := hE47
        have hR60 := hE57
        have hw1 := hR58
        have hgX0 := hle5
        have hgY0 := hle10
        have hlenE : (erN ei).length = ei.length := List.length_map ..
        have hltX := Blk.lt hbX
        have hltY := Blk.lt hbY
        have hern : ∀ a ∈ erN ei, a < l.length := fun a ha => by obtain ⟨z, hz, rfl⟩ := List.mem_map.1 ha; have := hok.1 z hz; omega
        have htold := iter_told 5 l.length eA eC (erN ei) w56 (by rw [hlenE]; exact hE) hN hC (by rw [hlenE]; exact hez) (by omega) hw2
        refine CW.fenced 6 ?_
        intro a hf
        refine wpIn_rangeTold (by decide) (gf := 53) (hf.1.eval (x := .tmp 52) rfl) en_53 htold (fun _ => rfl) (fun pre A => Below w56.heap.size w56 A ∧ ∀ y ∈ pre, NoF l y.2)
          (fun _ A => ∃ r x c es P q rest, Blk A gX 28 [r, x] ∧ Blk A gY 29 [.int .i64 0] ∧ Own A w.heap.size 5 1 encN r c ∧ Own A w.heap.size 3 1 encZ x es ∧ Below w.heap.size w A ∧ candL l.length (erN ei) = q ++ P :: rest ∧ (∀ Q ∈ q, NoF l Q) ∧ YesF l P c ∧ es = freeL P (erN ei))
          (fun s A B row h hg hr => ⟨h.1.grown hg h.1.size hr, h.2⟩) ?ix (fun s x A d o o' h ho hc => ⟨h.1.put o' ho hc, h.2⟩) ⟨Below.refl _ _, by simp⟩ (fun x => ({ tmps := a.tmps.setIfInBounds 53 x.1, defers := [] } : Act).put (some 10) x.1) ?assign ?body ?done ?stop
        case ix =>
          rintro s A d o o' ⟨r, x, c, es, P, q, rest, h1, h2, h3, h4, h5, h6⟩ hd ho hc
          exact ⟨r, x, c, es, P, q, rest, h1.put o' ho hc, h2.put o' ho hc, h3.put o' ho hc, h4.put o' ho hc, Below.trans h5 (Kc.put o' (Nat.le_trans hw1.size hd) ho hc).1, h6⟩
        case assign =>
          intro d x W K hK
          exact assign1 (open_round d) rfl rfl rfl (by have := hf.1.sz; simp at this; omega) hK
        case body =>
          rintro d pre ⟨xv, P⟩ W ⟨hI1, hI2⟩ ⟨hrx, hpf⟩
          have hszW := hI1.size
          have hPm : P ∈ candL l.length (erN ei) := hpf.subset (by simp)
          obtain ⟨hP4, hPn⟩ := cand_in hPm (by omega) hern
          have hrx : RdL W 1 encZ xv P := hrx
          obtain ⟨xA, xC, rfl⟩ := hrx.shape
          refine CWJ.into (S := _) ((hf.1.put (d := 53) rfl).put rfl) ?_
          refine CWJ.sub (S' := [(10, _), (2, _), (4, _), (5, _), (6, _), (9, _)]) ⟨rfl, rfl, rfl, rfl, rfl, rfl, trivial⟩ ?_
          refine CWJ.block ?_
          refine CWJ.seq ?_
          refine CWJ.region rfl (fun _ _ h => h) ?_
          refine RG.vl rfl rfl rfl (Ev.ld0 rfl rfl Try.underlying22 rfl ((hbW.ext hI1).cells) (rfl)) ?_
          refine RG.vl rfl rfl rfl (Ev.lenL rfl rfl rfl Try.underlying22 ((hl.ext hI1))) ?_
          refine RG.vl rfl rfl rfl (Ev.move rfl rfl) ?_
          refine RG.vl rfl rfl rfl (Ev.ldAgg rfl rfl Try.underlying57 rfl sz_57 rfl ((hb48.ext hI1).cells)) ?_
          refine RG.call rfl rfl rfl rfl rfl rfl rfl en_37 (eqsOf_ret l.length _ P (syL l) _ (hrx) hP4 hw2 hPn rfl) ?_
          rintro _ w61 ⟨rfl, hx61⟩
          replace hI1 := Ex.tr hI1 hx61
          have hE62 := hx61
          replace hl := (hl.ext hI1)
          replace he := (he.ext hI1)
          replace hbG := (hbG.ext hI1)
          replace hbW := (hbW.ext hI1)
          replace hbX := (hbX.ext hI1)
          replace hbY := (hbY.ext hI1)
          replace hez := (hez.ext hI1)
          replace hb48 := (hb48.ext hI1)
          replace hN := (hN.ext hI1)
          replace hE := (hE.ext hI1)
          replace hC := (hC.ext hI1)
          replace hrx := (hrx.ext hE62)
          have hR63 := (Ex.tr hw1 hI1)
          have hR64 := hI1
          have hR65 := hE62
          refine RG.local_ rfl rfl rfl rfl (fun _ => rfl) rfl rfl (fun _ => rfl) inf_64 rfl rfl rfl (fun gM w66 egM hx66 hb66 => ?_)
          have hle67 : w61.heap.size ≤ gM := by have := (Ex.rfl_ w61).size; omega
          have hlt68 : gG < gM := by have := Blk.lt hbG; omega
          have hlt69 : gW < gM := by have := Blk.lt hbW; omega
          have hlt70 : gX < gM := by have := Blk.lt hbX; omega
          have hlt71 : gY < gM := by have := Blk.lt hbY; omega
          have hlt72 : gS < gM := by have := Blk.lt hb48; omega
          have hlt73 : gN < gM := by have := Blk.lt hN; omega
          have hlt74 : gE < gM := by have := Blk.lt hE; omega
          have hlt75 : gC < gM := by have := Blk.lt hC; omega
          have hE76 := hx66
          refine RG.done ?_
          refine QWJ.then_ ?_
          refine CWJ.seq ?_
          refine CWJ.seq ?_
          refine CWJ.region rfl (fun _ _ h => h) ?_
          refine RG.vl rfl rfl rfl (Ev.move rfl rfl) ?_
          refine RG.vl rfl rfl rfl (Ev.lenL rfl rfl rfl Try.underlying23 ((hrx.ext hE76))) ?_
          refine RG.call rfl rfl rfl rfl rfl rfl rfl en_38 (solve_ret w61 gM P.length (eqM l.length P (syL l)) _ hE76 hle67 hb66 (eqM_el hsyl) hP4) ?_
          rintro _ w77 ⟨bv, M, rfl, hbw78, hsv, hxw79⟩
          replace hE76 := hxw79
          refine RG.vl rfl rfl rfl (Ev.not rfl rfl) ?_
          refine RG.done ?_
          refine QWJ.then_ ?_
          refine CWJ.cond rfl (fun hc80 => ?_) (fun hc80 => ?_)
          · refine CWJ.exit ?_
            refine QW.thenExit ?_
            refine QW.blockHit ?_
            have hbv : bv = false := by simpa using (by assumption : (!bv) = true)
            rw [hbv] at hsv
            exact QW.of fun _ => ⟨others_ex (Ex.tr hR65 hE76), Kc.of_ex (Ex.tr hR65 hE76) hszW, (Ex.tr hR64 hE76), fun y hy => (List.mem_append.1 hy).elim (hI2 y) (fun h => by rw [List.mem_singleton.1 h]; exact ⟨_, hsv⟩)⟩
          · refine CWJ.skip ?_
            refine QWJ.then_ ?_
            refine CWJ.seq ?_
            have hbv : bv = true := by simpa using (by assumption : (!bv) = false)
            rw [hbv] at hsv
            have hM := (hsv.1 rfl).1
            have hs4 := ((Ex.tr hR64 hE76)).size
            refine CWJ.region rfl (fun _ _ h => h) ?_
            refine RG.vl rfl rfl rfl (Ev.ld0 rfl rfl Try.underlying22 rfl ((hbW.ext hE76).cells) (rfl)) ?_
            replace hl := (hl.ext hE76)
            replace he := (he.ext hE76)
            replace hbG := (hbG.ext hE76)
            replace hbW := (hbW.ext hE76)
            replace hbX := (hbX.ext hE76)
            replace hbY := (hbY.ext hE76)
            replace hez := (hez.ext hE76)
            replace hb48 := (hb48.ext hE76)
            replace hN := (hN.ext hE76)
            replace hE := (hE.ext hE76)
            replace hC := (hC.ext hE76)
            replace hrx := (hrx.ext hE76)
            have hR81 := (Ex.tr hR63 hE76)
            have hR82 := (Ex.tr hR64 hE76)
            have hR83 := (Ex.tr hR65 hE76)
            have hR84 := hE76
            refine RG.call rfl rfl rfl rfl rfl rfl rfl en_39 (clone_ret _ l _ (hl) hlen) ?_
            have hpre85 := hR81
            rintro vc w85 ⟨hoc0, hx85⟩
            have hsb86 := fun e => sep_blk hbG (Nat.le_refl _) hoc0 e
            have hsb87 := fun e => sep_blk hbW (Nat.le_refl _) hoc0 e
            have hsb88 := fun e => sep_blk hbX (Nat.le_refl _) hoc0 e
            have hsb89 := fun e => sep_blk hbY (Nat.le_refl _) hoc0 e
            have hsb90 := fun e => sep_blk hb48 (Nat.le_refl _) hoc0 e
            have hsb91 := fun e => sep_blk hN (Nat.le_refl _) hoc0 e
            have hsb92 := fun e => sep_blk hE (Nat.le_refl _) hoc0 e
            have hsb93 := fun e => sep_blk hC (Nat.le_refl _) hoc0 e
            have hsb94 := fun e => sep_blk hbw78 (Nat.le_refl _) hoc0 e
            have hE95 := hx85
            obtain ⟨Avc, Cvc, rfl⟩ := hoc0.shape
            have hoc := hoc0
            refine RG.vl rfl rfl rfl (Ev.build1 rfl rfl rfl inf_28 rfl rfl (by kernel_rfl) rfl) ?_
            refine RG.local_ rfl rfl rfl rfl (fun _ => rfl) rfl rfl (fun _ => rfl) inf_28 rfl rfl rfl (fun gF w96 egF hx96 hb96 => ?_)
            have hsb97 := fun e => sep_new (g := gF) hoc egF e
            have hle98 : w77.heap.size ≤ gF := by have := hE95.size; omega
            have hle99 : w85.heap.size ≤ gF := by have := (Ex.rfl_ w85).size; omega
            have hlt100 : gG < gF := by have := Blk.lt (hbG.ext hE95); omega
            have hlt101 : gW < gF := by have := Blk.lt (hbW.ext hE95); omega
            have hlt102 : gX < gF := by have := Blk.lt (hbX.ext hE95); omega
            have hlt103 : gY < gF := by have := Blk.lt (hbY.ext hE95); omega
            have hlt104 : gS < gF := by have := Blk.lt (hb48.ext hE95); omega
            have hlt105 : gN < gF := by have := Blk.lt (hN.ext hE95); omega
            have hlt106 : gE < gF := by have := Blk.lt (hE.ext hE95); omega
            have hlt107 : gC < gF := by have := Blk.lt (hC.ext hE95); omega
            have hlt108 : gM < gF := by have := Blk.lt (hbw78.ext hE95); omega
            replace hE95 := Ex.tr hE95 hx96
            have hE109 := hx96
            refine RG.done ?_
            refine QW.sub (S' := [(4, _), (5, _), (6, _), (10, _), (11, _), (12, _)]) ⟨rfl, rfl, rfl, rfl, rfl, rfl, trivial⟩ ?_
            refine QWJ.then_ ?_
            refine CWJ.seq ?_
            refine CWJ.seq ?_
            refine CWJ.region rfl (fun _ _ h => h) ?_
            refine RG.vl rfl rfl rfl (Ev.move rfl rfl) ?_
            refine RG.vl rfl rfl rfl (Ev.lenL rfl rfl rfl Try.underlying23 ((hrx.ext hE95))) ?_
            refine RG.vl rfl rfl rfl (Ev.move rfl rfl) ?_
            refine RG.done ?_
            refine QWJ.then_ ?_
            refine CWJ.block ?_
            refine CWJ.loop2 [(4, _), (5, _), (6, _), (11, _), (12, _), (66, _), (67, _)] ⟨rfl, rfl, rfl, rfl, rfl, rfl, rfl, trivial⟩ (fun (i : Nat) (ve : Value) => [(68, .int .i64 (i : Int))]) (fun i ve w' => (i ≤ P.length ∧ Blk w' gF 28 [(Value.slice Avc l.length Cvc), ve] ∧ Own w' w77.heap.size 5 1 encN (Value.slice Avc l.length Cvc) (fixL l P M i) ∧ Own w' w77.heap.size 3 1 encZ ve (freeL (P.take i) (erN ei)) ∧ Sep (Value.slice Avc l.length Cvc) ve ∧ (ve.ownBlock = some gF → False)) ∧ Ex w77 w') (fun i ve => P.length - i) (0) (.slice none 0 0) ⟨rfl, trivial⟩ ⟨⟨Nat.zero_le _, hb96, (Own.ext hoc hE109), Own.nil_ _ _ _ _ _, (Sep.nil_ _).symm, fun e => by cases e⟩, hE95⟩ ?_
            rintro i ve wl110 ⟨⟨hi, hbF, hoc, hoe, hsp, hsb⟩, hxwl110⟩
            refine CWJ.sub (S' := [(68, _), (4, _), (5, _), (6, _), (11, _), (12, _), (66, _), (67, _)]) ⟨rfl, rfl, rfl, rfl, rfl, rfl, rfl, rfl, trivial⟩ ?_
            refine CWJ.seq ?_
            refine CWJ.region rfl (fun _ _ h => h) ?_
            refine RG.vl rfl rfl rfl (Ev.lss rfl rfl rfl) ?_
            refine RG.done ?_
            refine QWJ.then_ ?_
            refine CWJ.seq ?_
            refine CWJ.condP rfl (fun hc111 => ?_) (fun hc111 => ?_)
            · refine CWJ.skip ?_
              refine QWJ.then_ ?_
              refine CWJ.seq ?_
              refine CWJ.block ?_
              refine CWJ.seq ?_
              obtain ⟨a, hpl⟩ : ∃ a, P[i]? = some a := ⟨_, List.getElem?_eq_getElem (by omega)⟩
              have hal := hPn a (List.mem_of_getElem? hpl)
              have hfl := fixL_len l P M i
              have hfe := (fixL_el (P := P) hel hM i (by omega)).cf a
              have hm4 := hM i 4 (by omega) (by omega)
              have hxr := xor_lt64 _ _ hfe hm4
              have hfr := freeL_len P (erN ei) i
              refine CWJ.region rfl (fun _ _ h => h) ?_
              refine RG.vl rfl rfl rfl (Ev.move rfl rfl) ?_
              refine RG.idxL rfl rfl rfl rfl rfl rfl Try.underlying23 sz_3 ((hrx.ext hxwl110)) (hpl) (fun p112 hp112b hp112 => ?_)
              refine RG.vl rfl rfl rfl (Ev.ld0 rfl rfl Try.underlying3 rfl (hp112) (rfl)) ?_
              refine RG.vl rfl rfl rfl (Ev.assign rfl rfl) ?_
              refine RG.vl rfl rfl rfl (Ev.assign rfl rfl) ?_
              refine RG.done ?_
              refine QWJ.then_ ?_
              refine CWJ.seq ?_
              refine CWJ.draw [11] (.ex) 12 rfl mixed rfl (fun _ _ h => h) (fun wd113 hxwd113 => ?_)
              replace hxwl110 := Ex.tr hxwl110 hxwd113
              have hE114 := hxwd113
              refine AG.takeW 0 rfl (by kernel_rfl) (by kernel_rfl) rfl rfl rfl (fun _ => Ev.fld rfl rfl fld_28_0) ?_
              refine AG.take 1 rfl (by kernel_rfl) (by kernel_rfl) rfl rfl rfl (fun wq hq => Ev.ldAt rfl rfl Try.underlying22 rfl (((hbF.ext hE114).ext hq).cells) (rfl)) ?_
              refine AG.takeW 2 rfl (by kernel_rfl) (by kernel_rfl) rfl rfl rfl (fun _ => Ev.move rfl rfl) ?_
              refine AG.idxO _ 3 rfl (by kernel_rfl) (by kernel_rfl) rfl rfl rfl rfl rfl rfl Try.underlying22 sz_5 encN_len ((Own.ext hoc hE114)) (getElem?_cf (by omega)) (fun g116 hg116 hBg116 hp115b hp115 => ?_)
              refine AG.take 4 rfl (by kernel_rfl) (by kernel_rfl) rfl rfl rfl (fun wq hq => Ev.ld0 rfl rfl Try.underlying5 rfl (hp115.ext hq hp115b) (rfl)) ?_
              refine AG.takeW 5 rfl (by kernel_rfl) (by kernel_rfl) rfl rfl rfl (fun _ => Ev.move rfl rfl) ?_
              refine AG.takeW 6 rfl (by kernel_rfl) (by kernel_rfl) rfl rfl rfl (fun _ => Ev.idxA rfl rfl rfl Try.underlying64 sz_62 (by omega)) ?_
              refine AG.takeW 7 rfl (by kernel_rfl) (by kernel_rfl) rfl rfl rfl (fun _ => Ev.idxA (i := 4) rfl rfl rfl Try.underlying62 sz_5 (by omega)) ?_
              refine AG.take 8 rfl (by kernel_rfl) (by kernel_rfl) rfl rfl rfl (fun wq hq => Ev.ldAA rfl rfl Try.underlying5 rfl (((hbw78.ext hxwl110).ext hq).cells) ((show (mc _)[i * 5 + 4 * 1]? = some (.int .u8 (M i 4 : Int)) by rw [mc_at _ (by omega) (by omega)]))) ?_
              refine AG.takeW 9 rfl (by kernel_rfl) (by kernel_rfl) rfl rfl rfl (fun _ => Ev.xor8 rfl rfl rfl (by omega) (by omega)) ?_
              refine AG.idxO _ 10 rfl (by kernel_rfl) (by kernel_rfl) rfl rfl rfl rfl rfl rfl Try.underlying22 sz_5 encN_len ((Own.ext hoc hE114)) (getElem?_cf (by omega)) (fun g118 hg118 hBg118 hp117b hp117 => ?_)
              refine AG.only 11 rfl (by kernel_rfl) ?_
              refine RG.stOw0 (g := g118) (cf (fixL l P M i) a ^^^ M i 4) rfl rfl rfl rfl rfl sz_5 rfl (fun _ => rfl) (Own.ext hoc hE114) hg118 (getElem?_cf (by omega)) rfl (rfl) (fun ws120 hwws120 hown121 => ?_)
              replace hbF := Blk.far (hbF.ext hE114) hwws120 (fun e => hsb97 (by rw [e]; exact hg118))
              replace hoe := Own.far (Own.ext hoe hE114) hwws120 (fun e => hsp _ hg118 e)
              replace hxwl110 := Wr.below hxwl110 hwws120 hBg118
              refine RG.done ?_
              refine QW.an (fun h => by simp at h) ?_
              refine AG.done (by kernel_rfl) ?_
              refine QW.sub (S' := [(4, _), (5, _), (6, _), (11, _), (12, _), (14, _), (66, _), (67, _), (68, _)]) ⟨rfl, rfl, rfl, rfl, rfl, rfl, rfl, rfl, rfl, trivial⟩ ?_
              refine QWJ.then_ ?_
              refine CWJ.seq ?_
              refine CWJ.region rfl (fun _ _ h => h) ?_
              refine RG.vl rfl rfl rfl (Ev.move rfl rfl) ?_
              refine RG.vl rfl rfl rfl (Ev.idxA rfl rfl rfl Try.underlying56 sz_4 (by omega)) ?_
              refine RG.vl rfl rfl rfl (Ev.ldAt rfl rfl Try.underlying4 rfl ((hbG.ext hxwl110).cells) ((show (goneC (erN ei))[a * 1]? = some (.bool (decide (a ∈ erN ei))) by rw [Nat.mul_one]; exact goneC_at _ (by omega)))) ?_
              refine RG.vl rfl rfl rfl (Ev.notP rfl rfl) ?_
              refine RG.done ?_
              refine QWJ.then_ ?_
              refine CWJ.condP rfl (fun hc122 => ?_) (fun hc122 => ?_)
              · refine CWJ.region rfl (fun _ _ h => h) ?_
                refine RG.vl rfl rfl rfl (Ev.fld rfl rfl fld_28_1) ?_
                refine RG.vl rfl rfl rfl (Ev.ldAt rfl rfl Try.underlying23 rfl (hbF.cells) (rfl)) ?_
                refine RG.vl rfl rfl rfl (Ev.move rfl rfl) ?_
                refine RG.litO (os := [.tmp 90]) (enc := encZ) ([a]) rfl rfl rfl rfl rfl rfl rfl Try.underlying23 inf_3 rfl rfl rfl rfl rfl encZ_len rfl rfl (fun v123 wk124 hxwk124 hown125 hnew126 => ?_)
                have hsep127 : Sep v123 _ := Sep.of_new hoe hnew126
                have hsep128 : Sep v123 _ := Sep.of_new hown121 hnew126
                have hsb129 := fun e => sep_blk (hbG.ext hxwl110) (Nat.le_refl _) hown125 e
                have hsb130 := fun e => sep_blk (hbW.ext hxwl110) (Nat.le_refl _) hown125 e
                have hsb131 := fun e => sep_blk (hbX.ext hxwl110) (Nat.le_refl _) hown125 e
                have hsb132 := fun e => sep_blk (hbY.ext hxwl110) (Nat.le_refl _) hown125 e
                have hsb133 := fun e => sep_blk (hb48.ext hxwl110) (Nat.le_refl _) hown125 e
                have hsb134 := fun e => sep_blk (hN.ext hxwl110) (Nat.le_refl _) hown125 e
                have hsb135 := fun e => sep_blk (hE.ext hxwl110) (Nat.le_refl _) hown125 e
                have hsb136 := fun e => sep_blk (hC.ext hxwl110) (Nat.le_refl _) hown125 e
                have hsb137 := fun e => sep_blk (hbw78.ext hxwl110) (Nat.le_refl _) hown125 e
                have hsb138 := fun e => sep_blk hbF (Nat.le_refl _) hown125 e
                replace hxwl110 := Ex.tr hxwl110 hxwk124
                have hE139 := hxwk124
                refine RG.appO rfl rfl rfl rfl rfl rfl rfl Try.underlying23 inf_3 rfl rfl encZ_len (fun _ => rfl) (Own.ext hoe hE139) ((hown125.rdl encZ_len)) (by show _ + 1 ≤ maxLen; simp only [maxLen]; omega) (by show (_ + 1) * _ ≤ _; omega) (hxwl110.size) (fun v140 wa141 hown142 hgr143 hat144 => ?_)
                have hb145 := Blk.grown (hbF.ext hE139) hgr143 (fun e => hsb e.symm)
                have hsb146 := sepb_app hsb (hbF.ext hE139) hat144
                have hsep148 := Sep.app (Sep.symm hsp) (Own.ext hown121 hE139) hat144
                have hown147 := Own.grown (Own.ext hown121 hE139) hgr143 (fun k a b => (Sep.symm hsp) k b a)
                have hsep150 := Sep.app (Sep.symm hsep127) hown125 hat144
                have hown149 := Own.grown hown125 hgr143 (fun k a b => (Sep.symm hsep127) k b a)
                replace hxwl110 := own_block (Own.ext hoe hE139) hxwl110 hgr143 (Nat.le_refl _) hxwl110.size
                obtain ⟨Av140, Cv140, rfl⟩ := hown142.shape
                refine RG.vl rfl rfl rfl (Ev.fld rfl rfl fld_28_1) ?_
                refine RG.st (g := gF) (k := 1) rfl rfl rfl rfl rfl sz_23 rfl hb145 rfl (fun ws151 hwws151 hbws151 => ?_)
                replace hown147 := Own.far hown147 hwws151 hsb97
                replace hown149 := Own.far hown149 hwws151 hsb138
                replace hown142 := Own.far hown142 hwws151 hsb146
                replace hxwl110 := Wr.below hxwl110 hwws151 hle98
                refine RG.done ?_
                refine QW.blockN ?_
                refine QWJ.then_ ?_
                refine CWJ.region rfl (fun _ _ h => h) ?_
                refine RG.vl rfl rfl rfl (Ev.addI rfl rfl rfl (by omega)) ?_
                refine RG.vl rfl rfl rfl (Ev.move rfl rfl) ?_
                refine RG.done ?_
                refine QW.round2 (i + 1) ((Value.slice Av140 _ Cv140)) ⟨rfl, trivial⟩ ⟨rfl, rfl, rfl, rfl, rfl, rfl, rfl, trivial⟩ ⟨⟨by omega, hbws151, by rw [← fixL_more hpl]; exact hown147, by rw [freeL_yes hpl (by assumption)]; exact hown142, (Sep.symm hsep148), hsb146⟩, hxwl110⟩ (by omega)
              · refine CWJ.skip ?_
                refine QW.blockN ?_
                refine QWJ.then_ ?_
                refine CWJ.region rfl (fun _ _ h => h) ?_
                refine RG.vl rfl rfl rfl (Ev.addI rfl rfl rfl (by omega)) ?_
                refine RG.vl rfl rfl rfl (Ev.move rfl rfl) ?_
                refine RG.done ?_
                refine QW.round2 (i + 1) (ve) ⟨rfl, trivial⟩ ⟨rfl, rfl, rfl, rfl, rfl, rfl, rfl, trivial⟩ ⟨⟨by omega, hbF, by rw [← fixL_more hpl]; exact hown121, by rw [freeL_no hpl (Decidable.not_not.1 (by assumption))]; exact hoe, hsp, hsb⟩, hxwl110⟩ (by omega)
            · refine CWJ.exit ?_
              refine QW.thenExit ?_
              refine QW.thenExit ?_
              refine QW.blockHit ?_
              refine QWJ.then_ ?_
              refine CWJ.seq ?_
              obtain rfl : i = P.length := by omega
              have hoe2 := hoe
              rw [List.take_length] at hoe2
              obtain ⟨A2, C2, rfl⟩ := hoe2.shape
              have hoc2 := hoc
              have hxW := (Ex.tr hR83 hxwl110)
              have hxw := (Ex.tr hR81 hxwl110)
              have hX4 := (hbX.ext hxwl110)
              have hY4 := (hbY.ext hxwl110)
              have hsX : gX < w77.heap.size := Blk.lt hbX
              have hsY : gY < w77.heap.size := Blk.lt hbY
              refine CWJ.region rfl (fun _ _ h => h) ?_
              refine RG.vl rfl rfl rfl (Ev.ldAgg rfl rfl Try.underlying28 rfl sz_28 rfl (hbF.cells)) ?_
              refine RG.stAll (g := gX) rfl rfl rfl rfl rfl sz_28 rfl rfl rfl hX4 (fun wA hwA hbA => ?_)
              have hY5 := Blk.far hY4 hwA (by omega)
              refine RG.st (g := gY) (k := 0) rfl rfl rfl rfl rfl sz_29 rfl hY5 rfl (fun wB hwB hbY9 => ?_)
              have hbX9 := Blk.far hbA hwB (by omega)
              have ho9 := ((hoc2.far hwA (fun e => by have := hoc2.ge e; omega)).far hwB (fun e => by have := hoc2.ge e; omega)).low (B' := w.heap.size) (Nat.le_trans hw1.size hs4)
              have he9 := ((hoe2.far hwA (fun e => by have := hoe2.ge e; omega)).far hwB (fun e => by have := hoe2.ge e; omega)).low (B' := w.heap.size) (Nat.le_trans hw1.size hs4)
              have hx9 : Below w.heap.size w wB := Wr.below (Wr.below hxw hwA hgX0) hwB hgY0
              have hko := ((others_ex hxW).trans (others_wr hwA hX4)).trans (others_wr hwB hY5)
              refine RG.done ?_
              refine QWJ.then_ ?_
              refine CWJ.ret ?_
              refine QW.blockR ?_
              obtain ⟨rest, hrest⟩ := hpf
              exact QW.of fun _ => ⟨hko, _, _, _, _, P, pre.map Prod.snd, rest, hbX9, hbY9, ho9, he9, hx9, by rw [← hrest, List.map_append, List.append_assoc]; rfl, fun Q hQ => by obtain ⟨y, hy, rfl⟩ := List.mem_map.1 hQ; exact hI2 y hy, ⟨M, hsv, rfl⟩, rfl⟩
        case done =>
          rintro D xs W hD hS ⟨hI1, hI2⟩ hK
          have hfr : FrD [{ target := .collected D, args := #[] }] 97 [(4, .pointer (some ⟨gX, 0, none⟩)), (5, .pointer (some ⟨gY, 0, none⟩))] { a with defers := { target := .collected D, args := #[] } :: a.defers } := ⟨hf.1.sub ⟨rfl, rfl, trivial⟩, by rw [hf.2]⟩
          have hX2 := Blk.ext hbX hI1
          have hY2 := Blk.ext hbY hI1
          show Code.wp _ _ _ _ _
          refine (wpIn_wide (n := 6)).1 ?_
          refine CWI.seq ?_ _ hfr
          refine CWI.region ?_
          refine RGI.vl open_wide rfl rfl rfl (by intro c h; cases h) (Ev.build1 rfl rfl rfl inf_28 rfl rfl (by kernel_rfl) rfl) ?_
          refine RGI.stAll (g := gX) open_wide rfl rfl rfl rfl rfl sz_28 rfl rfl rfl hX2 (fun wA hwA hbA => ?_)
          have hY3 := Blk.far hY2 hwA (by omega)
          refine RGI.st1 (g := gY) open_wide rfl rfl rfl rfl rfl sz_29 rfl hY3 (fun wB hwB hbB => ?_)
          have hbA2 := Blk.far hbA hwB (by omega)
          refine RGI.done (CWI.then_ (S' := [(4, .pointer (some ⟨gX, 0, none⟩)), (5, .pointer (some ⟨gY, 0, none⟩))]) ⟨rfl, rfl, trivial⟩ ?_)
          have hK2 := ((others_wr hwA hX2).trans (others_wr hwB hY3)).same D _ hK rfl
          have hxB : Below w.heap.size w wB := Wr.below (Wr.below (Ex.tr hw1 hI1) hwA hgX0) hwB hgY0
          exact CWI.ret (retBoxM rfl rfl rfl Try.underlying28 rfl sz_28 rfl (us := [.slice none 0 0, .slice none 0 0]) hbA2 Try.underlying29 rfl (x := .int .i64 190) hbB hK2 ⟨_, _, [], [], 190, rfl, Own.nil_ _ _ _ _ _, Own.nil_ _ _ _ _ _, .inr ⟨hyes, hok, .inr ⟨by omega, .inl ⟨fun P hP => by rw [← hS] at hP; obtain ⟨y, hy, rfl⟩ := List.mem_map.1 hP; exact hI2 y hy, rfl, rfl, rfl⟩⟩⟩, Below.trans hxB (Kc.put _ (Nat.le_trans hw1.size hD) hK2 rfl).1⟩)
        case stop =>
          rintro D pre W hD ⟨r, x, c, es, P, q, rest, h1, h2, h3, h4, h5, h6, h7, h8, h9⟩ hK
          have hfr : FrD [{ target := .collected D, args := #[] }] 97 [(4, .pointer (some ⟨gX, 0, none⟩)), (5, .pointer (some ⟨gY, 0, none⟩))] { a with defers := { target := .collected D, args := #[] } :: a.defers } := ⟨hf.1.sub ⟨rfl, rfl, trivial⟩, by rw [hf.2]⟩
          refine CWI.ret (fun a ha => ?_) _ hfr
          refine retBoxM (p := 4) (q := 5) (T := 28) (U := 29) (fn := Try.f13) rfl rfl rfl Try.underlying28 rfl sz_28 rfl (us := [r, x]) h1 Try.underlying29 rfl (x := .int .i64 0) h2 hK ?_ a ha
          exact ⟨r, x, c, es, 0, rfl, h3.put _ hK rfl, h4.put _ hK rfl, .inr ⟨hyes, hok, .inr ⟨by omega, .inr ⟨q, P, rest, h6, h7, h8, rfl, h9⟩⟩⟩, Below.trans h5 (Kc.put _ (Nat.le_trans hw1.size hD) hK rfl).1⟩

end Go.Proofs.Ytjhgihgggofocaa

/- Plain: syndromes as sums, what was added at some places, code words that differ. -/
namespace Go.Proofs.Ytjhgihgggofocaa
open Go.RowKit
theorem xs_shift (f : Nat → Nat) : ∀ n, xs_ (n + 1) f = f 0 ^^^ xs_ n fun i => f (i + 1)
  | 0 => by simp [xs_]
  | n + 1 => by rw [xs_, xs_shift f n, xs_, Nat.xor_assoc]
theorem xs_swap (f : Nat → Nat → Nat) (m : Nat) : ∀ n, xs_ n (fun i => xs_ m (f i)) = xs_ m fun j => xs_ n fun i => f i j
  | 0 => (xs_zero fun _ _ => rfl).symm
  | n + 1 => by rw [xs_, xs_swap f m n, ← xs_xor]; rfl
theorem xs_supp {n : Nat} : ∀ (P : List Nat) (f : Nat → Nat), P.Nodup → (∀ p ∈ P, p < n) → (∀ i, i < n → i ∉ P → f i = 0) → xs_ n f = xs_ P.length fun j => f (cf P j)
  | [], f, _, _, h => xs_zero fun i hi => h i hi (by simp)
  | p :: P, f, hd, hp, h => by
    obtain ⟨hd1, hd2⟩ := List.nodup_cons.1 hd
    have ih := xs_supp P (fun i => if i = p then 0 else f i) hd2 (fun q hq => hp q (by simp [hq])) (fun i hi hn => by
      show (if i = p then 0 else f i) = 0
      split
      · rfl
      · rename_i e; exact h i hi (by simp [e, hn]))
    have e1 : xs_ n f = xs_ n (fun i => if i = p then 0 else f i) ^^^ f p := by
      have e2 : f = fun i => (if i = p then 0 else f i) ^^^ (if i = p then f p else 0) := by
        funext i
        by_cases e : i = p
        · rw [if_pos e, if_pos e, e, Nat.zero_xor]
        · rw [if_neg e, if_neg e, Nat.xor_zero]
      have e3 : xs_ n (fun i => if i = p then f p else 0) = f p := by
        rw [xs_one (i := p) (f := fun i => if i = p then f p else 0) (hp p (by simp)) (fun j _ hj => if_neg hj)]; exact if_pos rfl
      calc xs_ n f = xs_ n (fun i => (if i = p then 0 else f i) ^^^ (if i = p then f p else 0)) := by rw [← e2]
        _ = _ := by rw [xs_xor, e3]
    rw [e1, ih, List.length_cons, xs_shift, Nat.xor_comm]
    congr 1
    refine xs_congr fun j hj => ?_
    show (if cf P j = p then 0 else f (cf P j)) = f (cf P j)
    rw [if_neg]
    intro e
    exact hd1 (by rw [← e]; exact List.mem_of_getElem? (getElem?_cf hj))
theorem evl_snoc {x : Nat} (hx : x < 64) {a : Nat} (ha : a < 64) : ∀ (p : List Nat), El p → evl (p ++ [a]) x = evl p x ^^^ gm a (gp x p.length)
  | [], _ => by
    show gm 0 x ^^^ a = 0 ^^^ gm a 1
    rw [gm_zl, gm_one a ha]
  | b :: p, h => by
    have ih := evl_snoc hx ha p h.tail
    show gm (evl (p ++ [a]) x) x ^^^ b = (gm (evl p x) x ^^^ b) ^^^ gm a (gp x (p.length + 1))
    rw [ih, xor_gm _ _ _ hx (evl_lt p x h.tail) (gm_lt _ _), gp_s, gm_assoc, gm_comm (gp x p.length) x, Nat.xor_assoc, Nat.xor_assoc, Nat.xor_comm b]
/-- The locators' powers. -/
abbrev al (n r i : Nat) : Nat := pw ((r + 1) * (n - 1 - i) % 63)
theorem gp_al {r : Nat} (h : r < 4) (m : Nat) : gp (pw (r + 1)) m = pw ((r + 1) * m % 63) := by
  rw [gp_pw _ _ (by have := pw_lt (r + 1) (by omega); omega), lg_pw _ (by omega)]
theorem sy_sum {r : Nat} (h : r < 4) : ∀ {l : List Nat}, El l → sy l r = xs_ l.length fun i => gm (cf l i) (al l.length r i)
  | [], _ => rfl
  | a :: l, hl => by
    have ih := sy_sum h hl.tail
    have hx := (pw_lt (r + 1) (by omega)).2
    unfold sy at ih ⊢
    rw [List.reverse_cons, evl_snoc hx hl.head _ hl.tail.rev, List.length_reverse, ih, List.length_cons, xs_shift, Nat.xor_comm, gp_al h]
    have e0 : gm a (pw ((r + 1) * l.length % 63)) = gm (cf (a :: l) 0) (al (l.length + 1) r 0) := by
      show gm a _ = gm a (pw ((r + 1) * (l.length + 1 - 1 - 0) % 63))
      rw [show l.length + 1 - 1 - 0 = l.length by omega]
    rw [e0]
    congr 1
    refine xs_congr fun i hi => ?_
    show _ = gm (cf (a :: l) (i + 1)) (pw ((r + 1) * (l.length + 1 - 1 - (i + 1)) % 63))
    rw [cf_s, show l.length + 1 - 1 - (i + 1) = l.length - 1 - i by omega]
/-- c is l but for what was added at the places. -/
structure Diff (l P : List Nat) (x : Nat → Nat) (c : List Nat) : Prop where
  len : c.length = l.length
  el : El c
  out : ∀ i, i ∉ P → cf c i = cf l i
  at_ : ∀ j, j < P.length → x j = cf l (cf P j) ^^^ cf c (cf P j)
theorem diff_dot {l P c : List Nat} {x : Nat → Nat} (h : Diff l P x c) (hl : El l) (hd : P.Nodup) (h4 : P.length ≤ 4) (hp : ∀ p ∈ P, p < l.length) {r : Nat} (hr : r < 4) (sL : List Nat) : dot (eqM l.length P sL) P.length r x = sy l r ^^^ sy c r := by
  rw [sy_sum hr hl, sy_sum hr h.el, h.len, ← xs_xor]
  have e1 : ∀ i, i < l.length → (gm (cf l i) (al l.length r i) ^^^ gm (cf c i) (al l.length r i)) = gm (cf l i ^^^ cf c i) (al l.length r i) := fun i _ => (xor_gm _ _ _ (pw64 _) (hl.cf i) (h.el.cf i)).symm
  rw [xs_congr e1, xs_supp P _ hd hp fun i _ hi => by rw [h.out i hi, Nat.xor_self, gm_zl]]
  unfold dot
  refine xs_congr fun j hj => ?_
  rw [h.at_ j hj, gm_comm]
  congr 1
  unfold eqM
  rw [if_neg (by omega), if_pos hj]
theorem syL_cf (l : List Nat) {r : Nat} (h : r < 4) : cf (syL l) r = sy l r := by
  match r, h with
  | 0, _ => rfl
  | 1, _ => rfl
  | 2, _ => rfl
  | 3, _ => rfl
theorem diff_sol {l P c : List Nat} {x : Nat → Nat} (h : Diff l P x c) (hl : El l) (hd : P.Nodup) (h4 : P.length ≤ 4) (hp : ∀ p ∈ P, p < l.length) : Sol (eqM l.length P (syL l)) P.length x ↔ ∀ r, r < 4 → sy c r = 0 := by
  constructor
  · intro hs r hr
    have := hs r hr
    rw [diff_dot h hl hd h4 hp hr] at this
    unfold eqM at this
    rw [if_pos rfl, syL_cf l hr] at this
    have e := congrArg (sy l r ^^^ ·) this
    simpa [← Nat.xor_assoc] using e
  · intro hs r hr
    rw [diff_dot h hl hd h4 hp hr, hs r hr, Nat.xor_zero]
    unfold eqM; rw [if_pos rfl, syL_cf l hr]
/-! the places' columns are independent -/
def rp : List Nat → List Nat
  | [] => [1]
  | a :: l => pm (rp l) [a, 1]
theorem rp_el : ∀ l, El (rp l)
  | [] => El.cons_ (by decide) El.nil_
  | _ :: _ => el_pm _ _
theorem rp_dg : ∀ l, dg (rp l) ≤ l.length + 1
  | [] => by decide +kernel
  | a :: l => dg_le _ _ fun k hk => cf_pm_ge _ _ k (by
      have := rp_dg l
      have h2 := dg_len [a, 1]
      simp only [List.length_cons, List.length_nil] at h2 hk
      omega)
theorem rp_z {x : Nat} (hx : x < 64) : ∀ {l : List Nat}, El l → (evl (rp l) x = 0 ↔ x ∈ l)
  | [], _ => by
    constructor
    · intro h
      have : evl [1] x = 1 := by show gm 0 x ^^^ 1 = 1; rw [gm_zl]; rfl
      rw [show rp [] = [1] from rfl, this] at h; cases h
    · intro h; cases h
  | a :: l, hl => by
    rw [show rp (a :: l) = pm (rp l) [a, 1] from rfl, evl_pm x hx _ _ (rp_el l) (El.cons_ hl.head (el1 (by decide))), gm_zero_iff, rp_z hx hl.tail, evl_lin a x hx]
    constructor
    · rintro (h | h)
      · simp [h]
      · rw [xor_zero_eq h]; simp
    · intro h
      rcases List.mem_cons.1 h with rfl | h
      · exact .inr (Nat.xor_self _)
      · exact .inl h
theorem evl_sum {q : List Nat} (hq : El q) (h : ∀ k, 4 ≤ k → cf q k = 0) {a : Nat} (ha : a < 64) : evl q a = xs_ 4 fun r => gm (cf q r) (gp a r) := by
  have e : ∀ k, cf q k = cf (q.take 4) k := fun k => by
    rw [cf_take]; split
    · rfl
    · exact h k (by omega)
  have hl : (q.take 4).length ≤ 4 := by rw [List.length_take]; omega
  have ev : ∀ n, evs_ (q.take 4) a n = xs_ n fun r => gm (cf (q.take 4) r) (gp a r) := fun n => by
    induction n with
    | zero => rfl
    | succ n ih => rw [evs_, xs_, ih]
  rw [evl_congr a e, ← evs_evl a ha _ (hq.take 4), ev]
  have : ∀ m, xs_ ((q.take 4).length + m) (fun r => gm (cf (q.take 4) r) (gp a r)) = xs_ (q.take 4).length fun r => gm (cf (q.take 4) r) (gp a r) := fun m => by
    induction m with
    | zero => rfl
    | succ m ih => rw [← Nat.add_assoc, xs_, ih, cf_none (by omega), gm_zl, Nat.xor_zero]
  rw [← this (4 - (q.take 4).length), Nat.add_sub_cancel' hl]
  exact xs_congr fun r _ => by rw [e r]
theorem van {k : Nat} (hk : k ≤ 4) {a x : Nat → Nat} (ha : ∀ j, j < k → a j < 64 ∧ a j ≠ 0) (hd : ∀ i j, i < k → j < k → a i = a j → i = j) (h : ∀ r, r < 4 → xs_ k (fun j => gm (gp (a j) (r + 1)) (x j)) = 0) : ∀ i, i < k → x i = 0 := by
  intro i hi
  obtain ⟨o, ho⟩ : ∃ o, o = ((List.range k).erase i).map a := ⟨_, rfl⟩
  have hol : o.length + 1 = k := by
    rw [ho, List.length_map, List.length_erase_of_mem (List.mem_range.2 hi), List.length_range]; omega
  have hoe : El o := fun b hb => by
    rw [ho] at hb
    obtain ⟨j, hj, rfl⟩ := List.mem_map.1 hb
    exact (ha j (List.mem_range.1 (List.mem_of_mem_erase hj))).1
  have hq : ∀ k, 4 ≤ k → cf (rp o) k = 0 := fun k hk4 => cf_ge _ _ (by have := rp_dg o; omega)
  have hqe := rp_el o
  have key : xs_ k (fun j => gm (gm (evl (rp o) (a j)) (a j)) (x j)) = 0 := by
    have e1 : ∀ j, j < k → gm (gm (evl (rp o) (a j)) (a j)) (x j) = xs_ 4 fun r => gm (cf (rp o) r) (gm (gp (a j) (r + 1)) (x j)) := fun j hj => by
      have e2 : ∀ r, r < 4 → gm (cf (rp o) r) (gm (gp (a j) (r + 1)) (x j)) = gm (gm (a j) (x j)) (gm (cf (rp o) r) (gp (a j) r)) := fun r _ => by
        rw [gp_s, gm_assoc (a j), ← gm_assoc, gm_comm (cf (rp o) r) (a j), gm_assoc, gm_comm (gp (a j) r), ← gm_assoc (cf (rp o) r), gm_comm (cf (rp o) r) (x j), gm_assoc, gm_assoc]
      rw [xs_congr e2, xs_gm (gm_lt _ _) (fun r _ => gm_lt _ _), ← evl_sum hqe hq (ha j hj).1, gm_assoc, gm_comm]
    rw [xs_congr e1, xs_swap]
    refine xs_zero fun r hr => ?_
    rw [xs_gm (hqe.cf r) (fun j _ => gm_lt _ _), h r hr, gm_zr]
  rw [xs_one (i := i) (f := fun j => gm (gm (evl (rp o) (a j)) (a j)) (x j)) hi (fun j hj hne => by
    have hm : a j ∈ o := by rw [ho]; exact List.mem_map_of_mem ((List.mem_erase_of_ne hne).2 (List.mem_range.2 hj))
    show gm (gm (evl (rp o) (a j)) (a j)) (x j) = 0
    rw [(rp_z (ha j hj).1 hoe).2 hm, gm_zl, gm_zl])] at key
  have hni : a i ∉ o := fun hm => by
    rw [ho] at hm
    obtain ⟨j, hj, e⟩ := List.mem_map.1 hm
    have hjk := List.mem_range.1 (List.mem_of_mem_erase hj)
    have := hd j i hjk hi e
    subst this
    exact List.nodup_range.not_mem_erase hj
  rcases (gm_zero_iff _ _).1 key with h1 | h1
  · rcases (gm_zero_iff _ _).1 h1 with h2 | h2
    · exact absurd ((rp_z (ha i hi).1 hoe).1 h2) hni
    · exact absurd h2 (ha i hi).2
  · exact h1
theorem hom_zero {n : Nat} {P sL : List Nat} (hn : n ≤ 63) (hd : P.Nodup) (h4 : P.length ≤ 4) (hp : ∀ p ∈ P, p < n) {x : Nat → Nat} (h : Hom (eqM n P sL) P.length x) : ∀ j, j < P.length → x j = 0 := by
  have hm : ∀ j, j < P.length → cf P j < n := fun j hj => hp _ (List.mem_of_getElem? (getElem?_cf hj))
  refine van (a := fun j => pw (n - 1 - cf P j)) h4 (fun j hj => ?_) (fun i j hi hj e => ?_) fun r hr => ?_
  · have h1 := hm j hj
    have := pw_lt (n - 1 - cf P j) (by omega)
    exact ⟨this.2, by omega⟩
  · have h1 := hm i hi
    have h2 := hm j hj
    have e2 := congrArg lg e
    rw [lg_pw _ (by omega), lg_pw _ (by omega)] at e2
    refine (List.getElem?_inj hi hd).1 ?_
    rw [getElem?_cf hi, getElem?_cf hj]
    congr 1; omega
  · have := h r hr
    unfold dot at this
    rw [← this]
    refine xs_congr fun j hj => ?_
    have h1 := hm j hj
    congr 1
    rw [gp_pw _ _ (by have := pw_lt (n - 1 - cf P j) (by omega); omega), lg_pw _ (by omega)]
    unfold eqM
    rw [if_neg (by omega), if_pos hj, Nat.mul_comm]
/-! code words -/
structure Code_ (n : Nat) (c : List Nat) : Prop where
  len : c.length = n
  el : El c
  syn : ∀ r, r < 4 → sy c r = 0
/-- Two code words that differ at four places at most are the same. -/
theorem code_uniq {n : Nat} {c d P : List Nat} (hn : n ≤ 63) (hc : Code_ n c) (hd : Code_ n d) (hP : P.Nodup) (h4 : P.length ≤ 4) (hp : ∀ p ∈ P, p < n) (h : ∀ i, i ∉ P → cf c i = cf d i) : c = d := by
  have hD : Diff d P (fun j => cf d (cf P j) ^^^ cf c (cf P j)) c := ⟨by rw [hc.len, hd.len], hc.el, h, fun _ _ => rfl⟩
  have hlen : d.length = n := hd.len
  have hz := hom_zero (sL := []) (x := fun j => cf d (cf P j) ^^^ cf c (cf P j)) hn hP h4 hp (fun r hr => by
    have := diff_dot hD hd.el hP h4 (by rw [hlen]; exact hp) hr []
    rw [hlen] at this
    rw [this, hd.syn r hr, hc.syn r hr]; rfl)
  refine eq_of_cf (by rw [hc.len, hd.len]) fun i => ?_
  by_cases hi : i ∈ P
  · obtain ⟨j, hj⟩ := List.mem_iff_getElem?.1 hi
    have hjl := (List.getElem?_eq_some_iff.1 hj).1
    have := hz j hjl
    rw [cf_some hj] at this
    exact (xor_zero_eq this).symm
  · exact h i hi
/-- What solve says of places. -/
theorem nof_no {l P : List Nat} (hl : El l) (hn : l.length ≤ 63) (hP : P.Nodup) (h4 : P.length ≤ 4) (hp : ∀ p ∈ P, p < l.length) (h : NoF l P) {c : List Nat} (hc : Code_ l.length c) : ¬ ∀ i, i ∉ P → cf c i = cf l i := fun ho => by
  obtain ⟨M, hM⟩ := h
  rcases hM.2 rfl with h | ⟨x, _, hh, j, hj, hne⟩
  · have hD : Diff l P (fun j => cf l (cf P j) ^^^ cf c (cf P j)) c := ⟨hc.len, hc.el, ho, fun _ _ => rfl⟩
    exact h _ (fun j => xor_lt64 _ _ (hl.cf _) (hc.el.cf _)) ((diff_sol hD hl hP h4 hp).2 hc.syn)
  · exact hne (hom_zero hn hP h4 hp hh j hj)
theorem fix_cf {l P : List Nat} {M : Mx} (hd : P.Nodup) (hp : ∀ p ∈ P, p < l.length) : ∀ i, i ≤ P.length → (∀ j, j < i → cf (fixL l P M i) (cf P j) = cf l (cf P j) ^^^ M j 4) ∧ ∀ q, (∀ j, j < i → cf P j ≠ q) → cf (fixL l P M i) q = cf l q
  | 0, _ => ⟨fun j h => absurd h (by omega), fun _ _ => rfl⟩
  | i + 1, hi => by
    obtain ⟨h1, h2⟩ := fix_cf hd hp i (by omega)
    have hlt : cf P i < (fixL l P M i).length := by rw [fixL_len]; exact hp _ (List.mem_of_getElem? (getElem?_cf (by omega)))
    have hne : ∀ j, j < i → cf P j ≠ cf P i := fun j hj e => by
      have := (List.getElem?_inj (i := j) (j := i) (show j < P.length by omega) hd).1 (by rw [getElem?_cf (by omega), getElem?_cf (by omega), e])
      omega
    rw [fixL]
    refine ⟨fun j hj => ?_, fun q hq => ?_⟩
    · rw [cf_set _ _ _ _ hlt]
      by_cases e : j = i
      · subst e; rw [if_pos rfl, h2 _ hne]
      · rw [if_neg (hne j (by omega)), h1 j (by omega)]
    · rw [cf_set _ _ _ _ hlt, if_neg (fun e => hq i (by omega) e.symm), h2 q fun j hj => hq j (by omega)]
theorem yes_code {l P c : List Nat} (hl : El l) (hP : P.Nodup) (h4 : P.length ≤ 4) (hp : ∀ p ∈ P, p < l.length) (h : YesF l P c) : Code_ l.length c ∧ ∀ i, i ∉ P → cf c i = cf l i := by
  obtain ⟨M, hM, rfl⟩ := h
  obtain ⟨hEM, hS⟩ := hM.1 rfl
  obtain ⟨f1, f2⟩ := fix_cf (M := M) hP hp P.length (Nat.le_refl _)
  have hel := fixL_el (P := P) hl hEM P.length h4
  have hout : ∀ i, i ∉ P → cf (fixL l P M P.length) i = cf l i := fun i hi => f2 i fun j hj e => hi (by rw [← e]; exact List.mem_of_getElem? (getElem?_cf hj))
  have hx : EX fun j => if j < P.length then M j 4 else 0 := fun j => by
    show (if j < P.length then M j 4 else 0) < 64
    split
    · exact hEM j 4 (by omega) (by omega)
    · decide
  have hD : Diff l P (fun j => if j < P.length then M j 4 else 0) (fixL l P M P.length) := ⟨fixL_len _ _ _ _, hel, hout, fun j hj => by
    show (if j < P.length then M j 4 else 0) = _
    rw [if_pos hj, f1 j hj, ← Nat.xor_assoc, Nat.xor_self, Nat.zero_xor]⟩
  refine ⟨⟨fixL_len _ _ _ _, hel, (diff_sol hD hl hP h4 hp).1 ((hS _ hx).2 fun j hj => if_pos hj)⟩, hout⟩
end Go.Proofs.Ytjhgihgggofocaa

/- Plain: what Decode finds is the code word within the bound. -/
namespace Go.Proofs.Ytjhgihgggofocaa
open Go.RowKit
theorem mem_sing {er P : List Nat} {n : Nat} (h : P ∈ singL er n) : ∃ a, a < n ∧ a ∉ er ∧ P = er ++ [a] := by
  unfold singL at h
  obtain ⟨a, ha, rfl⟩ := List.mem_map.1 h
  obtain ⟨h1, h2⟩ := List.mem_filter.1 ha
  exact ⟨a, List.mem_range.1 h1, of_decide_eq_true h2, rfl⟩
theorem sing_mem {er : List Nat} {a n : Nat} (h : a < n) (hn : a ∉ er) : er ++ [a] ∈ singL er n := by
  unfold singL
  exact List.mem_map.2 ⟨a, List.mem_filter.2 ⟨List.mem_range.2 h, decide_eq_true hn⟩, rfl⟩
theorem mem_pair {P : List Nat} {n : Nat} (h : P ∈ (List.range n).flatMap (rowP n)) : ∃ a b, a < b ∧ b < n ∧ P = [a, b] := by
  obtain ⟨a, ha, h⟩ := List.mem_flatMap.1 h
  unfold rowP at h
  obtain ⟨b, hb, rfl⟩ := List.mem_map.1 h
  obtain ⟨k, hk⟩ := List.mem_iff_getElem?.1 hb
  rw [List.getElem?_drop] at hk
  obtain ⟨h1, h2⟩ := List.getElem?_eq_some_iff.1 hk
  rw [List.getElem_range] at h2
  rw [List.length_range] at h1
  exact ⟨a, b, by omega, by omega, rfl⟩
theorem pair_mem {a b n : Nat} (hab : a < b) (hb : b < n) : [a, b] ∈ (List.range n).flatMap (rowP n) := by
  refine List.mem_flatMap.2 ⟨a, List.mem_range.2 (by omega), ?_⟩
  unfold rowP
  refine List.mem_map.2 ⟨b, List.mem_iff_getElem?.2 ⟨b - (a + 1), ?_⟩, rfl⟩
  rw [List.getElem?_drop, show a + 1 + (b - (a + 1)) = b by omega, List.getElem?_range hb]
theorem mem_cand {P er : List Nat} {n : Nat} (h : P ∈ candL n er) : P = er ∨ (er.length ≤ 2 ∧ ∃ a, a < n ∧ a ∉ er ∧ P = er ++ [a]) ∨ (er = [] ∧ ∃ a b, a < b ∧ b < n ∧ P = [a, b]) := by
  unfold candL at h
  rcases List.mem_append.1 h with h | h
  · rcases List.mem_append.1 h with h | h
    · exact .inl (List.mem_singleton.1 h)
    · split at h
      · rename_i h2; exact .inr (.inl ⟨h2, mem_sing h⟩)
      · cases h
  · split at h
    · rename_i h2; exact .inr (.inr ⟨List.eq_nil_of_length_eq_zero h2, mem_pair h⟩)
    · cases h
theorem cand_nodup {P er : List Nat} {n : Nat} (h : P ∈ candL n er) (hd : er.Nodup) : P.Nodup := by
  rcases mem_cand h with rfl | ⟨_, a, _, ha, rfl⟩ | ⟨_, a, b, hab, _, rfl⟩
  · exact hd
  · refine List.nodup_append.2 ⟨hd, by simp, fun x hx y hy => ?_⟩
    rw [List.mem_singleton.1 hy]; rintro rfl; exact ha hx
  · simp; omega
/-- The places, but for erased ones, at which d is not what was read. -/
def diffs (l d er : List Nat) : List Nat := (List.range l.length).filter fun i => decide (i ∉ er ∧ cf d i ≠ cf l i)
theorem mem_diffs {l d er : List Nat} {i : Nat} : i ∈ diffs l d er ↔ i < l.length ∧ i ∉ er ∧ cf d i ≠ cf l i := by
  unfold diffs
  rw [List.mem_filter, List.mem_range, decide_eq_true_eq]
theorem diffs_lt (l d er : List Nat) : (diffs l d er).Pairwise (· < ·) := List.Pairwise.filter _ List.pairwise_lt_range
theorem same_sorted {p q : List Nat} (hp : p.Pairwise (· < ·)) (hq : q.Pairwise (· < ·)) (h : ∀ i, i ∈ p ↔ i ∈ q) : p = q := by
  induction p generalizing q with
  | nil =>
    cases q with
    | nil => rfl
    | cons b q => exact absurd ((h b).2 (by simp)) (by simp)
  | cons a p ih =>
    cases q with
    | nil => exact absurd ((h a).1 (by simp)) (by simp)
    | cons b q =>
      obtain ⟨p1, p2⟩ := List.pairwise_cons.1 hp
      obtain ⟨q1, q2⟩ := List.pairwise_cons.1 hq
      have hab : a = b := by
        rcases List.mem_cons.1 ((h a).1 (by simp)) with e | e
        · exact e
        · rcases List.mem_cons.1 ((h b).2 (by simp)) with e2 | e2
          · exact e2.symm
          · have := q1 a e; have := p1 b e2; omega
      subst hab
      rw [ih p2 q2 fun i => ?_]
      have hi := h i
      simp only [List.mem_cons] at hi
      constructor
      · intro hm
        rcases hi.1 (.inr hm) with e | e
        · have := p1 i hm; omega
        · exact e
      · intro hm
        rcases hi.2 (.inr hm) with e | e
        · have := q1 i hm; omega
        · exact e
theorem free_eq {P er : List Nat} (h : ∀ a ∈ P, a ∉ er) : freeL (er ++ P) er = P := by
  unfold freeL
  rw [List.filter_append, List.filter_eq_nil_iff.2 (fun a ha => by simpa using ha), List.filter_eq_self.2 (fun a ha => by simpa using h a ha), List.nil_append]
theorem ahead_pre {α : Type} {A B pre rest : List α} {P : α} (h : A ++ B = pre ++ P :: rest) (hP : P ∉ A) : ∃ t, pre = A ++ t := by
  rcases List.append_eq_append_iff.1 h with ⟨t, h1, _⟩ | ⟨t, h1, h2⟩
  · exact ⟨t, h1⟩
  · cases t with
    | nil => exact ⟨[], by rw [h1]; simp⟩
    | cons x t =>
      injection h2 with h2 _
      exact absurd (by rw [h1, h2]; simp) hP
/-- Where a code word lies within the bound, it is found, and its errors are told. -/
theorem found_is {l er d c es : List Nat} {e : Int} (hl : El l) (hn : l.length ≤ 63) (hed : er.Nodup) (her : ∀ a ∈ er, a < l.length) (h4 : er.length ≤ 4) (hd : Code_ l.length d) (hb : 2 * (diffs l d er).length + er.length ≤ 4) (hf : Found l er e c es) : e = 0 ∧ c = d ∧ es = diffs l d er := by
  obtain ⟨D, hD⟩ : ∃ D, D = diffs l d er := ⟨_, rfl⟩
  have hDm : ∀ i, i ∈ D ↔ i < l.length ∧ i ∉ er ∧ cf d i ≠ cf l i := fun i => by rw [hD]; exact mem_diffs
  have hDs : D.Pairwise (· < ·) := by rw [hD]; exact diffs_lt _ _ _
  rw [← hD] at hb ⊢
  have hfar : ∀ i, i ∉ er ++ D → cf d i = cf l i := fun i hi => by
    rcases Nat.lt_or_ge i l.length with h | h
    · rcases Decidable.em (cf d i = cf l i) with h2 | h2
      · exact h2
      · exact absurd (List.mem_append.2 (.inr ((hDm i).2 ⟨h, fun h3 => hi (List.mem_append.2 (.inl h3)), h2⟩))) hi
    · rw [cf_none (by rw [hd.len]; exact h), cf_none h]
  have hPm : er ++ D ∈ candL l.length er := by
    unfold candL
    match D, hDm, hDs, hb with
    | [], _, _, _ => simp
    | [a], hm, _, hb =>
      obtain ⟨h1, h2, _⟩ := (hm a).1 (by simp)
      rw [if_pos (by simp only [List.length_singleton] at hb; omega)]
      exact List.mem_append.2 (.inl (List.mem_append.2 (.inr (sing_mem h1 h2))))
    | [a, b], hm, hs, hb =>
      have h0 : er = [] := List.eq_nil_of_length_eq_zero (by simp only [List.length_cons, List.length_nil] at hb; omega)
      obtain ⟨h1, _⟩ := (hm b).1 (by simp)
      have hab : a < b := by simpa using hs
      subst h0
      exact List.mem_append.2 (.inr (pair_mem hab h1))
    | a :: b :: c :: D, _, _, hb => simp only [List.length_cons] at hb; omega
  have info : ∀ P, P ∈ candL l.length er → P.Nodup ∧ P.length ≤ 4 ∧ ∀ p ∈ P, p < l.length := fun P hP => ⟨cand_nodup hP hed, cand_in hP h4 her⟩
  have hno : ∀ P, P ∈ candL l.length er → NoF l P → P ≠ er ++ D := fun P hP hN e => by
    obtain ⟨i1, i2, i3⟩ := info P hP
    subst e
    exact nof_no hl hn i1 i2 i3 hN hd hfar
  rcases hf with ⟨h, _⟩ | ⟨pre, P, rest, hc, hpre, hy, rfl, rfl⟩
  · exact absurd rfl (hno _ hPm (h _ hPm))
  have hPc : P ∈ candL l.length er := by rw [hc]; simp
  obtain ⟨i1, i2, i3⟩ := info P hPc
  obtain ⟨hcc, hco⟩ := yes_code hl i1 i2 i3 hy
  have hnp : er ++ D ∉ pre := fun h => hno _ hPm (hpre _ h) rfl
  -- the two lists of places together
  have hU : ∃ U : List Nat, U.Nodup ∧ U.length ≤ 4 ∧ (∀ p ∈ U, p < l.length) ∧ ∀ i, i ∉ U → i ∉ P ∧ i ∉ er ++ D := by
    refine ⟨P ++ D.filter (fun i => decide (i ∉ P)), ?_, ?_, fun p hp => ?_, fun i hi => ⟨fun h => hi (List.mem_append.2 (.inl h)), fun h => ?_⟩⟩
    · refine List.nodup_append.2 ⟨i1, (List.Pairwise.imp (fun h => Nat.ne_of_lt h) hDs).filter _, fun x hx y hy => ?_⟩
      rintro rfl
      exact of_decide_eq_true (List.mem_filter.1 hy).2 hx
    · have hfl := List.length_filter_le (fun i => decide (i ∉ P)) D
      rw [List.length_append]
      rcases mem_cand hPc with rfl | ⟨h2, a, _, _, rfl⟩ | ⟨rfl, a, b, _, _, rfl⟩
      · omega
      · simp only [List.length_append, List.length_singleton] at i2 ⊢; omega
      · simp only [List.length_cons, List.length_nil] at hb i2 ⊢; omega
    · rcases List.mem_append.1 hp with h | h
      · exact i3 p h
      · exact ((hDm p).1 (List.mem_filter.1 h).1).1
    · rcases List.mem_append.1 h with h | h
      · refine hi (List.mem_append.2 (.inl ?_))
        rcases mem_cand hPc with rfl | ⟨_, a, _, _, rfl⟩ | ⟨rfl, _⟩
        · exact h
        · exact List.mem_append.2 (.inl h)
        · cases h
      · rcases Decidable.em (i ∈ P) with h2 | h2
        · exact hi (List.mem_append.2 (.inl h2))
        · exact hi (List.mem_append.2 (.inr (List.mem_filter.2 ⟨h, decide_eq_true h2⟩)))
  obtain ⟨U, u1, u2, u3, u4⟩ := hU
  have hcd : c = d := code_uniq hn hcc hd u1 u2 u3 fun i hi => by rw [hco i (u4 i hi).1, hfar i (u4 i hi).2]
  subst hcd
  have hDP : ∀ i, i ∈ D → i ∈ P := fun i hi => by
    rcases Decidable.em (i ∈ P) with h | h
    · exact h
    · exact absurd (hco i h) ((hDm i).1 hi).2.2
  refine ⟨rfl, rfl, ?_⟩
  have hDer : ∀ a ∈ D, a ∉ er := fun a ha => ((hDm a).1 ha).2.1
  have hPD : P = er ++ D := by
    rcases mem_cand hPc with rfl | ⟨h2, a, _, ha, rfl⟩ | ⟨rfl, a, b, hab, hbn, rfl⟩
    · have : D = [] := List.eq_nil_iff_forall_not_mem.2 fun i hi => hDer i hi (hDP i hi)
      rw [this, List.append_nil]
    · have hDa : ∀ i ∈ D, i = a := fun i hi => by
        rcases List.mem_append.1 (hDP i hi) with h | h
        · exact absurd h (hDer i hi)
        · exact List.mem_singleton.1 h
      match D, hDa, hDs, hnp with
      | [], _, _, hnp =>
        exfalso
        unfold candL at hc
        rw [List.append_assoc] at hc
        obtain ⟨t, ht⟩ := ahead_pre hc (by simp)
        exact hnp (by rw [ht]; simp)
      | [x], hDa, _, _ => rw [hDa x (by simp)]
      | x :: y :: D, hDa, hs, _ =>
        have h1 := hDa x (by simp); have h3 := hDa y (by simp)
        have := (List.pairwise_cons.1 hs).1 y (by simp)
        omega
    · have hDa : ∀ i ∈ D, i = a ∨ i = b := fun i hi => by simpa using hDP i hi
      unfold candL at hc
      rw [if_pos (show ([] : List Nat).length ≤ 2 by decide), if_pos (show ([] : List Nat).length = 0 from rfl)] at hc
      obtain ⟨t, ht⟩ := ahead_pre hc (fun h => by
        rcases List.mem_append.1 h with h | h
        · simp at h
        · obtain ⟨z, _, _, e⟩ := mem_sing h; simp at e)
      match D, hDa, hDs, hnp, hDm with
      | [], _, _, hnp, _ => exact absurd (by rw [ht]; simp) hnp
      | [x], _, _, hnp, hDm =>
        obtain ⟨x1, x2, _⟩ := (hDm x).1 (by simp)
        exact absurd (by rw [ht]; exact List.mem_append.2 (.inl (List.mem_append.2 (.inr (sing_mem x1 x2))))) hnp
      | [x, y], hDa, hs, _, _ =>
        have hxy : x < y := by simpa using hs
        have h1 := hDa x (by simp); have h3 := hDa y (by simp)
        have e1 : x = a := by omega
        have e2 : y = b := by omega
        rw [e1, e2]; rfl
      | x :: y :: z :: D, hDa, hs, _, _ =>
        obtain ⟨p1, p2⟩ := List.pairwise_cons.1 hs
        have := p1 y (by simp); have := (List.pairwise_cons.1 p2).1 z (by simp)
        have h1 := hDa x (by simp); have h3 := hDa y (by simp); have h5 := hDa z (by simp)
        omega
  rw [hPD, free_eq hDer]
end Go.Proofs.Ytjhgihgggofocaa

/- A law's arguments, as the walks take them: structs of integers, by value and in slices. -/
namespace Go.Proofs.Ytjhgihgggofocaa
open Go.ChangeShapes Go.WideShapes Go.ChangeAt Go.RowKit Go.Deep

section
variable {H : Type} {enc : TypeId × Value → H} {P : Program} {w : World} {base : Nat} {spare : Nat → Bool} {held : Bool}
/-- The cells of a struct whose fields are all of one kind of integer. -/
theorem ints_of_struct {t : TypeId} {fs : Array Field} {k : IntKind} {fuel : Nat} {cs : List Value} {x : DataW H × List MemPlace} (hs : P.underlying t = some (.struct fs)) (hone : oneCellFields P fs = true)
    (hk : ∀ (i : Nat) (f : Field), fs[i]? = some f → P.underlying f.type = some (.int k)) (hC : P.cellsOf t = fs.size) (h : DataW.trod enc P w base spare held fuel t cs = some x) :
    ∃ xs : List Int, xs.length = fs.size ∧ cs = xs.map (.int k) ∧ ∀ a ∈ xs, (Lit.int k a).wf = true := by
  obtain ⟨ys, m, _, _, hlen, hyl, hf⟩ := DataW.trod_struct hs h
  have key : ∀ i, i < cs.length → ∃ a : Int, cs[i]? = some (.int k a) ∧ (Lit.int k a).wf = true := by
    intro i hi
    have hfi : i < fs.size := by omega
    have hq := Array.getElem?_eq_getElem hfi
    obtain ⟨ho, hc⟩ := hone_of hone i _ hq
    have h1 := hf i _ hq
    rw [ho, hc, List.drop_eq_getElem_cons hi, List.getElem?_eq_getElem (show i < ys.length by omega)] at h1
    obtain ⟨a, ha, _, hw⟩ := DataW.trod_int (hk i _ hq) h1
    simp only [List.take_succ_cons, List.take_zero, List.cons.injEq, and_true] at ha
    exact ⟨a, by rw [List.getElem?_eq_getElem hi, ha], hw⟩
  clear hf h
  have key2 : ∃ xs : List Int, cs = xs.map (.int k) ∧ ∀ a ∈ xs, (Lit.int k a).wf = true := by
    clear hlen
    induction cs with
    | nil => exact ⟨[], rfl, by simp⟩
    | cons c cs ih =>
      obtain ⟨a, ha, hw⟩ := key 0 (by simp)
      obtain ⟨xs, hx, hws⟩ := ih fun i hi => key (i + 1) (by simpa using hi)
      simp only [List.getElem?_cons_zero, Option.some.injEq] at ha
      refine ⟨a :: xs, by rw [ha, hx]; rfl, fun b hb => ?_⟩
      rcases List.mem_cons.1 hb with rfl | hb
      · exact hw
      · exact hws b hb
  obtain ⟨xs, hx, hws⟩ := key2
  exact ⟨xs, by rw [hx, List.length_map] at hlen; omega, hx, hws⟩
/-- By value. -/
theorem open_ints_struct {r : Reach} {b0 : Nat} {t : TypeId} {fs : Array Field} {k : IntKind} {v : Value} {d : DataW H} {p : List MemPlace} (hs : P.underlying t = some (.struct fs)) (hone : oneCellFields P fs = true)
    (hk : ∀ (i : Nat) (f : Field), fs[i]? = some f → P.underlying f.type = some (.int k)) (hC : P.cellsOf t = fs.size) (hv : Value.okWide P w r b0 t v) (h : DataW.Trod enc P w base spare held t v d p) :
    ∃ xs : List Int, xs.length = fs.size ∧ v = .agg (xs.map (.int k)).toArray ∧ ∀ a ∈ xs, (Lit.int k a).wf = true := by
  obtain ⟨cs, rfl, _⟩ := okWide_struct hs hv
  obtain ⟨fuel, hf⟩ := h
  obtain ⟨xs, h1, h2, h3⟩ := ints_of_struct hs hone hk hC hf
  refine ⟨xs, h1, ?_, h3⟩
  have : cs.toList = xs.map (.int k) := h2
  rw [← this]
theorem rdl_of {α : Type} {sz len cap : Nat} {enc' : α → List Value} {a : Addr} (hsz : 0 < sz) (hne : ∀ b, (enc' b).length = sz) (hl : len ≤ cap) (hm : cap ≤ maxLen) (h : ∀ i, i < len → ∃ b : α, Cells w (a.add (i * sz)) (enc' b)) :
    ∃ l : List α, RdL w sz enc' (.slice (some a) len cap) l := by
  have key : ∀ n, n ≤ len → ∃ l : List α, l.length = n ∧ ∀ i b, l[i]? = some b → Cells w (a.add (i * sz)) (enc' b) := by
    intro n
    induction n with
    | zero => exact fun _ => ⟨[], rfl, fun i b hi => by simp at hi⟩
    | succ n ih =>
      intro hn
      obtain ⟨l, h1, h2⟩ := ih (by omega)
      obtain ⟨b, hb⟩ := h n (by omega)
      refine ⟨l ++ [b], by simp [h1], fun i c hi => ?_⟩
      rcases Nat.lt_or_ge i n with hlt | hge
      · rw [List.getElem?_append_left (by omega)] at hi; exact h2 i c hi
      · have : i < (l ++ [b]).length := (List.getElem?_eq_some_iff.1 hi).1
        have e : i = n := by simp [h1] at this; omega
        subst e
        rw [List.getElem?_append_right (by omega), h1, Nat.sub_self] at hi
        simp at hi
        subst hi; exact hb
  obtain ⟨l, h1, h2⟩ := key len (Nat.le_refl _)
  refine ⟨l, some a, cap, by rw [h1], by omega, hm, fun hpos => ⟨a, rfl, ?_, h2⟩⟩
  have hb := h2 0 l[0] (List.getElem?_eq_getElem hpos) 0 _ (List.getElem?_eq_getElem (by rw [hne]; exact hsz))
  have := World.block_lt_of_cell? w _ hb
  rwa [block_of_add, block_of_add] at this
/-- A slice of them. -/
theorem open_ints_slice {t e : TypeId} {fs : Array Field} {k : IntKind} {a : Option Addr} {len cap : Nat} {d : DataW H} {p : List MemPlace} (ht : P.underlying t = some (.slice e)) (hs : P.underlying e = some (.struct fs)) (hone : oneCellFields P fs = true)
    (hk : ∀ (i : Nat) (f : Field), fs[i]? = some f → P.underlying f.type = some (.int k)) (hC : P.cellsOf e = fs.size) (hpos : 0 < fs.size) (h : DataW.Trod enc P w base spare held t (.slice a len cap) d p) :
    ∃ l : List {xs : List Int // xs.length = fs.size}, RdL w fs.size (fun x => x.1.map (.int k)) (.slice a len cap) l := by
  obtain ⟨fuel, hf⟩ := h
  rcases open_slice ht hf with ⟨h0, _⟩ | ⟨ad, len', cap', m, n, D, Pl, hcs, hb, hl, hm, hmm, _, hi⟩
  · simp [Value.cells] at h0
    obtain ⟨rfl, rfl, rfl⟩ := h0
    exact ⟨[], RdL.nil_ w⟩
  · simp [Value.cells] at hcs
    obtain ⟨rfl, rfl, rfl⟩ := hcs
    refine rdl_of hpos (fun b => by rw [List.length_map]; exact b.2) hl hm fun i hlt => ?_
    have hlm : len ≤ m := by rw [hmm]; split <;> omega
    obtain ⟨cs', hc, htr⟩ := hi i (by omega)
    rw [hC] at hc
    obtain ⟨_, hcl, hat⟩ := World.cells?_some hc
    obtain ⟨xs, h1, h2, _⟩ := ints_of_struct hs hone hk hC htr
    refine ⟨⟨xs, h1⟩, fun j u hu => ?_⟩
    have hu' : cs'[j]? = some u := by rw [h2]; exact hu
    have hj : j < fs.size := by have := (List.getElem?_eq_some_iff.1 hu').1; omega
    rw [hat j hj, hu']
/-- A slice of integers. -/
theorem open_words_slice {t e : TypeId} {k : IntKind} {a : Option Addr} {len cap : Nat} {d : DataW H} {p : List MemPlace} (ht : P.underlying t = some (.slice e)) (he : P.underlying e = some (.int k)) (hC : P.cellsOf e = 1) (h : DataW.Trod enc P w base spare held t (.slice a len cap) d p) :
    ∃ l : List {a : Int // (Lit.int k a).wf = true}, RdL w 1 (fun x => [.int k x.1]) (.slice a len cap) l := by
  obtain ⟨fuel, hf⟩ := h
  rcases open_slice ht hf with ⟨h0, _⟩ | ⟨ad, len', cap', m, n, D, Pl, hcs, hb, hl, hm, hmm, _, hi⟩
  · simp [Value.cells] at h0
    obtain ⟨rfl, rfl, rfl⟩ := h0
    exact ⟨[], RdL.nil_ w⟩
  · simp [Value.cells] at hcs
    obtain ⟨rfl, rfl, rfl⟩ := hcs
    refine rdl_of (by omega) (fun _ => rfl) hl hm fun i hlt => ?_
    have hlm : len ≤ m := by rw [hmm]; split <;> omega
    obtain ⟨cs', hc, htr⟩ := hi i (by omega)
    rw [hC] at hc
    obtain ⟨_, hcl, hat⟩ := World.cells?_some hc
    obtain ⟨x, hx, _, hw⟩ := DataW.trod_int he htr
    refine ⟨⟨x, hw⟩, fun j u hu => ?_⟩
    have hj : j < 1 := by have := (List.getElem?_eq_some_iff.1 hu).1; simpa using this
    rw [hat j hj, hx]; exact hu
/-- Bytes of whatever sort of number. -/
theorem wf_u8 {a : Int} (h : (Lit.int .u8 a).wf = true) : 0 ≤ a ∧ a ≤ 255 := bounds_u8 h
def byteOf (x : {a : Int // (Lit.int .u8 a).wf = true}) : UInt8 := UInt8.ofNat x.1.toNat
theorem byteOf_enc (x : {a : Int // (Lit.int .u8 a).wf = true}) : encB (byteOf x) = [.int .u8 x.1] := by
  obtain ⟨a, h⟩ := x
  have := wf_u8 h
  show [Value.int .u8 ((UInt8.ofNat a.toNat).toNat : Int)] = _
  rw [UInt8.toNat_ofNat_of_lt' (show a.toNat < 256 by omega), Int.toNat_of_nonneg this.1]
def natOf (x : {a : Int // (Lit.int .u8 a).wf = true}) : Nat := x.1.toNat
theorem natOf_enc (x : {a : Int // (Lit.int .u8 a).wf = true}) : encN (natOf x) = [.int .u8 x.1] := by
  obtain ⟨a, h⟩ := x
  have := wf_u8 h
  show [Value.int .u8 ((a.toNat : Nat) : Int)] = _
  rw [Int.toNat_of_nonneg this.1]
theorem natOf_lt (l : List {a : Int // (Lit.int .u8 a).wf = true}) : ∀ c ∈ l.map natOf, c < 256 := fun c hc => by
  obtain ⟨⟨a, h⟩, _, rfl⟩ := List.mem_map.1 hc
  have := wf_u8 h
  show a.toNat < 256
  omega
theorem len1_ {α : Type} : ∀ xs : List α, xs.length = 1 → ∃ a, xs = [a]
  | [a], _ => ⟨a, rfl⟩
theorem len2_ {α : Type} : ∀ xs : List α, xs.length = 2 → ∃ a b, xs = [a, b]
  | [a, b], _ => ⟨a, b, rfl⟩
theorem len3_ {α : Type} : ∀ xs : List α, xs.length = 3 → ∃ a b c, xs = [a, b, c]
  | [a, b, c], _ => ⟨a, b, c, rfl⟩
theorem len4_ {α : Type} : ∀ xs : List α, xs.length = 4 → ∃ a b c d, xs = [a, b, c, d]
  | [a, b, c, d], _ => ⟨a, b, c, d, rfl⟩
theorem len5_ {α : Type} : ∀ xs : List α, xs.length = 5 → ∃ a b c d e, xs = [a, b, c, d, e]
  | [a, b, c, d, e], _ => ⟨a, b, c, d, e, rfl⟩
theorem len6_ {α : Type} : ∀ xs : List α, xs.length = 6 → ∃ a b c d e f, xs = [a, b, c, d, e, f]
  | [a, b, c, d, e, f], _ => ⟨a, b, c, d, e, f, rfl⟩
theorem len7_ {α : Type} : ∀ xs : List α, xs.length = 7 → ∃ a b c d e f g, xs = [a, b, c, d, e, f, g]
  | [a, b, c, d, e, f, g], _ => ⟨a, b, c, d, e, f, g, rfl⟩
theorem RdL.map_ {α β : Type} {sz : Nat} {e1 : α → List Value} {e2 : β → List Value} {v : Value} {l : List α} (f : α → β) (hf : ∀ a, e2 (f a) = e1 a) (h : RdL w sz e1 v l) : RdL w sz e2 v (l.map f) := by
  obtain ⟨A, c, rfl, h1, h2, h3⟩ := h
  refine ⟨A, c, by simp, by simpa using h1, h2, fun hl => ?_⟩
  obtain ⟨ad, rfl, hb, hc⟩ := h3 (by simpa using hl)
  refine ⟨ad, rfl, hb, fun i b hi => ?_⟩
  rw [List.getElem?_map] at hi
  cases hq : l[i]? with
  | none => rw [hq] at hi; cases hi
  | some a =>
    rw [hq] at hi
    simp only [Option.map_some, Option.some.injEq] at hi
    subst hi
    rw [hf]; exact hc i a hq
end
end Go.Proofs.Ytjhgihgggofocaa

/- The calls of Decode, Encode, Syndromes at what is known. -/
namespace Go.Proofs.Ytjhgihgggofocaa
open Go.RowKit
theorem encs4_flat (l : List Nat) : encs4 l = l.flatMap encN := by
  induction l with
  | nil => rfl
  | cons a l ih => rw [List.flatMap_cons, ← ih]; rfl
theorem rdl_i {w : World} {u : Value} {l : List Nat} (h : RdL w 1 encZ u l) : RdL w 1 encI u (l.map (fun n : Nat => (n : Int))) := RdL.map_ (fun n : Nat => (n : Int)) (fun _ => rfl) h
theorem enc_code {l c : List Nat} (h : IsEnc l c) : Code_ (l.length + 4) c := ⟨h.len, h.el, h.syn⟩
theorem enc_uniq {l c d : List Nat} (hl : l.length ≤ 59) (hc : IsEnc l c) (hd : Code_ (l.length + 4) d) (ht : d.take l.length = l) : c = d := by
  refine code_uniq (P := [l.length, l.length + 1, l.length + 2, l.length + 3]) (by omega) (enc_code hc) hd (by simp) (by simp) (by simp) fun i hi => ?_
  simp only [List.mem_cons, List.not_mem_nil, or_false, not_or] at hi
  rcases Nat.lt_or_ge i l.length with h | h
  · have e1 := cf_take c l.length i
    have e2 := cf_take d l.length i
    rw [if_pos h] at e1 e2
    rw [← e1, ← e2, hc.pre, ht]
  · rw [cf_none (by rw [hc.len]; omega), cf_none (by rw [hd.len]; omega)]
section
variable (u v0 : Value) (w : World)
theorem enc_is (l c : List Nat) (hl : RdL w 1 encN u l) (hok : encOk l = true) (hc : Code_ (l.length + 4) c) (ht : c.take l.length = l) :
    Ret Try.prog 23 [u] w (fun v w' => ∃ r, v = .tuple #[r, .int .i64 0] ∧ Own w' w.heap.size 5 1 encN r c ∧ Ex w w') := by
  obtain ⟨h1, h2, h3⟩ := encOk_iff.1 hok
  refine (encode_ret u l w hl (by omega)).mono ?_
  rintro v w' ⟨r, c', rfl, ho, he, _, hx⟩
  have := enc_uniq h2 (he hok) hc ht
  subst this
  exact ⟨r, by rw [hok]; rfl, ho, hx⟩
theorem synd_is (l : List Nat) (hl : RdL w 1 encN u l) (hW : isW l = true) :
    Ret Try.prog 24 [u] w (fun v w' => ∃ r, v = .tuple #[r, .int .i64 0] ∧ RdL w' 1 encN r (syL l) ∧ Ex w w') := by
  have h63 := (isW_iff.1 hW).2.1
  refine (synd_ret u l w hl (by omega)).mono ?_
  rintro v w' ⟨⟨h, _⟩ | ⟨_, g, _, rfl, hb⟩, hx⟩
  · rw [hW] at h; cases h
  · exact ⟨_, rfl, RdL.of_blk (l := syL l) encN_len (by rw [← encs4_flat]; exact hb) (Nat.le_refl _) (by simp [maxLen]), hx⟩
theorem dec_is (l : List Nat) (ei : List Int) (d es : List Nat) (hl : RdL w 1 encN u l) (he : RdL w 1 encI v0 ei) (hW : isW l = true) (hok : okE l.length ei) (h4 : ei.length ≤ 4) (hd : Code_ l.length d) (hD : diffs l d (erN ei) = es) (hb : 2 * es.length + ei.length ≤ 4) :
    Ret Try.prog 13 [u, v0] w (fun v w' => ∃ A B C D, v = .tuple #[.agg ([.slice A d.length B, .slice C es.length D] : List Value).toArray, .int .i64 0] ∧ Own w' w.heap.size 5 1 encN (.slice A d.length B) d ∧ Own w' w.heap.size 3 1 encZ (.slice C es.length D) es ∧ Ex w w') := by
  obtain ⟨h1, h2, h3⟩ := isW_iff.1 hW
  refine (decode_ret u v0 l ei w hl he (by omega) (by omega)).mono ?_
  rintro v w' ⟨r, x, c, es', e, rfl, ho, hx', hdp, hx⟩
  have hlen : (erN ei).length = ei.length := List.length_map ..
  rcases hdp with ⟨h | h, _⟩ | ⟨_, _, ⟨h, _⟩ | ⟨_, hf⟩⟩
  · rw [hW] at h; cases h
  · exact absurd hok h
  · omega
  · have hnd : (erN ei).Nodup := by
      unfold erN
      rw [List.Nodup, List.pairwise_map]
      refine List.Pairwise.imp_of_mem (fun {a b} ha hb hne e => ?_) hok.2
      have := hok.1 a ha
      have := hok.1 b hb
      exact hne (by omega)
    obtain ⟨rfl, rfl, h9⟩ := found_is h3 h2 hnd (fun a ha => by obtain ⟨z, hz, rfl⟩ := List.mem_map.1 ha; have := hok.1 z hz; omega) (by omega) hd (by rw [hD]; omega) hf
    rw [hD] at h9
    subst h9
    obtain ⟨A, B, rfl⟩ := ho.shape
    obtain ⟨C, D, rfl⟩ := hx'.shape
    exact ⟨A, B, C, D, rfl, ho, hx', hx⟩
end
theorem code_dec {n : Nat} {c : List Nat} (h : (Nat.beq c.length n && c.all (fun a => Nat.blt a 64) && Nat.beq (sy c 0) 0 && Nat.beq (sy c 1) 0 && Nat.beq (sy c 2) 0 && Nat.beq (sy c 3) 0) = true) : Code_ n c := by
  simp only [Bool.and_eq_true] at h
  obtain ⟨⟨⟨⟨⟨h1, h2⟩, h3⟩, h4⟩, h5⟩, h6⟩ := h
  refine ⟨Nat.eq_of_beq_eq_true h1, fun a ha => by simpa [Nat.blt_eq] using List.all_eq_true.1 h2 a ha, fun r hr => ?_⟩
  match r, hr with
  | 0, _ => exact Nat.eq_of_beq_eq_true h3
  | 1, _ => exact Nat.eq_of_beq_eq_true h4
  | 2, _ => exact Nat.eq_of_beq_eq_true h5
  | 3, _ => exact Nat.eq_of_beq_eq_true h6
theorem good_code : Code_ 5 [1, 30, 29, 17, 48] := code_dec (by decide +kernel)
theorem zero_code : Code_ 5 [0, 0, 0, 0, 0] := code_dec (by decide +kernel)
end Go.Proofs.Ytjhgihgggofocaa

