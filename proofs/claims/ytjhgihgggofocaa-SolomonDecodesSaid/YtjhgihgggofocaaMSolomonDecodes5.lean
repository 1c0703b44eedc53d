/- Texts put together by program: RN, RO, RP. -/
import Derived.Test.YtjhgihgggofocaaMSolomonDecodes4
/- Walks (RN). Written by program. -/
namespace Go.Proofs.Ytjhgihgggofocaa
open Go.RowKit
set_option maxRecDepth 100000 in
set_option maxHeartbeats 8000000 in
theorem filled_ret (u v0 : Value) (l P : List Nat) (w : World) (hl : RdL w 1 encN u l) (hm : RdL w 1 encZ v0 P) (hW : isW l = true) (hd : P.Nodup) (h4 : P.length ≤ 4) (hp : ∀ p ∈ P, p < l.length) :
    Ret Try.prog 41 [u, v0] w (fun v w' => ∃ r b o, v = .tuple #[r, .bool b] ∧ Own w' w.heap.size 5 1 encN r o ∧ (b = true → YesR l P o) ∧ (b = false → NoR l P) ∧ Ex w w') := by
  obtain ⟨hw1, hw2, hle⟩ := isW_iff.1 hW
  have hzl := zerL_len l P P.length
  have hze := zerL_el hle P P.length
  obtain ⟨vA, vC, rfl⟩ := hm.shape
  have hB0 : Ex w w := Ex.rfl_ _
  refine Ret.of Try.func41 rfl Try.ntmps41 rfl ?_
  refine CW.seq ?_
  refine CW.region ?_
  refine RG.vl rfl rfl rfl (Ev.assign rfl rfl) ?_
  refine RG.vl rfl rfl rfl (Ev.assign rfl rfl) ?_
  refine RG.done ?_
  refine QW.then_ ?_
  refine CW.seq ?_
  refine CW.region ?_
  refine RG.vl rfl rfl rfl (Ev.move rfl rfl) ?_
  refine RG.vl rfl rfl rfl (Ev.lenL rfl rfl rfl Try.underlying23 (hm)) ?_
  refine RG.vl rfl rfl rfl (Ev.assign rfl rfl) ?_
  refine RG.done ?_
  refine QW.then_ ?_
  refine CW.seq ?_
  refine CW.region ?_
  refine RG.build0O (enc := encN) rfl rfl rfl rfl rfl Try.underlying22 sz_5 (fun v1 wk2 hxwk2 hown3 hnew4 => ?_)
  replace hown3 := Own.low (B' := w.heap.size) hown3 (by have := hB0.size; omega)
  have hE5 := hxwk2
  refine RG.vl rfl rfl rfl (Ev.move rfl rfl) ?_
  refine RG.appO rfl rfl rfl rfl rfl rfl rfl Try.underlying22 inf_5 rfl rfl encN_len (fun _ => rfl) hown3 ((hl.ext hE5)) (by show 0 + _ ≤ maxLen; simp only [maxLen]; omega) (by show (0 + _) * _ ≤ _; omega) (hE5.size) (fun v7 wa6 hown7 hgr8 hat9 => ?_)
  replace hE5 := own_block hown3 hE5 hgr8 (Nat.le_refl _) hE5.size
  refine RG.vl rfl rfl rfl (Ev.assign rfl rfl) ?_
  refine RG.done ?_
  refine QW.then_ ?_
  refine CW.seq ?_
  refine CW.seq ?_
  refine CW.region ?_
  refine RG.vl rfl rfl rfl (Ev.assign rfl rfl) ?_
  refine RG.done ?_
  refine QW.then_ ?_
  refine CW.block ?_
  refine CW.loop1 [(0, _), (1, _), (4, _), (5, _), (6, _), (7, _)] ⟨rfl, rfl, rfl, rfl, rfl, rfl, trivial⟩ (fun (i : Nat) => [(8, .int .i64 (i : Int))]) (fun i w' => (i ≤ P.length ∧ Own w' w.heap.size 5 1 encN v7 (zerL l P i)) ∧ Ex w w') (fun i => P.length - i) (0) ⟨rfl, trivial⟩ ⟨⟨Nat.zero_le _, hown7⟩, (Ex.tr hB0 hE5)⟩ ?_
  rintro i wl10 ⟨⟨hi, ho7⟩, hxwl10⟩
  refine CW.sub (S' := [(8, _), (0, _), (1, _), (4, _), (5, _), (6, _), (7, _)]) ⟨rfl, rfl, rfl, rfl, rfl, rfl, rfl, trivial⟩ ?_
  refine CW.seq ?_
  refine CW.seq ?_
  refine CW.region ?_
  refine RG.vl rfl rfl rfl (Ev.move rfl rfl) ?_
  refine RG.vl rfl rfl rfl (Ev.move rfl rfl) ?_
  refine RG.vl rfl rfl rfl (Ev.lss rfl rfl rfl) ?_
  refine RG.done ?_
  refine QW.then_ ?_
  refine CW.condP rfl (fun hc11 => ?_) (fun hc11 => ?_)
  · refine CW.skip ?_
    refine QW.then_ ?_
    refine CW.seq ?_
    refine CW.block ?_
    have hpi := hp _ (List.mem_of_getElem? (getElem?_cf (p := P) (k := i) (by omega)))
    have hzi := zerL_len l P i
    refine CW.region ?_
    refine RG.vl rfl rfl rfl (Ev.move rfl rfl) ?_
    refine RG.vl rfl rfl rfl (Ev.move rfl rfl) ?_
    refine RG.vl rfl rfl rfl (Ev.move rfl rfl) ?_
    refine RG.idxL rfl rfl rfl rfl rfl rfl Try.underlying23 sz_3 ((hm.ext hxwl10)) (getElem?_cf (by omega)) (fun p12 hp12b hp12 => ?_)
    refine RG.vl rfl rfl rfl (Ev.ld0 rfl rfl Try.underlying3 rfl (hp12) (rfl)) ?_
    refine RG.idxO rfl rfl rfl rfl rfl rfl Try.underlying22 sz_5 encN_len (ho7) (getElem?_cf (show cf P i < _ by omega)) (fun g14 hg14 hBg14 hp13b hp13 => ?_)
    refine RG.stOw0 (g := g14) (0) rfl rfl rfl rfl rfl sz_5 rfl (fun _ => rfl) ho7 hg14 (getElem?_cf (show cf P i < _ by omega)) rfl (rfl) (fun ws15 hwws15 hown16 => ?_)
    replace hxwl10 := Wr.below hxwl10 hwws15 hBg14
    refine RG.done ?_
    refine QW.blockN ?_
    refine QW.then_ ?_
    refine CW.region ?_
    refine RG.vl rfl rfl rfl (Ev.move rfl rfl) ?_
    refine RG.vl rfl rfl rfl (Ev.addI rfl rfl rfl (by omega)) ?_
    refine RG.vl rfl rfl rfl (Ev.assign rfl rfl) ?_
    refine RG.done ?_
    refine QW.round1 (i + 1) ⟨rfl, trivial⟩ ⟨rfl, rfl, rfl, rfl, rfl, rfl, trivial⟩ ⟨⟨by omega, hown16⟩, (Ex.tr hB0 hxwl10)⟩ (by omega)
  · refine CW.exit ?_
    refine QW.thenExit ?_
    refine QW.thenExit ?_
    refine QW.blockHit ?_
    refine QW.then_ ?_
    refine CW.seq ?_
    obtain rfl : i = P.length := by omega
    refine CW.region ?_
    refine RG.vl rfl rfl rfl (Ev.move rfl rfl) ?_
    refine RG.call rfl rfl rfl rfl rfl rfl rfl en_27 (rsynd_ret _ (zerL l P P.length) _ ((ho7.rdl encN_len)) (by omega) hze) ?_
    have hpre17 := (Ex.tr hB0 hxwl10)
    rintro v9 w17 ⟨ho9, hx17⟩
    have hsep18 : Sep v9 _ := Sep.of_new ho7 (fun k h => Own.ge ho9 h)
    replace ho9 := Own.low (B' := w.heap.size) ho9 (by have := (Ex.tr hB0 hxwl10).size; omega)
    replace hxwl10 := Ex.tr hxwl10 hx17
    have hE19 := hx17
    refine RG.vl rfl rfl rfl (Ev.assign rfl rfl) ?_
    refine RG.done ?_
    refine QW.then_ ?_
    refine CW.seq ?_
    refine CW.region ?_
    refine RG.alloc_ rfl rfl rfl rfl inf_88 (fun gA w20 egA hx20 hb20 => ?_)
    have hsb21 := fun e => sep_new (g := gA) (Own.ext ho7 hE19) egA e
    have hsb22 := fun e => sep_new (g := gA) ho9 egA e
    have hle23 : w.heap.size ≤ gA := by have := hxwl10.size; omega
    have hle24 : wl10.heap.size ≤ gA := by have := hE19.size; omega
    have hle25 : w17.heap.size ≤ gA := by have := (Ex.rfl_ w17).size; omega
    replace hxwl10 := Ex.tr hxwl10 hx20
    replace hE19 := Ex.tr hE19 hx20
    have hE26 := hx20
    refine RG.done ?_
    refine QW.then_ ?_
    refine CW.seq ?_
    refine CW.region ?_
    refine RG.alloc_ rfl rfl rfl rfl inf_57 (fun gB w27 egB hx27 hb27 => ?_)
    have hsb28 := fun e => sep_new (g := gB) (Own.ext ho7 hE19) egB e
    have hsb29 := fun e => sep_new (g := gB) (Own.ext ho9 hE26) egB e
    have hle30 : w.heap.size ≤ gB := by have := hxwl10.size; omega
    have hle31 : wl10.heap.size ≤ gB := by have := hE19.size; omega
    have hle32 : w17.heap.size ≤ gB := by have := hE26.size; omega
    have hle33 : w20.heap.size ≤ gB := by have := (Ex.rfl_ w20).size; omega
    have hlt34 : gA < gB := by have := Blk.lt hb20; omega
    replace hxwl10 := Ex.tr hxwl10 hx27
    replace hE19 := Ex.tr hE19 hx27
    replace hE26 := Ex.tr hE26 hx27
    have hE35 := hx27
    refine RG.done ?_
    refine QW.then_ ?_
    refine CW.seq ?_
    refine CW.seq ?_
    refine CW.region ?_
    refine RG.vl rfl rfl rfl (Ev.assign rfl rfl) ?_
    refine RG.done ?_
    refine QW.then_ ?_
    refine CW.block ?_
    refine CW.loop1 [(0, _), (1, _), (4, _), (5, _), (6, _), (7, _), (9, _), (10, _), (11, _)] ⟨rfl, rfl, rfl, rfl, rfl, rfl, rfl, rfl, rfl, trivial⟩ (fun (j : Nat) => [(12, .int .i64 (j : Int))]) (fun j w' => (j ≤ P.length ∧ Blk w' gA 88 (mc4 (rM l.length P (syL (zerL l P P.length)) j 0)) ∧ Blk w' gB 57 (bc4 (rM l.length P (syL (zerL l P P.length)) j 0)) ∧ Own w' w.heap.size 5 1 encN v7 (zerL l P P.length) ∧ Own w' w.heap.size 5 1 encN v9 (syL (zerL l P P.length))) ∧ Ex w w') (fun j => P.length - j) (0) ⟨rfl, trivial⟩ ⟨⟨Nat.zero_le _, (hb20.ext hE35), hb27, (Own.ext ho7 hE19), (Own.ext ho9 hE26)⟩, (Ex.tr hB0 hxwl10)⟩ ?_
    rintro j wl36 ⟨⟨hj, hA, hBb, ho7, ho9⟩, hxwl36⟩
    refine CW.sub (S' := [(12, _), (0, _), (1, _), (4, _), (5, _), (6, _), (7, _), (9, _), (10, _), (11, _)]) ⟨rfl, rfl, rfl, rfl, rfl, rfl, rfl, rfl, rfl, rfl, trivial⟩ ?_
    refine CW.seq ?_
    refine CW.seq ?_
    refine CW.region ?_
    refine RG.vl rfl rfl rfl (Ev.move rfl rfl) ?_
    refine RG.vl rfl rfl rfl (Ev.move rfl rfl) ?_
    refine RG.vl rfl rfl rfl (Ev.lss rfl rfl rfl) ?_
    refine RG.done ?_
    refine QW.then_ ?_
    refine CW.condP rfl (fun hc37 => ?_) (fun hc37 => ?_)
    · refine CW.skip ?_
      refine QW.then_ ?_
      refine CW.seq ?_
      refine CW.block ?_
      refine CW.seq ?_
      have hpj := hp _ (List.mem_of_getElem? (getElem?_cf (p := P) (k := j) (by omega)))
      refine CW.region ?_
      refine RG.vl rfl rfl rfl (Ev.move rfl rfl) ?_
      refine RG.vl rfl rfl rfl (Ev.lenL rfl rfl rfl Try.underlying22 ((hl.ext hxwl36))) ?_
      refine RG.vl rfl rfl rfl (Ev.subI rfl rfl rfl (by omega)) ?_
      refine RG.vl rfl rfl rfl (Ev.move rfl rfl) ?_
      refine RG.vl rfl rfl rfl (Ev.move rfl rfl) ?_
      refine RG.idxL rfl rfl rfl rfl rfl rfl Try.underlying23 sz_3 ((hm.ext hxwl36)) (getElem?_cf (by omega)) (fun p38 hp38b hp38 => ?_)
      refine RG.vl rfl rfl rfl (Ev.ld0 rfl rfl Try.underlying3 rfl (hp38) (rfl)) ?_
      refine RG.vl rfl rfl rfl ((Ev.subI rfl rfl rfl (by omega)).conv (congrArg (Value.int .i64) (show _ = ((l.length - 1 - cf P j : Nat) : Int) by omega))) ?_
      refine RG.call rfl rfl rfl rfl rfl rfl rfl en_45 ((by have k := rpow_ret 2 (l.length - 1 - cf P j) wl36 (by omega) (by omega); rw [gp_two _ (by omega)] at k; exact k)) ?_
      rintro _ w39 ⟨rfl, hx39⟩
      replace hxwl36 := Ex.tr hxwl36 hx39
      have hE40 := hx39
      refine RG.vl rfl rfl rfl (Ev.assign rfl rfl) ?_
      refine RG.done ?_
      refine QW.then_ ?_
      refine CW.seq ?_
      refine CW.region ?_
      refine RG.vl rfl rfl rfl (Ev.move rfl rfl) ?_
      refine RG.vl rfl rfl rfl (Ev.assign rfl rfl) ?_
      refine RG.done ?_
      refine QW.sub (S' := [(0, _), (1, _), (4, _), (5, _), (6, _), (7, _), (9, _), (10, _), (11, _), (12, _), (13, _), (14, _)]) ⟨rfl, rfl, rfl, rfl, rfl, rfl, rfl, rfl, rfl, rfl, rfl, rfl, trivial⟩ ?_
      refine QW.then_ ?_
      refine CW.seq ?_
      refine CW.seq ?_
      refine CW.region ?_
      refine RG.vl rfl rfl rfl (Ev.assign rfl rfl) ?_
      refine RG.done ?_
      refine QW.then_ ?_
      refine CW.block ?_
      refine CW.loop1 [(0, _), (1, _), (4, _), (5, _), (6, _), (7, _), (9, _), (10, _), (11, _), (12, _), (13, _)] ⟨rfl, rfl, rfl, rfl, rfl, rfl, rfl, rfl, rfl, rfl, rfl, trivial⟩ (fun (i : Nat) => [(15, .int .i64 (i : Int)), (14, .int .u8 (pw ((i + 1) * (l.length - 1 - cf P j) % 63) : Nat))]) (fun i w' => (i ≤ P.length ∧ Blk w' gA 88 (mc4 (rM l.length P (syL (zerL l P P.length)) j i)) ∧ Blk w' gB 57 (bc4 (rM l.length P (syL (zerL l P P.length)) j 0)) ∧ Own w' w.heap.size 5 1 encN v7 (zerL l P P.length) ∧ Own w' w.heap.size 5 1 encN v9 (syL (zerL l P P.length))) ∧ Ex w w') (fun i => P.length - i) (0) ⟨rfl, by rw [Nat.zero_add, Nat.one_mul, Nat.mod_eq_of_lt (show l.length - 1 - cf P j < 63 by omega)]; rfl, trivial⟩ ⟨⟨Nat.zero_le _, (hA.ext hE40), (hBb.ext hE40), (Own.ext ho7 hE40), (Own.ext ho9 hE40)⟩, (Ex.tr hB0 hxwl36)⟩ ?_
      rintro i wl41 ⟨⟨hi, hA, hBb, ho7, ho9⟩, hxwl41⟩
      refine CW.sub (S' := [(15, _), (14, _), (0, _), (1, _), (4, _), (5, _), (6, _), (7, _), (9, _), (10, _), (11, _), (12, _), (13, _)]) ⟨rfl, rfl, rfl, rfl, rfl, rfl, rfl, rfl, rfl, rfl, rfl, rfl, rfl, trivial⟩ ?_
      refine CW.seq ?_
      refine CW.seq ?_
      refine CW.region ?_
      refine RG.vl rfl rfl rfl (Ev.move rfl rfl) ?_
      refine RG.vl rfl rfl rfl (Ev.move rfl rfl) ?_
      refine RG.vl rfl rfl rfl (Ev.lss rfl rfl rfl) ?_
      refine RG.done ?_
      refine QW.then_ ?_
      refine CW.condP rfl (fun hc42 => ?_) (fun hc42 => ?_)
      · refine CW.skip ?_
        refine QW.then_ ?_
        refine CW.seq ?_
        refine CW.block ?_
        refine CW.seq ?_
        have hpw := pw64 ((i + 1) * (l.length - 1 - cf P j))
        have hpm := pw_lt (l.length - 1 - cf P j) (by omega)
        have hst := pw_step (m := l.length - 1 - cf P j) i (by omega)
        refine CW.region ?_
        refine RG.vl rfl rfl rfl (Ev.move rfl rfl) ?_
        refine RG.vl rfl rfl rfl (Ev.move rfl rfl) ?_
        refine RG.vl rfl rfl rfl (Ev.move rfl rfl) ?_
        refine RG.vl rfl rfl rfl (Ev.idxA rfl rfl rfl Try.underlying88 sz_57 (by omega)) ?_
        refine RG.vl rfl rfl rfl (Ev.idxA rfl rfl rfl Try.underlying57 sz_5 (by omega)) ?_
        refine RG.st2 (g := gA) rfl rfl rfl rfl rfl sz_5 rfl hA (by rw [mc4_len, Nat.blt_eq]; omega) (fun ws43 hwws43 hbws43 => ?_)
        replace hBb := Blk.far hBb hwws43 (by omega)
        replace ho7 := Own.far ho7 hwws43 hsb21
        replace ho9 := Own.far ho9 hwws43 hsb22
        replace hxwl41 := Wr.below hxwl41 hwws43 hle23
        rw [mc4_set _ _ (by omega), rM_more] at hbws43
        refine RG.done ?_
        refine QW.then_ ?_
        refine CW.region ?_
        refine RG.vl rfl rfl rfl (Ev.move rfl rfl) ?_
        refine RG.vl rfl rfl rfl (Ev.move rfl rfl) ?_
        refine RG.call rfl rfl rfl rfl rfl rfl rfl en_46 ((by have k := rmul_ret _ _ ws43 hpw hpm.2; rw [hst] at k; exact k)) ?_
        rintro _ w44 ⟨rfl, hx44⟩
        replace hxwl41 := Ex.tr hxwl41 hx44
        have hE45 := hx44
        refine RG.vl rfl rfl rfl (Ev.assign rfl rfl) ?_
        refine RG.done ?_
        refine QW.blockN ?_
        refine QW.then_ ?_
        refine CW.region ?_
        refine RG.vl rfl rfl rfl (Ev.move rfl rfl) ?_
        refine RG.vl rfl rfl rfl (Ev.addI rfl rfl rfl (by omega)) ?_
        refine RG.vl rfl rfl rfl (Ev.assign rfl rfl) ?_
        refine RG.done ?_
        refine QW.sub (S' := [(0, _), (1, _), (4, _), (5, _), (6, _), (7, _), (9, _), (10, _), (11, _), (12, _), (13, _), (14, _), (15, _)]) ⟨rfl, rfl, rfl, rfl, rfl, rfl, rfl, rfl, rfl, rfl, rfl, rfl, rfl, trivial⟩ ?_
        refine QW.round1 (i + 1) ⟨rfl, rfl, trivial⟩ ⟨rfl, rfl, rfl, rfl, rfl, rfl, rfl, rfl, rfl, rfl, rfl, trivial⟩ ⟨⟨by omega, (hbws43.ext hE45), (hBb.ext hE45), (Own.ext ho7 hE45), (Own.ext ho9 hE45)⟩, (Ex.tr hB0 hxwl41)⟩ (by omega)
      · refine CW.exit ?_
        refine QW.thenExit ?_
        refine QW.thenExit ?_
        refine QW.blockHit ?_
        refine QW.then_ ?_
        obtain rfl : i = P.length := by omega
        refine CW.region ?_
        refine RG.vl rfl rfl rfl (Ev.move rfl rfl) ?_
        refine RG.vl rfl rfl rfl (Ev.move rfl rfl) ?_
        refine RG.vl rfl rfl rfl (Ev.move rfl rfl) ?_
        refine RG.idxO rfl rfl rfl rfl rfl rfl Try.underlying22 sz_5 encN_len (ho9) (getElem?_cf (show j < (syL _).length by show j < 4; omega)) (fun g47 hg47 hBg47 hp46b hp46 => ?_)
        refine RG.vl rfl rfl rfl (Ev.ld0 rfl rfl Try.underlying5 rfl (hp46) (rfl)) ?_
        refine RG.vl rfl rfl rfl (Ev.idxA rfl rfl rfl Try.underlying57 sz_5 (by omega)) ?_
        refine RG.st (g := gB) (k := _) rfl rfl rfl rfl rfl sz_5 rfl hBb (by rw [bc4_len, Nat.blt_eq]; omega) (fun ws48 hwws48 hbws48 => ?_)
        replace hA := Blk.far hA hwws48 (by omega)
        replace ho7 := Own.far ho7 hwws48 hsb28
        replace ho9 := Own.far ho9 hwws48 hsb29
        replace hxwl41 := Wr.below hxwl41 hwws48 hle30
        rw [bc4_set _ _, rM_bmore] at hbws48
        rw [rM_col] at hA
        refine RG.done ?_
        refine QW.blockN ?_
        refine QW.then_ ?_
        refine CW.region ?_
        refine RG.vl rfl rfl rfl (Ev.move rfl rfl) ?_
        refine RG.vl rfl rfl rfl (Ev.addI rfl rfl rfl (by omega)) ?_
        refine RG.vl rfl rfl rfl (Ev.assign rfl rfl) ?_
        refine RG.done ?_
        refine QW.round1 (j + 1) ⟨rfl, trivial⟩ ⟨rfl, rfl, rfl, rfl, rfl, rfl, rfl, rfl, rfl, trivial⟩ ⟨⟨by omega, hA, hbws48, ho7, ho9⟩, (Ex.tr hB0 hxwl41)⟩ (by omega)
    · refine CW.exit ?_
      refine QW.thenExit ?_
      refine QW.thenExit ?_
      refine QW.blockHit ?_
      refine QW.then_ ?_
      refine CW.seq ?_
      refine CW.seq ?_
      obtain rfl : j = P.length := by omega
      have hg0 : Gs (rM l.length P (syL (zerL l P P.length)) P.length 0) P.length (rM l.length P (syL (zerL l P P.length)) P.length 0) 0 := gs_start (rM_el (fun a ha => by simp only [syL, List.mem_cons, List.not_mem_nil, or_false] at ha; rcases ha with rfl | rfl | rfl | rfl <;> exact sy_lt hze _) _ _)
      obtain ⟨M00, hM00⟩ : ∃ M : Mx, M = (rM l.length P (syL (zerL l P P.length)) P.length 0) := ⟨_, rfl⟩
      refine CW.region ?_
      refine RG.vl rfl rfl rfl (Ev.assign rfl rfl) ?_
      refine RG.done ?_
      refine QW.then_ ?_
      refine CW.block ?_
      refine CW.loop2 [(1, _), (6, _), (7, _), (10, _), (11, _)] ⟨rfl, rfl, rfl, rfl, rfl, trivial⟩ (fun (i : Nat) (M : Mx) => [(16, .int .i64 (i : Int))]) (fun i M w' => (i ≤ P.length ∧ Gs (rM l.length P (syL (zerL l P P.length)) P.length 0) P.length M i ∧ Zr P.length M ∧ Blk w' gA 88 (mc4 M) ∧ Blk w' gB 57 (bc4 M) ∧ Own w' w.heap.size 5 1 encN v7 (zerL l P P.length)) ∧ Ex w w') (fun i M => P.length - i) (0) ((rM l.length P (syL (zerL l P P.length)) P.length 0)) ⟨rfl, trivial⟩ ⟨⟨Nat.zero_le _, hg0, rM_zr, hA, hBb, ho7⟩, (Ex.tr hB0 hxwl36)⟩ ?_
      rintro i M wl49 ⟨⟨hi, hgs, hzr, hA, hBb, ho7⟩, hxwl49⟩
      refine CW.sub (S' := [(16, _), (1, _), (6, _), (7, _), (10, _), (11, _)]) ⟨rfl, rfl, rfl, rfl, rfl, rfl, trivial⟩ ?_
      refine CW.seq ?_
      refine CW.seq ?_
      refine CW.region ?_
      refine RG.vl rfl rfl rfl (Ev.move rfl rfl) ?_
      refine RG.vl rfl rfl rfl (Ev.move rfl rfl) ?_
      refine RG.vl rfl rfl rfl (Ev.lss rfl rfl rfl) ?_
      refine RG.done ?_
      refine QW.then_ ?_
      refine CW.condP rfl (fun hc50 => ?_) (fun hc50 => ?_)
      · refine CW.skip ?_
        refine QW.then_ ?_
        refine CW.seq ?_
        refine CW.block ?_
        refine CW.seq ?_
        refine CW.region ?_
        refine RG.vl rfl rfl rfl (Ev.move rfl rfl) ?_
        refine RG.vl rfl rfl rfl (Ev.assign rfl rfl) ?_
        refine RG.done ?_
        refine QW.then_ ?_
        refine CW.seq ?_
        refine CW.block ?_
        refine CW.loop1 [(1, _), (6, _), (7, _), (10, _), (11, _), (16, _)] ⟨rfl, rfl, rfl, rfl, rfl, rfl, trivial⟩ (fun (row : Nat) => [(17, .int .i64 (row : Int))]) (fun row w' => (i ≤ row ∧ row ≤ P.length ∧ (∀ r, i ≤ r → r < row → M r i = 0) ∧ Blk w' gA 88 (mc4 M) ∧ Blk w' gB 57 (bc4 M) ∧ Own w' w.heap.size 5 1 encN v7 (zerL l P P.length)) ∧ Ex w w') (fun row => P.length - row) (i) ⟨rfl, trivial⟩ ⟨⟨Nat.le_refl _, by omega, fun r h1 h2 => absurd h1 (by omega), hA, hBb, ho7⟩, (Ex.tr hB0 hxwl49)⟩ ?_
        rintro row wl51 ⟨⟨hrow, hrowk, hz, hA, hBb, ho7⟩, hxwl51⟩
        refine CW.sub (S' := [(17, _), (1, _), (6, _), (7, _), (10, _), (11, _), (16, _)]) ⟨rfl, rfl, rfl, rfl, rfl, rfl, rfl, trivial⟩ ?_
        refine CW.seq ?_
        refine CW.seq ?_
        refine CW.region ?_
        refine RG.vl rfl rfl rfl (Ev.move rfl rfl) ?_
        refine RG.vl rfl rfl rfl (Ev.move rfl rfl) ?_
        refine RG.vl rfl rfl rfl (Ev.lss rfl rfl rfl) ?_
        refine RG.vl rfl rfl rfl (Ev.move rfl rfl) ?_
        refine RG.split (d := 85) rfl (fun hg52 => ?_) (fun hg52 => ?_)
        · refine RG.vl rfl rfl rfl (Ev.move rfl rfl) ?_
          refine RG.vl rfl rfl rfl (Ev.move rfl rfl) ?_
          refine RG.vl rfl rfl rfl (Ev.idxA rfl rfl rfl Try.underlying88 sz_57 (by omega)) ?_
          refine RG.vl rfl rfl rfl (Ev.idxA rfl rfl rfl Try.underlying57 sz_5 (by omega)) ?_
          refine RG.vl rfl rfl rfl (Ev.ldAA rfl rfl Try.underlying5 rfl (hA.cells) ((show (mc4 M)[row * 4 + i * 1]? = some (.int .u8 (M row i : Int)) by rw [mc4_at _ (by omega) (by omega)]))) ?_
          refine RG.vl rfl rfl rfl (Ev.eqI rfl rfl rfl) ?_
          refine RG.vl rfl rfl rfl (Ev.pickT rfl rfl rfl) ?_
          refine RG.done ?_
          refine QW.then_ ?_
          refine CW.condP rfl (fun hc53 => ?_) (fun hc53 => ?_)
          · refine CW.skip ?_
            refine QW.then_ ?_
            refine CW.block ?_
            refine CW.region ?_
            refine RG.vl rfl rfl rfl (Ev.move rfl rfl) ?_
            refine RG.vl rfl rfl rfl (Ev.addI rfl rfl rfl (by omega)) ?_
            refine RG.vl rfl rfl rfl (Ev.assign rfl rfl) ?_
            refine RG.done ?_
            refine QW.sub (S' := [(1, _), (6, _), (7, _), (10, _), (11, _), (16, _), (17, _)]) ⟨rfl, rfl, rfl, rfl, rfl, rfl, rfl, trivial⟩ ?_
            refine QW.blockN ?_
            refine QW.round1 (row + 1) ⟨rfl, trivial⟩ ⟨rfl, rfl, rfl, rfl, rfl, rfl, trivial⟩ ⟨⟨by omega, by omega, fun r h1 h2 => by rcases Nat.lt_or_ge r row with h | h; exact hz r h1 h; obtain rfl : r = row := (by omega); omega, hA, hBb, ho7⟩, (Ex.tr hB0 hxwl51)⟩ (by omega)
          · refine CW.exit ?_
            refine QW.thenExit ?_
            refine QW.thenExit ?_
            refine QW.blockHit ?_
            refine QW.then_ ?_
            refine CW.seq ?_
            refine CW.seq ?_
            refine CW.region ?_
            refine RG.vl rfl rfl rfl (Ev.move rfl rfl) ?_
            refine RG.vl rfl rfl rfl (Ev.move rfl rfl) ?_
            refine RG.vl rfl rfl rfl (Ev.isF (Ev.eqI rfl rfl rfl) (by omega)) ?_
            refine RG.done ?_
            refine QW.sub (S' := [(1, _), (6, _), (7, _), (10, _), (11, _), (16, _), (17, _), (97, _)]) ⟨rfl, rfl, rfl, rfl, rfl, rfl, rfl, rfl, trivial⟩ ?_
            refine QW.then_ ?_
            refine CW.condF rfl ?_
            refine CW.skip ?_
            refine QW.then_ ?_
            refine CW.seq ?_
            have h0 : M row i ≠ 0 := by omega
            have hr4 : row < 4 := by omega
            have hri : row < P.length := by omega
            have h64 := hgs.el row i hr4 (by omega)
            have hgi := (gi_lt (M row i)).2
            refine CW.draw [9, 11] (.ex) 12 rfl mixed (fun wd54 hxwd54 => ?_)
            replace hxwl51 := Ex.tr hxwl51 hxwd54
            have hE55 := hxwd54
            refine AG.takeW 0 rfl (by kernel_rfl) (by kernel_rfl) rfl rfl rfl (fun _ => Ev.move rfl rfl) ?_
            refine AG.takeW 1 rfl (by kernel_rfl) (by kernel_rfl) rfl rfl rfl (fun _ => Ev.move rfl rfl) ?_
            refine AG.takeW 2 rfl (by kernel_rfl) (by kernel_rfl) rfl rfl rfl (fun _ => Ev.move rfl rfl) ?_
            refine AG.takeW 3 rfl (by kernel_rfl) (by kernel_rfl) rfl rfl rfl (fun _ => Ev.idxA rfl rfl rfl Try.underlying88 sz_57 (by omega)) ?_
            refine AG.take 4 rfl (by kernel_rfl) (by kernel_rfl) rfl rfl rfl (fun wq hq => Ev.ldRow4 (r := row) rfl rfl Try.underlying57 rfl sz_57 ((hA.ext hE55).ext hq) (by omega)) ?_
            refine AG.takeW 5 rfl (by kernel_rfl) (by kernel_rfl) rfl rfl rfl (fun _ => Ev.move rfl rfl) ?_
            refine AG.takeW 6 rfl (by kernel_rfl) (by kernel_rfl) rfl rfl rfl (fun _ => Ev.idxA rfl rfl rfl Try.underlying88 sz_57 (by omega)) ?_
            refine AG.take 7 rfl (by kernel_rfl) (by kernel_rfl) rfl rfl rfl (fun wq hq => Ev.ldRow4 (r := i) rfl rfl Try.underlying57 rfl sz_57 ((hA.ext hE55).ext hq) (by omega)) ?_
            refine AG.takeW 8 rfl (by kernel_rfl) (by kernel_rfl) rfl rfl rfl (fun _ => Ev.idxA rfl rfl rfl Try.underlying88 sz_57 (by omega)) ?_
            refine AG.only 9 rfl (by kernel_rfl) ?_
            refine RG.stRow4 (r := i) (M row) rfl rfl rfl rfl rfl sz_57 (hA.ext hE55) (by omega) (fun ws57 hwws57 hbws57 => ?_)
            replace hBb := Blk.far (hBb.ext hE55) hwws57 (by omega)
            replace ho7 := Own.far (Own.ext ho7 hE55) hwws57 hsb21
            replace hxwl51 := Wr.below hxwl51 hwws57 hle23
            refine RG.done ?_
            refine QW.an (fun h => by simp at h) ?_
            refine AG.takeW 10 rfl (by kernel_rfl) (by kernel_rfl) rfl rfl rfl (fun _ => Ev.idxA rfl rfl rfl Try.underlying88 sz_57 (by omega)) ?_
            refine AG.only 11 rfl (by kernel_rfl) ?_
            refine RG.stRow4 (r := row) (M i) rfl rfl rfl rfl rfl sz_57 hbws57 (by omega) (fun ws59 hwws59 hbws59 => ?_)
            replace hBb := Blk.far hBb hwws59 (by omega)
            replace ho7 := Own.far ho7 hwws59 hsb21
            replace hxwl51 := Wr.below hxwl51 hwws59 hle23
            replace hbws59 : Blk ws59 gA 88 (mc4 (swp M i row)) := hbws59
            refine RG.done ?_
            refine QW.an (fun h => by simp at h) ?_
            refine AG.done (by kernel_rfl) ?_
            refine QW.then_ ?_
            refine CW.seq ?_
            refine CW.draw [9, 11] (.ex) 12 rfl mixed (fun wd60 hxwd60 => ?_)
            replace hxwl51 := Ex.tr hxwl51 hxwd60
            have hE61 := hxwd60
            refine AG.takeW 0 rfl (by kernel_rfl) (by kernel_rfl) rfl rfl rfl (fun _ => Ev.move rfl rfl) ?_
            refine AG.takeW 1 rfl (by kernel_rfl) (by kernel_rfl) rfl rfl rfl (fun _ => Ev.move rfl rfl) ?_
            refine AG.takeW 2 rfl (by kernel_rfl) (by kernel_rfl) rfl rfl rfl (fun _ => Ev.move rfl rfl) ?_
            refine AG.takeW 3 rfl (by kernel_rfl) (by kernel_rfl) rfl rfl rfl (fun _ => Ev.idxA rfl rfl rfl Try.underlying57 sz_5 (by omega)) ?_
            refine AG.take 4 rfl (by kernel_rfl) (by kernel_rfl) rfl rfl rfl (fun wq hq => Ev.ldAt rfl rfl Try.underlying5 rfl (((hBb.ext hE61).ext hq).cells) ((show (bc4 M)[row * 1]? = some (.int .u8 (M row 4 : Int)) by rw [bc4_at _ (by omega)]))) ?_
            refine AG.takeW 5 rfl (by kernel_rfl) (by kernel_rfl) rfl rfl rfl (fun _ => Ev.move rfl rfl) ?_
            refine AG.takeW 6 rfl (by kernel_rfl) (by kernel_rfl) rfl rfl rfl (fun _ => Ev.idxA rfl rfl rfl Try.underlying57 sz_5 (by omega)) ?_
            refine AG.take 7 rfl (by kernel_rfl) (by kernel_rfl) rfl rfl rfl (fun wq hq => Ev.ldAt rfl rfl Try.underlying5 rfl (((hBb.ext hE61).ext hq).cells) ((show (bc4 M)[i * 1]? = some (.int .u8 (M i 4 : Int)) by rw [bc4_at _ (by omega)]))) ?_
            refine AG.takeW 8 rfl (by kernel_rfl) (by kernel_rfl) rfl rfl rfl (fun _ => Ev.idxA rfl rfl rfl Try.underlying57 sz_5 (by omega)) ?_
            refine AG.only 9 rfl (by kernel_rfl) ?_
            refine RG.st (g := gB) (k := _) rfl rfl rfl rfl rfl sz_5 rfl (hBb.ext hE61) (by rw [bc4_len, Nat.blt_eq]; omega) (fun ws63 hwws63 hbws63 => ?_)
            replace ho7 := Own.far (Own.ext ho7 hE61) hwws63 hsb28
            replace hbws59 := Blk.far (hbws59.ext hE61) hwws63 (by omega)
            replace hxwl51 := Wr.below hxwl51 hwws63 hle30
            refine RG.done ?_
            refine QW.an (fun h => by simp at h) ?_
            refine AG.takeW 10 rfl (by kernel_rfl) (by kernel_rfl) rfl rfl rfl (fun _ => Ev.idxA rfl rfl rfl Try.underlying57 sz_5 (by omega)) ?_
            refine AG.only 11 rfl (by kernel_rfl) ?_
            refine RG.st (g := gB) (k := _) rfl rfl rfl rfl rfl sz_5 rfl hbws63 (by rw [List.length_set, bc4_len, Nat.blt_eq]; omega) (fun ws65 hwws65 hbws65 => ?_)
            replace ho7 := Own.far ho7 hwws65 hsb28
            replace hbws59 := Blk.far hbws59 hwws65 (by omega)
            replace hxwl51 := Wr.below hxwl51 hwws65 hle30
            rw [bc4_set _ _, bc4_set _ _, swp_b] at hbws65
            refine RG.done ?_
            refine QW.an (fun h => by simp at h) ?_
            refine AG.done (by kernel_rfl) ?_
            refine QW.sub (S' := [(1, _), (6, _), (7, _), (10, _), (11, _), (16, _)]) ⟨rfl, rfl, rfl, rfl, rfl, rfl, trivial⟩ ?_
            refine QW.then_ ?_
            refine CW.seq ?_
            refine CW.region ?_
            refine RG.vl rfl rfl rfl (Ev.move rfl rfl) ?_
            refine RG.vl rfl rfl rfl (Ev.move rfl rfl) ?_
            refine RG.vl rfl rfl rfl (Ev.idxA rfl rfl rfl Try.underlying88 sz_57 (by omega)) ?_
            refine RG.vl rfl rfl rfl (Ev.idxA rfl rfl rfl Try.underlying57 sz_5 (by omega)) ?_
            refine RG.vl rfl rfl rfl (Ev.ldAA rfl rfl Try.underlying5 rfl (hbws59.cells) ((show (mc4 (swp M i row))[i * 4 + i * 1]? = some (.int .u8 (M row i : Int)) by rw [mc4_at _ (by omega) (by omega), swp_i]))) ?_
            refine RG.call rfl rfl rfl rfl rfl rfl rfl en_58 (rinvN (M row i) _ h64 h0) ?_
            rintro _ w66 ⟨rfl, hx66⟩
            replace hxwl51 := Ex.tr hxwl51 hx66
            have hE67 := hx66
            refine RG.vl rfl rfl rfl (Ev.assign rfl rfl) ?_
            refine RG.done ?_
            refine QW.then_ ?_
            refine CW.seq ?_
            refine CW.seq ?_
            refine CW.region ?_
            refine RG.vl rfl rfl rfl (Ev.assign rfl rfl) ?_
            refine RG.done ?_
            refine QW.then_ ?_
            refine CW.block ?_
            refine CW.loop1 [(1, _), (6, _), (7, _), (10, _), (11, _), (16, _), (18, _)] ⟨rfl, rfl, rfl, rfl, rfl, rfl, rfl, trivial⟩ (fun (j : Nat) => [(19, .int .i64 (j : Int))]) (fun j w' => (j ≤ P.length ∧ Blk w' gA 88 (mc4 (scTo (swp M i row) i (gi (M row i)) j)) ∧ Blk w' gB 57 (bc4 (swp M i row)) ∧ Own w' w.heap.size 5 1 encN v7 (zerL l P P.length)) ∧ Ex w w') (fun j => P.length - j) (0) ⟨rfl, trivial⟩ ⟨⟨Nat.zero_le _, by rw [scTo_zero]; exact (hbws59.ext hE67), (hbws65.ext hE67), (Own.ext ho7 hE67)⟩, (Ex.tr hB0 hxwl51)⟩ ?_
            rintro j wl68 ⟨⟨hj, hA, hBb, ho7⟩, hxwl68⟩
            refine CW.sub (S' := [(19, _), (1, _), (6, _), (7, _), (10, _), (11, _), (16, _), (18, _)]) ⟨rfl, rfl, rfl, rfl, rfl, rfl, rfl, rfl, trivial⟩ ?_
            refine CW.seq ?_
            refine CW.seq ?_
            refine CW.region ?_
            refine RG.vl rfl rfl rfl (Ev.move rfl rfl) ?_
            refine RG.vl rfl rfl rfl (Ev.move rfl rfl) ?_
            refine RG.vl rfl rfl rfl (Ev.lss rfl rfl rfl) ?_
            refine RG.done ?_
            refine QW.then_ ?_
            refine CW.condP rfl (fun hc69 => ?_) (fun hc69 => ?_)
            · refine CW.skip ?_
              refine QW.then_ ?_
              refine CW.seq ?_
              refine CW.block ?_
              have e1 : scTo (swp M i row) i (gi (M row i)) j i j = (swp M i row) i j := by unfold scTo; rw [if_neg (by omega)]
              have h1 := hgs.el.swp (show i < 4 by omega) hr4 i j (by omega) (by omega)
              have h2 := gm_lt ((swp M i row) i j) (gi (M row i))
              refine CW.draw [11] (.ex) 12 rfl mixed (fun wd70 hxwd70 => ?_)
              replace hxwl68 := Ex.tr hxwl68 hxwd70
              have hE71 := hxwd70
              refine AG.takeW 0 rfl (by kernel_rfl) (by kernel_rfl) rfl rfl rfl (fun _ => Ev.move rfl rfl) ?_
              refine AG.takeW 1 rfl (by kernel_rfl) (by kernel_rfl) rfl rfl rfl (fun _ => Ev.move rfl rfl) ?_
              refine AG.takeW 2 rfl (by kernel_rfl) (by kernel_rfl) rfl rfl rfl (fun _ => Ev.move rfl rfl) ?_
              refine AG.takeW 3 rfl (by kernel_rfl) (by kernel_rfl) rfl rfl rfl (fun _ => Ev.move rfl rfl) ?_
              refine AG.takeW 4 rfl (by kernel_rfl) (by kernel_rfl) rfl rfl rfl (fun _ => Ev.idxA rfl rfl rfl Try.underlying88 sz_57 (by omega)) ?_
              refine AG.takeW 5 rfl (by kernel_rfl) (by kernel_rfl) rfl rfl rfl (fun _ => Ev.idxA rfl rfl rfl Try.underlying57 sz_5 (by omega)) ?_
              refine AG.take 6 rfl (by kernel_rfl) (by kernel_rfl) rfl rfl rfl (fun wq hq => Ev.ldAA rfl rfl Try.underlying5 rfl (((hA.ext hE71).ext hq).cells) ((show (mc4 _)[i * 4 + j * 1]? = some (.int .u8 ((swp M i row) i j : Int)) by rw [mc4_at _ (by omega) (by omega), e1]))) ?_
              refine AG.takeW 7 rfl (by kernel_rfl) (by kernel_rfl) rfl rfl rfl (fun _ => Ev.move rfl rfl) ?_
              refine AG.takeW 9 rfl (by kernel_rfl) (by kernel_rfl) rfl rfl rfl (fun _ => Ev.idxA rfl rfl rfl Try.underlying88 sz_57 (by omega)) ?_
              refine AG.only 8 rfl (by kernel_rfl) ?_
              refine RG.call rfl rfl rfl rfl rfl rfl rfl en_46 (rmul_ret _ _ _ (by exact h1) (by exact hgi)) ?_
              rintro _ w73 ⟨rfl, hx73⟩
              replace hxwl68 := Ex.tr hxwl68 hx73
              replace hE71 := Ex.tr hE71 hx73
              have hE74 := hx73
              refine RG.done ?_
              refine QW.an (fun _ => hE74) ?_
              refine AG.takeW 10 rfl (by kernel_rfl) (by kernel_rfl) rfl rfl rfl (fun _ => Ev.idxA rfl rfl rfl Try.underlying57 sz_5 (by omega)) ?_
              refine AG.only 11 rfl (by kernel_rfl) ?_
              refine RG.st2 (g := gA) rfl rfl rfl rfl rfl sz_5 rfl (hA.ext hE71) (by rw [mc4_len, Nat.blt_eq]; omega) (fun ws76 hwws76 hbws76 => ?_)
              replace hBb := Blk.far (hBb.ext hE71) hwws76 (by omega)
              replace ho7 := Own.far (Own.ext ho7 hE71) hwws76 hsb21
              replace hxwl68 := Wr.below hxwl68 hwws76 hle23
              rw [mc4_set _ _ (by omega), scTo_more] at hbws76
              refine RG.done ?_
              refine QW.an (fun h => by simp at h) ?_
              refine AG.done (by kernel_rfl) ?_
              refine QW.sub (S' := [(1, _), (6, _), (7, _), (10, _), (11, _), (16, _), (18, _), (19, _)]) ⟨rfl, rfl, rfl, rfl, rfl, rfl, rfl, rfl, trivial⟩ ?_
              refine QW.blockN ?_
              refine QW.then_ ?_
              refine CW.region ?_
              refine RG.vl rfl rfl rfl (Ev.move rfl rfl) ?_
              refine RG.vl rfl rfl rfl (Ev.addI rfl rfl rfl (by omega)) ?_
              refine RG.vl rfl rfl rfl (Ev.assign rfl rfl) ?_
              refine RG.done ?_
              refine QW.round1 (j + 1) ⟨rfl, trivial⟩ ⟨rfl, rfl, rfl, rfl, rfl, rfl, rfl, trivial⟩ ⟨⟨by omega, hbws76, hBb, ho7⟩, (Ex.tr hB0 hxwl68)⟩ (by omega)
            · refine CW.exit ?_
              refine QW.thenExit ?_
              refine QW.thenExit ?_
              refine QW.blockHit ?_
              refine QW.then_ ?_
              refine CW.seq ?_
              obtain rfl : j = P.length := by omega
              have h1 := hgs.el.swp (show i < 4 by omega) hr4 i 4 (by omega) (by omega)
              have h2 := gm_lt ((swp M i row) i 4) (gi (M row i))
              refine CW.region ?_
              refine RG.vl rfl rfl rfl (Ev.move rfl rfl) ?_
              refine RG.vl rfl rfl rfl (Ev.move rfl rfl) ?_
              refine RG.vl rfl rfl rfl (Ev.idxA rfl rfl rfl Try.underlying57 sz_5 (by omega)) ?_
              refine RG.vl rfl rfl rfl (Ev.ldAt rfl rfl Try.underlying5 rfl (hBb.cells) ((show (bc4 (swp M i row))[i * 1]? = some (.int .u8 ((swp M i row) i 4 : Int)) by rw [bc4_at _ (by omega)]))) ?_
              refine RG.vl rfl rfl rfl (Ev.move rfl rfl) ?_
              refine RG.call rfl rfl rfl rfl rfl rfl rfl en_46 (rmul_ret _ _ _ (by exact h1) (by exact hgi)) ?_
              rintro _ w77 ⟨rfl, hx77⟩
              replace hxwl68 := Ex.tr hxwl68 hx77
              have hE78 := hx77
              refine RG.vl rfl rfl rfl (Ev.idxA rfl rfl rfl Try.underlying57 sz_5 (by omega)) ?_
              refine RG.st (g := gB) (k := _) rfl rfl rfl rfl rfl sz_5 rfl (hBb.ext hE78) (by rw [bc4_len, Nat.blt_eq]; omega) (fun ws79 hwws79 hbws79 => ?_)
              replace hA := Blk.far (hA.ext hE78) hwws79 (by omega)
              replace ho7 := Own.far (Own.ext ho7 hE78) hwws79 hsb28
              replace hxwl68 := Wr.below hxwl68 hwws79 hle30
              rw [bc4_set _ _, piv_b] at hbws79
              rw [sc_end hzr (by omega) hri] at hA
              refine RG.done ?_
              refine QW.then_ ?_
              refine CW.seq ?_
              have hgr0 := gs_piv hgs h4 (by omega) hrow hr4 h0
              have hzr0 := zr_piv hzr (show i < P.length by omega) hri
              refine CW.region ?_
              refine RG.vl rfl rfl rfl (Ev.assign rfl rfl) ?_
              refine RG.done ?_
              refine QW.then_ ?_
              refine CW.block ?_
              refine CW.loop2 [(1, _), (6, _), (7, _), (10, _), (11, _), (16, _)] ⟨rfl, rfl, rfl, rfl, rfl, rfl, trivial⟩ (fun (row2 : Nat) (M4 : Mx) => [(20, .int .i64 (row2 : Int))]) (fun row2 M4 w' => (row2 ≤ P.length ∧ Gr (rM l.length P (syL (zerL l P P.length)) P.length 0) P.length M4 i row2 ∧ Zr P.length M4 ∧ Blk w' gA 88 (mc4 M4) ∧ Blk w' gB 57 (bc4 M4) ∧ Own w' w.heap.size 5 1 encN v7 (zerL l P P.length)) ∧ Ex w w') (fun row2 M4 => P.length - row2) (0) (pivM M i row) ⟨rfl, trivial⟩ ⟨⟨Nat.zero_le _, hgr0, hzr0, hA, hbws79, ho7⟩, (Ex.tr hB0 hxwl68)⟩ ?_
              rintro row2 M4 wl80 ⟨⟨hrow2, hgr, hgr_z, hA, hBb, ho7⟩, hxwl80⟩
              refine CW.sub (S' := [(20, _), (1, _), (6, _), (7, _), (10, _), (11, _), (16, _)]) ⟨rfl, rfl, rfl, rfl, rfl, rfl, rfl, trivial⟩ ?_
              refine CW.seq ?_
              refine CW.seq ?_
              refine CW.region ?_
              refine RG.vl rfl rfl rfl (Ev.move rfl rfl) ?_
              refine RG.vl rfl rfl rfl (Ev.move rfl rfl) ?_
              refine RG.vl rfl rfl rfl (Ev.lss rfl rfl rfl) ?_
              refine RG.done ?_
              refine QW.then_ ?_
              refine CW.condP rfl (fun hc81 => ?_) (fun hc81 => ?_)
              · refine CW.skip ?_
                refine QW.then_ ?_
                refine CW.seq ?_
                refine CW.block ?_
                refine CW.seq ?_
                refine CW.region ?_
                refine RG.vl rfl rfl rfl (Ev.move rfl rfl) ?_
                refine RG.vl rfl rfl rfl (Ev.move rfl rfl) ?_
                refine RG.vl rfl rfl rfl (Ev.neI rfl rfl rfl) ?_
                refine RG.done ?_
                refine QW.then_ ?_
                refine CW.condP rfl (fun hc82 => ?_) (fun hc82 => ?_)
                · refine CW.seq ?_
                  have hm64 := hgr.el row2 i (by omega) (by omega)
                  refine CW.region ?_
                  refine RG.vl rfl rfl rfl (Ev.move rfl rfl) ?_
                  refine RG.vl rfl rfl rfl (Ev.move rfl rfl) ?_
                  refine RG.vl rfl rfl rfl (Ev.idxA rfl rfl rfl Try.underlying88 sz_57 (by omega)) ?_
                  refine RG.vl rfl rfl rfl (Ev.idxA rfl rfl rfl Try.underlying57 sz_5 (by omega)) ?_
                  refine RG.vl rfl rfl rfl (Ev.ldAA rfl rfl Try.underlying5 rfl (hA.cells) ((show (mc4 M4)[row2 * 4 + i * 1]? = some (.int .u8 (M4 row2 i : Int)) by rw [mc4_at _ (by omega) (by omega)]))) ?_
                  refine RG.vl rfl rfl rfl (Ev.assign rfl rfl) ?_
                  refine RG.done ?_
                  refine QW.then_ ?_
                  refine CW.seq ?_
                  refine CW.seq ?_
                  refine CW.region ?_
                  refine RG.vl rfl rfl rfl (Ev.assign rfl rfl) ?_
                  refine RG.done ?_
                  refine QW.then_ ?_
                  refine CW.block ?_
                  refine CW.loop1 [(1, _), (6, _), (7, _), (10, _), (11, _), (16, _), (20, _), (21, _)] ⟨rfl, rfl, rfl, rfl, rfl, rfl, rfl, rfl, trivial⟩ (fun (j : Nat) => [(22, .int .i64 (j : Int))]) (fun j w' => (j ≤ P.length ∧ Blk w' gA 88 (mc4 (subTo M4 row2 i (M4 row2 i) j)) ∧ Blk w' gB 57 (bc4 M4) ∧ Own w' w.heap.size 5 1 encN v7 (zerL l P P.length)) ∧ Ex w w') (fun j => P.length - j) (0) ⟨rfl, trivial⟩ ⟨⟨Nat.zero_le _, by rw [subTo_zero]; exact hA, hBb, ho7⟩, (Ex.tr hB0 hxwl80)⟩ ?_
                  rintro j wl83 ⟨⟨hj, hA, hBb, ho7⟩, hxwl83⟩
                  refine CW.sub (S' := [(22, _), (1, _), (6, _), (7, _), (10, _), (11, _), (16, _), (20, _), (21, _)]) ⟨rfl, rfl, rfl, rfl, rfl, rfl, rfl, rfl, rfl, trivial⟩ ?_
                  refine CW.seq ?_
                  refine CW.seq ?_
                  refine CW.region ?_
                  refine RG.vl rfl rfl rfl (Ev.move rfl rfl) ?_
                  refine RG.vl rfl rfl rfl (Ev.move rfl rfl) ?_
                  refine RG.vl rfl rfl rfl (Ev.lss rfl rfl rfl) ?_
                  refine RG.done ?_
                  refine QW.then_ ?_
                  refine CW.condP rfl (fun hc84 => ?_) (fun hc84 => ?_)
                  · refine CW.skip ?_
                    refine QW.then_ ?_
                    refine CW.seq ?_
                    refine CW.block ?_
                    have e1 : subTo M4 row2 i (M4 row2 i) j i j = M4 i j := by unfold subTo; rw [if_neg (by omega)]
                    have e2 : subTo M4 row2 i (M4 row2 i) j row2 j = M4 row2 j := by unfold subTo; rw [if_neg (by omega)]
                    have h1 := hgr.el i j (by omega) (by omega)
                    have h2 := hgr.el row2 j (by omega) (by omega)
                    have h3 := gm_lt (M4 row2 i) (M4 i j)
                    have h5 := xor_lt64 _ _ h2 h3
                    refine CW.draw [17] (.ex) 18 rfl mixed (fun wd85 hxwd85 => ?_)
                    replace hxwl83 := Ex.tr hxwl83 hxwd85
                    have hE86 := hxwd85
                    refine AG.takeW 0 rfl (by kernel_rfl) (by kernel_rfl) rfl rfl rfl (fun _ => Ev.move rfl rfl) ?_
                    refine AG.takeW 1 rfl (by kernel_rfl) (by kernel_rfl) rfl rfl rfl (fun _ => Ev.move rfl rfl) ?_
                    refine AG.takeW 2 rfl (by kernel_rfl) (by kernel_rfl) rfl rfl rfl (fun _ => Ev.move rfl rfl) ?_
                    refine AG.takeW 3 rfl (by kernel_rfl) (by kernel_rfl) rfl rfl rfl (fun _ => Ev.move rfl rfl) ?_
                    refine AG.takeW 4 rfl (by kernel_rfl) (by kernel_rfl) rfl rfl rfl (fun _ => Ev.idxA rfl rfl rfl Try.underlying88 sz_57 (by omega)) ?_
                    refine AG.takeW 5 rfl (by kernel_rfl) (by kernel_rfl) rfl rfl rfl (fun _ => Ev.idxA rfl rfl rfl Try.underlying57 sz_5 (by omega)) ?_
                    refine AG.take 6 rfl (by kernel_rfl) (by kernel_rfl) rfl rfl rfl (fun wq hq => Ev.ldAA rfl rfl Try.underlying5 rfl (((hA.ext hE86).ext hq).cells) ((show (mc4 _)[row2 * 4 + j * 1]? = some (.int .u8 (M4 row2 j : Int)) by rw [mc4_at _ (by omega) (by omega), e2]))) ?_
                    refine AG.takeW 7 rfl (by kernel_rfl) (by kernel_rfl) rfl rfl rfl (fun _ => Ev.move rfl rfl) ?_
                    refine AG.takeW 8 rfl (by kernel_rfl) (by kernel_rfl) rfl rfl rfl (fun _ => Ev.move rfl rfl) ?_
                    refine AG.takeW 9 rfl (by kernel_rfl) (by kernel_rfl) rfl rfl rfl (fun _ => Ev.move rfl rfl) ?_
                    refine AG.takeW 10 rfl (by kernel_rfl) (by kernel_rfl) rfl rfl rfl (fun _ => Ev.idxA rfl rfl rfl Try.underlying88 sz_57 (by omega)) ?_
                    refine AG.takeW 11 rfl (by kernel_rfl) (by kernel_rfl) rfl rfl rfl (fun _ => Ev.idxA rfl rfl rfl Try.underlying57 sz_5 (by omega)) ?_
                    refine AG.take 12 rfl (by kernel_rfl) (by kernel_rfl) rfl rfl rfl (fun wq hq => Ev.ldAA rfl rfl Try.underlying5 rfl (((hA.ext hE86).ext hq).cells) ((show (mc4 _)[i * 4 + j * 1]? = some (.int .u8 (M4 i j : Int)) by rw [mc4_at _ (by omega) (by omega), e1]))) ?_
                    refine AG.takeW 15 rfl (by kernel_rfl) (by kernel_rfl) rfl rfl rfl (fun _ => Ev.idxA rfl rfl rfl Try.underlying88 sz_57 (by omega)) ?_
                    refine AG.only 13 rfl (by kernel_rfl) ?_
                    refine RG.call rfl rfl rfl rfl rfl rfl rfl en_46 (rmul_ret _ _ _ (by exact hm64) (by exact h1)) ?_
                    rintro _ w88 ⟨rfl, hx88⟩
                    replace hxwl83 := Ex.tr hxwl83 hx88
                    replace hE86 := Ex.tr hE86 hx88
                    have hE89 := hx88
                    refine RG.done ?_
                    refine QW.an (fun _ => hE89) ?_
                    refine AG.takeW 14 rfl (by kernel_rfl) (by kernel_rfl) rfl rfl rfl (fun _ => Ev.xor8 rfl rfl rfl (by omega) (by omega)) ?_
                    refine AG.takeW 16 rfl (by kernel_rfl) (by kernel_rfl) rfl rfl rfl (fun _ => Ev.idxA rfl rfl rfl Try.underlying57 sz_5 (by omega)) ?_
                    refine AG.only 17 rfl (by kernel_rfl) ?_
                    refine RG.st2 (g := gA) rfl rfl rfl rfl rfl sz_5 rfl (hA.ext hE86) (by rw [mc4_len, Nat.blt_eq]; omega) (fun ws91 hwws91 hbws91 => ?_)
                    replace hBb := Blk.far (hBb.ext hE86) hwws91 (by omega)
                    replace ho7 := Own.far (Own.ext ho7 hE86) hwws91 hsb21
                    replace hxwl83 := Wr.below hxwl83 hwws91 hle23
                    rw [mc4_set _ _ (by omega), subTo_more] at hbws91
                    refine RG.done ?_
                    refine QW.an (fun h => by simp at h) ?_
                    refine AG.done (by kernel_rfl) ?_
                    refine QW.sub (S' := [(1, _), (6, _), (7, _), (10, _), (11, _), (16, _), (20, _), (21, _), (22, _)]) ⟨rfl, rfl, rfl, rfl, rfl, rfl, rfl, rfl, rfl, trivial⟩ ?_
                    refine QW.blockN ?_
                    refine QW.then_ ?_
                    refine CW.region ?_
                    refine RG.vl rfl rfl rfl (Ev.move rfl rfl) ?_
                    refine RG.vl rfl rfl rfl (Ev.addI rfl rfl rfl (by omega)) ?_
                    refine RG.vl rfl rfl rfl (Ev.assign rfl rfl) ?_
                    refine RG.done ?_
                    refine QW.round1 (j + 1) ⟨rfl, trivial⟩ ⟨rfl, rfl, rfl, rfl, rfl, rfl, rfl, rfl, trivial⟩ ⟨⟨by omega, hbws91, hBb, ho7⟩, (Ex.tr hB0 hxwl83)⟩ (by omega)
                  · refine CW.exit ?_
                    refine QW.thenExit ?_
                    refine QW.thenExit ?_
                    refine QW.blockHit ?_
                    refine QW.then_ ?_
                    obtain rfl : j = P.length := by omega
                    have h1 := hgr.el i 4 (by omega) (by omega)
                    have h2 := hgr.el row2 4 (by omega) (by omega)
                    have h3 := gm_lt (M4 row2 i) (M4 i 4)
                    have h5 := xor_lt64 _ _ h2 h3
                    refine CW.draw [11] (.ex) 12 rfl mixed (fun wd92 hxwd92 => ?_)
                    replace hxwl83 := Ex.tr hxwl83 hxwd92
                    have hE93 := hxwd92
                    refine AG.takeW 0 rfl (by kernel_rfl) (by kernel_rfl) rfl rfl rfl (fun _ => Ev.move rfl rfl) ?_
                    refine AG.takeW 1 rfl (by kernel_rfl) (by kernel_rfl) rfl rfl rfl (fun _ => Ev.move rfl rfl) ?_
                    refine AG.takeW 2 rfl (by kernel_rfl) (by kernel_rfl) rfl rfl rfl (fun _ => Ev.idxA rfl rfl rfl Try.underlying57 sz_5 (by omega)) ?_
                    refine AG.take 3 rfl (by kernel_rfl) (by kernel_rfl) rfl rfl rfl (fun wq hq => Ev.ldAt rfl rfl Try.underlying5 rfl (((hBb.ext hE93).ext hq).cells) ((show (bc4 M4)[row2 * 1]? = some (.int .u8 (M4 row2 4 : Int)) by rw [bc4_at _ (by omega)]))) ?_
                    refine AG.takeW 4 rfl (by kernel_rfl) (by kernel_rfl) rfl rfl rfl (fun _ => Ev.move rfl rfl) ?_
                    refine AG.takeW 5 rfl (by kernel_rfl) (by kernel_rfl) rfl rfl rfl (fun _ => Ev.move rfl rfl) ?_
                    refine AG.takeW 6 rfl (by kernel_rfl) (by kernel_rfl) rfl rfl rfl (fun _ => Ev.idxA rfl rfl rfl Try.underlying57 sz_5 (by omega)) ?_
                    refine AG.take 7 rfl (by kernel_rfl) (by kernel_rfl) rfl rfl rfl (fun wq hq => Ev.ldAt rfl rfl Try.underlying5 rfl (((hBb.ext hE93).ext hq).cells) ((show (bc4 M4)[i * 1]? = some (.int .u8 (M4 i 4 : Int)) by rw [bc4_at _ (by omega)]))) ?_
                    refine AG.only 8 rfl (by kernel_rfl) ?_
                    refine RG.call rfl rfl rfl rfl rfl rfl rfl en_46 (rmul_ret _ _ _ (by exact hm64) (by exact h1)) ?_
                    rintro _ w95 ⟨rfl, hx95⟩
                    replace hxwl83 := Ex.tr hxwl83 hx95
                    replace hE93 := Ex.tr hE93 hx95
                    have hE96 := hx95
                    refine RG.done ?_
                    refine QW.an (fun _ => hE96) ?_
                    refine AG.takeW 9 rfl (by kernel_rfl) (by kernel_rfl) rfl rfl rfl (fun _ => Ev.xor8 rfl rfl rfl (by omega) (by omega)) ?_
                    refine AG.takeW 10 rfl (by kernel_rfl) (by kernel_rfl) rfl rfl rfl (fun _ => Ev.idxA rfl rfl rfl Try.underlying57 sz_5 (by omega)) ?_
                    refine AG.only 11 rfl (by kernel_rfl) ?_
                    refine RG.st (g := gB) (k := _) rfl rfl rfl rfl rfl sz_5 rfl (hBb.ext hE93) (by rw [bc4_len, Nat.blt_eq]; omega) (fun ws98 hwws98 hbws98 => ?_)
                    replace hA := Blk.far (hA.ext hE93) hwws98 (by omega)
                    replace ho7 := Own.far (Own.ext ho7 hE93) hwws98 hsb28
                    replace hxwl83 := Wr.below hxwl83 hwws98 hle30
                    rw [bc4_set _ _, sub_b0] at hbws98
                    rw [sub_end hgr_z (by omega) h4] at hA
                    refine RG.done ?_
                    refine QW.an (fun h => by simp at h) ?_
                    refine AG.done (by kernel_rfl) ?_
                    refine QW.sub (S' := [(1, _), (6, _), (7, _), (10, _), (11, _), (16, _), (20, _)]) ⟨rfl, rfl, rfl, rfl, rfl, rfl, rfl, trivial⟩ ?_
                    refine QW.blockN ?_
                    refine QW.then_ ?_
                    refine CW.region ?_
                    refine RG.vl rfl rfl rfl (Ev.move rfl rfl) ?_
                    refine RG.vl rfl rfl rfl (Ev.addI rfl rfl rfl (by omega)) ?_
                    refine RG.vl rfl rfl rfl (Ev.assign rfl rfl) ?_
                    refine RG.done ?_
                    refine QW.round2 (row2 + 1) (subTo M4 row2 i (M4 row2 i) 5) ⟨rfl, trivial⟩ ⟨rfl, rfl, rfl, rfl, rfl, rfl, trivial⟩ ⟨⟨by omega, gr_sub hgr h4 (by omega) (by omega) (by omega), zr_sub hgr_z (by omega) (by omega), hA, hbws98, ho7⟩, (Ex.tr hB0 hxwl83)⟩ (by omega)
                · refine CW.skip ?_
                  refine QW.blockN ?_
                  refine QW.then_ ?_
                  refine CW.region ?_
                  refine RG.vl rfl rfl rfl (Ev.move rfl rfl) ?_
                  refine RG.vl rfl rfl rfl (Ev.addI rfl rfl rfl (by omega)) ?_
                  refine RG.vl rfl rfl rfl (Ev.assign rfl rfl) ?_
                  refine RG.done ?_
                  refine QW.round2 (row2 + 1) (M4) ⟨rfl, trivial⟩ ⟨rfl, rfl, rfl, rfl, rfl, rfl, trivial⟩ ⟨⟨by omega, gr_skip hgr (.inl (by omega)), hgr_z, hA, hBb, ho7⟩, (Ex.tr hB0 hxwl80)⟩ (by omega)
              · refine CW.exit ?_
                refine QW.thenExit ?_
                refine QW.thenExit ?_
                refine QW.blockHit ?_
                refine QW.blockN ?_
                refine QW.then_ ?_
                refine CW.region ?_
                refine RG.vl rfl rfl rfl (Ev.move rfl rfl) ?_
                refine RG.vl rfl rfl rfl (Ev.addI rfl rfl rfl (by omega)) ?_
                refine RG.vl rfl rfl rfl (Ev.assign rfl rfl) ?_
                refine RG.done ?_
                refine QW.round2 (i + 1) (M4) ⟨rfl, trivial⟩ ⟨rfl, rfl, rfl, rfl, rfl, trivial⟩ ⟨⟨by omega, (by obtain rfl : row2 = P.length := (by omega); exact gr_tail hgr_z (by omega) h4 hgr), hgr_z, hA, hBb, ho7⟩, (Ex.tr hB0 hxwl80)⟩ (by omega)
        · refine RG.pass rfl rfl rfl ?_
          refine RG.pass rfl rfl rfl ?_
          refine RG.pass rfl rfl rfl ?_
          refine RG.pass rfl rfl rfl ?_
          refine RG.pass rfl rfl rfl ?_
          refine RG.pass rfl rfl rfl ?_
          refine RG.vl rfl rfl rfl (Ev.pickF rfl rfl rfl) ?_
          refine RG.done ?_
          refine QW.then_ ?_
          refine CW.condF rfl ?_
          refine CW.exit ?_
          refine QW.thenExit ?_
          refine QW.thenExit ?_
          refine QW.blockHit ?_
          refine QW.then_ ?_
          refine CW.seq ?_
          refine CW.seq ?_
          refine CW.region ?_
          refine RG.vl rfl rfl rfl (Ev.move rfl rfl) ?_
          refine RG.vl rfl rfl rfl (Ev.move rfl rfl) ?_
          refine RG.vl rfl rfl rfl (Ev.isT (Ev.eqI rfl rfl rfl) (by omega)) ?_
          refine RG.done ?_
          refine QW.sub (S' := [(1, _), (6, _), (7, _), (10, _), (11, _), (16, _), (17, _), (97, _)]) ⟨rfl, rfl, rfl, rfl, rfl, rfl, rfl, rfl, trivial⟩ ?_
          refine QW.then_ ?_
          refine CW.condT rfl ?_
          refine CW.seq ?_
          refine CW.region ?_
          refine RG.vl rfl rfl rfl (Ev.assign rfl rfl) ?_
          refine RG.vl rfl rfl rfl (Ev.assign rfl rfl) ?_
          refine RG.done ?_
          refine QW.then_ ?_
          refine CW.ret ?_
          refine QW.thenRet ?_
          refine QW.blockR ?_
          refine QW.thenRet ?_
          refine QW.thenRet ?_
          refine QW.blockR ?_
          refine QW.thenRet ?_
          refine QW.ret2 rfl rfl rfl ?_
          have hB := (Ex.tr hB0 hxwl51)
          exact ⟨_, false, [], rfl, Own.nil_ _ _ _ _ _, (fun h => by cases h), fun _ => fil_none hle hw2 hd h4 hp hgs hzr (by omega) (fun r h1 h2 => hz r h1 (by omega)), hB⟩
      · refine CW.exit ?_
        refine QW.thenExit ?_
        refine QW.thenExit ?_
        refine QW.blockHit ?_
        refine QW.then_ ?_
        refine CW.seq ?_
        refine CW.seq ?_
        obtain rfl : i = P.length := by omega
        refine CW.region ?_
        refine RG.vl rfl rfl rfl (Ev.assign rfl rfl) ?_
        refine RG.done ?_
        refine QW.then_ ?_
        refine CW.block ?_
        refine CW.loop1 [(1, _), (6, _), (7, _), (11, _)] ⟨rfl, rfl, rfl, rfl, trivial⟩ (fun (i2 : Nat) => [(23, .int .i64 (i2 : Int))]) (fun i2 w' => (i2 ≤ P.length ∧ Blk w' gA 88 (mc4 M) ∧ Blk w' gB 57 (bc4 M) ∧ Own w' w.heap.size 5 1 encN v7 (putL (zerL l P P.length) P M i2)) ∧ Ex w w') (fun i2 => P.length - i2) (0) ⟨rfl, trivial⟩ ⟨⟨Nat.zero_le _, hA, hBb, ho7⟩, (Ex.tr hB0 hxwl49)⟩ ?_
        rintro i2 wl99 ⟨⟨hi2, hA, hBb, ho7⟩, hxwl99⟩
        refine CW.sub (S' := [(23, _), (1, _), (6, _), (7, _), (11, _)]) ⟨rfl, rfl, rfl, rfl, rfl, trivial⟩ ?_
        refine CW.seq ?_
        refine CW.seq ?_
        refine CW.region ?_
        refine RG.vl rfl rfl rfl (Ev.move rfl rfl) ?_
        refine RG.vl rfl rfl rfl (Ev.move rfl rfl) ?_
        refine RG.vl rfl rfl rfl (Ev.lss rfl rfl rfl) ?_
        refine RG.done ?_
        refine QW.then_ ?_
        refine CW.condP rfl (fun hc100 => ?_) (fun hc100 => ?_)
        · refine CW.skip ?_
          refine QW.then_ ?_
          refine CW.seq ?_
          refine CW.block ?_
          have hpi := hp _ (List.mem_of_getElem? (getElem?_cf (p := P) (k := i2) (by omega)))
          have hpl := putL_len (zerL l P P.length) P M i2
          have hM4 := hgs.el i2 4 (by omega) (by omega)
          refine CW.draw [9] (.ex) 10 rfl mixed (fun wd101 hxwd101 => ?_)
          replace hxwl99 := Ex.tr hxwl99 hxwd101
          have hE102 := hxwd101
          refine AG.takeW 0 rfl (by kernel_rfl) (by kernel_rfl) rfl rfl rfl (fun _ => Ev.move rfl rfl) ?_
          refine AG.takeW 1 rfl (by kernel_rfl) (by kernel_rfl) rfl rfl rfl (fun _ => Ev.move rfl rfl) ?_
          refine AG.takeW 2 rfl (by kernel_rfl) (by kernel_rfl) rfl rfl rfl (fun _ => Ev.move rfl rfl) ?_
          refine AG.idxL _ 3 rfl (by kernel_rfl) (by kernel_rfl) rfl rfl rfl rfl rfl rfl Try.underlying23 sz_3 ((hm.ext hxwl99)) (getElem?_cf (by omega)) (fun p103 hp103b hp103 => ?_)
          refine AG.take 4 rfl (by kernel_rfl) (by kernel_rfl) rfl rfl rfl (fun wq hq => Ev.ld0 rfl rfl Try.underlying3 rfl (hp103.ext hq hp103b) (rfl)) ?_
          refine AG.takeW 5 rfl (by kernel_rfl) (by kernel_rfl) rfl rfl rfl (fun _ => Ev.move rfl rfl) ?_
          refine AG.takeW 6 rfl (by kernel_rfl) (by kernel_rfl) rfl rfl rfl (fun _ => Ev.idxA rfl rfl rfl Try.underlying57 sz_5 (by omega)) ?_
          refine AG.take 7 rfl (by kernel_rfl) (by kernel_rfl) rfl rfl rfl (fun wq hq => Ev.ldAt rfl rfl Try.underlying5 rfl (((hBb.ext hE102).ext hq).cells) ((show (bc4 M)[i2 * 1]? = some (.int .u8 (M i2 4 : Int)) by rw [bc4_at _ (by omega)]))) ?_
          refine AG.idxO _ 8 rfl (by kernel_rfl) (by kernel_rfl) rfl rfl rfl rfl rfl rfl Try.underlying22 sz_5 encN_len ((Own.ext ho7 hE102)) (getElem?_cf (show cf P i2 < _ by omega)) (fun g105 hg105 hBg105 hp104b hp104 => ?_)
          refine AG.only 9 rfl (by kernel_rfl) ?_
          refine RG.stOw0 (g := g105) (M i2 4) rfl rfl rfl rfl rfl sz_5 rfl (fun _ => rfl) (Own.ext ho7 hE102) hg105 (getElem?_cf (show cf P i2 < _ by omega)) rfl (rfl) (fun ws107 hwws107 hown108 => ?_)
          replace hA := Blk.far (hA.ext hE102) hwws107 (fun e => hsb21 (by rw [e]; exact hg105))
          replace hBb := Blk.far (hBb.ext hE102) hwws107 (fun e => hsb28 (by rw [e]; exact hg105))
          replace hxwl99 := Wr.below hxwl99 hwws107 hBg105
          refine RG.done ?_
          refine QW.an (fun h => by simp at h) ?_
          refine AG.done (by kernel_rfl) ?_
          refine QW.blockN ?_
          refine QW.then_ ?_
          refine CW.region ?_
          refine RG.vl rfl rfl rfl (Ev.move rfl rfl) ?_
          refine RG.vl rfl rfl rfl (Ev.addI rfl rfl rfl (by omega)) ?_
          refine RG.vl rfl rfl rfl (Ev.assign rfl rfl) ?_
          refine RG.done ?_
          refine QW.sub (S' := [(1, _), (6, _), (7, _), (11, _), (23, _)]) ⟨rfl, rfl, rfl, rfl, rfl, trivial⟩ ?_
          refine QW.round1 (i2 + 1) ⟨rfl, trivial⟩ ⟨rfl, rfl, rfl, rfl, trivial⟩ ⟨⟨by omega, hA, hBb, hown108⟩, (Ex.tr hB0 hxwl99)⟩ (by omega)
        · refine CW.exit ?_
          refine QW.thenExit ?_
          refine QW.thenExit ?_
          refine QW.blockHit ?_
          refine QW.then_ ?_
          refine CW.seq ?_
          have hpl := putL_len (zerL l P P.length) P M i2
          refine CW.region ?_
          refine RG.vl rfl rfl rfl (Ev.move rfl rfl) ?_
          refine RG.vl rfl rfl rfl (Ev.move rfl rfl) ?_
          refine RG.call rfl rfl rfl rfl rfl rfl rfl en_28 (rvalid_ret _ _ _ ((ho7.rdl encN_len)) (by omega)) ?_
          rintro _ w109 ⟨rfl, hx109⟩
          replace hxwl99 := Ex.tr hxwl99 hx109
          have hE110 := hx109
          refine RG.vl rfl rfl rfl (Ev.assign rfl rfl) ?_
          refine RG.vl rfl rfl rfl (Ev.assign rfl rfl) ?_
          refine RG.done ?_
          refine QW.then_ ?_
          refine CW.ret ?_
          refine QW.ret2 rfl rfl rfl ?_
          have hB := (Ex.tr hB0 hxwl99)
          obtain rfl : i2 = P.length := by omega
          obtain ⟨hy, hn⟩ := fil_end hle hw1 hw2 hd h4 hp hgs hzr
          exact ⟨_, _, _, rfl, (Own.ext ho7 hE110), hy, hn, hB⟩

end Go.Proofs.Ytjhgihgggofocaa

/- Walks (RO). Written by program. -/
namespace Go.Proofs.Ytjhgihgggofocaa
open Go.RowKit
set_option maxRecDepth 100000 in
set_option maxHeartbeats 1000000 in
theorem rhas_ret (u : Value) (L : List Int) (n : Int) (w : World) (hl : RdL w 1 encI u L) (hlen : L.length ≤ 100000) :
    Ret Try.prog 40 [u, .int .i64 n] w (fun v w' => v = .bool (decide (n ∈ L)) ∧ Ex w w') := by
  have hB0 : Ex w w := Ex.rfl_ _
  refine Ret.of Try.func40 rfl Try.ntmps40 rfl ?_
  refine CW.seq ?_
  refine CW.region ?_
  refine RG.vl rfl rfl rfl (Ev.assign rfl rfl) ?_
  refine RG.done ?_
  refine QW.then_ ?_
  refine CW.seq ?_
  refine CW.seq ?_
  refine CW.region ?_
  refine RG.vl rfl rfl rfl (Ev.assign rfl rfl) ?_
  refine RG.done ?_
  refine QW.then_ ?_
  refine CW.block ?_
  refine CW.loop1 [(0, _), (1, _)] ⟨rfl, rfl, trivial⟩ (fun (i : Nat) => [(5, .int .i64 (i : Int))]) (fun i w' => (i ≤ L.length ∧ ∀ j a, j < i → L[j]? = some a → a ≠ n) ∧ Ex w w') (fun i => L.length - i) (0) ⟨rfl, trivial⟩ ⟨⟨Nat.zero_le _, fun j a h => absurd h (by omega)⟩, hB0⟩ ?_
  rintro i wl1 ⟨⟨hi, hno⟩, hxwl1⟩
  refine CW.sub (S' := [(5, _), (0, _), (1, _)]) ⟨rfl, rfl, rfl, trivial⟩ ?_
  refine CW.seq ?_
  refine CW.seq ?_
  refine CW.region ?_
  refine RG.vl rfl rfl rfl (Ev.move rfl rfl) ?_
  refine RG.vl rfl rfl rfl (Ev.move rfl rfl) ?_
  refine RG.vl rfl rfl rfl (Ev.lenL rfl rfl rfl Try.underlying23 ((hl.ext hxwl1))) ?_
  refine RG.vl rfl rfl rfl (Ev.lss rfl rfl rfl) ?_
  refine RG.done ?_
  refine QW.then_ ?_
  refine CW.condP rfl (fun hc2 => ?_) (fun hc2 => ?_)
  · refine CW.skip ?_
    refine QW.then_ ?_
    refine CW.seq ?_
    refine CW.block ?_
    refine CW.seq ?_
    obtain ⟨x, hx⟩ : ∃ x, L[i]? = some x := ⟨_, List.getElem?_eq_getElem (by omega)⟩
    refine CW.region ?_
    refine RG.vl rfl rfl rfl (Ev.move rfl rfl) ?_
    refine RG.vl rfl rfl rfl (Ev.move rfl rfl) ?_
    refine RG.idxL rfl rfl rfl rfl rfl rfl Try.underlying23 sz_3 ((hl.ext hxwl1)) (hx) (fun p3 hp3b hp3 => ?_)
    refine RG.vl rfl rfl rfl (Ev.ld0 rfl rfl Try.underlying3 rfl (hp3) (rfl)) ?_
    refine RG.vl rfl rfl rfl (Ev.move rfl rfl) ?_
    refine RG.vl rfl rfl rfl (Ev.eqI rfl rfl rfl) ?_
    refine RG.done ?_
    refine QW.then_ ?_
    refine CW.condP rfl (fun hc4 => ?_) (fun hc4 => ?_)
    · refine CW.seq ?_
      refine CW.region ?_
      refine RG.vl rfl rfl rfl (Ev.assign rfl rfl) ?_
      refine RG.done ?_
      refine QW.then_ ?_
      refine CW.ret ?_
      refine QW.blockR ?_
      refine QW.thenRet ?_
      refine QW.thenRet ?_
      refine QW.blockR ?_
      refine QW.thenRet ?_
      refine QW.ret1 rfl rfl ?_
      have hB := (Ex.tr hB0 hxwl1)
      exact ⟨congrArg Value.bool (by rw [eq_comm, decide_eq_true_iff]; have := List.mem_of_getElem? hx; rwa [show x = n by omega] at this), hB⟩
    · refine CW.skip ?_
      refine QW.blockN ?_
      refine QW.then_ ?_
      refine CW.region ?_
      refine RG.vl rfl rfl rfl (Ev.move rfl rfl) ?_
      refine RG.vl rfl rfl rfl (Ev.addI rfl rfl rfl (by omega)) ?_
      refine RG.vl rfl rfl rfl (Ev.assign rfl rfl) ?_
      refine RG.done ?_
      refine QW.round1 (i + 1) ⟨rfl, trivial⟩ ⟨rfl, rfl, trivial⟩ ⟨⟨by omega, fun j a hj ha => by rcases Nat.lt_or_ge j i with h | h; exact hno j a h ha; obtain rfl : j = i := (by omega); rw [hx] at ha; injection ha with ha; omega⟩, (Ex.tr hB0 hxwl1)⟩ (by omega)
  · refine CW.exit ?_
    refine QW.thenExit ?_
    refine QW.thenExit ?_
    refine QW.blockHit ?_
    refine QW.then_ ?_
    refine CW.seq ?_
    refine CW.region ?_
    refine RG.vl rfl rfl rfl (Ev.assign rfl rfl) ?_
    refine RG.done ?_
    refine QW.then_ ?_
    refine CW.ret ?_
    refine QW.ret1 rfl rfl ?_
    have hB := (Ex.tr hB0 hxwl1)
    exact ⟨congrArg Value.bool (by rw [eq_comm, decide_eq_false_iff_not]; intro hm; obtain ⟨j, hj⟩ := List.mem_iff_getElem?.1 hm; exact hno j n (by have := (List.getElem?_eq_some_iff.1 hj).1; omega) hj rfl), hB⟩

set_option maxRecDepth 100000 in
set_option maxHeartbeats 8000000 in
theorem rdecode_ret (u v0 : Value) (l : List Nat) (ei : List Int) (w : World) (hl : RdL w 1 encN u l) (hm : RdL w 1 encI v0 ei) (hlen : l.length ≤ 100000) (hlen2 : ei.length ≤ 100000) :
    Ret Try.prog 18 [u, v0] w (fun v w' => ∃ r x c es e, v = .tuple #[r, x, .int .i64 e] ∧ Own w' w.heap.size 5 1 encN r c ∧ Own w' w.heap.size 3 1 encZ x es ∧ RDec l ei e c es ∧ Ex w w') := by
  obtain ⟨uA, uC, rfl⟩ := hl.shape
  obtain ⟨vA, vC, rfl⟩ := hm.shape
  have hB0 : Ex w w := Ex.rfl_ _
  refine Ret.of Try.func18 rfl Try.ntmps18 rfl ?_
  refine CW.seq ?_
  refine CW.region ?_
  refine RG.vl rfl rfl rfl (Ev.assign rfl rfl) ?_
  refine RG.vl rfl rfl rfl (Ev.assign rfl rfl) ?_
  refine RG.vl rfl rfl rfl (Ev.assign rfl rfl) ?_
  refine RG.done ?_
  refine QW.then_ ?_
  refine CW.seq ?_
  refine CW.seq ?_
  refine CW.region ?_
  refine RG.vl rfl rfl rfl (Ev.move rfl rfl) ?_
  refine RG.call rfl rfl rfl rfl rfl rfl rfl en_26 (rword_ret _ _ _ (hl) (by omega)) ?_
  rintro _ w1 ⟨rfl, hx1⟩
  have hE2 := hx1
  refine RG.vl rfl rfl rfl (Ev.not rfl rfl) ?_
  refine RG.done ?_
  refine QW.then_ ?_
  refine CW.cond rfl (fun hc3 => ?_) (fun hc3 => ?_)
  · refine CW.seq ?_
    refine CW.region ?_
    refine RG.vl rfl rfl rfl (Ev.assign rfl rfl) ?_
    refine RG.vl rfl rfl rfl (Ev.assign rfl rfl) ?_
    refine RG.vl rfl rfl rfl (Ev.assign rfl rfl) ?_
    refine RG.done ?_
    refine QW.then_ ?_
    refine CW.ret ?_
    refine QW.thenRet ?_
    refine QW.ret3 rfl rfl rfl rfl ?_
    have hB := (Ex.tr hB0 hE2)
    exact ⟨_, _, [], [], 2, rfl, Own.nil_ _ _ _ _ _, Own.nil_ _ _ _ _ _, .inl ⟨.inl (by simpa using (by assumption : (!isW l) = true)), rfl, rfl, rfl⟩, hB⟩
  · refine CW.skip ?_
    refine QW.then_ ?_
    refine CW.seq ?_
    refine CW.seq ?_
    have hyes : isW l = true := by simpa using (by assumption : (!isW l) = false)
    obtain ⟨hw1, hw2, hle⟩ := isW_iff.1 hyes
    refine CW.region ?_
    refine RG.vl rfl rfl rfl (Ev.assign rfl rfl) ?_
    refine RG.done ?_
    refine QW.then_ ?_
    refine CW.block ?_
    refine CW.loop1 [(0, _), (1, _)] ⟨rfl, rfl, trivial⟩ (fun (i : Nat) => [(7, .int .i64 (i : Int))]) (fun i w' => (i ≤ ei.length ∧ okE l.length (ei.take i)) ∧ Ex w w') (fun i => ei.length - i) (0) ⟨rfl, trivial⟩ ⟨⟨Nat.zero_le _, by rw [List.take_zero]; exact okE_nil _⟩, (Ex.tr hB0 hE2)⟩ ?_
    rintro i wl4 ⟨⟨hi, hoki⟩, hxwl4⟩
    refine CW.sub (S' := [(7, _), (0, _), (1, _)]) ⟨rfl, rfl, rfl, trivial⟩ ?_
    refine CW.seq ?_
    refine CW.seq ?_
    refine CW.region ?_
    refine RG.vl rfl rfl rfl (Ev.move rfl rfl) ?_
    refine RG.vl rfl rfl rfl (Ev.move rfl rfl) ?_
    refine RG.vl rfl rfl rfl (Ev.lenL rfl rfl rfl Try.underlying23 ((hm.ext hxwl4))) ?_
    refine RG.vl rfl rfl rfl (Ev.lss rfl rfl rfl) ?_
    refine RG.done ?_
    refine QW.then_ ?_
    refine CW.condP rfl (fun hc5 => ?_) (fun hc5 => ?_)
    · refine CW.skip ?_
      refine QW.then_ ?_
      refine CW.seq ?_
      refine CW.block ?_
      refine CW.seq ?_
      obtain ⟨x, hx⟩ : ∃ x, ei[i]? = some x := ⟨_, List.getElem?_eq_getElem (by omega)⟩
      refine CW.draw [] (.ex) 24 rfl mixed (fun wd6 hxwd6 => ?_)
      replace hxwl4 := Ex.tr hxwl4 hxwd6
      have hE7 := hxwd6
      refine AG.takeW 0 rfl (by kernel_rfl) (by kernel_rfl) rfl rfl rfl (fun _ => Ev.move rfl rfl) ?_
      refine AG.takeW 1 rfl (by kernel_rfl) (by kernel_rfl) rfl rfl rfl (fun _ => Ev.move rfl rfl) ?_
      refine AG.idxL _ 2 rfl (by kernel_rfl) (by kernel_rfl) rfl rfl rfl rfl rfl rfl Try.underlying23 sz_3 ((hm.ext hxwl4)) (hx) (fun p8 hp8b hp8 => ?_)
      refine AG.take 3 rfl (by kernel_rfl) (by kernel_rfl) rfl rfl rfl (fun wq hq => Ev.ld0 rfl rfl Try.underlying3 rfl (hp8.ext hq hp8b) (rfl)) ?_
      refine AG.takeW 4 rfl (by kernel_rfl) (by kernel_rfl) rfl rfl rfl (fun _ => Ev.lss rfl rfl rfl) ?_
      refine AG.takeW 5 rfl (by kernel_rfl) (by kernel_rfl) rfl rfl rfl (fun _ => Ev.move rfl rfl) ?_
      refine AG.split (d := 31) rfl (fun hg9 => ?_) (fun hg9 => ?_)
      · refine AG.pass 6 rfl (by kernel_rfl) (by kernel_rfl) rfl rfl rfl ?_
        refine AG.pass 7 rfl (by kernel_rfl) (by kernel_rfl) rfl rfl rfl ?_
        refine AG.pass 8 rfl (by kernel_rfl) (by kernel_rfl) rfl rfl rfl ?_
        refine AG.pass 9 rfl (by kernel_rfl) (by kernel_rfl) rfl rfl rfl ?_
        refine AG.pass 10 rfl (by kernel_rfl) (by kernel_rfl) rfl rfl rfl ?_
        refine AG.pass 11 rfl (by kernel_rfl) (by kernel_rfl) rfl rfl rfl ?_
        refine AG.pass 12 rfl (by kernel_rfl) (by kernel_rfl) rfl rfl rfl ?_
        refine AG.takeW 13 rfl (by kernel_rfl) (by kernel_rfl) rfl rfl rfl (fun _ => Ev.pickT rfl rfl rfl) ?_
        refine AG.takeW 14 rfl (by kernel_rfl) (by kernel_rfl) rfl rfl rfl (fun _ => Ev.move rfl rfl) ?_
        refine AG.pass 15 rfl (by kernel_rfl) (by kernel_rfl) rfl rfl rfl ?_
        refine AG.pass 16 rfl (by kernel_rfl) (by kernel_rfl) rfl rfl rfl ?_
        refine AG.pass 17 rfl (by kernel_rfl) (by kernel_rfl) rfl rfl rfl ?_
        refine AG.pass 18 rfl (by kernel_rfl) (by kernel_rfl) rfl rfl rfl ?_
        refine AG.pass 19 rfl (by kernel_rfl) (by kernel_rfl) rfl rfl rfl ?_
        refine AG.pass 20 rfl (by kernel_rfl) (by kernel_rfl) rfl rfl rfl ?_
        refine AG.pass 21 rfl (by kernel_rfl) (by kernel_rfl) rfl rfl rfl ?_
        refine AG.pass 22 rfl (by kernel_rfl) (by kernel_rfl) rfl rfl rfl ?_
        refine AG.takeW 23 rfl (by kernel_rfl) (by kernel_rfl) rfl rfl rfl (fun _ => Ev.pickT rfl rfl rfl) ?_
        refine AG.done (by kernel_rfl) ?_
        refine QW.sub (S' := [(0, _), (1, _), (7, _), (49, _)]) ⟨rfl, rfl, rfl, rfl, trivial⟩ ?_
        refine QW.then_ ?_
        refine CW.condT rfl ?_
        refine CW.seq ?_
        refine CW.region ?_
        refine RG.vl rfl rfl rfl (Ev.assign rfl rfl) ?_
        refine RG.vl rfl rfl rfl (Ev.assign rfl rfl) ?_
        refine RG.vl rfl rfl rfl (Ev.assign rfl rfl) ?_
        refine RG.done ?_
        refine QW.then_ ?_
        refine CW.ret ?_
        refine QW.blockR ?_
        refine QW.thenRet ?_
        refine QW.thenRet ?_
        refine QW.blockR ?_
        refine QW.thenRet ?_
        refine QW.ret3 rfl rfl rfl rfl ?_
        have hB := (Ex.tr hB0 hxwl4)
        exact ⟨_, _, [], [], 2, rfl, Own.nil_ _ _ _ _ _, Own.nil_ _ _ _ _ _, .inl ⟨.inr (fun hk => by obtain ⟨k1, k2, k3⟩ := okE_at hk hx; first | omega | exact k3 (of_decide_eq_true (by assumption))), rfl, rfl, rfl⟩, hB⟩
      · refine AG.takeW 6 rfl (by kernel_rfl) (by kernel_rfl) rfl rfl rfl (fun _ => Ev.move rfl rfl) ?_
        refine AG.takeW 7 rfl (by kernel_rfl) (by kernel_rfl) rfl rfl rfl (fun _ => Ev.move rfl rfl) ?_
        refine AG.idxL _ 8 rfl (by kernel_rfl) (by kernel_rfl) rfl rfl rfl rfl rfl rfl Try.underlying23 sz_3 ((hm.ext hxwl4)) (hx) (fun p10 hp10b hp10 => ?_)
        refine AG.take 9 rfl (by kernel_rfl) (by kernel_rfl) rfl rfl rfl (fun wq hq => Ev.ld0 rfl rfl Try.underlying3 rfl (hp10.ext hq hp10b) (rfl)) ?_
        refine AG.takeW 10 rfl (by kernel_rfl) (by kernel_rfl) rfl rfl rfl (fun _ => Ev.move rfl rfl) ?_
        refine AG.takeW 11 rfl (by kernel_rfl) (by kernel_rfl) rfl rfl rfl (fun _ => Ev.lenL rfl rfl rfl Try.underlying22 ((hl.ext hxwl4))) ?_
        refine AG.takeW 12 rfl (by kernel_rfl) (by kernel_rfl) rfl rfl rfl (fun _ => Ev.geq rfl rfl rfl) ?_
        refine AG.takeW 13 rfl (by kernel_rfl) (by kernel_rfl) rfl rfl rfl (fun _ => Ev.pickF rfl rfl rfl) ?_
        refine AG.takeW 14 rfl (by kernel_rfl) (by kernel_rfl) rfl rfl rfl (fun _ => Ev.move rfl rfl) ?_
        refine AG.split (d := 40) rfl (fun hg11 => ?_) (fun hg11 => ?_)
        · refine AG.pass 15 rfl (by kernel_rfl) (by kernel_rfl) rfl rfl rfl ?_
          refine AG.pass 16 rfl (by kernel_rfl) (by kernel_rfl) rfl rfl rfl ?_
          refine AG.pass 17 rfl (by kernel_rfl) (by kernel_rfl) rfl rfl rfl ?_
          refine AG.pass 18 rfl (by kernel_rfl) (by kernel_rfl) rfl rfl rfl ?_
          refine AG.pass 19 rfl (by kernel_rfl) (by kernel_rfl) rfl rfl rfl ?_
          refine AG.pass 20 rfl (by kernel_rfl) (by kernel_rfl) rfl rfl rfl ?_
          refine AG.pass 21 rfl (by kernel_rfl) (by kernel_rfl) rfl rfl rfl ?_
          refine AG.pass 22 rfl (by kernel_rfl) (by kernel_rfl) rfl rfl rfl ?_
          refine AG.takeW 23 rfl (by kernel_rfl) (by kernel_rfl) rfl rfl rfl (fun _ => Ev.pickT rfl rfl rfl) ?_
          refine AG.done (by kernel_rfl) ?_
          refine QW.sub (S' := [(0, _), (1, _), (7, _), (49, _)]) ⟨rfl, rfl, rfl, rfl, trivial⟩ ?_
          refine QW.then_ ?_
          refine CW.condT rfl ?_
          refine CW.seq ?_
          refine CW.region ?_
          refine RG.vl rfl rfl rfl (Ev.assign rfl rfl) ?_
          refine RG.vl rfl rfl rfl (Ev.assign rfl rfl) ?_
          refine RG.vl rfl rfl rfl (Ev.assign rfl rfl) ?_
          refine RG.done ?_
          refine QW.then_ ?_
          refine CW.ret ?_
          refine QW.blockR ?_
          refine QW.thenRet ?_
          refine QW.thenRet ?_
          refine QW.blockR ?_
          refine QW.thenRet ?_
          refine QW.ret3 rfl rfl rfl rfl ?_
          have hB := (Ex.tr hB0 hxwl4)
          exact ⟨_, _, [], [], 2, rfl, Own.nil_ _ _ _ _ _, Own.nil_ _ _ _ _ _, .inl ⟨.inr (fun hk => by obtain ⟨k1, k2, k3⟩ := okE_at hk hx; first | omega | exact k3 (of_decide_eq_true (by assumption))), rfl, rfl, rfl⟩, hB⟩
        · refine AG.takeW 15 rfl (by kernel_rfl) (by kernel_rfl) rfl rfl rfl (fun _ => Ev.move rfl rfl) ?_
          refine AG.takeW 16 rfl (by kernel_rfl) (by kernel_rfl) rfl rfl rfl (fun _ => Ev.move rfl rfl) ?_
          refine AG.sliceL (L := 0) (H := i) _ 17 rfl (by kernel_rfl) (by kernel_rfl) rfl rfl rfl rfl rfl Try.underlying23 sz_3 (hm) (.inl ⟨rfl, rfl⟩) (.inr ⟨_, _, _, rfl, rfl, by omega⟩) (by omega) (by omega) (fun v12 hrv12 => ?_)
          rw [List.drop_zero] at hrv12
          have htl : (ei.take i).length = i := by rw [List.length_take]; omega
          refine AG.takeW 18 rfl (by kernel_rfl) (by kernel_rfl) rfl rfl rfl (fun _ => Ev.move rfl rfl) ?_
          refine AG.takeW 19 rfl (by kernel_rfl) (by kernel_rfl) rfl rfl rfl (fun _ => Ev.move rfl rfl) ?_
          refine AG.idxL _ 20 rfl (by kernel_rfl) (by kernel_rfl) rfl rfl rfl rfl rfl rfl Try.underlying23 sz_3 ((hm.ext hxwl4)) (hx) (fun p13 hp13b hp13 => ?_)
          refine AG.take 21 rfl (by kernel_rfl) (by kernel_rfl) rfl rfl rfl (fun wq hq => Ev.ld0 rfl rfl Try.underlying3 rfl (hp13.ext hq hp13b) (rfl)) ?_
          refine AG.only 22 rfl (by kernel_rfl) ?_
          refine RG.call rfl rfl rfl rfl rfl rfl rfl en_40 (rhas_ret _ _ _ _ ((hrv12.ext hxwl4)) (by omega)) ?_
          rintro _ w15 ⟨rfl, hx15⟩
          replace hxwl4 := Ex.tr hxwl4 hx15
          replace hE7 := Ex.tr hE7 hx15
          have hE16 := hx15
          refine RG.done ?_
          refine QW.an (fun _ => hE16) ?_
          refine AG.takeW 23 rfl (by kernel_rfl) (by kernel_rfl) rfl rfl rfl (fun _ => Ev.pickF rfl rfl rfl) ?_
          refine AG.done (by kernel_rfl) ?_
          refine QW.sub (S' := [(0, _), (1, _), (7, _), (49, _)]) ⟨rfl, rfl, rfl, rfl, trivial⟩ ?_
          refine QW.then_ ?_
          refine CW.cond rfl (fun hc17 => ?_) (fun hc17 => ?_)
          · refine CW.seq ?_
            refine CW.region ?_
            refine RG.vl rfl rfl rfl (Ev.assign rfl rfl) ?_
            refine RG.vl rfl rfl rfl (Ev.assign rfl rfl) ?_
            refine RG.vl rfl rfl rfl (Ev.assign rfl rfl) ?_
            refine RG.done ?_
            refine QW.then_ ?_
            refine CW.ret ?_
            refine QW.blockR ?_
            refine QW.thenRet ?_
            refine QW.thenRet ?_
            refine QW.blockR ?_
            refine QW.thenRet ?_
            refine QW.ret3 rfl rfl rfl rfl ?_
            have hB := (Ex.tr hB0 hxwl4)
            exact ⟨_, _, [], [], 2, rfl, Own.nil_ _ _ _ _ _, Own.nil_ _ _ _ _ _, .inl ⟨.inr (fun hk => by obtain ⟨k1, k2, k3⟩ := okE_at hk hx; first | omega | exact k3 (of_decide_eq_true (by assumption))), rfl, rfl, rfl⟩, hB⟩
          · refine CW.skip ?_
            refine QW.blockN ?_
            refine QW.then_ ?_
            refine CW.region ?_
            refine RG.vl rfl rfl rfl (Ev.move rfl rfl) ?_
            refine RG.vl rfl rfl rfl (Ev.addI rfl rfl rfl (by omega)) ?_
            refine RG.vl rfl rfl rfl (Ev.assign rfl rfl) ?_
            refine RG.done ?_
            refine QW.round1 (i + 1) ⟨rfl, trivial⟩ ⟨rfl, rfl, trivial⟩ ⟨⟨by omega, by rw [take_more ei i x hx]; exact okE_snoc hoki (by omega) (by omega) (of_decide_eq_false (by assumption))⟩, (Ex.tr hB0 hxwl4)⟩ (by omega)
    · refine CW.exit ?_
      refine QW.thenExit ?_
      refine QW.thenExit ?_
      refine QW.blockHit ?_
      refine QW.then_ ?_
      refine CW.seq ?_
      refine CW.seq ?_
      have hok : okE l.length ei := by rw [← List.take_of_length_le (l := ei) (i := i) (by omega)]; exact hoki
      obtain ⟨n1, n2, n3, n4⟩ := okE_nat hok
      obtain ⟨er, her⟩ : ∃ er, er = erN ei := ⟨_, rfl⟩
      rw [← her] at n1 n2 n3 n4
      refine CW.region ?_
      refine RG.vl rfl rfl rfl (Ev.move rfl rfl) ?_
      refine RG.vl rfl rfl rfl (Ev.lenL rfl rfl rfl Try.underlying23 ((hm.ext hxwl4))) ?_
      refine RG.vl rfl rfl rfl (Ev.gtr rfl rfl rfl) ?_
      refine RG.done ?_
      refine QW.then_ ?_
      refine CW.condP rfl (fun hc18 => ?_) (fun hc18 => ?_)
      · refine CW.seq ?_
        refine CW.region ?_
        refine RG.vl rfl rfl rfl (Ev.assign rfl rfl) ?_
        refine RG.vl rfl rfl rfl (Ev.assign rfl rfl) ?_
        refine RG.vl rfl rfl rfl (Ev.assign rfl rfl) ?_
        refine RG.done ?_
        refine QW.then_ ?_
        refine CW.ret ?_
        refine QW.thenRet ?_
        refine QW.ret3 rfl rfl rfl rfl ?_
        have hB := (Ex.tr hB0 hxwl4)
        exact ⟨_, _, [], [], 190, rfl, Own.nil_ _ _ _ _ _, Own.nil_ _ _ _ _ _, .inr ⟨hyes, hok, .inl ⟨rfl, rfl, rfl, .inl (by omega)⟩⟩, hB⟩
      · refine CW.skip ?_
        refine QW.then_ ?_
        refine CW.seq ?_
        refine CW.seq ?_
        have hr4 : er.length ≤ 4 := by omega
        have hz := rdl_z hm (fun a ha => (hok.1 a ha).1)
        rw [← her] at hz
        refine CW.region ?_
        refine RG.vl rfl rfl rfl (Ev.move rfl rfl) ?_
        refine RG.vl rfl rfl rfl (Ev.move rfl rfl) ?_
        refine RG.call rfl rfl rfl rfl rfl rfl rfl en_41 (filled_ret _ _ l er _ ((hl.ext hxwl4)) ((hz.ext hxwl4)) hyes n2 hr4 n3) ?_
        have hpre19 := (Ex.tr hB0 hxwl4)
        rintro _ w19 ⟨r19, b19, o19, rfl, hor19, hyes19, hno19, hx19⟩
        replace hxwl4 := Ex.tr hxwl4 hx19
        have hE20 := hx19
        refine RG.vl rfl rfl rfl (Ev.move rfl rfl) ?_
        refine RG.vl rfl rfl rfl (Ev.extract rfl rfl rfl) ?_
        refine RG.vl rfl rfl rfl (Ev.extract rfl rfl rfl) ?_
        refine RG.vl rfl rfl rfl (Ev.assign rfl rfl) ?_
        refine RG.vl rfl rfl rfl (Ev.assign rfl rfl) ?_
        refine RG.done ?_
        refine QW.sub (S' := [(0, _), (1, _), (8, _), (9, _)]) ⟨rfl, rfl, rfl, rfl, trivial⟩ ?_
        refine QW.then_ ?_
        refine CW.seq ?_
        refine CW.region ?_
        refine RG.vl rfl rfl rfl (Ev.move rfl rfl) ?_
        refine RG.done ?_
        refine QW.then_ ?_
        refine CW.cond rfl (fun hc21 => ?_) (fun hc21 => ?_)
        · refine CW.seq ?_
          refine CW.region ?_
          refine RG.vl rfl rfl rfl (Ev.move rfl rfl) ?_
          refine RG.vl rfl rfl rfl (Ev.assign rfl rfl) ?_
          refine RG.vl rfl rfl rfl (Ev.assign rfl rfl) ?_
          refine RG.vl rfl rfl rfl (Ev.assign rfl rfl) ?_
          refine RG.done ?_
          refine QW.then_ ?_
          refine CW.ret ?_
          refine QW.thenRet ?_
          refine QW.ret3 rfl rfl rfl rfl ?_
          have hB := (Ex.tr hB0 hxwl4)
          exact ⟨_, _, o19, [], 0, rfl, hor19.low (by have := hpre19.size; omega), Own.nil_ _ _ _ _ _, .inr ⟨hyes, hok, .inr ⟨rfl, by rw [← her]; exact near_er hr4 (hyes19 (by assumption))⟩⟩, hB⟩
        · refine CW.skip ?_
          refine QW.then_ ?_
          refine CW.seq ?_
          refine CW.seq ?_
          have hno0 : NoR l er := hno19 (by assumption)
          refine CW.region ?_
          refine RG.vl rfl rfl rfl (Ev.assign rfl rfl) ?_
          refine RG.done ?_
          refine QW.then_ ?_
          refine CW.block ?_
          refine CW.loop1 [(0, _), (1, _)] ⟨rfl, rfl, trivial⟩ (fun (p1 : Nat) => [(10, .int .i64 (p1 : Int))]) (fun p1 w' => (p1 ≤ l.length ∧ (er.length ≤ 2 → ∀ a, a < p1 → a ∉ er → NoR l (er ++ [a]))) ∧ Ex w w') (fun p1 => l.length - p1) (0) ⟨rfl, trivial⟩ ⟨⟨Nat.zero_le _, fun _ a h => absurd h (by omega)⟩, (Ex.tr hB0 hxwl4)⟩ ?_
          rintro p1 wl22 ⟨⟨hp1, hone⟩, hxwl22⟩
          refine CW.sub (S' := [(10, _), (0, _), (1, _)]) ⟨rfl, rfl, rfl, trivial⟩ ?_
          refine CW.seq ?_
          refine CW.seq ?_
          refine CW.region ?_
          refine RG.vl rfl rfl rfl (Ev.move rfl rfl) ?_
          refine RG.vl rfl rfl rfl (Ev.move rfl rfl) ?_
          refine RG.vl rfl rfl rfl (Ev.lenL rfl rfl rfl Try.underlying22 ((hl.ext hxwl22))) ?_
          refine RG.vl rfl rfl rfl (Ev.lss rfl rfl rfl) ?_
          refine RG.vl rfl rfl rfl (Ev.move rfl rfl) ?_
          refine RG.split (d := 65) rfl (fun hg23 => ?_) (fun hg23 => ?_)
          · refine RG.vl rfl rfl rfl (Ev.move rfl rfl) ?_
            refine RG.vl rfl rfl rfl (Ev.lenL rfl rfl rfl Try.underlying23 ((hz.ext hxwl22))) ?_
            refine RG.vl rfl rfl rfl (Ev.leq rfl rfl rfl) ?_
            refine RG.vl rfl rfl rfl (Ev.pickT rfl rfl rfl) ?_
            refine RG.done ?_
            refine QW.then_ ?_
            refine CW.condP rfl (fun hc24 => ?_) (fun hc24 => ?_)
            · refine CW.skip ?_
              refine QW.then_ ?_
              refine CW.seq ?_
              refine CW.block ?_
              refine CW.seq ?_
              refine CW.seq ?_
              refine CW.region ?_
              refine RG.vl rfl rfl rfl (Ev.move rfl rfl) ?_
              refine RG.vl rfl rfl rfl (Ev.move rfl rfl) ?_
              refine RG.call rfl rfl rfl rfl rfl rfl rfl en_40 (rhas_ret _ (er.map fun n : Nat => (n : Int)) p1 _ (rdl_i ((hz.ext hxwl22))) (by rw [List.length_map]; omega)) ?_
              rintro _ w25 ⟨rfl, hx25⟩
              replace hxwl22 := Ex.tr hxwl22 hx25
              have hE26 := hx25
              refine RG.done ?_
              refine QW.then_ ?_
              refine CW.cond rfl (fun hc27 => ?_) (fun hc27 => ?_)
              · refine CW.exit ?_
                refine QW.thenExit ?_
                refine QW.blockHit ?_
                refine QW.then_ ?_
                refine CW.region ?_
                refine RG.vl rfl rfl rfl (Ev.move rfl rfl) ?_
                refine RG.vl rfl rfl rfl (Ev.addI rfl rfl rfl (by omega)) ?_
                refine RG.vl rfl rfl rfl (Ev.assign rfl rfl) ?_
                refine RG.done ?_
                refine QW.sub (S' := [(0, _), (1, _), (10, _)]) ⟨rfl, rfl, rfl, trivial⟩ ?_
                refine QW.round1 (p1 + 1) ⟨rfl, trivial⟩ ⟨rfl, rfl, trivial⟩ ⟨⟨by omega, fun h2 a ha hn => by rcases Nat.lt_or_ge a p1 with h | h; exact hone h2 a h hn; obtain rfl : a = p1 := (by omega); exact absurd (mem_nat.1 (of_decide_eq_true (by assumption))) hn⟩, (Ex.tr hB0 hxwl22)⟩ (by omega)
              · refine CW.skip ?_
                refine QW.then_ ?_
                refine CW.seq ?_
                have hnin : p1 ∉ er := fun h => by have h2 := mem_nat.2 h; rw [decide_eq_true h2] at *; contradiction
                have hnd2 : (er ++ [p1]).Nodup := by rw [List.nodup_append]; exact ⟨n2, by simp, fun x hx y hy e => by rw [List.mem_singleton.1 hy] at e; exact hnin (e ▸ hx)⟩
                have hl2 : (er ++ [p1]).length = er.length + 1 := by simp
                have hp2 : ∀ a ∈ er ++ [p1], a < l.length := fun a ha => by rcases List.mem_append.1 ha with h | h; exact n3 a h; rw [List.mem_singleton.1 h]; omega
                refine CW.region ?_
                refine RG.vl rfl rfl rfl (Ev.move rfl rfl) ?_
                refine RG.build0O (enc := encZ) rfl rfl rfl rfl rfl Try.underlying23 sz_3 (fun v28 wk29 hxwk29 hown30 hnew31 => ?_)
                replace hown30 := Own.low (B' := w.heap.size) hown30 (by have := (Ex.tr hB0 hxwl22).size; omega)
                replace hxwl22 := Ex.tr hxwl22 hxwk29
                replace hE26 := Ex.tr hE26 hxwk29
                have hE32 := hxwk29
                refine RG.vl rfl rfl rfl (Ev.move rfl rfl) ?_
                refine RG.appO rfl rfl rfl rfl rfl rfl rfl Try.underlying23 inf_3 rfl rfl encZ_len (fun _ => rfl) hown30 ((hz.ext hxwl22)) (by show 0 + _ ≤ maxLen; simp only [maxLen]; omega) (by show (0 + _) * _ ≤ _; omega) (hxwl22.size) (fun v33 wa34 hown35 hgr36 hat37 => ?_)
                replace hxwl22 := own_block hown30 hxwl22 hgr36 (Nat.le_refl _) hxwl22.size
                rw [List.nil_append] at hown35
                refine RG.vl rfl rfl rfl (Ev.move rfl rfl) ?_
                refine RG.litO (os := [.tmp 80]) (enc := encZ) ([p1]) rfl rfl rfl rfl rfl rfl rfl Try.underlying23 inf_3 rfl rfl rfl rfl rfl encZ_len rfl rfl (fun v38 wk39 hxwk39 hown40 hnew41 => ?_)
                replace hxwl22 := Ex.tr hxwl22 hxwk39
                have hE42 := hxwk39
                refine RG.appO rfl rfl rfl rfl rfl rfl rfl Try.underlying23 inf_3 rfl rfl encZ_len (fun _ => rfl) (Own.ext hown35 hE42) ((hown40.rdl encZ_len)) (by show _ + 1 ≤ maxLen; simp only [maxLen]; omega) (by show (_ + 1) * _ ≤ _; omega) (hxwl22.size) (fun v43 wa44 hown45 hgr46 hat47 => ?_)
                replace hxwl22 := own_block (Own.ext hown35 hE42) hxwl22 hgr46 (Nat.le_refl _) hxwl22.size
                refine RG.call rfl rfl rfl rfl rfl rfl rfl en_41 (filled_ret _ _ l (er ++ [p1]) _ ((hl.ext hxwl22)) ((hown45.rdl encZ_len)) hyes hnd2 (by omega) hp2) ?_
                have hpre48 := (Ex.tr hB0 hxwl22)
                rintro _ w48 ⟨r48, b48, o48, rfl, hor48, hyes48, hno48, hx48⟩
                replace hxwl22 := Ex.tr hxwl22 hx48
                have hE49 := hx48
                refine RG.vl rfl rfl rfl (Ev.move rfl rfl) ?_
                refine RG.vl rfl rfl rfl (Ev.extract rfl rfl rfl) ?_
                refine RG.vl rfl rfl rfl (Ev.extract rfl rfl rfl) ?_
                refine RG.vl rfl rfl rfl (Ev.assign rfl rfl) ?_
                refine RG.vl rfl rfl rfl (Ev.assign rfl rfl) ?_
                refine RG.done ?_
                refine QW.sub (S' := [(0, _), (1, _), (10, _), (11, _), (12, _)]) ⟨rfl, rfl, rfl, rfl, rfl, trivial⟩ ?_
                refine QW.then_ ?_
                refine CW.seq ?_
                refine CW.region ?_
                refine RG.vl rfl rfl rfl (Ev.move rfl rfl) ?_
                refine RG.done ?_
                refine QW.then_ ?_
                refine CW.cond rfl (fun hc50 => ?_) (fun hc50 => ?_)
                · refine CW.seq ?_
                  have hE19 : Ex w w48 := (Ex.tr hB0 hxwl22)
                  refine CW.region ?_
                  refine RG.vl rfl rfl rfl (Ev.move rfl rfl) ?_
                  refine RG.vl rfl rfl rfl (Ev.move rfl rfl) ?_
                  refine RG.litO (os := [.tmp 88]) (enc := encZ) ([p1]) rfl rfl rfl rfl rfl rfl rfl Try.underlying23 inf_3 rfl rfl rfl rfl rfl encZ_len rfl rfl (fun v51 wk52 hxwk52 hown53 hnew54 => ?_)
                  replace hxwl22 := Ex.tr hxwl22 hxwk52
                  replace hE49 := Ex.tr hE49 hxwk52
                  have hE55 := hxwk52
                  refine RG.vl rfl rfl rfl (Ev.assign rfl rfl) ?_
                  refine RG.vl rfl rfl rfl (Ev.assign rfl rfl) ?_
                  refine RG.vl rfl rfl rfl (Ev.assign rfl rfl) ?_
                  refine RG.done ?_
                  refine QW.then_ ?_
                  refine CW.ret ?_
                  refine QW.blockR ?_
                  refine QW.thenRet ?_
                  refine QW.thenRet ?_
                  refine QW.blockR ?_
                  refine QW.thenRet ?_
                  refine QW.ret3 rfl rfl rfl rfl ?_
                  have hB := (Ex.tr hB0 hxwl22)
                  exact ⟨_, _, o48, [p1], 0, rfl, (Own.ext hor48 hE55).low (by have := hpre48.size; omega), Own.low (B' := w.heap.size) hown53 (by have := hE19.size; omega), .inr ⟨hyes, hok, .inr ⟨rfl, by rw [← her]; exact near_one (by omega) (by omega) hnin hno0 (hyes48 (by assumption))⟩⟩, hB⟩
                · refine CW.skip ?_
                  refine QW.blockN ?_
                  refine QW.then_ ?_
                  refine CW.region ?_
                  refine RG.vl rfl rfl rfl (Ev.move rfl rfl) ?_
                  refine RG.vl rfl rfl rfl (Ev.addI rfl rfl rfl (by omega)) ?_
                  refine RG.vl rfl rfl rfl (Ev.assign rfl rfl) ?_
                  refine RG.done ?_
                  refine QW.round1 (p1 + 1) ⟨rfl, trivial⟩ ⟨rfl, rfl, trivial⟩ ⟨⟨by omega, fun h2 a ha hn => by rcases Nat.lt_or_ge a p1 with h | h; exact hone h2 a h hn; obtain rfl : a = p1 := (by omega); exact hno48 (by assumption)⟩, (Ex.tr hB0 hxwl22)⟩ (by omega)
            · refine CW.exit ?_
              refine QW.thenExit ?_
              refine QW.thenExit ?_
              refine QW.blockHit ?_
              refine QW.then_ ?_
              refine CW.seq ?_
              refine CW.seq ?_
              refine CW.region ?_
              refine RG.vl rfl rfl rfl (Ev.assign rfl rfl) ?_
              refine RG.done ?_
              refine QW.then_ ?_
              refine CW.block ?_
              refine CW.loop1 [(0, _), (1, _)] ⟨rfl, rfl, trivial⟩ (fun (p : Nat) => [(13, .int .i64 (p : Int))]) (fun p w' => (p ≤ l.length ∧ (er = [] → ∀ a b, a < p → a < b → b < l.length → NoR l [a, b])) ∧ Ex w w') (fun p => l.length - p) (0) ⟨rfl, trivial⟩ ⟨⟨Nat.zero_le _, fun _ a b h => absurd h (by omega)⟩, (Ex.tr hB0 hxwl22)⟩ ?_
              rintro p wl56 ⟨⟨hp, htwo⟩, hxwl56⟩
              refine CW.sub (S' := [(13, _), (0, _), (1, _)]) ⟨rfl, rfl, rfl, trivial⟩ ?_
              refine CW.seq ?_
              refine CW.seq ?_
              refine CW.region ?_
              refine RG.vl rfl rfl rfl (Ev.move rfl rfl) ?_
              refine RG.vl rfl rfl rfl (Ev.move rfl rfl) ?_
              refine RG.vl rfl rfl rfl (Ev.lenL rfl rfl rfl Try.underlying22 ((hl.ext hxwl56))) ?_
              refine RG.vl rfl rfl rfl (Ev.lss rfl rfl rfl) ?_
              refine RG.vl rfl rfl rfl (Ev.move rfl rfl) ?_
              refine RG.split (d := 94) rfl (fun hg57 => ?_) (fun hg57 => ?_)
              · refine RG.vl rfl rfl rfl (Ev.move rfl rfl) ?_
                refine RG.vl rfl rfl rfl (Ev.lenL rfl rfl rfl Try.underlying23 ((hz.ext hxwl56))) ?_
                refine RG.vl rfl rfl rfl (Ev.eqI rfl rfl rfl) ?_
                refine RG.vl rfl rfl rfl (Ev.pickT rfl rfl rfl) ?_
                refine RG.done ?_
                refine QW.then_ ?_
                refine CW.condP rfl (fun hc58 => ?_) (fun hc58 => ?_)
                · refine CW.skip ?_
                  refine QW.then_ ?_
                  refine CW.seq ?_
                  refine CW.block ?_
                  refine CW.seq ?_
                  refine CW.region ?_
                  refine RG.vl rfl rfl rfl (Ev.move rfl rfl) ?_
                  refine RG.vl rfl rfl rfl (Ev.addI rfl rfl rfl (by omega)) ?_
                  refine RG.vl rfl rfl rfl (Ev.assign rfl rfl) ?_
                  refine RG.done ?_
                  refine QW.then_ ?_
                  refine CW.block ?_
                  refine CW.loop1 [(0, _), (1, _), (13, _)] ⟨rfl, rfl, rfl, trivial⟩ (fun (q : Nat) => [(14, .int .i64 (q : Int))]) (fun q w' => (p < q ∧ q ≤ l.length ∧ ∀ b, p < b → b < q → NoR l [p, b]) ∧ Ex w w') (fun q => l.length - q) (p + 1) ⟨rfl, trivial⟩ ⟨⟨by omega, by omega, fun b h1 h2 => absurd h1 (by omega)⟩, (Ex.tr hB0 hxwl56)⟩ ?_
                  rintro q wl59 ⟨⟨hq1, hq2, hthr⟩, hxwl59⟩
                  refine CW.sub (S' := [(14, _), (0, _), (1, _), (13, _)]) ⟨rfl, rfl, rfl, rfl, trivial⟩ ?_
                  refine CW.seq ?_
                  refine CW.seq ?_
                  refine CW.region ?_
                  refine RG.vl rfl rfl rfl (Ev.move rfl rfl) ?_
                  refine RG.vl rfl rfl rfl (Ev.move rfl rfl) ?_
                  refine RG.vl rfl rfl rfl (Ev.lenL rfl rfl rfl Try.underlying22 ((hl.ext hxwl59))) ?_
                  refine RG.vl rfl rfl rfl (Ev.lss rfl rfl rfl) ?_
                  refine RG.done ?_
                  refine QW.then_ ?_
                  refine CW.condP rfl (fun hc60 => ?_) (fun hc60 => ?_)
                  · refine CW.skip ?_
                    refine QW.then_ ?_
                    refine CW.seq ?_
                    refine CW.block ?_
                    refine CW.seq ?_
                    have he0 : er = [] := List.eq_nil_of_length_eq_zero (by omega)
                    have hpq : [p, q].Nodup := by simp; omega
                    have hpl : ∀ a ∈ [p, q], a < l.length := fun a ha => by simp at ha; omega
                    refine CW.region ?_
                    refine RG.vl rfl rfl rfl (Ev.move rfl rfl) ?_
                    refine RG.vl rfl rfl rfl (Ev.move rfl rfl) ?_
                    refine RG.vl rfl rfl rfl (Ev.move rfl rfl) ?_
                    refine RG.litO (os := [.tmp 111, .tmp 112]) (enc := encZ) ([p, q]) rfl rfl rfl rfl rfl rfl rfl Try.underlying23 inf_3 rfl rfl rfl rfl rfl encZ_len rfl rfl (fun v61 wk62 hxwk62 hown63 hnew64 => ?_)
                    replace hxwl59 := Ex.tr hxwl59 hxwk62
                    have hE65 := hxwk62
                    refine RG.call rfl rfl rfl rfl rfl rfl rfl en_41 (filled_ret _ _ l [p, q] _ ((hl.ext hxwl59)) ((hown63.rdl encZ_len)) hyes hpq (by show 2 ≤ 4; omega) hpl) ?_
                    have hpre66 := (Ex.tr hB0 hxwl59)
                    rintro _ w66 ⟨r66, b66, o66, rfl, hor66, hyes66, hno66, hx66⟩
                    replace hxwl59 := Ex.tr hxwl59 hx66
                    replace hE65 := Ex.tr hE65 hx66
                    have hE67 := hx66
                    refine RG.vl rfl rfl rfl (Ev.move rfl rfl) ?_
                    refine RG.vl rfl rfl rfl (Ev.extract rfl rfl rfl) ?_
                    refine RG.vl rfl rfl rfl (Ev.extract rfl rfl rfl) ?_
                    refine RG.vl rfl rfl rfl (Ev.assign rfl rfl) ?_
                    refine RG.vl rfl rfl rfl (Ev.assign rfl rfl) ?_
                    refine RG.done ?_
                    refine QW.sub (S' := [(0, _), (1, _), (13, _), (14, _), (15, _), (16, _)]) ⟨rfl, rfl, rfl, rfl, rfl, rfl, trivial⟩ ?_
                    refine QW.then_ ?_
                    refine CW.seq ?_
                    refine CW.region ?_
                    refine RG.vl rfl rfl rfl (Ev.move rfl rfl) ?_
                    refine RG.done ?_
                    refine QW.then_ ?_
                    refine CW.cond rfl (fun hc68 => ?_) (fun hc68 => ?_)
                    · refine CW.seq ?_
                      have hE28 : Ex w w66 := (Ex.tr hB0 hxwl59)
                      refine CW.region ?_
                      refine RG.vl rfl rfl rfl (Ev.move rfl rfl) ?_
                      refine RG.vl rfl rfl rfl (Ev.move rfl rfl) ?_
                      refine RG.vl rfl rfl rfl (Ev.move rfl rfl) ?_
                      refine RG.litO (os := [.tmp 119, .tmp 120]) (enc := encZ) ([p, q]) rfl rfl rfl rfl rfl rfl rfl Try.underlying23 inf_3 rfl rfl rfl rfl rfl encZ_len rfl rfl (fun v69 wk70 hxwk70 hown71 hnew72 => ?_)
                      replace hxwl59 := Ex.tr hxwl59 hxwk70
                      replace hE65 := Ex.tr hE65 hxwk70
                      replace hE67 := Ex.tr hE67 hxwk70
                      have hE73 := hxwk70
                      refine RG.vl rfl rfl rfl (Ev.assign rfl rfl) ?_
                      refine RG.vl rfl rfl rfl (Ev.assign rfl rfl) ?_
                      refine RG.vl rfl rfl rfl (Ev.assign rfl rfl) ?_
                      refine RG.done ?_
                      refine QW.then_ ?_
                      refine CW.ret ?_
                      refine QW.blockR ?_
                      refine QW.thenRet ?_
                      refine QW.thenRet ?_
                      refine QW.blockR ?_
                      refine QW.blockR ?_
                      refine QW.thenRet ?_
                      refine QW.thenRet ?_
                      refine QW.blockR ?_
                      refine QW.thenRet ?_
                      refine QW.ret3 rfl rfl rfl rfl ?_
                      have hB := (Ex.tr hB0 hxwl59)
                      exact ⟨_, _, o66, [p, q], 0, rfl, (Own.ext hor66 hE73).low (by have := hpre66.size; omega), Own.low (B' := w.heap.size) hown71 (by have := hE28.size; omega), .inr ⟨hyes, hok, .inr ⟨rfl, by rw [← her, he0]; exact near_two (by omega) (by omega) (fun q hq => by have := hone (by omega) q (by omega) (by rw [he0]; simp); rwa [he0] at this) (hyes66 (by assumption))⟩⟩, hB⟩
                    · refine CW.skip ?_
                      refine QW.blockN ?_
                      refine QW.then_ ?_
                      refine CW.region ?_
                      refine RG.vl rfl rfl rfl (Ev.move rfl rfl) ?_
                      refine RG.vl rfl rfl rfl (Ev.addI rfl rfl rfl (by omega)) ?_
                      refine RG.vl rfl rfl rfl (Ev.assign rfl rfl) ?_
                      refine RG.done ?_
                      refine QW.round1 (q + 1) ⟨rfl, trivial⟩ ⟨rfl, rfl, rfl, trivial⟩ ⟨⟨by omega, by omega, fun b h1 h2 => by rcases Nat.lt_or_ge b q with h | h; exact hthr b h1 h; obtain rfl : b = q := (by omega); exact hno66 (by assumption)⟩, (Ex.tr hB0 hxwl59)⟩ (by omega)
                  · refine CW.exit ?_
                    refine QW.thenExit ?_
                    refine QW.thenExit ?_
                    refine QW.blockHit ?_
                    refine QW.blockN ?_
                    refine QW.then_ ?_
                    refine CW.region ?_
                    refine RG.vl rfl rfl rfl (Ev.move rfl rfl) ?_
                    refine RG.vl rfl rfl rfl (Ev.addI rfl rfl rfl (by omega)) ?_
                    refine RG.vl rfl rfl rfl (Ev.assign rfl rfl) ?_
                    refine RG.done ?_
                    refine QW.round1 (p + 1) ⟨rfl, trivial⟩ ⟨rfl, rfl, trivial⟩ ⟨⟨by omega, fun he a b ha hab hb => by rcases Nat.lt_or_ge a p with h | h; exact htwo he a b h hab hb; obtain rfl : a = p := (by omega); exact hthr b hab (by omega)⟩, (Ex.tr hB0 hxwl59)⟩ (by omega)
                · refine CW.exit ?_
                  refine QW.thenExit ?_
                  refine QW.thenExit ?_
                  refine QW.blockHit ?_
                  refine QW.then_ ?_
                  refine CW.seq ?_
                  refine CW.region ?_
                  refine RG.vl rfl rfl rfl (Ev.assign rfl rfl) ?_
                  refine RG.vl rfl rfl rfl (Ev.assign rfl rfl) ?_
                  refine RG.vl rfl rfl rfl (Ev.assign rfl rfl) ?_
                  refine RG.done ?_
                  refine QW.then_ ?_
                  refine CW.ret ?_
                  refine QW.ret3 rfl rfl rfl rfl ?_
                  have hB := (Ex.tr hB0 hxwl56)
                  exact ⟨_, _, [], [], 190, rfl, Own.nil_ _ _ _ _ _, Own.nil_ _ _ _ _ _, .inr ⟨hyes, hok, .inl ⟨rfl, rfl, rfl, .inr (by rw [← her]; exact far_end hno0 (fun h2 a ha hn => hone h2 a (by omega) hn) (fun he a b hab hb => by have he1 : er.length = 0 := (by rw [he]; rfl); exact htwo he a b (by omega) hab hb))⟩⟩, hB⟩
              · refine RG.pass rfl rfl rfl ?_
                refine RG.pass rfl rfl rfl ?_
                refine RG.pass rfl rfl rfl ?_
                refine RG.vl rfl rfl rfl (Ev.pickF rfl rfl rfl) ?_
                refine RG.done ?_
                refine QW.then_ ?_
                refine CW.condF rfl ?_
                refine CW.exit ?_
                refine QW.thenExit ?_
                refine QW.thenExit ?_
                refine QW.blockHit ?_
                refine QW.then_ ?_
                refine CW.seq ?_
                refine CW.region ?_
                refine RG.vl rfl rfl rfl (Ev.assign rfl rfl) ?_
                refine RG.vl rfl rfl rfl (Ev.assign rfl rfl) ?_
                refine RG.vl rfl rfl rfl (Ev.assign rfl rfl) ?_
                refine RG.done ?_
                refine QW.then_ ?_
                refine CW.ret ?_
                refine QW.ret3 rfl rfl rfl rfl ?_
                have hB := (Ex.tr hB0 hxwl56)
                exact ⟨_, _, [], [], 190, rfl, Own.nil_ _ _ _ _ _, Own.nil_ _ _ _ _ _, .inr ⟨hyes, hok, .inl ⟨rfl, rfl, rfl, .inr (by rw [← her]; exact far_end hno0 (fun h2 a ha hn => hone h2 a (by omega) hn) (fun he a b hab hb => by have he1 : er.length = 0 := (by rw [he]; rfl); exact htwo he a b (by omega) hab hb))⟩⟩, hB⟩
          · refine RG.pass rfl rfl rfl ?_
            refine RG.pass rfl rfl rfl ?_
            refine RG.pass rfl rfl rfl ?_
            refine RG.vl rfl rfl rfl (Ev.pickF rfl rfl rfl) ?_
            refine RG.done ?_
            refine QW.then_ ?_
            refine CW.condF rfl ?_
            refine CW.exit ?_
            refine QW.thenExit ?_
            refine QW.thenExit ?_
            refine QW.blockHit ?_
            refine QW.then_ ?_
            refine CW.seq ?_
            refine CW.seq ?_
            refine CW.region ?_
            refine RG.vl rfl rfl rfl (Ev.assign rfl rfl) ?_
            refine RG.done ?_
            refine QW.then_ ?_
            refine CW.block ?_
            refine CW.loop1 [(0, _), (1, _)] ⟨rfl, rfl, trivial⟩ (fun (p : Nat) => [(13, .int .i64 (p : Int))]) (fun p w' => (p ≤ l.length ∧ (er = [] → ∀ a b, a < p → a < b → b < l.length → NoR l [a, b])) ∧ Ex w w') (fun p => l.length - p) (0) ⟨rfl, trivial⟩ ⟨⟨Nat.zero_le _, fun _ a b h => absurd h (by omega)⟩, (Ex.tr hB0 hxwl22)⟩ ?_
            rintro p wl74 ⟨⟨hp, htwo⟩, hxwl74⟩
            refine CW.sub (S' := [(13, _), (0, _), (1, _)]) ⟨rfl, rfl, rfl, trivial⟩ ?_
            refine CW.seq ?_
            refine CW.seq ?_
            refine CW.region ?_
            refine RG.vl rfl rfl rfl (Ev.move rfl rfl) ?_
            refine RG.vl rfl rfl rfl (Ev.move rfl rfl) ?_
            refine RG.vl rfl rfl rfl (Ev.lenL rfl rfl rfl Try.underlying22 ((hl.ext hxwl74))) ?_
            refine RG.vl rfl rfl rfl (Ev.lss rfl rfl rfl) ?_
            refine RG.vl rfl rfl rfl (Ev.move rfl rfl) ?_
            refine RG.split (d := 94) rfl (fun hg75 => ?_) (fun hg75 => ?_)
            · refine RG.vl rfl rfl rfl (Ev.move rfl rfl) ?_
              refine RG.vl rfl rfl rfl (Ev.lenL rfl rfl rfl Try.underlying23 ((hz.ext hxwl74))) ?_
              refine RG.vl rfl rfl rfl (Ev.eqI rfl rfl rfl) ?_
              refine RG.vl rfl rfl rfl (Ev.pickT rfl rfl rfl) ?_
              refine RG.done ?_
              refine QW.then_ ?_
              refine CW.condP rfl (fun hc76 => ?_) (fun hc76 => ?_)
              · refine CW.skip ?_
                refine QW.then_ ?_
                refine CW.seq ?_
                refine CW.block ?_
                refine CW.seq ?_
                refine CW.region ?_
                refine RG.vl rfl rfl rfl (Ev.move rfl rfl) ?_
                refine RG.vl rfl rfl rfl (Ev.addI rfl rfl rfl (by omega)) ?_
                refine RG.vl rfl rfl rfl (Ev.assign rfl rfl) ?_
                refine RG.done ?_
                refine QW.then_ ?_
                refine CW.block ?_
                refine CW.loop1 [(0, _), (1, _), (13, _)] ⟨rfl, rfl, rfl, trivial⟩ (fun (q : Nat) => [(14, .int .i64 (q : Int))]) (fun q w' => (p < q ∧ q ≤ l.length ∧ ∀ b, p < b → b < q → NoR l [p, b]) ∧ Ex w w') (fun q => l.length - q) (p + 1) ⟨rfl, trivial⟩ ⟨⟨by omega, by omega, fun b h1 h2 => absurd h1 (by omega)⟩, (Ex.tr hB0 hxwl74)⟩ ?_
                rintro q wl77 ⟨⟨hq1, hq2, hthr⟩, hxwl77⟩
                refine CW.sub (S' := [(14, _), (0, _), (1, _), (13, _)]) ⟨rfl, rfl, rfl, rfl, trivial⟩ ?_
                refine CW.seq ?_
                refine CW.seq ?_
                refine CW.region ?_
                refine RG.vl rfl rfl rfl (Ev.move rfl rfl) ?_
                refine RG.vl rfl rfl rfl (Ev.move rfl rfl) ?_
                refine RG.vl rfl rfl rfl (Ev.lenL rfl rfl rfl Try.underlying22 ((hl.ext hxwl77))) ?_
                refine RG.vl rfl rfl rfl (Ev.lss rfl rfl rfl) ?_
                refine RG.done ?_
                refine QW.then_ ?_
                refine CW.condP rfl (fun hc78 => ?_) (fun hc78 => ?_)
                · refine CW.skip ?_
                  refine QW.then_ ?_
                  refine CW.seq ?_
                  refine CW.block ?_
                  refine CW.seq ?_
                  have he0 : er = [] := List.eq_nil_of_length_eq_zero (by omega)
                  have hpq : [p, q].Nodup := by simp; omega
                  have hpl : ∀ a ∈ [p, q], a < l.length := fun a ha => by simp at ha; omega
                  refine CW.region ?_
                  refine RG.vl rfl rfl rfl (Ev.move rfl rfl) ?_
                  refine RG.vl rfl rfl rfl (Ev.move rfl rfl) ?_
                  refine RG.vl rfl rfl rfl (Ev.move rfl rfl) ?_
                  refine RG.litO (os := [.tmp 111, .tmp 112]) (enc := encZ) ([p, q]) rfl rfl rfl rfl rfl rfl rfl Try.underlying23 inf_3 rfl rfl rfl rfl rfl encZ_len rfl rfl (fun v79 wk80 hxwk80 hown81 hnew82 => ?_)
                  replace hxwl77 := Ex.tr hxwl77 hxwk80
                  have hE83 := hxwk80
                  refine RG.call rfl rfl rfl rfl rfl rfl rfl en_41 (filled_ret _ _ l [p, q] _ ((hl.ext hxwl77)) ((hown81.rdl encZ_len)) hyes hpq (by show 2 ≤ 4; omega) hpl) ?_
                  have hpre84 := (Ex.tr hB0 hxwl77)
                  rintro _ w84 ⟨r84, b84, o84, rfl, hor84, hyes84, hno84, hx84⟩
                  replace hxwl77 := Ex.tr hxwl77 hx84
                  replace hE83 := Ex.tr hE83 hx84
                  have hE85 := hx84
                  refine RG.vl rfl rfl rfl (Ev.move rfl rfl) ?_
                  refine RG.vl rfl rfl rfl (Ev.extract rfl rfl rfl) ?_
                  refine RG.vl rfl rfl rfl (Ev.extract rfl rfl rfl) ?_
                  refine RG.vl rfl rfl rfl (Ev.assign rfl rfl) ?_
                  refine RG.vl rfl rfl rfl (Ev.assign rfl rfl) ?_
                  refine RG.done ?_
                  refine QW.sub (S' := [(0, _), (1, _), (13, _), (14, _), (15, _), (16, _)]) ⟨rfl, rfl, rfl, rfl, rfl, rfl, trivial⟩ ?_
                  refine QW.then_ ?_
                  refine CW.seq ?_
                  refine CW.region ?_
                  refine RG.vl rfl rfl rfl (Ev.move rfl rfl) ?_
                  refine RG.done ?_
                  refine QW.then_ ?_
                  refine CW.cond rfl (fun hc86 => ?_) (fun hc86 => ?_)
                  · refine CW.seq ?_
                    have hE28 : Ex w w84 := (Ex.tr hB0 hxwl77)
                    refine CW.region ?_
                    refine RG.vl rfl rfl rfl (Ev.move rfl rfl) ?_
                    refine RG.vl rfl rfl rfl (Ev.move rfl rfl) ?_
                    refine RG.vl rfl rfl rfl (Ev.move rfl rfl) ?_
                    refine RG.litO (os := [.tmp 119, .tmp 120]) (enc := encZ) ([p, q]) rfl rfl rfl rfl rfl rfl rfl Try.underlying23 inf_3 rfl rfl rfl rfl rfl encZ_len rfl rfl (fun v87 wk88 hxwk88 hown89 hnew90 => ?_)
                    replace hxwl77 := Ex.tr hxwl77 hxwk88
                    replace hE83 := Ex.tr hE83 hxwk88
                    replace hE85 := Ex.tr hE85 hxwk88
                    have hE91 := hxwk88
                    refine RG.vl rfl rfl rfl (Ev.assign rfl rfl) ?_
                    refine RG.vl rfl rfl rfl (Ev.assign rfl rfl) ?_
                    refine RG.vl rfl rfl rfl (Ev.assign rfl rfl) ?_
                    refine RG.done ?_
                    refine QW.then_ ?_
                    refine CW.ret ?_
                    refine QW.blockR ?_
                    refine QW.thenRet ?_
                    refine QW.thenRet ?_
                    refine QW.blockR ?_
                    refine QW.blockR ?_
                    refine QW.thenRet ?_
                    refine QW.thenRet ?_
                    refine QW.blockR ?_
                    refine QW.thenRet ?_
                    refine QW.ret3 rfl rfl rfl rfl ?_
                    have hB := (Ex.tr hB0 hxwl77)
                    exact ⟨_, _, o84, [p, q], 0, rfl, (Own.ext hor84 hE91).low (by have := hpre84.size; omega), Own.low (B' := w.heap.size) hown89 (by have := hE28.size; omega), .inr ⟨hyes, hok, .inr ⟨rfl, by rw [← her, he0]; exact near_two (by omega) (by omega) (fun q hq => by have := hone (by omega) q (by omega) (by rw [he0]; simp); rwa [he0] at this) (hyes84 (by assumption))⟩⟩, hB⟩
                  · refine CW.skip ?_
                    refine QW.blockN ?_
                    refine QW.then_ ?_
                    refine CW.region ?_
                    refine RG.vl rfl rfl rfl (Ev.move rfl rfl) ?_
                    refine RG.vl rfl rfl rfl (Ev.addI rfl rfl rfl (by omega)) ?_
                    refine RG.vl rfl rfl rfl (Ev.assign rfl rfl) ?_
                    refine RG.done ?_
                    refine QW.round1 (q + 1) ⟨rfl, trivial⟩ ⟨rfl, rfl, rfl, trivial⟩ ⟨⟨by omega, by omega, fun b h1 h2 => by rcases Nat.lt_or_ge b q with h | h; exact hthr b h1 h; obtain rfl : b = q := (by omega); exact hno84 (by assumption)⟩, (Ex.tr hB0 hxwl77)⟩ (by omega)
                · refine CW.exit ?_
                  refine QW.thenExit ?_
                  refine QW.thenExit ?_
                  refine QW.blockHit ?_
                  refine QW.blockN ?_
                  refine QW.then_ ?_
                  refine CW.region ?_
                  refine RG.vl rfl rfl rfl (Ev.move rfl rfl) ?_
                  refine RG.vl rfl rfl rfl (Ev.addI rfl rfl rfl (by omega)) ?_
                  refine RG.vl rfl rfl rfl (Ev.assign rfl rfl) ?_
                  refine RG.done ?_
                  refine QW.round1 (p + 1) ⟨rfl, trivial⟩ ⟨rfl, rfl, trivial⟩ ⟨⟨by omega, fun he a b ha hab hb => by rcases Nat.lt_or_ge a p with h | h; exact htwo he a b h hab hb; obtain rfl : a = p := (by omega); exact hthr b hab (by omega)⟩, (Ex.tr hB0 hxwl77)⟩ (by omega)
              · refine CW.exit ?_
                refine QW.thenExit ?_
                refine QW.thenExit ?_
                refine QW.blockHit ?_
                refine QW.then_ ?_
                refine CW.seq ?_
                refine CW.region ?_
                refine RG.vl rfl rfl rfl (Ev.assign rfl rfl) ?_
                refine RG.vl rfl rfl rfl (Ev.assign rfl rfl) ?_
                refine RG.vl rfl rfl rfl (Ev.assign rfl rfl) ?_
                refine RG.done ?_
                refine QW.then_ ?_
                refine CW.ret ?_
                refine QW.ret3 rfl rfl rfl rfl ?_
                have hB := (Ex.tr hB0 hxwl74)
                exact ⟨_, _, [], [], 190, rfl, Own.nil_ _ _ _ _ _, Own.nil_ _ _ _ _ _, .inr ⟨hyes, hok, .inl ⟨rfl, rfl, rfl, .inr (by rw [← her]; exact far_end hno0 (fun h2 a ha hn => hone h2 a (by omega) hn) (fun he a b hab hb => by have he1 : er.length = 0 := (by rw [he]; rfl); exact htwo he a b (by omega) hab hb))⟩⟩, hB⟩
            · refine RG.pass rfl rfl rfl ?_
              refine RG.pass rfl rfl rfl ?_
              refine RG.pass rfl rfl rfl ?_
              refine RG.vl rfl rfl rfl (Ev.pickF rfl rfl rfl) ?_
              refine RG.done ?_
              refine QW.then_ ?_
              refine CW.condF rfl ?_
              refine CW.exit ?_
              refine QW.thenExit ?_
              refine QW.thenExit ?_
              refine QW.blockHit ?_
              refine QW.then_ ?_
              refine CW.seq ?_
              refine CW.region ?_
              refine RG.vl rfl rfl rfl (Ev.assign rfl rfl) ?_
              refine RG.vl rfl rfl rfl (Ev.assign rfl rfl) ?_
              refine RG.vl rfl rfl rfl (Ev.assign rfl rfl) ?_
              refine RG.done ?_
              refine QW.then_ ?_
              refine CW.ret ?_
              refine QW.ret3 rfl rfl rfl rfl ?_
              have hB := (Ex.tr hB0 hxwl74)
              exact ⟨_, _, [], [], 190, rfl, Own.nil_ _ _ _ _ _, Own.nil_ _ _ _ _ _, .inr ⟨hyes, hok, .inl ⟨rfl, rfl, rfl, .inr (by rw [← her]; exact far_end hno0 (fun h2 a ha hn => hone h2 a (by omega) hn) (fun he a b hab hb => by have he1 : er.length = 0 := (by rw [he]; rfl); exact htwo he a b (by omega) hab hb))⟩⟩, hB⟩

end Go.Proofs.Ytjhgihgggofocaa

/- Walks (RP). Written by program. -/
namespace Go.Proofs.Ytjhgihgggofocaa
open Go.RowKit
set_option maxRecDepth 100000 in
set_option maxHeartbeats 8000000 in
theorem solomonDecodes_ret (lv mv : Value) (l : List Nat) (ei : List Int) (w : World) (hl : RdL w 1 encN lv l) (hm : RdL w 1 encI mv ei) :
    Ret Try.prog 3 [lv, mv] w (fun v w' => v = .bool true ∧ Ex w w') := by
  obtain ⟨lA, lC, rfl⟩ := hl.shape
  obtain ⟨mA, mC, rfl⟩ := hm.shape
  have hB0 : Ex w w := Ex.rfl_ _
  refine Ret.of Try.func3 rfl Try.ntmps3 rfl ?_
  refine CW.seq ?_
  refine CW.region ?_
  refine RG.vl rfl rfl rfl (Ev.assign rfl rfl) ?_
  refine RG.done ?_
  refine QW.then_ ?_
  refine CW.seq ?_
  refine CW.seq ?_
  refine CW.region ?_
  refine RG.vl rfl rfl rfl (Ev.move rfl rfl) ?_
  refine RG.vl rfl rfl rfl (Ev.lenL rfl rfl rfl Try.underlying22 (hl)) ?_
  refine RG.vl rfl rfl rfl (Ev.gtr rfl rfl rfl) ?_
  refine RG.vl rfl rfl rfl (Ev.move rfl rfl) ?_
  refine RG.split (d := 15) rfl (fun hg1 => ?_) (fun hg1 => ?_)
  · refine RG.pass rfl rfl rfl ?_
    refine RG.pass rfl rfl rfl ?_
    refine RG.pass rfl rfl rfl ?_
    refine RG.vl rfl rfl rfl (Ev.pickT rfl rfl rfl) ?_
    refine RG.done ?_
    refine QW.then_ ?_
    refine CW.condT rfl ?_
    refine CW.seq ?_
    refine CW.region ?_
    refine RG.call rfl rfl rfl rfl rfl rfl rfl en_10 (awake_ret _) ?_
    rintro _ w2 ⟨rfl, hx2⟩
    have hE3 := hx2
    refine RG.vl rfl rfl rfl (Ev.assign rfl rfl) ?_
    refine RG.done ?_
    refine QW.then_ ?_
    refine CW.ret ?_
    refine QW.thenRet ?_
    refine QW.ret1 rfl rfl ?_
    have hB := (Ex.tr hB0 hE3)
    exact ⟨rfl, hB⟩
  · refine RG.vl rfl rfl rfl (Ev.move rfl rfl) ?_
    refine RG.vl rfl rfl rfl (Ev.lenL rfl rfl rfl Try.underlying23 (hm)) ?_
    refine RG.vl rfl rfl rfl (Ev.gtr rfl rfl rfl) ?_
    refine RG.vl rfl rfl rfl (Ev.pickF rfl rfl rfl) ?_
    refine RG.done ?_
    refine QW.then_ ?_
    refine CW.condP rfl (fun hc4 => ?_) (fun hc4 => ?_)
    · refine CW.seq ?_
      refine CW.region ?_
      refine RG.call rfl rfl rfl rfl rfl rfl rfl en_10 (awake_ret _) ?_
      rintro _ w5 ⟨rfl, hx5⟩
      have hE6 := hx5
      refine RG.vl rfl rfl rfl (Ev.assign rfl rfl) ?_
      refine RG.done ?_
      refine QW.then_ ?_
      refine CW.ret ?_
      refine QW.thenRet ?_
      refine QW.ret1 rfl rfl ?_
      have hB := (Ex.tr hB0 hE6)
      exact ⟨rfl, hB⟩
    · refine CW.skip ?_
      refine QW.then_ ?_
      refine CW.seq ?_
      refine CW.region ?_
      refine RG.vl rfl rfl rfl (Ev.move rfl rfl) ?_
      refine RG.call rfl rfl rfl rfl rfl rfl rfl en_11 (lent_ret _ _ _ (hl) (by omega)) ?_
      have hpre7 := hB0
      rintro _ w7 ⟨g7, c7, rfl, hol7, hx7⟩
      have hE8 := hx7
      refine RG.vl rfl rfl rfl (Ev.move rfl rfl) ?_
      refine RG.call rfl rfl rfl rfl rfl rfl rfl en_12 (lentz_ret _ _ _ ((hm.ext hE8)) (by omega)) ?_
      have hpre9 := (Ex.tr hB0 hE8)
      rintro _ w9 ⟨g9, c9, rfl, hol9, hx9⟩
      have hsep10 : Sep (Value.slice (some ⟨g9, 0, none⟩) (_ + 12) c9) _ := Sep.of_new hol7 (fun k h => Own.ge hol9 h)
      replace hol9 := Own.low (B' := w.heap.size) hol9 (by have := (Ex.tr hB0 hE8).size; omega)
      replace hE8 := Ex.tr hE8 hx9
      have hE11 := hx9
      refine RG.vl rfl rfl rfl (Ev.assign rfl rfl) ?_
      refine RG.vl rfl rfl rfl (Ev.assign rfl rfl) ?_
      refine RG.done ?_
      refine QW.sub (S' := [(0, _), (1, _), (4, _), (5, _), (6, _)]) ⟨rfl, rfl, rfl, rfl, rfl, trivial⟩ ?_
      refine QW.then_ ?_
      refine CW.seq ?_
      refine CW.region ?_
      refine RG.vl rfl rfl rfl (Ev.move rfl rfl) ?_
      refine RG.vl rfl rfl rfl (Ev.move rfl rfl) ?_
      refine RG.call rfl rfl rfl rfl rfl rfl rfl en_13 (dec_all _ _ l ei _ ((lent_rdl (by rw [List.length_append, mks_len]) (Own.ext hol7 hE11))) ((lentz_rdl (by rw [List.length_append, mzs_len]) hol9)) (by omega) (by omega)) ?_
      have hpre12 := (Ex.tr hB0 hE8)
      rintro _ w12 ⟨A1, B1, C1, D1, c, es, e, rfl, hox, hoy, hdp, hx12⟩
      have hsep13 : Sep (Value.slice A1 c.length B1) _ := Sep.of_new (Own.ext hol7 hE11) (fun k h => Own.ge hox h)
      have hsep14 : Sep (Value.slice A1 c.length B1) _ := Sep.of_new hol9 (fun k h => Own.ge hox h)
      have hsep15 : Sep (Value.slice C1 es.length D1) _ := Sep.of_new (Own.ext hol7 hE11) (fun k h => Own.ge hoy h)
      have hsep16 : Sep (Value.slice C1 es.length D1) _ := Sep.of_new hol9 (fun k h => Own.ge hoy h)
      replace hE8 := Ex.tr hE8 hx12
      replace hE11 := Ex.tr hE11 hx12
      have hE17 := hx12
      refine RG.vl rfl rfl rfl (Ev.move rfl rfl) ?_
      refine RG.vl rfl rfl rfl (Ev.extract rfl rfl rfl) ?_
      refine RG.vl rfl rfl rfl (Ev.extract rfl rfl rfl) ?_
      refine RG.local_ rfl rfl rfl rfl (fun _ => rfl) rfl rfl (fun _ => rfl) inf_28 rfl rfl rfl (fun g18 w18 eg18 hx18 hb18 => ?_)
      have hsb19 := fun e => sep_new (g := g18) (Own.ext hol7 hE11) eg18 e
      have hsb20 := fun e => sep_new (g := g18) (Own.ext hol9 hE17) eg18 e
      have hsb21 := fun e => sep_new (g := g18) hox eg18 e
      have hsb22 := fun e => sep_new (g := g18) hoy eg18 e
      have hle23 : w.heap.size ≤ g18 := by have := hE8.size; omega
      have hle24 : w7.heap.size ≤ g18 := by have := hE11.size; omega
      have hle25 : w9.heap.size ≤ g18 := by have := hE17.size; omega
      have hle26 : w12.heap.size ≤ g18 := by have := (Ex.rfl_ w12).size; omega
      replace hE8 := Ex.tr hE8 hx18
      replace hE11 := Ex.tr hE11 hx18
      replace hE17 := Ex.tr hE17 hx18
      have hE27 := hx18
      refine RG.vl rfl rfl rfl (Ev.assign rfl rfl) ?_
      refine RG.done ?_
      refine QW.then_ ?_
      refine CW.seq ?_
      refine CW.seq ?_
      refine CW.region ?_
      refine RG.vl rfl rfl rfl (Ev.move rfl rfl) ?_
      refine RG.vl rfl rfl rfl (Ev.move rfl rfl) ?_
      refine RG.call rfl rfl rfl rfl rfl rfl rfl en_14 (kept_ret _ _ _ _ _ (lent_big (Own.ext hol7 hE11)) (hl.ext hE8) (lent_cap (Own.ext hol7 hE11)) (by omega)) ?_
      rintro _ w28 ⟨rfl, hx28⟩
      replace hE8 := Ex.tr hE8 hx28
      replace hE11 := Ex.tr hE11 hx28
      replace hE17 := Ex.tr hE17 hx28
      replace hE27 := Ex.tr hE27 hx28
      have hE29 := hx28
      refine RG.vl rfl rfl rfl (Ev.notF rfl rfl) ?_
      refine RG.vl rfl rfl rfl (Ev.move rfl rfl) ?_
      refine RG.vl rfl rfl rfl (Ev.move rfl rfl) ?_
      refine RG.vl rfl rfl rfl (Ev.move rfl rfl) ?_
      refine RG.call rfl rfl rfl rfl rfl rfl rfl en_15 (keptz_ret _ _ _ _ _ (lentz_big (Own.ext hol9 hE17)) (hm.ext hE8) (lentz_cap (Own.ext hol9 hE17)) (by omega)) ?_
      rintro _ w30 ⟨rfl, hx30⟩
      replace hE8 := Ex.tr hE8 hx30
      replace hE11 := Ex.tr hE11 hx30
      replace hE17 := Ex.tr hE17 hx30
      replace hE27 := Ex.tr hE27 hx30
      replace hE29 := Ex.tr hE29 hx30
      have hE31 := hx30
      refine RG.vl rfl rfl rfl (Ev.notF rfl rfl) ?_
      refine RG.vl rfl rfl rfl (Ev.pickF rfl rfl rfl) ?_
      refine RG.done ?_
      refine QW.sub (S' := [(0, _), (1, _), (4, _), (5, _), (6, _), (7, _), (8, _), (40, _)]) ⟨rfl, rfl, rfl, rfl, rfl, rfl, rfl, rfl, trivial⟩ ?_
      refine QW.then_ ?_
      refine CW.condF rfl ?_
      refine CW.skip ?_
      refine QW.then_ ?_
      refine CW.seq ?_
      refine CW.region ?_
      refine RG.vl rfl rfl rfl (Ev.move rfl rfl) ?_
      refine RG.call rfl rfl rfl rfl rfl rfl rfl en_16 (over_ret w _ _ _ _ _ (Ex.tr hB0 hE8) (lent_norm (Own.ext hol7 hE11)) (lent_cap2 (Own.ext hol7 hE11)) (lent_len _) (by omega)) ?_
      rintro _ w32 ⟨ys32, hown33, hgr34⟩
      have hown35 := Own.grown (Own.ext hol9 hE17) hgr34 (fun k a b => (Sep.symm hsep10) k b a)
      have hown36 := Own.grown (Own.ext hox hE27) hgr34 (fun k a b => (Sep.symm hsep13) k b a)
      have hown37 := Own.grown (Own.ext hoy hE27) hgr34 (fun k a b => (Sep.symm hsep15) k b a)
      have hb38 := Blk.grown (hb18.ext hE29) hgr34 (fun e => hsb19 e.symm)
      replace hE8 := own_block (Own.ext hol7 hE11) hE8 hgr34 (Nat.le_refl _) hE8.size
      refine RG.done ?_
      refine QW.then_ ?_
      refine CW.seq ?_
      refine CW.region ?_
      refine RG.vl rfl rfl rfl (Ev.move rfl rfl) ?_
      refine RG.call rfl rfl rfl rfl rfl rfl rfl en_17 (overz_ret w _ _ _ _ _ (Ex.tr hB0 hE8) (lentz_norm hown35) (lentz_cap2 hown35) (lentz_len _) (by omega)) ?_
      rintro _ w39 ⟨ys39, hown40, hgr41⟩
      have hown42 := Own.grown hown36 hgr41 (fun k a b => (Sep.symm hsep14) k b a)
      have hown43 := Own.grown hown37 hgr41 (fun k a b => (Sep.symm hsep16) k b a)
      have hb44 := Blk.grown hb38 hgr41 (fun e => hsb20 e.symm)
      have hown45 := Own.grown hown33 hgr41 (fun k a b => hsep10 k b a)
      replace hE8 := own_block hown35 hE8 hgr41 (Nat.le_refl _) hE8.size
      refine RG.done ?_
      refine QW.then_ ?_
      refine CW.seq ?_
      refine CW.region ?_
      refine RG.vl rfl rfl rfl (Ev.move rfl rfl) ?_
      refine RG.vl rfl rfl rfl (Ev.move rfl rfl) ?_
      refine RG.call rfl rfl rfl rfl rfl rfl rfl en_18 (rdecode_ret _ _ l ei _ ((hl.ext hE8)) ((hm.ext hE8)) (by omega) (by omega)) ?_
      have hpre46 := (Ex.tr hB0 hE8)
      rintro _ w46 ⟨rr46, rx46, rc46, re46, rn46, rfl, hrr46, hrx46, hrd46, hx46⟩
      have hsep47 : Sep rr46 _ := Sep.of_new hown42 (fun k h => Own.ge hrr46 h)
      have hsep48 : Sep rr46 _ := Sep.of_new hown43 (fun k h => Own.ge hrr46 h)
      have hsep49 : Sep rr46 _ := Sep.of_new hown45 (fun k h => Own.ge hrr46 h)
      have hsep50 : Sep rr46 _ := Sep.of_new hown40 (fun k h => Own.ge hrr46 h)
      have hsep51 : Sep rx46 _ := Sep.of_new hown42 (fun k h => Own.ge hrx46 h)
      have hsep52 : Sep rx46 _ := Sep.of_new hown43 (fun k h => Own.ge hrx46 h)
      have hsep53 : Sep rx46 _ := Sep.of_new hown45 (fun k h => Own.ge hrx46 h)
      have hsep54 : Sep rx46 _ := Sep.of_new hown40 (fun k h => Own.ge hrx46 h)
      replace hE8 := Ex.tr hE8 hx46
      have hE55 := hx46
      obtain ⟨hcl1, hcl2⟩ := rdec_len hrd46
      obtain ⟨rfl, rfl, rfl⟩ := dec_same hdp hrd46
      refine RG.vl rfl rfl rfl (Ev.move rfl rfl) ?_
      refine RG.vl rfl rfl rfl (Ev.extract rfl rfl rfl) ?_
      refine RG.vl rfl rfl rfl (Ev.extract rfl rfl rfl) ?_
      refine RG.vl rfl rfl rfl (Ev.extract rfl rfl rfl) ?_
      refine RG.vl rfl rfl rfl (Ev.assign rfl rfl) ?_
      refine RG.vl rfl rfl rfl (Ev.assign rfl rfl) ?_
      refine RG.vl rfl rfl rfl (Ev.assign rfl rfl) ?_
      refine RG.done ?_
      refine QW.sub (S' := [(4, _), (7, _), (8, _), (9, _), (10, _), (11, _)]) ⟨rfl, rfl, rfl, rfl, rfl, rfl, trivial⟩ ?_
      refine QW.then_ ?_
      refine CW.seq ?_
      refine CW.region ?_
      refine RG.vl rfl rfl rfl (Ev.move rfl rfl) ?_
      refine RG.vl rfl rfl rfl (Ev.move rfl rfl) ?_
      refine RG.vl rfl rfl rfl (Ev.isT (Ev.eqI rfl rfl rfl) (rfl)) ?_
      refine RG.vl rfl rfl rfl (Ev.move rfl rfl) ?_
      refine RG.vl rfl rfl rfl (Ev.fld rfl rfl fld_28_0) ?_
      refine RG.vl rfl rfl rfl (Ev.ldAt rfl rfl Try.underlying22 rfl ((hb44.ext hE55).cells) (rfl)) ?_
      refine RG.vl rfl rfl rfl (Ev.move rfl rfl) ?_
      refine RG.call rfl rfl rfl rfl rfl rfl rfl en_19 (sameBt_ret _ _ rc46 _ (((Own.ext hown42 hE55).rdl encN_len)) ((hrr46.rdl encN_len)) (by omega)) ?_
      rintro _ w56 ⟨rfl, hx56⟩
      replace hE8 := Ex.tr hE8 hx56
      replace hE55 := Ex.tr hE55 hx56
      have hE57 := hx56
      refine RG.vl rfl rfl rfl (Ev.pickT rfl rfl rfl) ?_
      refine RG.vl rfl rfl rfl (Ev.move rfl rfl) ?_
      refine RG.vl rfl rfl rfl (Ev.fld rfl rfl fld_28_1) ?_
      refine RG.vl rfl rfl rfl (Ev.ldAt rfl rfl Try.underlying23 rfl ((hb44.ext hE55).cells) (rfl)) ?_
      refine RG.vl rfl rfl rfl (Ev.move rfl rfl) ?_
      refine RG.call rfl rfl rfl rfl rfl rfl rfl en_20 (sameIt_ret _ _ re46 _ ((Own.ext hown43 hE55).rdl encZ_len) ((Own.ext hrx46 hE57).rdl encZ_len) (by omega)) ?_
      rintro _ w58 ⟨rfl, hx58⟩
      replace hE8 := Ex.tr hE8 hx58
      replace hE55 := Ex.tr hE55 hx58
      replace hE57 := Ex.tr hE57 hx58
      have hE59 := hx58
      refine RG.vl rfl rfl rfl (Ev.pickT rfl rfl rfl) ?_
      refine RG.vl rfl rfl rfl (Ev.move rfl rfl) ?_
      refine RG.call rfl rfl rfl rfl rfl rfl rfl en_10 (awake_ret _) ?_
      rintro _ w60 ⟨rfl, hx60⟩
      replace hE8 := Ex.tr hE8 hx60
      replace hE55 := Ex.tr hE55 hx60
      replace hE57 := Ex.tr hE57 hx60
      replace hE59 := Ex.tr hE59 hx60
      have hE61 := hx60
      refine RG.vl rfl rfl rfl (Ev.pickT rfl rfl rfl) ?_
      refine RG.vl rfl rfl rfl (Ev.assign rfl rfl) ?_
      refine RG.done ?_
      refine QW.sub (S' := [(4, _)]) ⟨rfl, trivial⟩ ?_
      refine QW.then_ ?_
      refine CW.ret ?_
      refine QW.ret1 rfl rfl ?_
      have hB := (Ex.tr hB0 hE8)
      exact ⟨rfl, hB⟩

end Go.Proofs.Ytjhgihgggofocaa

