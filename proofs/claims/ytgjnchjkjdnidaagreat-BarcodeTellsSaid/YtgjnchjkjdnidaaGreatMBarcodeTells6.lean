/- Texts put together by program: RN, RO, VB, UC, UE, UF, VC. -/
import Derived.Shelf.Strings.Repeat
import Derived.Test.YtgjnchjkjdnidaaGreatMBarcodeTells5
/- Walks (RN). Written by program. -/
namespace Go.Proofs.YtgjnchjkjdnidaaGreat
open Go.RowKit
set_option maxRecDepth 100000 in
set_option maxHeartbeats 8000000 in
theorem filled_ret (u v0 : Value) (l P : List Nat) (w : World) (hl : RdL w 1 encN u l) (hm : RdL w 1 encZ v0 P) (hW : isW l = true) (hd : P.Nodup) (h4 : P.length ≤ 4) (hp : ∀ p ∈ P, p < l.length) :
    Ret Tryz.prog 78 [u, v0] w (fun v w' => ∃ r b o, v = .tuple #[r, .bool b] ∧ Own w' w.heap.size 5 1 encN r o ∧ (b = true → YesR l P o) ∧ (b = false → NoR l P) ∧ Ex w w') := by
  obtain ⟨hw1, hw2, hle⟩ := isW_iff.1 hW
  have hzl := zerL_len l P P.length
  have hze := zerL_el hle P P.length
  obtain ⟨vA, vC, rfl⟩ := hm.shape
  have hB0 : Ex w w := Ex.rfl_ _
  refine Ret.of Tryz.func78 rfl Tryz.ntmps78 rfl ?_
  refine CW.seq ?_
  refine CW.region ?_
  refine RG.vl rfl rfl rfl (Ev.assign rfl rfl) ?_
  refine RG.vl rfl rfl rfl (Ev.assign rfl rfl) ?_
  refine RG.done ?_
  refine QW.then_ ?_
  refine CW.seq ?_
  refine CW.region ?_
  refine RG.vl rfl rfl rfl (Ev.move rfl rfl) ?_
  refine RG.vl rfl rfl rfl (Ev.lenL rfl rfl rfl Tryz.underlying29 (hm)) ?_
  refine RG.vl rfl rfl rfl (Ev.assign rfl rfl) ?_
  refine RG.done ?_
  refine QW.then_ ?_
  refine CW.seq ?_
  refine CW.region ?_
  refine RG.build0O (enc := encN) rfl rfl rfl rfl rfl Tryz.underlying58 sz_5 (fun v1 wk2 hxwk2 hown3 hnew4 => ?_)
  replace hown3 := Own.low (B' := w.heap.size) hown3 (by have := hB0.size; omega)
  have hE5 := hxwk2
  refine RG.vl rfl rfl rfl (Ev.move rfl rfl) ?_
  refine RG.appO rfl rfl rfl rfl rfl rfl rfl Tryz.underlying58 inf_5 rfl rfl encN_len (fun _ => rfl) hown3 ((hl.ext hE5)) (by show 0 + _ ≤ maxLen; simp only [maxLen]; omega) (by show (0 + _) * _ ≤ _; omega) (hE5.size) (fun v7 wa6 hown7 hgr8 hat9 => ?_)
  replace hE5 := own_block hown3 hE5 hgr8 (Nat.le_refl _) hE5.size
  refine RG.vl rfl rfl rfl (Ev.assign rfl rfl) ?_
  refine RG.done ?_
  refine QW.then_ ?_
  refine CW.seq ?_
  refine CW.seq ?_
  refine CW.region ?_
  refine RG.vl rfl rfl rfl (Ev.assign rfl rfl) ?_
  refine RG.done ?_
  refine QW.then_ ?_
  refine CW.block ?_
  refine CW.loop1 [(0, _), (1, _), (4, _), (5, _), (6, _), (7, _)] ⟨rfl, rfl, rfl, rfl, rfl, rfl, trivial⟩ (fun (i : Nat) => [(8, .int .i64 (i : Int))]) (fun i w' => (i ≤ P.length ∧ Own w' w.heap.size 5 1 encN v7 (zerL l P i)) ∧ Ex w w') (fun i => P.length - i) (0) ⟨rfl, trivial⟩ ⟨⟨Nat.zero_le _, hown7⟩, (Ex.tr hB0 hE5)⟩ ?_
  rintro i wl10 ⟨⟨hi, ho7⟩, hxwl10⟩
  refine CW.sub (S' := [(8, _), (0, _), (1, _), (4, _), (5, _), (6, _), (7, _)]) ⟨rfl, rfl, rfl, rfl, rfl, rfl, rfl, trivial⟩ ?_
  refine CW.seq ?_
  refine CW.seq ?_
  refine CW.region ?_
  refine RG.vl rfl rfl rfl (Ev.move rfl rfl) ?_
  refine RG.vl rfl rfl rfl (Ev.move rfl rfl) ?_
  refine RG.vl rfl rfl rfl (Ev.lss rfl rfl rfl) ?_
  refine RG.done ?_
  refine QW.then_ ?_
  refine CW.condP rfl (fun hc11 => ?_) (fun hc11 => ?_)
  · refine CW.skip ?_
    refine QW.then_ ?_
    refine CW.seq ?_
    refine CW.block ?_
    have hpi := hp _ (List.mem_of_getElem? (getElem?_cf (p := P) (k := i) (by omega)))
    have hzi := zerL_len l P i
    refine CW.region ?_
    refine RG.vl rfl rfl rfl (Ev.move rfl rfl) ?_
    refine RG.vl rfl rfl rfl (Ev.move rfl rfl) ?_
    refine RG.vl rfl rfl rfl (Ev.move rfl rfl) ?_
    refine RG.idxL rfl rfl rfl rfl rfl rfl Tryz.underlying29 sz_3 ((hm.ext hxwl10)) (getElem?_cf (by omega)) (fun p12 hp12b hp12 => ?_)
    refine RG.vl rfl rfl rfl (Ev.ld0 rfl rfl Tryz.underlying3 rfl (hp12) (rfl)) ?_
    refine RG.idxO rfl rfl rfl rfl rfl rfl Tryz.underlying58 sz_5 encN_len (ho7) (getElem?_cf (show cf P i < _ by omega)) (fun g14 hg14 hBg14 hp13b hp13 => ?_)
    refine RG.stOw0 (g := g14) (0) rfl rfl rfl rfl rfl sz_5 rfl (fun _ => rfl) ho7 hg14 (getElem?_cf (show cf P i < _ by omega)) rfl (rfl) (fun ws15 hwws15 hown16 => ?_)
    replace hxwl10 := Wr.below hxwl10 hwws15 hBg14
    refine RG.done ?_
    refine QW.blockN ?_
    refine QW.then_ ?_
    refine CW.region ?_
    refine RG.vl rfl rfl rfl (Ev.move rfl rfl) ?_
    refine RG.vl rfl rfl rfl (Ev.addI rfl rfl rfl (by omega)) ?_
    refine RG.vl rfl rfl rfl (Ev.assign rfl rfl) ?_
    refine RG.done ?_
    refine QW.round1 (i + 1) ⟨rfl, trivial⟩ ⟨rfl, rfl, rfl, rfl, rfl, rfl, trivial⟩ ⟨⟨by omega, hown16⟩, (Ex.tr hB0 hxwl10)⟩ (by omega)
  · refine CW.exit ?_
    refine QW.thenExit ?_
    refine QW.thenExit ?_
    refine QW.blockHit ?_
    refine QW.then_ ?_
    refine CW.seq ?_
    obtain rfl : i = P.length := by omega
    refine CW.region ?_
    refine RG.vl rfl rfl rfl (Ev.move rfl rfl) ?_
    refine RG.call rfl rfl rfl rfl rfl rfl rfl en_115 (rsynd_ret _ (zerL l P P.length) _ ((ho7.rdl encN_len)) (by omega) hze) ?_
    have hpre17 := (Ex.tr hB0 hxwl10)
    rintro v9 w17 ⟨ho9, hx17⟩
    have hsep18 : Sep v9 _ := Sep.of_new ho7 (fun k h => Own.ge ho9 h)
    replace ho9 := Own.low (B' := w.heap.size) ho9 (by have := (Ex.tr hB0 hxwl10).size; omega)
    replace hxwl10 := Ex.tr hxwl10 hx17
    have hE19 := hx17
    refine RG.vl rfl rfl rfl (Ev.assign rfl rfl) ?_
    refine RG.done ?_
    refine QW.then_ ?_
    refine CW.seq ?_
    refine CW.region ?_
    refine RG.alloc_ rfl rfl rfl rfl inf_178 (fun gA w20 egA hx20 hb20 => ?_)
    have hsb21 := fun e => sep_new (g := gA) (Own.ext ho7 hE19) egA e
    have hsb22 := fun e => sep_new (g := gA) ho9 egA e
    have hle23 : w.heap.size ≤ gA := by have := hxwl10.size; omega
    have hle24 : wl10.heap.size ≤ gA := by have := hE19.size; omega
    have hle25 : w17.heap.size ≤ gA := by have := (Ex.rfl_ w17).size; omega
    replace hxwl10 := Ex.tr hxwl10 hx20
    replace hE19 := Ex.tr hE19 hx20
    have hE26 := hx20
    refine RG.done ?_
    refine QW.then_ ?_
    refine CW.seq ?_
    refine CW.region ?_
    refine RG.alloc_ rfl rfl rfl rfl inf_128 (fun gB w27 egB hx27 hb27 => ?_)
    have hsb28 := fun e => sep_new (g := gB) (Own.ext ho7 hE19) egB e
    have hsb29 := fun e => sep_new (g := gB) (Own.ext ho9 hE26) egB e
    have hle30 : w.heap.size ≤ gB := by have := hxwl10.size; omega
    have hle31 : wl10.heap.size ≤ gB := by have := hE19.size; omega
    have hle32 : w17.heap.size ≤ gB := by have := hE26.size; omega
    have hle33 : w20.heap.size ≤ gB := by have := (Ex.rfl_ w20).size; omega
    have hlt34 : gA < gB := by have := Blk.lt hb20; omega
    replace hxwl10 := Ex.tr hxwl10 hx27
    replace hE19 := Ex.tr hE19 hx27
    replace hE26 := Ex.tr hE26 hx27
    have hE35 := hx27
    refine RG.done ?_
    refine QW.then_ ?_
    refine CW.seq ?_
    refine CW.seq ?_
    refine CW.region ?_
    refine RG.vl rfl rfl rfl (Ev.assign rfl rfl) ?_
    refine RG.done ?_
    refine QW.then_ ?_
    refine CW.block ?_
    refine CW.loop1 [(0, _), (1, _), (4, _), (5, _), (6, _), (7, _), (9, _), (10, _), (11, _)] ⟨rfl, rfl, rfl, rfl, rfl, rfl, rfl, rfl, rfl, trivial⟩ (fun (j : Nat) => [(12, .int .i64 (j : Int))]) (fun j w' => (j ≤ P.length ∧ Blk w' gA 178 (mc4 (rM l.length P (syL (zerL l P P.length)) j 0)) ∧ Blk w' gB 128 (bc4 (rM l.length P (syL (zerL l P P.length)) j 0)) ∧ Own w' w.heap.size 5 1 encN v7 (zerL l P P.length) ∧ Own w' w.heap.size 5 1 encN v9 (syL (zerL l P P.length))) ∧ Ex w w') (fun j => P.length - j) (0) ⟨rfl, trivial⟩ ⟨⟨Nat.zero_le _, (hb20.ext hE35), hb27, (Own.ext ho7 hE19), (Own.ext ho9 hE26)⟩, (Ex.tr hB0 hxwl10)⟩ ?_
    rintro j wl36 ⟨⟨hj, hA, hBb, ho7, ho9⟩, hxwl36⟩
    refine CW.sub (S' := [(12, _), (0, _), (1, _), (4, _), (5, _), (6, _), (7, _), (9, _), (10, _), (11, _)]) ⟨rfl, rfl, rfl, rfl, rfl, rfl, rfl, rfl, rfl, rfl, trivial⟩ ?_
    refine CW.seq ?_
    refine CW.seq ?_
    refine CW.region ?_
    refine RG.vl rfl rfl rfl (Ev.move rfl rfl) ?_
    refine RG.vl rfl rfl rfl (Ev.move rfl rfl) ?_
    refine RG.vl rfl rfl rfl (Ev.lss rfl rfl rfl) ?_
    refine RG.done ?_
    refine QW.then_ ?_
    refine CW.condP rfl (fun hc37 => ?_) (fun hc37 => ?_)
    · refine CW.skip ?_
      refine QW.then_ ?_
      refine CW.seq ?_
      refine CW.block ?_
      refine CW.seq ?_
      have hpj := hp _ (List.mem_of_getElem? (getElem?_cf (p := P) (k := j) (by omega)))
      refine CW.region ?_
      refine RG.vl rfl rfl rfl (Ev.move rfl rfl) ?_
      refine RG.vl rfl rfl rfl (Ev.lenL rfl rfl rfl Tryz.underlying58 ((hl.ext hxwl36))) ?_
      refine RG.vl rfl rfl rfl (Ev.subI rfl rfl rfl (by omega)) ?_
      refine RG.vl rfl rfl rfl (Ev.move rfl rfl) ?_
      refine RG.vl rfl rfl rfl (Ev.move rfl rfl) ?_
      refine RG.idxL rfl rfl rfl rfl rfl rfl Tryz.underlying29 sz_3 ((hm.ext hxwl36)) (getElem?_cf (by omega)) (fun p38 hp38b hp38 => ?_)
      refine RG.vl rfl rfl rfl (Ev.ld0 rfl rfl Tryz.underlying3 rfl (hp38) (rfl)) ?_
      refine RG.vl rfl rfl rfl ((Ev.subI rfl rfl rfl (by omega)).conv (congrArg (Value.int .i64) (show _ = ((l.length - 1 - cf P j : Nat) : Int) by omega))) ?_
      refine RG.call rfl rfl rfl rfl rfl rfl rfl en_55 ((by have k := rpow_ret 2 (l.length - 1 - cf P j) wl36 (by omega) (by omega); rw [gp_two _ (by omega)] at k; exact k)) ?_
      rintro _ w39 ⟨rfl, hx39⟩
      replace hxwl36 := Ex.tr hxwl36 hx39
      have hE40 := hx39
      refine RG.vl rfl rfl rfl (Ev.assign rfl rfl) ?_
      refine RG.done ?_
      refine QW.then_ ?_
      refine CW.seq ?_
      refine CW.region ?_
      refine RG.vl rfl rfl rfl (Ev.move rfl rfl) ?_
      refine RG.vl rfl rfl rfl (Ev.assign rfl rfl) ?_
      refine RG.done ?_
      refine QW.sub (S' := [(0, _), (1, _), (4, _), (5, _), (6, _), (7, _), (9, _), (10, _), (11, _), (12, _), (13, _), (14, _)]) ⟨rfl, rfl, rfl, rfl, rfl, rfl, rfl, rfl, rfl, rfl, rfl, rfl, trivial⟩ ?_
      refine QW.then_ ?_
      refine CW.seq ?_
      refine CW.seq ?_
      refine CW.region ?_
      refine RG.vl rfl rfl rfl (Ev.assign rfl rfl) ?_
      refine RG.done ?_
      refine QW.then_ ?_
      refine CW.block ?_
      refine CW.loop1 [(0, _), (1, _), (4, _), (5, _), (6, _), (7, _), (9, _), (10, _), (11, _), (12, _), (13, _)] ⟨rfl, rfl, rfl, rfl, rfl, rfl, rfl, rfl, rfl, rfl, rfl, trivial⟩ (fun (i : Nat) => [(15, .int .i64 (i : Int)), (14, .int .u8 (pw ((i + 1) * (l.length - 1 - cf P j) % 63) : Nat))]) (fun i w' => (i ≤ P.length ∧ Blk w' gA 178 (mc4 (rM l.length P (syL (zerL l P P.length)) j i)) ∧ Blk w' gB 128 (bc4 (rM l.length P (syL (zerL l P P.length)) j 0)) ∧ Own w' w.heap.size 5 1 encN v7 (zerL l P P.length) ∧ Own w' w.heap.size 5 1 encN v9 (syL (zerL l P P.length))) ∧ Ex w w') (fun i => P.length - i) (0) ⟨rfl, by rw [Nat.zero_add, Nat.one_mul, Nat.mod_eq_of_lt (show l.length - 1 - cf P j < 63 by omega)]; rfl, trivial⟩ ⟨⟨Nat.zero_le _, (hA.ext hE40), (hBb.ext hE40), (Own.ext ho7 hE40), (Own.ext ho9 hE40)⟩, (Ex.tr hB0 hxwl36)⟩ ?_
      rintro i wl41 ⟨⟨hi, hA, hBb, ho7, ho9⟩, hxwl41⟩
      refine CW.sub (S' := [(15, _), (14, _), (0, _), (1, _), (4, _), (5, _), (6, _), (7, _), (9, _), (10, _), (11, _), (12, _), (13, _)]) ⟨rfl, rfl, rfl, rfl, rfl, rfl, rfl, rfl, rfl, rfl, rfl, rfl, rfl, trivial⟩ ?_
      refine CW.seq ?_
      refine CW.seq ?_
      refine CW.region ?_
      refine RG.vl rfl rfl rfl (Ev.move rfl rfl) ?_
      refine RG.vl rfl rfl rfl (Ev.move rfl rfl) ?_
      refine RG.vl rfl rfl rfl (Ev.lss rfl rfl rfl) ?_
      refine RG.done ?_
      refine QW.then_ ?_
      refine CW.condP rfl (fun hc42 => ?_) (fun hc42 => ?_)
      · refine CW.skip ?_
        refine QW.then_ ?_
        refine CW.seq ?_
        refine CW.block ?_
        refine CW.seq ?_
        have hpw := pw64 ((i + 1) * (l.length - 1 - cf P j))
        have hpm := pw_lt (l.length - 1 - cf P j) (by omega)
        have hst := pw_step (m := l.length - 1 - cf P j) i (by omega)
        refine CW.region ?_
        refine RG.vl rfl rfl rfl (Ev.move rfl rfl) ?_
        refine RG.vl rfl rfl rfl (Ev.move rfl rfl) ?_
        refine RG.vl rfl rfl rfl (Ev.move rfl rfl) ?_
        refine RG.vl rfl rfl rfl (Ev.idxA rfl rfl rfl Tryz.underlying178 sz_128 (by omega)) ?_
        refine RG.vl rfl rfl rfl (Ev.idxA rfl rfl rfl Tryz.underlying128 sz_5 (by omega)) ?_
        refine RG.st2 (g := gA) rfl rfl rfl rfl rfl sz_5 rfl hA (by rw [mc4_len, Nat.blt_eq]; omega) (fun ws43 hwws43 hbws43 => ?_)
        replace hBb := Blk.far hBb hwws43 (by omega)
        replace ho7 := Own.far ho7 hwws43 hsb21
        replace ho9 := Own.far ho9 hwws43 hsb22
        replace hxwl41 := Wr.below hxwl41 hwws43 hle23
        rw [mc4_set _ _ (by omega), rM_more] at hbws43
        refine RG.done ?_
        refine QW.then_ ?_
        refine CW.region ?_
        refine RG.vl rfl rfl rfl (Ev.move rfl rfl) ?_
        refine RG.vl rfl rfl rfl (Ev.move rfl rfl) ?_
        refine RG.call rfl rfl rfl rfl rfl rfl rfl en_90 ((by have k := rmul_ret _ _ ws43 hpw hpm.2; rw [hst] at k; exact k)) ?_
        rintro _ w44 ⟨rfl, hx44⟩
        replace hxwl41 := Ex.tr hxwl41 hx44
        have hE45 := hx44
        refine RG.vl rfl rfl rfl (Ev.assign rfl rfl) ?_
        refine RG.done ?_
        refine QW.blockN ?_
        refine QW.then_ ?_
        refine CW.region ?_
        refine RG.vl rfl rfl rfl (Ev.move rfl rfl) ?_
        refine RG.vl rfl rfl rfl (Ev.addI rfl rfl rfl (by omega)) ?_
        refine RG.vl rfl rfl rfl (Ev.assign rfl rfl) ?_
        refine RG.done ?_
        refine QW.sub (S' := [(0, _), (1, _), (4, _), (5, _), (6, _), (7, _), (9, _), (10, _), (11, _), (12, _), (13, _), (14, _), (15, _)]) ⟨rfl, rfl, rfl, rfl, rfl, rfl, rfl, rfl, rfl, rfl, rfl, rfl, rfl, trivial⟩ ?_
        refine QW.round1 (i + 1) ⟨rfl, rfl, trivial⟩ ⟨rfl, rfl, rfl, rfl, rfl, rfl, rfl, rfl, rfl, rfl, rfl, trivial⟩ ⟨⟨by omega, (hbws43.ext hE45), (hBb.ext hE45), (Own.ext ho7 hE45), (Own.ext ho9 hE45)⟩, (Ex.tr hB0 hxwl41)⟩ (by omega)
      · refine CW.exit ?_
        refine QW.thenExit ?_
        refine QW.thenExit ?_
        refine QW.blockHit ?_
        refine QW.then_ ?_
        obtain rfl : i = P.length := by omega
        refine CW.region ?_
        refine RG.vl rfl rfl rfl (Ev.move rfl rfl) ?_
        refine RG.vl rfl rfl rfl (Ev.move rfl rfl) ?_
        refine RG.vl rfl rfl rfl (Ev.move rfl rfl) ?_
        refine RG.idxO rfl rfl rfl rfl rfl rfl Tryz.underlying58 sz_5 encN_len (ho9) (getElem?_cf (show j < (syL _).length by show j < 4; omega)) (fun g47 hg47 hBg47 hp46b hp46 => ?_)
        refine RG.vl rfl rfl rfl (Ev.ld0 rfl rfl Tryz.underlying5 rfl (hp46) (rfl)) ?_
        refine RG.vl rfl rfl rfl (Ev.idxA rfl rfl rfl Tryz.underlying128 sz_5 (by omega)) ?_
        refine RG.st (g := gB) (k := _) rfl rfl rfl rfl rfl sz_5 rfl hBb (by rw [bc4_len, Nat.blt_eq]; omega) (fun ws48 hwws48 hbws48 => ?_)
        replace hA := Blk.far hA hwws48 (by omega)
        replace ho7 := Own.far ho7 hwws48 hsb28
        replace ho9 := Own.far ho9 hwws48 hsb29
        replace hxwl41 := Wr.below hxwl41 hwws48 hle30
        rw [bc4_set _ _, rM_bmore] at hbws48
        rw [rM_col] at hA
        refine RG.done ?_
        refine QW.blockN ?_
        refine QW.then_ ?_
        refine CW.region ?_
        refine RG.vl rfl rfl rfl (Ev.move rfl rfl) ?_
        refine RG.vl rfl rfl rfl (Ev.addI rfl rfl rfl (by omega)) ?_
        refine RG.vl rfl rfl rfl (Ev.assign rfl rfl) ?_
        refine RG.done ?_
        refine QW.round1 (j + 1) ⟨rfl, trivial⟩ ⟨rfl, rfl, rfl, rfl, rfl, rfl, rfl, rfl, rfl, trivial⟩ ⟨⟨by omega, hA, hbws48, ho7, ho9⟩, (Ex.tr hB0 hxwl41)⟩ (by omega)
    · refine CW.exit ?_
      refine QW.thenExit ?_
      refine QW.thenExit ?_
      refine QW.blockHit ?_
      refine QW.then_ ?_
      refine CW.seq ?_
      refine CW.seq ?_
      obtain rfl : j = P.length := by omega
      have hg0 : Gs (rM l.length P (syL (zerL l P P.length)) P.length 0) P.length (rM l.length P (syL (zerL l P P.length)) P.length 0) 0 := gs_start (rM_el (fun a ha => by simp only [syL, List.mem_cons, List.not_mem_nil, or_false] at ha; rcases ha with rfl | rfl | rfl | rfl <;> exact sy_lt hze _) _ _)
      obtain ⟨M00, hM00⟩ : ∃ M : Mx, M = (rM l.length P (syL (zerL l P P.length)) P.length 0) := ⟨_, rfl⟩
      refine CW.region ?_
      refine RG.vl rfl rfl rfl (Ev.assign rfl rfl) ?_
      refine RG.done ?_
      refine QW.then_ ?_
      refine CW.block ?_
      refine CW.loop2 [(1, _), (6, _), (7, _), (10, _), (11, _)] ⟨rfl, rfl, rfl, rfl, rfl, trivial⟩ (fun (i : Nat) (M : Mx) => [(16, .int .i64 (i : Int))]) (fun i M w' => (i ≤ P.length ∧ Gs (rM l.length P (syL (zerL l P P.length)) P.length 0) P.length M i ∧ Zr P.length M ∧ Blk w' gA 178 (mc4 M) ∧ Blk w' gB 128 (bc4 M) ∧ Own w' w.heap.size 5 1 encN v7 (zerL l P P.length)) ∧ Ex w w') (fun i M => P.length - i) (0) ((rM l.length P (syL (zerL l P P.length)) P.length 0)) ⟨rfl, trivial⟩ ⟨⟨Nat.zero_le _, hg0, rM_zr, hA, hBb, ho7⟩, (Ex.tr hB0 hxwl36)⟩ ?_
      rintro i M wl49 ⟨⟨hi, hgs, hzr, hA, hBb, ho7⟩, hxwl49⟩
      refine CW.sub (S' := [(16, _), (1, _), (6, _), (7, _), (10, _), (11, _)]) ⟨rfl, rfl, rfl, rfl, rfl, rfl, trivial⟩ ?_
      refine CW.seq ?_
      refine CW.seq ?_
      refine CW.region ?_
      refine RG.vl rfl rfl rfl (Ev.move rfl rfl) ?_
      refine RG.vl rfl rfl rfl (Ev.move rfl rfl) ?_
      refine RG.vl rfl rfl rfl (Ev.lss rfl rfl rfl) ?_
      refine RG.done ?_
      refine QW.then_ ?_
      refine CW.condP rfl (fun hc50 => ?_) (fun hc50 => ?_)
      · refine CW.skip ?_
        refine QW.then_ ?_
        refine CW.seq ?_
        refine CW.block ?_
        refine CW.seq ?_
        refine CW.region ?_
        refine RG.vl rfl rfl rfl (Ev.move rfl rfl) ?_
        refine RG.vl rfl rfl rfl (Ev.assign rfl rfl) ?_
        refine RG.done ?_
        refine QW.then_ ?_
        refine CW.seq ?_
        refine CW.block ?_
        refine CW.loop1 [(1, _), (6, _), (7, _), (10, _), (11, _), (16, _)] ⟨rfl, rfl, rfl, rfl, rfl, rfl, trivial⟩ (fun (row : Nat) => [(17, .int .i64 (row : Int))]) (fun row w' => (i ≤ row ∧ row ≤ P.length ∧ (∀ r, i ≤ r → r < row → M r i = 0) ∧ Blk w' gA 178 (mc4 M) ∧ Blk w' gB 128 (bc4 M) ∧ Own w' w.heap.size 5 1 encN v7 (zerL l P P.length)) ∧ Ex w w') (fun row => P.length - row) (i) ⟨rfl, trivial⟩ ⟨⟨Nat.le_refl _, by omega, fun r h1 h2 => absurd h1 (by omega), hA, hBb, ho7⟩, (Ex.tr hB0 hxwl49)⟩ ?_
        rintro row wl51 ⟨⟨hrow, hrowk, hz, hA, hBb, ho7⟩, hxwl51⟩
        refine CW.sub (S' := [(17, _), (1, _), (6, _), (7, _), (10, _), (11, _), (16, _)]) ⟨rfl, rfl, rfl, rfl, rfl, rfl, rfl, trivial⟩ ?_
        refine CW.seq ?_
        refine CW.seq ?_
        refine CW.region ?_
        refine RG.vl rfl rfl rfl (Ev.move rfl rfl) ?_
        refine RG.vl rfl rfl rfl (Ev.move rfl rfl) ?_
        refine RG.vl rfl rfl rfl (Ev.lss rfl rfl rfl) ?_
        refine RG.vl rfl rfl rfl (Ev.move rfl rfl) ?_
        refine RG.split (d := 85) rfl (fun hg52 => ?_) (fun hg52 => ?_)
        · refine RG.vl rfl rfl rfl (Ev.move rfl rfl) ?_
          refine RG.vl rfl rfl rfl (Ev.move rfl rfl) ?_
          refine RG.vl rfl rfl rfl (Ev.idxA rfl rfl rfl Tryz.underlying178 sz_128 (by omega)) ?_
          refine RG.vl rfl rfl rfl (Ev.idxA rfl rfl rfl Tryz.underlying128 sz_5 (by omega)) ?_
          refine RG.vl rfl rfl rfl (Ev.ldAA rfl rfl Tryz.underlying5 rfl (hA.cells) ((show (mc4 M)[row * 4 + i * 1]? = some (.int .u8 (M row i : Int)) by rw [mc4_at _ (by omega) (by omega)]))) ?_
          refine RG.vl rfl rfl rfl (Ev.eqI rfl rfl rfl) ?_
          refine RG.vl rfl rfl rfl (Ev.pickT rfl rfl rfl) ?_
          refine RG.done ?_
          refine QW.then_ ?_
          refine CW.condP rfl (fun hc53 => ?_) (fun hc53 => ?_)
          · refine CW.skip ?_
            refine QW.then_ ?_
            refine CW.block ?_
            refine CW.region ?_
            refine RG.vl rfl rfl rfl (Ev.move rfl rfl) ?_
            refine RG.vl rfl rfl rfl (Ev.addI rfl rfl rfl (by omega)) ?_
            refine RG.vl rfl rfl rfl (Ev.assign rfl rfl) ?_
            refine RG.done ?_
            refine QW.sub (S' := [(1, _), (6, _), (7, _), (10, _), (11, _), (16, _), (17, _)]) ⟨rfl, rfl, rfl, rfl, rfl, rfl, rfl, trivial⟩ ?_
            refine QW.blockN ?_
            refine QW.round1 (row + 1) ⟨rfl, trivial⟩ ⟨rfl, rfl, rfl, rfl, rfl, rfl, trivial⟩ ⟨⟨by omega, by omega, fun r h1 h2 => by rcases Nat.lt_or_ge r row with h | h; exact hz r h1 h; obtain rfl : r = row := (by omega); omega, hA, hBb, ho7⟩, (Ex.tr hB0 hxwl51)⟩ (by omega)
          · refine CW.exit ?_
            refine QW.thenExit ?_
            refine QW.thenExit ?_
            refine QW.blockHit ?_
            refine QW.then_ ?_
            refine CW.seq ?_
            refine CW.seq ?_
            refine CW.region ?_
            refine RG.vl rfl rfl rfl (Ev.move rfl rfl) ?_
            refine RG.vl rfl rfl rfl (Ev.move rfl rfl) ?_
            refine RG.vl rfl rfl rfl (Ev.isF (Ev.eqI rfl rfl rfl) (by omega)) ?_
            refine RG.done ?_
            refine QW.sub (S' := [(1, _), (6, _), (7, _), (10, _), (11, _), (16, _), (17, _), (97, _)]) ⟨rfl, rfl, rfl, rfl, rfl, rfl, rfl, rfl, trivial⟩ ?_
            refine QW.then_ ?_
            refine CW.condF rfl ?_
            refine CW.skip ?_
            refine QW.then_ ?_
            refine CW.seq ?_
            have h0 : M row i ≠ 0 := by omega
            have hr4 : row < 4 := by omega
            have hri : row < P.length := by omega
            have h64 := hgs.el row i hr4 (by omega)
            have hgi := (gi_lt (M row i)).2
            refine CW.draw [9, 11] (.ex) 12 rfl mixed (fun wd54 hxwd54 => ?_)
            replace hxwl51 := Ex.tr hxwl51 hxwd54
            have hE55 := hxwd54
            refine AG.takeW 0 rfl (by kernel_rfl) (by kernel_rfl) rfl rfl rfl (fun _ => Ev.move rfl rfl) ?_
            refine AG.takeW 1 rfl (by kernel_rfl) (by kernel_rfl) rfl rfl rfl (fun _ => Ev.move rfl rfl) ?_
            refine AG.takeW 2 rfl (by kernel_rfl) (by kernel_rfl) rfl rfl rfl (fun _ => Ev.move rfl rfl) ?_
            refine AG.takeW 3 rfl (by kernel_rfl) (by kernel_rfl) rfl rfl rfl (fun _ => Ev.idxA rfl rfl rfl Tryz.underlying178 sz_128 (by omega)) ?_
            refine AG.take 4 rfl (by kernel_rfl) (by kernel_rfl) rfl rfl rfl (fun wq hq => Ev.ldRow4 (r := row) rfl rfl Tryz.underlying128 rfl sz_128 ((hA.ext hE55).ext hq) (by omega)) ?_
            refine AG.takeW 5 rfl (by kernel_rfl) (by kernel_rfl) rfl rfl rfl (fun _ => Ev.move rfl rfl) ?_
            refine AG.takeW 6 rfl (by kernel_rfl) (by kernel_rfl) rfl rfl rfl (fun _ => Ev.idxA rfl rfl rfl Tryz.underlying178 sz_128 (by omega)) ?_
            refine AG.take 7 rfl (by kernel_rfl) (by kernel_rfl) rfl rfl rfl (fun wq hq => Ev.ldRow4 (r := i) rfl rfl Tryz.underlying128 rfl sz_128 ((hA.ext hE55).ext hq) (by omega)) ?_
            refine AG.takeW 8 rfl (by kernel_rfl) (by kernel_rfl) rfl rfl rfl (fun _ => Ev.idxA rfl rfl rfl Tryz.underlying178 sz_128 (by omega)) ?_
            refine AG.only 9 rfl (by kernel_rfl) ?_
            refine RG.stRow4 (r := i) (M row) rfl rfl rfl rfl rfl sz_128 (hA.ext hE55) (by omega) (fun ws57 hwws57 hbws57 => ?_)
            replace hBb := Blk.far (hBb.ext hE55) hwws57 (by omega)
            replace ho7 := Own.far (Own.ext ho7 hE55) hwws57 hsb21
            replace hxwl51 := Wr.below hxwl51 hwws57 hle23
            refine RG.done ?_
            refine QW.an (fun h => by simp at h) ?_
            refine AG.takeW 10 rfl (by kernel_rfl) (by kernel_rfl) rfl rfl rfl (fun _ => Ev.idxA rfl rfl rfl Tryz.underlying178 sz_128 (by omega)) ?_
            refine AG.only 11 rfl (by kernel_rfl) ?_
            refine RG.stRow4 (r := row) (M i) rfl rfl rfl rfl rfl sz_128 hbws57 (by omega) (fun ws59 hwws59 hbws59 => ?_)
            replace hBb := Blk.far hBb hwws59 (by omega)
            replace ho7 := Own.far ho7 hwws59 hsb21
            replace hxwl51 := Wr.below hxwl51 hwws59 hle23
            replace hbws59 : Blk ws59 gA 178 (mc4 (swp M i row)) := hbws59
            refine RG.done ?_
            refine QW.an (fun h => by simp at h) ?_
            refine AG.done (by kernel_rfl) ?_
            refine QW.then_ ?_
            refine CW.seq ?_
            refine CW.draw [9, 11] (.ex) 12 rfl mixed (fun wd60 hxwd60 => ?_)
            replace hxwl51 := Ex.tr hxwl51 hxwd60
            have hE61 := hxwd60
            refine AG.takeW 0 rfl (by kernel_rfl) (by kernel_rfl) rfl rfl rfl (fun _ => Ev.move rfl rfl) ?_
            refine AG.takeW 1 rfl (by kernel_rfl) (by kernel_rfl) rfl rfl rfl (fun _ => Ev.move rfl rfl) ?_
            refine AG.takeW 2 rfl (by kernel_rfl) (by kernel_rfl) rfl rfl rfl (fun _ => Ev.move rfl rfl) ?_
            refine AG.takeW 3 rfl (by kernel_rfl) (by kernel_rfl) rfl rfl rfl (fun _ => Ev.idxA rfl rfl rfl Tryz.underlying128 sz_5 (by omega)) ?_
            refine AG.take 4 rfl (by kernel_rfl) (by kernel_rfl) rfl rfl rfl (fun wq hq => Ev.ldAt rfl rfl Tryz.underlying5 rfl (((hBb.ext hE61).ext hq).cells) ((show (bc4 M)[row * 1]? = some (.int .u8 (M row 4 : Int)) by rw [bc4_at _ (by omega)]))) ?_
            refine AG.takeW 5 rfl (by kernel_rfl) (by kernel_rfl) rfl rfl rfl (fun _ => Ev.move rfl rfl) ?_
            refine AG.takeW 6 rfl (by kernel_rfl) (by kernel_rfl) rfl rfl rfl (fun _ => Ev.idxA rfl rfl rfl Tryz.underlying128 sz_5 (by omega)) ?_
            refine AG.take 7 rfl (by kernel_rfl) (by kernel_rfl) rfl rfl rfl (fun wq hq => Ev.ldAt rfl rfl Tryz.underlying5 rfl (((hBb.ext hE61).ext hq).cells) ((show (bc4 M)[i * 1]? = some (.int .u8 (M i 4 : Int)) by rw [bc4_at _ (by omega)]))) ?_
            refine AG.takeW 8 rfl (by kernel_rfl) (by kernel_rfl) rfl rfl rfl (fun _ => Ev.idxA rfl rfl rfl Tryz.underlying128 sz_5 (by omega)) ?_
            refine AG.only 9 rfl (by kernel_rfl) ?_
            refine RG.st (g := gB) (k := _) rfl rfl rfl rfl rfl sz_5 rfl (hBb.ext hE61) (by rw [bc4_len, Nat.blt_eq]; omega) (fun ws63 hwws63 hbws63 => ?_)
            replace ho7 := Own.far (Own.ext ho7 hE61) hwws63 hsb28
            replace hbws59 := Blk.far (hbws59.ext hE61) hwws63 (by omega)
            replace hxwl51 := Wr.below hxwl51 hwws63 hle30
            refine RG.done ?_
            refine QW.an (fun h => by simp at h) ?_
            refine AG.takeW 10 rfl (by kernel_rfl) (by kernel_rfl) rfl rfl rfl (fun _ => Ev.idxA rfl rfl rfl Tryz.underlying128 sz_5 (by omega)) ?_
            refine AG.only 11 rfl (by kernel_rfl) ?_
            refine RG.st (g := gB) (k := _) rfl rfl rfl rfl rfl sz_5 rfl hbws63 (by rw [List.length_set, bc4_len, Nat.blt_eq]; omega) (fun ws65 hwws65 hbws65 => ?_)
            replace ho7 := Own.far ho7 hwws65 hsb28
            replace hbws59 := Blk.far hbws59 hwws65 (by omega)
            replace hxwl51 := Wr.below hxwl51 hwws65 hle30
            rw [bc4_set _ _, bc4_set _ _, swp_b] at hbws65
            refine RG.done ?_
            refine QW.an (fun h => by simp at h) ?_
            refine AG.done (by kernel_rfl) ?_
            refine QW.sub (S' := [(1, _), (6, _), (7, _), (10, _), (11, _), (16, _)]) ⟨rfl, rfl, rfl, rfl, rfl, rfl, trivial⟩ ?_
            refine QW.then_ ?_
            refine CW.seq ?_
            refine CW.region ?_
            refine RG.vl rfl rfl rfl (Ev.move rfl rfl) ?_
            refine RG.vl rfl rfl rfl (Ev.move rfl rfl) ?_
            refine RG.vl rfl rfl rfl (Ev.idxA rfl rfl rfl Tryz.underlying178 sz_128 (by omega)) ?_
            refine RG.vl rfl rfl rfl (Ev.idxA rfl rfl rfl Tryz.underlying128 sz_5 (by omega)) ?_
            refine RG.vl rfl rfl rfl (Ev.ldAA rfl rfl Tryz.underlying5 rfl (hbws59.cells) ((show (mc4 (swp M i row))[i * 4 + i * 1]? = some (.int .u8 (M row i : Int)) by rw [mc4_at _ (by omega) (by omega), swp_i]))) ?_
            refine RG.call rfl rfl rfl rfl rfl rfl rfl en_93 (rinvN (M row i) _ h64 h0) ?_
            rintro _ w66 ⟨rfl, hx66⟩
            replace hxwl51 := Ex.tr hxwl51 hx66
            have hE67 := hx66
            refine RG.vl rfl rfl rfl (Ev.assign rfl rfl) ?_
            refine RG.done ?_
            refine QW.then_ ?_
            refine CW.seq ?_
            refine CW.seq ?_
            refine CW.region ?_
            refine RG.vl rfl rfl rfl (Ev.assign rfl rfl) ?_
            refine RG.done ?_
            refine QW.then_ ?_
            refine CW.block ?_
            refine CW.loop1 [(1, _), (6, _), (7, _), (10, _), (11, _), (16, _), (18, _)] ⟨rfl, rfl, rfl, rfl, rfl, rfl, rfl, trivial⟩ (fun (j : Nat) => [(19, .int .i64 (j : Int))]) (fun j w' => (j ≤ P.length ∧ Blk w' gA 178 (mc4 (scTo (swp M i row) i (gi (M row i)) j)) ∧ Blk w' gB 128 (bc4 (swp M i row)) ∧ Own w' w.heap.size 5 1 encN v7 (zerL l P P.length)) ∧ Ex w w') (fun j => P.length - j) (0) ⟨rfl, trivial⟩ ⟨⟨Nat.zero_le _, by rw [scTo_zero]; exact (hbws59.ext hE67), (hbws65.ext hE67), (Own.ext ho7 hE67)⟩, (Ex.tr hB0 hxwl51)⟩ ?_
            rintro j wl68 ⟨⟨hj, hA, hBb, ho7⟩, hxwl68⟩
            refine CW.sub (S' := [(19, _), (1, _), (6, _), (7, _), (10, _), (11, _), (16, _), (18, _)]) ⟨rfl, rfl, rfl, rfl, rfl, rfl, rfl, rfl, trivial⟩ ?_
            refine CW.seq ?_
            refine CW.seq ?_
            refine CW.region ?_
            refine RG.vl rfl rfl rfl (Ev.move rfl rfl) ?_
            refine RG.vl rfl rfl rfl (Ev.move rfl rfl) ?_
            refine RG.vl rfl rfl rfl (Ev.lss rfl rfl rfl) ?_
            refine RG.done ?_
            refine QW.then_ ?_
            refine CW.condP rfl (fun hc69 => ?_) (fun hc69 => ?_)
            · refine CW.skip ?_
              refine QW.then_ ?_
              refine CW.seq ?_
              refine CW.block ?_
              have e1 : scTo (swp M i row) i (gi (M row i)) j i j = (swp M i row) i j := by unfold scTo; rw [if_neg (by omega)]
              have h1 := hgs.el.swp (show i < 4 by omega) hr4 i j (by omega) (by omega)
              have h2 := gm_lt ((swp M i row) i j) (gi (M row i))
              refine CW.draw [11] (.ex) 12 rfl mixed (fun wd70 hxwd70 => ?_)
              replace hxwl68 := Ex.tr hxwl68 hxwd70
              have hE71 := hxwd70
              refine AG.takeW 0 rfl (by kernel_rfl) (by kernel_rfl) rfl rfl rfl (fun _ => Ev.move rfl rfl) ?_
              refine AG.takeW 1 rfl (by kernel_rfl) (by kernel_rfl) rfl rfl rfl (fun _ => Ev.move rfl rfl) ?_
              refine AG.takeW 2 rfl (by kernel_rfl) (by kernel_rfl) rfl rfl rfl (fun _ => Ev.move rfl rfl) ?_
              refine AG.takeW 3 rfl (by kernel_rfl) (by kernel_rfl) rfl rfl rfl (fun _ => Ev.move rfl rfl) ?_
              refine AG.takeW 4 rfl (by kernel_rfl) (by kernel_rfl) rfl rfl rfl (fun _ => Ev.idxA rfl rfl rfl Tryz.underlying178 sz_128 (by omega)) ?_
              refine AG.takeW 5 rfl (by kernel_rfl) (by kernel_rfl) rfl rfl rfl (fun _ => Ev.idxA rfl rfl rfl Tryz.underlying128 sz_5 (by omega)) ?_
              refine AG.take 6 rfl (by kernel_rfl) (by kernel_rfl) rfl rfl rfl (fun wq hq => Ev.ldAA rfl rfl Tryz.underlying5 rfl (((hA.ext hE71).ext hq).cells) ((show (mc4 _)[i * 4 + j * 1]? = some (.int .u8 ((swp M i row) i j : Int)) by rw [mc4_at _ (by omega) (by omega), e1]))) ?_
              refine AG.takeW 7 rfl (by kernel_rfl) (by kernel_rfl) rfl rfl rfl (fun _ => Ev.move rfl rfl) ?_
              refine AG.takeW 9 rfl (by kernel_rfl) (by kernel_rfl) rfl rfl rfl (fun _ => Ev.idxA rfl rfl rfl Tryz.underlying178 sz_128 (by omega)) ?_
              refine AG.only 8 rfl (by kernel_rfl) ?_
              refine RG.call rfl rfl rfl rfl rfl rfl rfl en_90 (rmul_ret _ _ _ (by exact h1) (by exact hgi)) ?_
              rintro _ w73 ⟨rfl, hx73⟩
              replace hxwl68 := Ex.tr hxwl68 hx73
              replace hE71 := Ex.tr hE71 hx73
              have hE74 := hx73
              refine RG.done ?_
              refine QW.an (fun _ => hE74) ?_
              refine AG.takeW 10 rfl (by kernel_rfl) (by kernel_rfl) rfl rfl rfl (fun _ => Ev.idxA rfl rfl rfl Tryz.underlying128 sz_5 (by omega)) ?_
              refine AG.only 11 rfl (by kernel_rfl) ?_
              refine RG.st2 (g := gA) rfl rfl rfl rfl rfl sz_5 rfl (hA.ext hE71) (by rw [mc4_len, Nat.blt_eq]; omega) (fun ws76 hwws76 hbws76 => ?_)
              replace hBb := Blk.far (hBb.ext hE71) hwws76 (by omega)
              replace ho7 := Own.far (Own.ext ho7 hE71) hwws76 hsb21
              replace hxwl68 := Wr.below hxwl68 hwws76 hle23
              rw [mc4_set _ _ (by omega), scTo_more] at hbws76
              refine RG.done ?_
              refine QW.an (fun h => by simp at h) ?_
              refine AG.done (by kernel_rfl) ?_
              refine QW.sub (S' := [(1, _), (6, _), (7, _), (10, _), (11, _), (16, _), (18, _), (19, _)]) ⟨rfl, rfl, rfl, rfl, rfl, rfl, rfl, rfl, trivial⟩ ?_
              refine QW.blockN ?_
              refine QW.then_ ?_
              refine CW.region ?_
              refine RG.vl rfl rfl rfl (Ev.move rfl rfl) ?_
              refine RG.vl rfl rfl rfl (Ev.addI rfl rfl rfl (by omega)) ?_
              refine RG.vl rfl rfl rfl (Ev.assign rfl rfl) ?_
              refine RG.done ?_
              refine QW.round1 (j + 1) ⟨rfl, trivial⟩ ⟨rfl, rfl, rfl, rfl, rfl, rfl, rfl, trivial⟩ ⟨⟨by omega, hbws76, hBb, ho7⟩, (Ex.tr hB0 hxwl68)⟩ (by omega)
            · refine CW.exit ?_
              refine QW.thenExit ?_
              refine QW.thenExit ?_
              refine QW.blockHit ?_
              refine QW.then_ ?_
              refine CW.seq ?_
              obtain rfl : j = P.length := by omega
              have h1 := hgs.el.swp (show i < 4 by omega) hr4 i 4 (by omega) (by omega)
              have h2 := gm_lt ((swp M i row) i 4) (gi (M row i))
              refine CW.region ?_
              refine RG.vl rfl rfl rfl (Ev.move rfl rfl) ?_
              refine RG.vl rfl rfl rfl (Ev.move rfl rfl) ?_
              refine RG.vl rfl rfl rfl (Ev.idxA rfl rfl rfl Tryz.underlying128 sz_5 (by omega)) ?_
              refine RG.vl rfl rfl rfl (Ev.ldAt rfl rfl Tryz.underlying5 rfl (hBb.cells) ((show (bc4 (swp M i row))[i * 1]? = some (.int .u8 ((swp M i row) i 4 : Int)) by rw [bc4_at _ (by omega)]))) ?_
              refine RG.vl rfl rfl rfl (Ev.move rfl rfl) ?_
              refine RG.call rfl rfl rfl rfl rfl rfl rfl en_90 (rmul_ret _ _ _ (by exact h1) (by exact hgi)) ?_
              rintro _ w77 ⟨rfl, hx77⟩
              replace hxwl68 := Ex.tr hxwl68 hx77
              have hE78 := hx77
              refine RG.vl rfl rfl rfl (Ev.idxA rfl rfl rfl Tryz.underlying128 sz_5 (by omega)) ?_
              refine RG.st (g := gB) (k := _) rfl rfl rfl rfl rfl sz_5 rfl (hBb.ext hE78) (by rw [bc4_len, Nat.blt_eq]; omega) (fun ws79 hwws79 hbws79 => ?_)
              replace hA := Blk.far (hA.ext hE78) hwws79 (by omega)
              replace ho7 := Own.far (Own.ext ho7 hE78) hwws79 hsb28
              replace hxwl68 := Wr.below hxwl68 hwws79 hle30
              rw [bc4_set _ _, piv_b] at hbws79
              rw [sc_end hzr (by omega) hri] at hA
              refine RG.done ?_
              refine QW.then_ ?_
              refine CW.seq ?_
              have hgr0 := gs_piv hgs h4 (by omega) hrow hr4 h0
              have hzr0 := zr_piv hzr (show i < P.length by omega) hri
              refine CW.region ?_
              refine RG.vl rfl rfl rfl (Ev.assign rfl rfl) ?_
              refine RG.done ?_
              refine QW.then_ ?_
              refine CW.block ?_
              refine CW.loop2 [(1, _), (6, _), (7, _), (10, _), (11, _), (16, _)] ⟨rfl, rfl, rfl, rfl, rfl, rfl, trivial⟩ (fun (row2 : Nat) (M4 : Mx) => [(20, .int .i64 (row2 : Int))]) (fun row2 M4 w' => (row2 ≤ P.length ∧ Gr (rM l.length P (syL (zerL l P P.length)) P.length 0) P.length M4 i row2 ∧ Zr P.length M4 ∧ Blk w' gA 178 (mc4 M4) ∧ Blk w' gB 128 (bc4 M4) ∧ Own w' w.heap.size 5 1 encN v7 (zerL l P P.length)) ∧ Ex w w') (fun row2 M4 => P.length - row2) (0) (pivM M i row) ⟨rfl, trivial⟩ ⟨⟨Nat.zero_le _, hgr0, hzr0, hA, hbws79, ho7⟩, (Ex.tr hB0 hxwl68)⟩ ?_
              rintro row2 M4 wl80 ⟨⟨hrow2, hgr, hgr_z, hA, hBb, ho7⟩, hxwl80⟩
              refine CW.sub (S' := [(20, _), (1, _), (6, _), (7, _), (10, _), (11, _), (16, _)]) ⟨rfl, rfl, rfl, rfl, rfl, rfl, rfl, trivial⟩ ?_
              refine CW.seq ?_
              refine CW.seq ?_
              refine CW.region ?_
              refine RG.vl rfl rfl rfl (Ev.move rfl rfl) ?_
              refine RG.vl rfl rfl rfl (Ev.move rfl rfl) ?_
              refine RG.vl rfl rfl rfl (Ev.lss rfl rfl rfl) ?_
              refine RG.done ?_
              refine QW.then_ ?_
              refine CW.condP rfl (fun hc81 => ?_) (fun hc81 => ?_)
              · refine CW.skip ?_
                refine QW.then_ ?_
                refine CW.seq ?_
                refine CW.block ?_
                refine CW.seq ?_
                refine CW.region ?_
                refine RG.vl rfl rfl rfl (Ev.move rfl rfl) ?_
                refine RG.vl rfl rfl rfl (Ev.move rfl rfl) ?_
                refine RG.vl rfl rfl rfl (Ev.neI rfl rfl rfl) ?_
                refine RG.done ?_
                refine QW.then_ ?_
                refine CW.condP rfl (fun hc82 => ?_) (fun hc82 => ?_)
                · refine CW.seq ?_
                  have hm64 := hgr.el row2 i (by omega) (by omega)
                  refine CW.region ?_
                  refine RG.vl rfl rfl rfl (Ev.move rfl rfl) ?_
                  refine RG.vl rfl rfl rfl (Ev.move rfl rfl) ?_
                  refine RG.vl rfl rfl rfl (Ev.idxA rfl rfl rfl Tryz.underlying178 sz_128 (by omega)) ?_
                  refine RG.vl rfl rfl rfl (Ev.idxA rfl rfl rfl Tryz.underlying128 sz_5 (by omega)) ?_
                  refine RG.vl rfl rfl rfl (Ev.ldAA rfl rfl Tryz.underlying5 rfl (hA.cells) ((show (mc4 M4)[row2 * 4 + i * 1]? = some (.int .u8 (M4 row2 i : Int)) by rw [mc4_at _ (by omega) (by omega)]))) ?_
                  refine RG.vl rfl rfl rfl (Ev.assign rfl rfl) ?_
                  refine RG.done ?_
                  refine QW.then_ ?_
                  refine CW.seq ?_
                  refine CW.seq ?_
                  refine CW.region ?_
                  refine RG.vl rfl rfl rfl (Ev.assign rfl rfl) ?_
                  refine RG.done ?_
                  refine QW.then_ ?_
                  refine CW.block ?_
                  refine CW.loop1 [(1, _), (6, _), (7, _), (10, _), (11, _), (16, _), (20, _), (21, _)] ⟨rfl, rfl, rfl, rfl, rfl, rfl, rfl, rfl, trivial⟩ (fun (j : Nat) => [(22, .int .i64 (j : Int))]) (fun j w' => (j ≤ P.length ∧ Blk w' gA 178 (mc4 (subTo M4 row2 i (M4 row2 i) j)) ∧ Blk w' gB 128 (bc4 M4) ∧ Own w' w.heap.size 5 1 encN v7 (zerL l P P.length)) ∧ Ex w w') (fun j => P.length - j) (0) ⟨rfl, trivial⟩ ⟨⟨Nat.zero_le _, by rw [subTo_zero]; exact hA, hBb, ho7⟩, (Ex.tr hB0 hxwl80)⟩ ?_
                  rintro j wl83 ⟨⟨hj, hA, hBb, ho7⟩, hxwl83⟩
                  refine CW.sub (S' := [(22, _), (1, _), (6, _), (7, _), (10, _), (11, _), (16, _), (20, _), (21, _)]) ⟨rfl, rfl, rfl, rfl, rfl, rfl, rfl, rfl, rfl, trivial⟩ ?_
                  refine CW.seq ?_
                  refine CW.seq ?_
                  refine CW.region ?_
                  refine RG.vl rfl rfl rfl (Ev.move rfl rfl) ?_
                  refine RG.vl rfl rfl rfl (Ev.move rfl rfl) ?_
                  refine RG.vl rfl rfl rfl (Ev.lss rfl rfl rfl) ?_
                  refine RG.done ?_
                  refine QW.then_ ?_
                  refine CW.condP rfl (fun hc84 => ?_) (fun hc84 => ?_)
                  · refine CW.skip ?_
                    refine QW.then_ ?_
                    refine CW.seq ?_
                    refine CW.block ?_
                    have e1 : subTo M4 row2 i (M4 row2 i) j i j = M4 i j := by unfold subTo; rw [if_neg (by omega)]
                    have e2 : subTo M4 row2 i (M4 row2 i) j row2 j = M4 row2 j := by unfold subTo; rw [if_neg (by omega)]
                    have h1 := hgr.el i j (by omega) (by omega)
                    have h2 := hgr.el row2 j (by omega) (by omega)
                    have h3 := gm_lt (M4 row2 i) (M4 i j)
                    have h5 := xor_lt64 _ _ h2 h3
                    refine CW.draw [17] (.ex) 18 rfl mixed (fun wd85 hxwd85 => ?_)
                    replace hxwl83 := Ex.tr hxwl83 hxwd85
                    have hE86 := hxwd85
                    refine AG.takeW 0 rfl (by kernel_rfl) (by kernel_rfl) rfl rfl rfl (fun _ => Ev.move rfl rfl) ?_
                    refine AG.takeW 1 rfl (by kernel_rfl) (by kernel_rfl) rfl rfl rfl (fun _ => Ev.move rfl rfl) ?_
                    refine AG.takeW 2 rfl (by kernel_rfl) (by kernel_rfl) rfl rfl rfl (fun _ => Ev.move rfl rfl) ?_
                    refine AG.takeW 3 rfl (by kernel_rfl) (by kernel_rfl) rfl rfl rfl (fun _ => Ev.move rfl rfl) ?_
                    refine AG.takeW 4 rfl (by kernel_rfl) (by kernel_rfl) rfl rfl rfl (fun _ => Ev.idxA rfl rfl rfl Tryz.underlying178 sz_128 (by omega)) ?_
                    refine AG.takeW 5 rfl (by kernel_rfl) (by kernel_rfl) rfl rfl rfl (fun _ => Ev.idxA rfl rfl rfl Tryz.underlying128 sz_5 (by omega)) ?_
                    refine AG.take 6 rfl (by kernel_rfl) (by kernel_rfl) rfl rfl rfl (fun wq hq => Ev.ldAA rfl rfl Tryz.underlying5 rfl (((hA.ext hE86).ext hq).cells) ((show (mc4 _)[row2 * 4 + j * 1]? = some (.int .u8 (M4 row2 j : Int)) by rw [mc4_at _ (by omega) (by omega), e2]))) ?_
                    refine AG.takeW 7 rfl (by kernel_rfl) (by kernel_rfl) rfl rfl rfl (fun _ => Ev.move rfl rfl) ?_
                    refine AG.takeW 8 rfl (by kernel_rfl) (by kernel_rfl) rfl rfl rfl (fun _ => Ev.move rfl rfl) ?_
                    refine AG.takeW 9 rfl (by kernel_rfl) (by kernel_rfl) rfl rfl rfl (fun _ => Ev.move rfl rfl) ?_
                    refine AG.takeW 10 rfl (by kernel_rfl) (by kernel_rfl) rfl rfl rfl (fun _ => Ev.idxA rfl rfl rfl Tryz.underlying178 sz_128 (by omega)) ?_
                    refine AG.takeW 11 rfl (by kernel_rfl) (by kernel_rfl) rfl rfl rfl (fun _ => Ev.idxA rfl rfl rfl Tryz.underlying128 sz_5 (by omega)) ?_
                    refine AG.take 12 rfl (by kernel_rfl) (by kernel_rfl) rfl rfl rfl (fun wq hq => Ev.ldAA rfl rfl Tryz.underlying5 rfl (((hA.ext hE86).ext hq).cells) ((show (mc4 _)[i * 4 + j * 1]? = some (.int .u8 (M4 i j : Int)) by rw [mc4_at _ (by omega) (by omega), e1]))) ?_
                    refine AG.takeW 15 rfl (by kernel_rfl) (by kernel_rfl) rfl rfl rfl (fun _ => Ev.idxA rfl rfl rfl Tryz.underlying178 sz_128 (by omega)) ?_
                    refine AG.only 13 rfl (by kernel_rfl) ?_
                    refine RG.call rfl rfl rfl rfl rfl rfl rfl en_90 (rmul_ret _ _ _ (by exact hm64) (by exact h1)) ?_
                    rintro _ w88 ⟨rfl, hx88⟩
                    replace hxwl83 := Ex.tr hxwl83 hx88
                    replace hE86 := Ex.tr hE86 hx88
                    have hE89 := hx88
                    refine RG.done ?_
                    refine QW.an (fun _ => hE89) ?_
                    refine AG.takeW 14 rfl (by kernel_rfl) (by kernel_rfl) rfl rfl rfl (fun _ => Ev.xor8 rfl rfl rfl (by omega) (by omega)) ?_
                    refine AG.takeW 16 rfl (by kernel_rfl) (by kernel_rfl) rfl rfl rfl (fun _ => Ev.idxA rfl rfl rfl Tryz.underlying128 sz_5 (by omega)) ?_
                    refine AG.only 17 rfl (by kernel_rfl) ?_
                    refine RG.st2 (g := gA) rfl rfl rfl rfl rfl sz_5 rfl (hA.ext hE86) (by rw [mc4_len, Nat.blt_eq]; omega) (fun ws91 hwws91 hbws91 => ?_)
                    replace hBb := Blk.far (hBb.ext hE86) hwws91 (by omega)
                    replace ho7 := Own.far (Own.ext ho7 hE86) hwws91 hsb21
                    replace hxwl83 := Wr.below hxwl83 hwws91 hle23
                    rw [mc4_set _ _ (by omega), subTo_more] at hbws91
                    refine RG.done ?_
                    refine QW.an (fun h => by simp at h) ?_
                    refine AG.done (by kernel_rfl) ?_
                    refine QW.sub (S' := [(1, _), (6, _), (7, _), (10, _), (11, _), (16, _), (20, _), (21, _), (22, _)]) ⟨rfl, rfl, rfl, rfl, rfl, rfl, rfl, rfl, rfl, trivial⟩ ?_
                    refine QW.blockN ?_
                    refine QW.then_ ?_
                    refine CW.region ?_
                    refine RG.vl rfl rfl rfl (Ev.move rfl rfl) ?_
                    refine RG.vl rfl rfl rfl (Ev.addI rfl rfl rfl (by omega)) ?_
                    refine RG.vl rfl rfl rfl (Ev.assign rfl rfl) ?_
                    refine RG.done ?_
                    refine QW.round1 (j + 1) ⟨rfl, trivial⟩ ⟨rfl, rfl, rfl, rfl, rfl, rfl, rfl, rfl, trivial⟩ ⟨⟨by omega, hbws91, hBb, ho7⟩, (Ex.tr hB0 hxwl83)⟩ (by omega)
                  · refine CW.exit ?_
                    refine QW.thenExit ?_
                    refine QW.thenExit ?_
                    refine QW.blockHit ?_
                    refine QW.then_ ?_
                    obtain rfl : j = P.length := by omega
                    have h1 := hgr.el i 4 (by omega) (by omega)
                    have h2 := hgr.el row2 4 (by omega) (by omega)
                    have h3 := gm_lt (M4 row2 i) (M4 i 4)
                    have h5 := xor_lt64 _ _ h2 h3
                    refine CW.draw [11] (.ex) 12 rfl mixed (fun wd92 hxwd92 => ?_)
                    replace hxwl83 := Ex.tr hxwl83 hxwd92
                    have hE93 := hxwd92
                    refine AG.takeW 0 rfl (by kernel_rfl) (by kernel_rfl) rfl rfl rfl (fun _ => Ev.move rfl rfl) ?_
                    refine AG.takeW 1 rfl (by kernel_rfl) (by kernel_rfl) rfl rfl rfl (fun _ => Ev.move rfl rfl) ?_
                    refine AG.takeW 2 rfl (by kernel_rfl) (by kernel_rfl) rfl rfl rfl (fun _ => Ev.idxA rfl rfl rfl Tryz.underlying128 sz_5 (by omega)) ?_
                    refine AG.take 3 rfl (by kernel_rfl) (by kernel_rfl) rfl rfl rfl (fun wq hq => Ev.ldAt rfl rfl Tryz.underlying5 rfl (((hBb.ext hE93).ext hq).cells) ((show (bc4 M4)[row2 * 1]? = some (.int .u8 (M4 row2 4 : Int)) by rw [bc4_at _ (by omega)]))) ?_
                    refine AG.takeW 4 rfl (by kernel_rfl) (by kernel_rfl) rfl rfl rfl (fun _ => Ev.move rfl rfl) ?_
                    refine AG.takeW 5 rfl (by kernel_rfl) (by kernel_rfl) rfl rfl rfl (fun _ => Ev.move rfl rfl) ?_
                    refine AG.takeW 6 rfl (by kernel_rfl) (by kernel_rfl) rfl rfl rfl (fun _ => Ev.idxA rfl rfl rfl Tryz.underlying128 sz_5 (by omega)) ?_
                    refine AG.take 7 rfl (by kernel_rfl) (by kernel_rfl) rfl rfl rfl (fun wq hq => Ev.ldAt rfl rfl Tryz.underlying5 rfl (((hBb.ext hE93).ext hq).cells) ((show (bc4 M4)[i * 1]? = some (.int .u8 (M4 i 4 : Int)) by rw [bc4_at _ (by omega)]))) ?_
                    refine AG.only 8 rfl (by kernel_rfl) ?_
                    refine RG.call rfl rfl rfl rfl rfl rfl rfl en_90 (rmul_ret _ _ _ (by exact hm64) (by exact h1)) ?_
                    rintro _ w95 ⟨rfl, hx95⟩
                    replace hxwl83 := Ex.tr hxwl83 hx95
                    replace hE93 := Ex.tr hE93 hx95
                    have hE96 := hx95
                    refine RG.done ?_
                    refine QW.an (fun _ => hE96) ?_
                    refine AG.takeW 9 rfl (by kernel_rfl) (by kernel_rfl) rfl rfl rfl (fun _ => Ev.xor8 rfl rfl rfl (by omega) (by omega)) ?_
                    refine AG.takeW 10 rfl (by kernel_rfl) (by kernel_rfl) rfl rfl rfl (fun _ => Ev.idxA rfl rfl rfl Tryz.underlying128 sz_5 (by omega)) ?_
                    refine AG.only 11 rfl (by kernel_rfl) ?_
                    refine RG.st (g := gB) (k := _) rfl rfl rfl rfl rfl sz_5 rfl (hBb.ext hE93) (by rw [bc4_len, Nat.blt_eq]; omega) (fun ws98 hwws98 hbws98 => ?_)
                    replace hA := Blk.far (hA.ext hE93) hwws98 (by omega)
                    replace ho7 := Own.far (Own.ext ho7 hE93) hwws98 hsb28
                    replace hxwl83 := Wr.below hxwl83 hwws98 hle30
                    rw [bc4_set _ _, sub_b0] at hbws98
                    rw [sub_end hgr_z (by omega) h4] at hA
                    refine RG.done ?_
                    refine QW.an (fun h => by simp at h) ?_
                    refine AG.done (by kernel_rfl) ?_
                    refine QW.sub (S' := [(1, _), (6, _), (7, _), (10, _), (11, _), (16, _), (20, _)]) ⟨rfl, rfl, rfl, rfl, rfl, rfl, rfl, trivial⟩ ?_
                    refine QW.blockN ?_
                    refine QW.then_ ?_
                    refine CW.region ?_
                    refine RG.vl rfl rfl rfl (Ev.move rfl rfl) ?_
                    refine RG.vl rfl rfl rfl (Ev.addI rfl rfl rfl (by omega)) ?_
                    refine RG.vl rfl rfl rfl (Ev.assign rfl rfl) ?_
                    refine RG.done ?_
                    refine QW.round2 (row2 + 1) (subTo M4 row2 i (M4 row2 i) 5) ⟨rfl, trivial⟩ ⟨rfl, rfl, rfl, rfl, rfl, rfl, trivial⟩ ⟨⟨by omega, gr_sub hgr h4 (by omega) (by omega) (by omega), zr_sub hgr_z (by omega) (by omega), hA, hbws98, ho7⟩, (Ex.tr hB0 hxwl83)⟩ (by omega)
                · refine CW.skip ?_
                  refine QW.blockN ?_
                  refine QW.then_ ?_
                  refine CW.region ?_
                  refine RG.vl rfl rfl rfl (Ev.move rfl rfl) ?_
                  refine RG.vl rfl rfl rfl (Ev.addI rfl rfl rfl (by omega)) ?_
                  refine RG.vl rfl rfl rfl (Ev.assign rfl rfl) ?_
                  refine RG.done ?_
                  refine QW.round2 (row2 + 1) (M4) ⟨rfl, trivial⟩ ⟨rfl, rfl, rfl, rfl, rfl, rfl, trivial⟩ ⟨⟨by omega, gr_skip hgr (.inl (by omega)), hgr_z, hA, hBb, ho7⟩, (Ex.tr hB0 hxwl80)⟩ (by omega)
              · refine CW.exit ?_
                refine QW.thenExit ?_
                refine QW.thenExit ?_
                refine QW.blockHit ?_
                refine QW.blockN ?_
                refine QW.then_ ?_
                refine CW.region ?_
                refine RG.vl rfl rfl rfl (Ev.move rfl rfl) ?_
                refine RG.vl rfl rfl rfl (Ev.addI rfl rfl rfl (by omega)) ?_
                refine RG.vl rfl rfl rfl (Ev.assign rfl rfl) ?_
                refine RG.done ?_
                refine QW.round2 (i + 1) (M4) ⟨rfl, trivial⟩ ⟨rfl, rfl, rfl, rfl, rfl, trivial⟩ ⟨⟨by omega, (by obtain rfl : row2 = P.length := (by omega); exact gr_tail hgr_z (by omega) h4 hgr), hgr_z, hA, hBb, ho7⟩, (Ex.tr hB0 hxwl80)⟩ (by omega)
        · refine RG.pass rfl rfl rfl ?_
          refine RG.pass rfl rfl rfl ?_
          refine RG.pass rfl rfl rfl ?_
          refine RG.pass rfl rfl rfl ?_
          refine RG.pass rfl rfl rfl ?_
          refine RG.pass rfl rfl rfl ?_
          refine RG.vl rfl rfl rfl (Ev.pickF rfl rfl rfl) ?_
          refine RG.done ?_
          refine QW.then_ ?_
          refine CW.condF rfl ?_
          refine CW.exit ?_
          refine QW.thenExit ?_
          refine QW.thenExit ?_
          refine QW.blockHit ?_
          refine QW.then_ ?_
          refine CW.seq ?_
          refine CW.seq ?_
          refine CW.region ?_
          refine RG.vl rfl rfl rfl (Ev.move rfl rfl) ?_
          refine RG.vl rfl rfl rfl (Ev.move rfl rfl) ?_
          refine RG.vl rfl rfl rfl (Ev.isT (Ev.eqI rfl rfl rfl) (by omega)) ?_
          refine RG.done ?_
          refine QW.sub (S' := [(1, _), (6, _), (7, _), (10, _), (11, _), (16, _), (17, _), (97, _)]) ⟨rfl, rfl, rfl, rfl, rfl, rfl, rfl, rfl, trivial⟩ ?_
          refine QW.then_ ?_
          refine CW.condT rfl ?_
          refine CW.seq ?_
          refine CW.region ?_
          refine RG.vl rfl rfl rfl (Ev.assign rfl rfl) ?_
          refine RG.vl rfl rfl rfl (Ev.assign rfl rfl) ?_
          refine RG.done ?_
          refine QW.then_ ?_
          refine CW.ret ?_
          refine QW.thenRet ?_
          refine QW.blockR ?_
          refine QW.thenRet ?_
          refine QW.thenRet ?_
          refine QW.blockR ?_
          refine QW.thenRet ?_
          refine QW.ret2 rfl rfl rfl ?_
          have hB := (Ex.tr hB0 hxwl51)
          exact ⟨_, false, [], rfl, Own.nil_ _ _ _ _ _, (fun h => by cases h), fun _ => fil_none hle hw2 hd h4 hp hgs hzr (by omega) (fun r h1 h2 => hz r h1 (by omega)), hB⟩
      · refine CW.exit ?_
        refine QW.thenExit ?_
        refine QW.thenExit ?_
        refine QW.blockHit ?_
        refine QW.then_ ?_
        refine CW.seq ?_
        refine CW.seq ?_
        obtain rfl : i = P.length := by omega
        refine CW.region ?_
        refine RG.vl rfl rfl rfl (Ev.assign rfl rfl) ?_
        refine RG.done ?_
        refine QW.then_ ?_
        refine CW.block ?_
        refine CW.loop1 [(1, _), (6, _), (7, _), (11, _)] ⟨rfl, rfl, rfl, rfl, trivial⟩ (fun (i2 : Nat) => [(23, .int .i64 (i2 : Int))]) (fun i2 w' => (i2 ≤ P.length ∧ Blk w' gA 178 (mc4 M) ∧ Blk w' gB 128 (bc4 M) ∧ Own w' w.heap.size 5 1 encN v7 (putL (zerL l P P.length) P M i2)) ∧ Ex w w') (fun i2 => P.length - i2) (0) ⟨rfl, trivial⟩ ⟨⟨Nat.zero_le _, hA, hBb, ho7⟩, (Ex.tr hB0 hxwl49)⟩ ?_
        rintro i2 wl99 ⟨⟨hi2, hA, hBb, ho7⟩, hxwl99⟩
        refine CW.sub (S' := [(23, _), (1, _), (6, _), (7, _), (11, _)]) ⟨rfl, rfl, rfl, rfl, rfl, trivial⟩ ?_
        refine CW.seq ?_
        refine CW.seq ?_
        refine CW.region ?_
        refine RG.vl rfl rfl rfl (Ev.move rfl rfl) ?_
        refine RG.vl rfl rfl rfl (Ev.move rfl rfl) ?_
        refine RG.vl rfl rfl rfl (Ev.lss rfl rfl rfl) ?_
        refine RG.done ?_
        refine QW.then_ ?_
        refine CW.condP rfl (fun hc100 => ?_) (fun hc100 => ?_)
        · refine CW.skip ?_
          refine QW.then_ ?_
          refine CW.seq ?_
          refine CW.block ?_
          have hpi := hp _ (List.mem_of_getElem? (getElem?_cf (p := P) (k := i2) (by omega)))
          have hpl := putL_len (zerL l P P.length) P M i2
          have hM4 := hgs.el i2 4 (by omega) (by omega)
          refine CW.draw [9] (.ex) 10 rfl mixed (fun wd101 hxwd101 => ?_)
          replace hxwl99 := Ex.tr hxwl99 hxwd101
          have hE102 := hxwd101
          refine AG.takeW 0 rfl (by kernel_rfl) (by kernel_rfl) rfl rfl rfl (fun _ => Ev.move rfl rfl) ?_
          refine AG.takeW 1 rfl (by kernel_rfl) (by kernel_rfl) rfl rfl rfl (fun _ => Ev.move rfl rfl) ?_
          refine AG.takeW 2 rfl (by kernel_rfl) (by kernel_rfl) rfl rfl rfl (fun _ => Ev.move rfl rfl) ?_
          refine AG.idxL _ 3 rfl (by kernel_rfl) (by kernel_rfl) rfl rfl rfl rfl rfl rfl Tryz.underlying29 sz_3 ((hm.ext hxwl99)) (getElem?_cf (by omega)) (fun p103 hp103b hp103 => ?_)
          refine AG.take 4 rfl (by kernel_rfl) (by kernel_rfl) rfl rfl rfl (fun wq hq => Ev.ld0 rfl rfl Tryz.underlying3 rfl (hp103.ext hq hp103b) (rfl)) ?_
          refine AG.takeW 5 rfl (by kernel_rfl) (by kernel_rfl) rfl rfl rfl (fun _ => Ev.move rfl rfl) ?_
          refine AG.takeW 6 rfl (by kernel_rfl) (by kernel_rfl) rfl rfl rfl (fun _ => Ev.idxA rfl rfl rfl Tryz.underlying128 sz_5 (by omega)) ?_
          refine AG.take 7 rfl (by kernel_rfl) (by kernel_rfl) rfl rfl rfl (fun wq hq => Ev.ldAt rfl rfl Tryz.underlying5 rfl (((hBb.ext hE102).ext hq).cells) ((show (bc4 M)[i2 * 1]? = some (.int .u8 (M i2 4 : Int)) by rw [bc4_at _ (by omega)]))) ?_
          refine AG.idxO _ 8 rfl (by kernel_rfl) (by kernel_rfl) rfl rfl rfl rfl rfl rfl Tryz.underlying58 sz_5 encN_len ((Own.ext ho7 hE102)) (getElem?_cf (show cf P i2 < _ by omega)) (fun g105 hg105 hBg105 hp104b hp104 => ?_)
          refine AG.only 9 rfl (by kernel_rfl) ?_
          refine RG.stOw0 (g := g105) (M i2 4) rfl rfl rfl rfl rfl sz_5 rfl (fun _ => rfl) (Own.ext ho7 hE102) hg105 (getElem?_cf (show cf P i2 < _ by omega)) rfl (rfl) (fun ws107 hwws107 hown108 => ?_)
          replace hA := Blk.far (hA.ext hE102) hwws107 (fun e => hsb21 (by rw [e]; exact hg105))
          replace hBb := Blk.far (hBb.ext hE102) hwws107 (fun e => hsb28 (by rw [e]; exact hg105))
          replace hxwl99 := Wr.below hxwl99 hwws107 hBg105
          refine RG.done ?_
          refine QW.an (fun h => by simp at h) ?_
          refine AG.done (by kernel_rfl) ?_
          refine QW.blockN ?_
          refine QW.then_ ?_
          refine CW.region ?_
          refine RG.vl rfl rfl rfl (Ev.move rfl rfl) ?_
          refine RG.vl rfl rfl rfl (Ev.addI rfl rfl rfl (by omega)) ?_
          refine RG.vl rfl rfl rfl (Ev.assign rfl rfl) ?_
          refine RG.done ?_
          refine QW.sub (S' := [(1, _), (6, _), (7, _), (11, _), (23, _)]) ⟨rfl, rfl, rfl, rfl, rfl, trivial⟩ ?_
          refine QW.round1 (i2 + 1) ⟨rfl, trivial⟩ ⟨rfl, rfl, rfl, rfl, trivial⟩ ⟨⟨by omega, hA, hBb, hown108⟩, (Ex.tr hB0 hxwl99)⟩ (by omega)
        · refine CW.exit ?_
          refine QW.thenExit ?_
          refine QW.thenExit ?_
          refine QW.blockHit ?_
          refine QW.then_ ?_
          refine CW.seq ?_
          have hpl := putL_len (zerL l P P.length) P M i2
          refine CW.region ?_
          refine RG.vl rfl rfl rfl (Ev.move rfl rfl) ?_
          refine RG.vl rfl rfl rfl (Ev.move rfl rfl) ?_
          refine RG.call rfl rfl rfl rfl rfl rfl rfl en_116 (rvalid_ret _ _ _ ((ho7.rdl encN_len)) (by omega)) ?_
          rintro _ w109 ⟨rfl, hx109⟩
          replace hxwl99 := Ex.tr hxwl99 hx109
          have hE110 := hx109
          refine RG.vl rfl rfl rfl (Ev.assign rfl rfl) ?_
          refine RG.vl rfl rfl rfl (Ev.assign rfl rfl) ?_
          refine RG.done ?_
          refine QW.then_ ?_
          refine CW.ret ?_
          refine QW.ret2 rfl rfl rfl ?_
          have hB := (Ex.tr hB0 hxwl99)
          obtain rfl : i2 = P.length := by omega
          obtain ⟨hy, hn⟩ := fil_end hle hw1 hw2 hd h4 hp hgs hzr
          exact ⟨_, _, _, rfl, (Own.ext ho7 hE110), hy, hn, hB⟩

end Go.Proofs.YtgjnchjkjdnidaaGreat

/- Walks (RO). Written by program. -/
namespace Go.Proofs.YtgjnchjkjdnidaaGreat
open Go.RowKit
set_option maxRecDepth 100000 in
set_option maxHeartbeats 1000000 in
theorem rhas_ret (u : Value) (L : List Int) (n : Int) (w : World) (hl : RdL w 1 encI u L) (hlen : L.length ≤ 100000) :
    Ret Tryz.prog 77 [u, .int .i64 n] w (fun v w' => v = .bool (decide (n ∈ L)) ∧ Ex w w') := by
  have hB0 : Ex w w := Ex.rfl_ _
  refine Ret.of Tryz.func77 rfl Tryz.ntmps77 rfl ?_
  refine CW.seq ?_
  refine CW.region ?_
  refine RG.vl rfl rfl rfl (Ev.assign rfl rfl) ?_
  refine RG.done ?_
  refine QW.then_ ?_
  refine CW.seq ?_
  refine CW.seq ?_
  refine CW.region ?_
  refine RG.vl rfl rfl rfl (Ev.assign rfl rfl) ?_
  refine RG.done ?_
  refine QW.then_ ?_
  refine CW.block ?_
  refine CW.loop1 [(0, _), (1, _)] ⟨rfl, rfl, trivial⟩ (fun (i : Nat) => [(5, .int .i64 (i : Int))]) (fun i w' => (i ≤ L.length ∧ ∀ j a, j < i → L[j]? = some a → a ≠ n) ∧ Ex w w') (fun i => L.length - i) (0) ⟨rfl, trivial⟩ ⟨⟨Nat.zero_le _, fun j a h => absurd h (by omega)⟩, hB0⟩ ?_
  rintro i wl1 ⟨⟨hi, hno⟩, hxwl1⟩
  refine CW.sub (S' := [(5, _), (0, _), (1, _)]) ⟨rfl, rfl, rfl, trivial⟩ ?_
  refine CW.seq ?_
  refine CW.seq ?_
  refine CW.region ?_
  refine RG.vl rfl rfl rfl (Ev.move rfl rfl) ?_
  refine RG.vl rfl rfl rfl (Ev.move rfl rfl) ?_
  refine RG.vl rfl rfl rfl (Ev.lenL rfl rfl rfl Tryz.underlying29 ((hl.ext hxwl1))) ?_
  refine RG.vl rfl rfl rfl (Ev.lss rfl rfl rfl) ?_
  refine RG.done ?_
  refine QW.then_ ?_
  refine CW.condP rfl (fun hc2 => ?_) (fun hc2 => ?_)
  · refine CW.skip ?_
    refine QW.then_ ?_
    refine CW.seq ?_
    refine CW.block ?_
    refine CW.seq ?_
    obtain ⟨x, hx⟩ : ∃ x, L[i]? = some x := ⟨_, List.getElem?_eq_getElem (by omega)⟩
    refine CW.region ?_
    refine RG.vl rfl rfl rfl (Ev.move rfl rfl) ?_
    refine RG.vl rfl rfl rfl (Ev.move rfl rfl) ?_
    refine RG.idxL rfl rfl rfl rfl rfl rfl Tryz.underlying29 sz_3 ((hl.ext hxwl1)) (hx) (fun p3 hp3b hp3 => ?_)
    refine RG.vl rfl rfl rfl (Ev.ld0 rfl rfl Tryz.underlying3 rfl (hp3) (rfl)) ?_
    refine RG.vl rfl rfl rfl (Ev.move rfl rfl) ?_
    refine RG.vl rfl rfl rfl (Ev.eqI rfl rfl rfl) ?_
    refine RG.done ?_
    refine QW.then_ ?_
    refine CW.condP rfl (fun hc4 => ?_) (fun hc4 => ?_)
    · refine CW.seq ?_
      refine CW.region ?_
      refine RG.vl rfl rfl rfl (Ev.assign rfl rfl) ?_
      refine RG.done ?_
      refine QW.then_ ?_
      refine CW.ret ?_
      refine QW.blockR ?_
      refine QW.thenRet ?_
      refine QW.thenRet ?_
      refine QW.blockR ?_
      refine QW.thenRet ?_
      refine QW.ret1 rfl rfl ?_
      have hB := (Ex.tr hB0 hxwl1)
      exact ⟨congrArg Value.bool (by rw [eq_comm, decide_eq_true_iff]; have := List.mem_of_getElem? hx; rwa [show x = n by omega] at this), hB⟩
    · refine CW.skip ?_
      refine QW.blockN ?_
      refine QW.then_ ?_
      refine CW.region ?_
      refine RG.vl rfl rfl rfl (Ev.move rfl rfl) ?_
      refine RG.vl rfl rfl rfl (Ev.addI rfl rfl rfl (by omega)) ?_
      refine RG.vl rfl rfl rfl (Ev.assign rfl rfl) ?_
      refine RG.done ?_
      refine QW.round1 (i + 1) ⟨rfl, trivial⟩ ⟨rfl, rfl, trivial⟩ ⟨⟨by omega, fun j a hj ha => by rcases Nat.lt_or_ge j i with h | h; exact hno j a h ha; obtain rfl : j = i := (by omega); rw [hx] at ha; injection ha with ha; omega⟩, (Ex.tr hB0 hxwl1)⟩ (by omega)
  · refine CW.exit ?_
    refine QW.thenExit ?_
    refine QW.thenExit ?_
    refine QW.blockHit ?_
    refine QW.then_ ?_
    refine CW.seq ?_
    refine CW.region ?_
    refine RG.vl rfl rfl rfl (Ev.assign rfl rfl) ?_
    refine RG.done ?_
    refine QW.then_ ?_
    refine CW.ret ?_
    refine QW.ret1 rfl rfl ?_
    have hB := (Ex.tr hB0 hxwl1)
    exact ⟨congrArg Value.bool (by rw [eq_comm, decide_eq_false_iff_not]; intro hm; obtain ⟨j, hj⟩ := List.mem_iff_getElem?.1 hm; exact hno j n (by have := (List.getElem?_eq_some_iff.1 hj).1; omega) hj rfl), hB⟩

set_option maxRecDepth 100000 in
set_option maxHeartbeats 8000000 in
theorem rdecode_ret (u v0 : Value) (l : List Nat) (ei : List Int) (w : World) (hl : RdL w 1 encN u l) (hm : RdL w 1 encI v0 ei) (hlen : l.length ≤ 100000) (hlen2 : ei.length ≤ 100000) :
    Ret Tryz.prog 35 [u, v0] w (fun v w' => ∃ r x c es e, v = .tuple #[r, x, .int .i64 e] ∧ Own w' w.heap.size 5 1 encN r c ∧ Own w' w.heap.size 3 1 encZ x es ∧ RDec l ei e c es ∧ Ex w w') := by
  obtain ⟨uA, uC, rfl⟩ := hl.shape
  obtain ⟨vA, vC, rfl⟩ := hm.shape
  have hB0 : Ex w w := Ex.rfl_ _
  refine Ret.of Tryz.func35 rfl Tryz.ntmps35 rfl ?_
  refine CW.seq ?_
  refine CW.region ?_
  refine RG.vl rfl rfl rfl (Ev.assign rfl rfl) ?_
  refine RG.vl rfl rfl rfl (Ev.assign rfl rfl) ?_
  refine RG.vl rfl rfl rfl (Ev.assign rfl rfl) ?_
  refine RG.done ?_
  refine QW.then_ ?_
  refine CW.seq ?_
  refine CW.seq ?_
  refine CW.region ?_
  refine RG.vl rfl rfl rfl (Ev.move rfl rfl) ?_
  refine RG.call rfl rfl rfl rfl rfl rfl rfl en_76 (rword_ret _ _ _ (hl) (by omega)) ?_
  rintro _ w1 ⟨rfl, hx1⟩
  have hE2 := hx1
  refine RG.vl rfl rfl rfl (Ev.not rfl rfl) ?_
  refine RG.done ?_
  refine QW.then_ ?_
  refine CW.cond rfl (fun hc3 => ?_) (fun hc3 => ?_)
  · refine CW.seq ?_
    refine CW.region ?_
    refine RG.vl rfl rfl rfl (Ev.assign rfl rfl) ?_
    refine RG.vl rfl rfl rfl (Ev.assign rfl rfl) ?_
    refine RG.vl rfl rfl rfl (Ev.assign rfl rfl) ?_
    refine RG.done ?_
    refine QW.then_ ?_
    refine CW.ret ?_
    refine QW.thenRet ?_
    refine QW.ret3 rfl rfl rfl rfl ?_
    have hB := (Ex.tr hB0 hE2)
    exact ⟨_, _, [], [], 2, rfl, Own.nil_ _ _ _ _ _, Own.nil_ _ _ _ _ _, .inl ⟨.inl (by simpa using (by assumption : (!isW l) = true)), rfl, rfl, rfl⟩, hB⟩
  · refine CW.skip ?_
    refine QW.then_ ?_
    refine CW.seq ?_
    refine CW.seq ?_
    have hyes : isW l = true := by simpa using (by assumption : (!isW l) = false)
    obtain ⟨hw1, hw2, hle⟩ := isW_iff.1 hyes
    refine CW.region ?_
    refine RG.vl rfl rfl rfl (Ev.assign rfl rfl) ?_
    refine RG.done ?_
    refine QW.then_ ?_
    refine CW.block ?_
    refine CW.loop1 [(0, _), (1, _)] ⟨rfl, rfl, trivial⟩ (fun (i : Nat) => [(7, .int .i64 (i : Int))]) (fun i w' => (i ≤ ei.length ∧ okE l.length (ei.take i)) ∧ Ex w w') (fun i => ei.length - i) (0) ⟨rfl, trivial⟩ ⟨⟨Nat.zero_le _, by rw [List.take_zero]; exact okE_nil _⟩, (Ex.tr hB0 hE2)⟩ ?_
    rintro i wl4 ⟨⟨hi, hoki⟩, hxwl4⟩
    refine CW.sub (S' := [(7, _), (0, _), (1, _)]) ⟨rfl, rfl, rfl, trivial⟩ ?_
    refine CW.seq ?_
    refine CW.seq ?_
    refine CW.region ?_
    refine RG.vl rfl rfl rfl (Ev.move rfl rfl) ?_
    refine RG.vl rfl rfl rfl (Ev.move rfl rfl) ?_
    refine RG.vl rfl rfl rfl (Ev.lenL rfl rfl rfl Tryz.underlying29 ((hm.ext hxwl4))) ?_
    refine RG.vl rfl rfl rfl (Ev.lss rfl rfl rfl) ?_
    refine RG.done ?_
    refine QW.then_ ?_
    refine CW.condP rfl (fun hc5 => ?_) (fun hc5 => ?_)
    · refine CW.skip ?_
      refine QW.then_ ?_
      refine CW.seq ?_
      refine CW.block ?_
      refine CW.seq ?_
      obtain ⟨x, hx⟩ : ∃ x, ei[i]? = some x := ⟨_, List.getElem?_eq_getElem (by omega)⟩
      refine CW.draw [] (.ex) 24 rfl mixed (fun wd6 hxwd6 => ?_)
      replace hxwl4 := Ex.tr hxwl4 hxwd6
      have hE7 := hxwd6
      refine AG.takeW 0 rfl (by kernel_rfl) (by kernel_rfl) rfl rfl rfl (fun _ => Ev.move rfl rfl) ?_
      refine AG.takeW 1 rfl (by kernel_rfl) (by kernel_rfl) rfl rfl rfl (fun _ => Ev.move rfl rfl) ?_
      refine AG.idxL _ 2 rfl (by kernel_rfl) (by kernel_rfl) rfl rfl rfl rfl rfl rfl Tryz.underlying29 sz_3 ((hm.ext hxwl4)) (hx) (fun p8 hp8b hp8 => ?_)
      refine AG.take 3 rfl (by kernel_rfl) (by kernel_rfl) rfl rfl rfl (fun wq hq => Ev.ld0 rfl rfl Tryz.underlying3 rfl (hp8.ext hq hp8b) (rfl)) ?_
      refine AG.takeW 4 rfl (by kernel_rfl) (by kernel_rfl) rfl rfl rfl (fun _ => Ev.lss rfl rfl rfl) ?_
      refine AG.takeW 5 rfl (by kernel_rfl) (by kernel_rfl) rfl rfl rfl (fun _ => Ev.move rfl rfl) ?_
      refine AG.split (d := 31) rfl (fun hg9 => ?_) (fun hg9 => ?_)
      · refine AG.pass 6 rfl (by kernel_rfl) (by kernel_rfl) rfl rfl rfl ?_
        refine AG.pass 7 rfl (by kernel_rfl) (by kernel_rfl) rfl rfl rfl ?_
        refine AG.pass 8 rfl (by kernel_rfl) (by kernel_rfl) rfl rfl rfl ?_
        refine AG.pass 9 rfl (by kernel_rfl) (by kernel_rfl) rfl rfl rfl ?_
        refine AG.pass 10 rfl (by kernel_rfl) (by kernel_rfl) rfl rfl rfl ?_
        refine AG.pass 11 rfl (by kernel_rfl) (by kernel_rfl) rfl rfl rfl ?_
        refine AG.pass 12 rfl (by kernel_rfl) (by kernel_rfl) rfl rfl rfl ?_
        refine AG.takeW 13 rfl (by kernel_rfl) (by kernel_rfl) rfl rfl rfl (fun _ => Ev.pickT rfl rfl rfl) ?_
        refine AG.takeW 14 rfl (by kernel_rfl) (by kernel_rfl) rfl rfl rfl (fun _ => Ev.move rfl rfl) ?_
        refine AG.pass 15 rfl (by kernel_rfl) (by kernel_rfl) rfl rfl rfl ?_
        refine AG.pass 16 rfl (by kernel_rfl) (by kernel_rfl) rfl rfl rfl ?_
        refine AG.pass 17 rfl (by kernel_rfl) (by kernel_rfl) rfl rfl rfl ?_
        refine AG.pass 18 rfl (by kernel_rfl) (by kernel_rfl) rfl rfl rfl ?_
        refine AG.pass 19 rfl (by kernel_rfl) (by kernel_rfl) rfl rfl rfl ?_
        refine AG.pass 20 rfl (by kernel_rfl) (by kernel_rfl) rfl rfl rfl ?_
        refine AG.pass 21 rfl (by kernel_rfl) (by kernel_rfl) rfl rfl rfl ?_
        refine AG.pass 22 rfl (by kernel_rfl) (by kernel_rfl) rfl rfl rfl ?_
        refine AG.takeW 23 rfl (by kernel_rfl) (by kernel_rfl) rfl rfl rfl (fun _ => Ev.pickT rfl rfl rfl) ?_
        refine AG.done (by kernel_rfl) ?_
        refine QW.sub (S' := [(0, _), (1, _), (7, _), (49, _)]) ⟨rfl, rfl, rfl, rfl, trivial⟩ ?_
        refine QW.then_ ?_
        refine CW.condT rfl ?_
        refine CW.seq ?_
        refine CW.region ?_
        refine RG.vl rfl rfl rfl (Ev.assign rfl rfl) ?_
        refine RG.vl rfl rfl rfl (Ev.assign rfl rfl) ?_
        refine RG.vl rfl rfl rfl (Ev.assign rfl rfl) ?_
        refine RG.done ?_
        refine QW.then_ ?_
        refine CW.ret ?_
        refine QW.blockR ?_
        refine QW.thenRet ?_
        refine QW.thenRet ?_
        refine QW.blockR ?_
        refine QW.thenRet ?_
        refine QW.ret3 rfl rfl rfl rfl ?_
        have hB := (Ex.tr hB0 hxwl4)
        exact ⟨_, _, [], [], 2, rfl, Own.nil_ _ _ _ _ _, Own.nil_ _ _ _ _ _, .inl ⟨.inr (fun hk => by obtain ⟨k1, k2, k3⟩ := okE_at hk hx; first | omega | exact k3 (of_decide_eq_true (by assumption))), rfl, rfl, rfl⟩, hB⟩
      · refine AG.takeW 6 rfl (by kernel_rfl) (by kernel_rfl) rfl rfl rfl (fun _ => Ev.move rfl rfl) ?_
        refine AG.takeW 7 rfl (by kernel_rfl) (by kernel_rfl) rfl rfl rfl (fun _ => Ev.move rfl rfl) ?_
        refine AG.idxL _ 8 rfl (by kernel_rfl) (by kernel_rfl) rfl rfl rfl rfl rfl rfl Tryz.underlying29 sz_3 ((hm.ext hxwl4)) (hx) (fun p10 hp10b hp10 => ?_)
        refine AG.take 9 rfl (by kernel_rfl) (by kernel_rfl) rfl rfl rfl (fun wq hq => Ev.ld0 rfl rfl Tryz.underlying3 rfl (hp10.ext hq hp10b) (rfl)) ?_
        refine AG.takeW 10 rfl (by kernel_rfl) (by kernel_rfl) rfl rfl rfl (fun _ => Ev.move rfl rfl) ?_
        refine AG.takeW 11 rfl (by kernel_rfl) (by kernel_rfl) rfl rfl rfl (fun _ => Ev.lenL rfl rfl rfl Tryz.underlying58 ((hl.ext hxwl4))) ?_
        refine AG.takeW 12 rfl (by kernel_rfl) (by kernel_rfl) rfl rfl rfl (fun _ => Ev.geq rfl rfl rfl) ?_
        refine AG.takeW 13 rfl (by kernel_rfl) (by kernel_rfl) rfl rfl rfl (fun _ => Ev.pickF rfl rfl rfl) ?_
        refine AG.takeW 14 rfl (by kernel_rfl) (by kernel_rfl) rfl rfl rfl (fun _ => Ev.move rfl rfl) ?_
        refine AG.split (d := 40) rfl (fun hg11 => ?_) (fun hg11 => ?_)
        · refine AG.pass 15 rfl (by kernel_rfl) (by kernel_rfl) rfl rfl rfl ?_
          refine AG.pass 16 rfl (by kernel_rfl) (by kernel_rfl) rfl rfl rfl ?_
          refine AG.pass 17 rfl (by kernel_rfl) (by kernel_rfl) rfl rfl rfl ?_
          refine AG.pass 18 rfl (by kernel_rfl) (by kernel_rfl) rfl rfl rfl ?_
          refine AG.pass 19 rfl (by kernel_rfl) (by kernel_rfl) rfl rfl rfl ?_
          refine AG.pass 20 rfl (by kernel_rfl) (by kernel_rfl) rfl rfl rfl ?_
          refine AG.pass 21 rfl (by kernel_rfl) (by kernel_rfl) rfl rfl rfl ?_
          refine AG.pass 22 rfl (by kernel_rfl) (by kernel_rfl) rfl rfl rfl ?_
          refine AG.takeW 23 rfl (by kernel_rfl) (by kernel_rfl) rfl rfl rfl (fun _ => Ev.pickT rfl rfl rfl) ?_
          refine AG.done (by kernel_rfl) ?_
          refine QW.sub (S' := [(0, _), (1, _), (7, _), (49, _)]) ⟨rfl, rfl, rfl, rfl, trivial⟩ ?_
          refine QW.then_ ?_
          refine CW.condT rfl ?_
          refine CW.seq ?_
          refine CW.region ?_
          refine RG.vl rfl rfl rfl (Ev.assign rfl rfl) ?_
          refine RG.vl rfl rfl rfl (Ev.assign rfl rfl) ?_
          refine RG.vl rfl rfl rfl (Ev.assign rfl rfl) ?_
          refine RG.done ?_
          refine QW.then_ ?_
          refine CW.ret ?_
          refine QW.blockR ?_
          refine QW.thenRet ?_
          refine QW.thenRet ?_
          refine QW.blockR ?_
          refine QW.thenRet ?_
          refine QW.ret3 rfl rfl rfl rfl ?_
          have hB := (Ex.tr hB0 hxwl4)
          exact ⟨_, _, [], [], 2, rfl, Own.nil_ _ _ _ _ _, Own.nil_ _ _ _ _ _, .inl ⟨.inr (fun hk => by obtain ⟨k1, k2, k3⟩ := okE_at hk hx; first | omega | exact k3 (of_decide_eq_true (by assumption))), rfl, rfl, rfl⟩, hB⟩
        · refine AG.takeW 15 rfl (by kernel_rfl) (by kernel_rfl) rfl rfl rfl (fun _ => Ev.move rfl rfl) ?_
          refine AG.takeW 16 rfl (by kernel_rfl) (by kernel_rfl) rfl rfl rfl (fun _ => Ev.move rfl rfl) ?_
          refine AG.sliceL (L := 0) (H := i) _ 17 rfl (by kernel_rfl) (by kernel_rfl) rfl rfl rfl rfl rfl Tryz.underlying29 sz_3 (hm) (.inl ⟨rfl, rfl⟩) (.inr ⟨_, _, _, rfl, rfl, by omega⟩) (by omega) (by omega) (fun v12 hrv12 => ?_)
          rw [List.drop_zero] at hrv12
          have htl : (ei.take i).length = i := by rw [List.length_take]; omega
          refine AG.takeW 18 rfl (by kernel_rfl) (by kernel_rfl) rfl rfl rfl (fun _ => Ev.move rfl rfl) ?_
          refine AG.takeW 19 rfl (by kernel_rfl) (by kernel_rfl) rfl rfl rfl (fun _ => Ev.move rfl rfl) ?_
          refine AG.idxL _ 20 rfl (by kernel_rfl) (by kernel_rfl) rfl rfl rfl rfl rfl rfl Tryz.underlying29 sz_3 ((hm.ext hxwl4)) (hx) (fun p13 hp13b hp13 => ?_)
          refine AG.take 21 rfl (by kernel_rfl) (by kernel_rfl) rfl rfl rfl (fun wq hq => Ev.ld0 rfl rfl Tryz.underlying3 rfl (hp13.ext hq hp13b) (rfl)) ?_
          refine AG.only 22 rfl (by kernel_rfl) ?_
          refine RG.call rfl rfl rfl rfl rfl rfl rfl en_77 (rhas_ret _ _ _ _ ((hrv12.ext hxwl4)) (by omega)) ?_
          rintro _ w15 ⟨rfl, hx15⟩
          replace hxwl4 := Ex.tr hxwl4 hx15
          replace hE7 := Ex.tr hE7 hx15
          have hE16 := hx15
          refine RG.done ?_
          refine QW.an (fun _ => hE16) ?_
          refine AG.takeW 23 rfl (by kernel_rfl) (by kernel_rfl) rfl rfl rfl (fun _ => Ev.pickF rfl rfl rfl) ?_
          refine AG.done (by kernel_rfl) ?_
          refine QW.sub (S' := [(0, _), (1, _), (7, _), (49, _)]) ⟨rfl, rfl, rfl, rfl, trivial⟩ ?_
          refine QW.then_ ?_
          refine CW.cond rfl (fun hc17 => ?_) (fun hc17 => ?_)
          · refine CW.seq ?_
            refine CW.region ?_
            refine RG.vl rfl rfl rfl (Ev.assign rfl rfl) ?_
            refine RG.vl rfl rfl rfl (Ev.assign rfl rfl) ?_
            refine RG.vl rfl rfl rfl (Ev.assign rfl rfl) ?_
            refine RG.done ?_
            refine QW.then_ ?_
            refine CW.ret ?_
            refine QW.blockR ?_
            refine QW.thenRet ?_
            refine QW.thenRet ?_
            refine QW.blockR ?_
            refine QW.thenRet ?_
            refine QW.ret3 rfl rfl rfl rfl ?_
            have hB := (Ex.tr hB0 hxwl4)
            exact ⟨_, _, [], [], 2, rfl, Own.nil_ _ _ _ _ _, Own.nil_ _ _ _ _ _, .inl ⟨.inr (fun hk => by obtain ⟨k1, k2, k3⟩ := okE_at hk hx; first | omega | exact k3 (of_decide_eq_true (by assumption))), rfl, rfl, rfl⟩, hB⟩
          · refine CW.skip ?_
            refine QW.blockN ?_
            refine QW.then_ ?_
            refine CW.region ?_
            refine RG.vl rfl rfl rfl (Ev.move rfl rfl) ?_
            refine RG.vl rfl rfl rfl (Ev.addI rfl rfl rfl (by omega)) ?_
            refine RG.vl rfl rfl rfl (Ev.assign rfl rfl) ?_
            refine RG.done ?_
            refine QW.round1 (i + 1) ⟨rfl, trivial⟩ ⟨rfl, rfl, trivial⟩ ⟨⟨by omega, by rw [take_more ei i x hx]; exact okE_snoc hoki (by omega) (by omega) (of_decide_eq_false (by assumption))⟩, (Ex.tr hB0 hxwl4)⟩ (by omega)
    · refine CW.exit ?_
      refine QW.thenExit ?_
      refine QW.thenExit ?_
      refine QW.blockHit ?_
      refine QW.then_ ?_
      refine CW.seq ?_
      refine CW.seq ?_
      have hok : okE l.length ei := by rw [← List.take_of_length_le (l := ei) (i := i) (by omega)]; exact hoki
      obtain ⟨n1, n2, n3, n4⟩ := okE_nat hok
      obtain ⟨er, her⟩ : ∃ er, er = erN ei := ⟨_, rfl⟩
      rw [← her] at n1 n2 n3 n4
      refine CW.region ?_
      refine RG.vl rfl rfl rfl (Ev.move rfl rfl) ?_
      refine RG.vl rfl rfl rfl (Ev.lenL rfl rfl rfl Tryz.underlying29 ((hm.ext hxwl4))) ?_
      refine RG.vl rfl rfl rfl (Ev.gtr rfl rfl rfl) ?_
      refine RG.done ?_
      refine QW.then_ ?_
      refine CW.condP rfl (fun hc18 => ?_) (fun hc18 => ?_)
      · refine CW.seq ?_
        refine CW.region ?_
        refine RG.vl rfl rfl rfl (Ev.assign rfl rfl) ?_
        refine RG.vl rfl rfl rfl (Ev.assign rfl rfl) ?_
        refine RG.vl rfl rfl rfl (Ev.assign rfl rfl) ?_
        refine RG.done ?_
        refine QW.then_ ?_
        refine CW.ret ?_
        refine QW.thenRet ?_
        refine QW.ret3 rfl rfl rfl rfl ?_
        have hB := (Ex.tr hB0 hxwl4)
        exact ⟨_, _, [], [], 190, rfl, Own.nil_ _ _ _ _ _, Own.nil_ _ _ _ _ _, .inr ⟨hyes, hok, .inl ⟨rfl, rfl, rfl, .inl (by omega)⟩⟩, hB⟩
      · refine CW.skip ?_
        refine QW.then_ ?_
        refine CW.seq ?_
        refine CW.seq ?_
        have hr4 : er.length ≤ 4 := by omega
        have hz := rdl_z hm (fun a ha => (hok.1 a ha).1)
        rw [← her] at hz
        refine CW.region ?_
        refine RG.vl rfl rfl rfl (Ev.move rfl rfl) ?_
        refine RG.vl rfl rfl rfl (Ev.move rfl rfl) ?_
        refine RG.call rfl rfl rfl rfl rfl rfl rfl en_78 (filled_ret _ _ l er _ ((hl.ext hxwl4)) ((hz.ext hxwl4)) hyes n2 hr4 n3) ?_
        have hpre19 := (Ex.tr hB0 hxwl4)
        rintro _ w19 ⟨r19, b19, o19, rfl, hor19, hyes19, hno19, hx19⟩
        replace hxwl4 := Ex.tr hxwl4 hx19
        have hE20 := hx19
        refine RG.vl rfl rfl rfl (Ev.move rfl rfl) ?_
        refine RG.vl rfl rfl rfl (Ev.extract rfl rfl rfl) ?_
        refine RG.vl rfl rfl rfl (Ev.extract rfl rfl rfl) ?_
        refine RG.vl rfl rfl rfl (Ev.assign rfl rfl) ?_
        refine RG.vl rfl rfl rfl (Ev.assign rfl rfl) ?_
        refine RG.done ?_
        refine QW.sub (S' := [(0, _), (1, _), (8, _), (9, _)]) ⟨rfl, rfl, rfl, rfl, trivial⟩ ?_
        refine QW.then_ ?_
        refine CW.seq ?_
        refine CW.region ?_
        refine RG.vl rfl rfl rfl (Ev.move rfl rfl) ?_
        refine RG.done ?_
        refine QW.then_ ?_
        refine CW.cond rfl (fun hc21 => ?_) (fun hc21 => ?_)
        · refine CW.seq ?_
          refine CW.region ?_
          refine RG.vl rfl rfl rfl (Ev.move rfl rfl) ?_
          refine RG.vl rfl rfl rfl (Ev.assign rfl rfl) ?_
          refine RG.vl rfl rfl rfl (Ev.assign rfl rfl) ?_
          refine RG.vl rfl rfl rfl (Ev.assign rfl rfl) ?_
          refine RG.done ?_
          refine QW.then_ ?_
          refine CW.ret ?_
          refine QW.thenRet ?_
          refine QW.ret3 rfl rfl rfl rfl ?_
          have hB := (Ex.tr hB0 hxwl4)
          exact ⟨_, _, o19, [], 0, rfl, hor19.low (by have := hpre19.size; omega), Own.nil_ _ _ _ _ _, .inr ⟨hyes, hok, .inr ⟨rfl, by rw [← her]; exact near_er hr4 (hyes19 (by assumption))⟩⟩, hB⟩
        · refine CW.skip ?_
          refine QW.then_ ?_
          refine CW.seq ?_
          refine CW.seq ?_
          have hno0 : NoR l er := hno19 (by assumption)
          refine CW.region ?_
          refine RG.vl rfl rfl rfl (Ev.assign rfl rfl) ?_
          refine RG.done ?_
          refine QW.then_ ?_
          refine CW.block ?_
          refine CW.loop1 [(0, _), (1, _)] ⟨rfl, rfl, trivial⟩ (fun (p1 : Nat) => [(10, .int .i64 (p1 : Int))]) (fun p1 w' => (p1 ≤ l.length ∧ (er.length ≤ 2 → ∀ a, a < p1 → a ∉ er → NoR l (er ++ [a]))) ∧ Ex w w') (fun p1 => l.length - p1) (0) ⟨rfl, trivial⟩ ⟨⟨Nat.zero_le _, fun _ a h => absurd h (by omega)⟩, (Ex.tr hB0 hxwl4)⟩ ?_
          rintro p1 wl22 ⟨⟨hp1, hone⟩, hxwl22⟩
          refine CW.sub (S' := [(10, _), (0, _), (1, _)]) ⟨rfl, rfl, rfl, trivial⟩ ?_
          refine CW.seq ?_
          refine CW.seq ?_
          refine CW.region ?_
          refine RG.vl rfl rfl rfl (Ev.move rfl rfl) ?_
          refine RG.vl rfl rfl rfl (Ev.move rfl rfl) ?_
          refine RG.vl rfl rfl rfl (Ev.lenL rfl rfl rfl Tryz.underlying58 ((hl.ext hxwl22))) ?_
          refine RG.vl rfl rfl rfl (Ev.lss rfl rfl rfl) ?_
          refine RG.vl rfl rfl rfl (Ev.move rfl rfl) ?_
          refine RG.split (d := 65) rfl (fun hg23 => ?_) (fun hg23 => ?_)
          · refine RG.vl rfl rfl rfl (Ev.move rfl rfl) ?_
            refine RG.vl rfl rfl rfl (Ev.lenL rfl rfl rfl Tryz.underlying29 ((hz.ext hxwl22))) ?_
            refine RG.vl rfl rfl rfl (Ev.leq rfl rfl rfl) ?_
            refine RG.vl rfl rfl rfl (Ev.pickT rfl rfl rfl) ?_
            refine RG.done ?_
            refine QW.then_ ?_
            refine CW.condP rfl (fun hc24 => ?_) (fun hc24 => ?_)
            · refine CW.skip ?_
              refine QW.then_ ?_
              refine CW.seq ?_
              refine CW.block ?_
              refine CW.seq ?_
              refine CW.seq ?_
              refine CW.region ?_
              refine RG.vl rfl rfl rfl (Ev.move rfl rfl) ?_
              refine RG.vl rfl rfl rfl (Ev.move rfl rfl) ?_
              refine RG.call rfl rfl rfl rfl rfl rfl rfl en_77 (rhas_ret _ (er.map fun n : Nat => (n : Int)) p1 _ (rdl_i ((hz.ext hxwl22))) (by rw [List.length_map]; omega)) ?_
              rintro _ w25 ⟨rfl, hx25⟩
              replace hxwl22 := Ex.tr hxwl22 hx25
              have hE26 := hx25
              refine RG.done ?_
              refine QW.then_ ?_
              refine CW.cond rfl (fun hc27 => ?_) (fun hc27 => ?_)
              · refine CW.exit ?_
                refine QW.thenExit ?_
                refine QW.blockHit ?_
                refine QW.then_ ?_
                refine CW.region ?_
                refine RG.vl rfl rfl rfl (Ev.move rfl rfl) ?_
                refine RG.vl rfl rfl rfl (Ev.addI rfl rfl rfl (by omega)) ?_
                refine RG.vl rfl rfl rfl (Ev.assign rfl rfl) ?_
                refine RG.done ?_
                refine QW.sub (S' := [(0, _), (1, _), (10, _)]) ⟨rfl, rfl, rfl, trivial⟩ ?_
                refine QW.round1 (p1 + 1) ⟨rfl, trivial⟩ ⟨rfl, rfl, trivial⟩ ⟨⟨by omega, fun h2 a ha hn => by rcases Nat.lt_or_ge a p1 with h | h; exact hone h2 a h hn; obtain rfl : a = p1 := (by omega); exact absurd (mem_nat.1 (of_decide_eq_true (by assumption))) hn⟩, (Ex.tr hB0 hxwl22)⟩ (by omega)
              · refine CW.skip ?_
                refine QW.then_ ?_
                refine CW.seq ?_
                have hnin : p1 ∉ er := fun h => by have h2 := mem_nat.2 h; rw [decide_eq_true h2] at *; contradiction
                have hnd2 : (er ++ [p1]).Nodup := by rw [List.nodup_append]; exact ⟨n2, by simp, fun x hx y hy e => by rw [List.mem_singleton.1 hy] at e; exact hnin (e ▸ hx)⟩
                have hl2 : (er ++ [p1]).length = er.length + 1 := by simp
                have hp2 : ∀ a ∈ er ++ [p1], a < l.length := fun a ha => by rcases List.mem_append.1 ha with h | h; exact n3 a h; rw [List.mem_singleton.1 h]; omega
                refine CW.region ?_
                refine RG.vl rfl rfl rfl (Ev.move rfl rfl) ?_
                refine RG.build0O (enc := encZ) rfl rfl rfl rfl rfl Tryz.underlying29 sz_3 (fun v28 wk29 hxwk29 hown30 hnew31 => ?_)
                replace hown30 := Own.low (B' := w.heap.size) hown30 (by have := (Ex.tr hB0 hxwl22).size; omega)
                replace hxwl22 := Ex.tr hxwl22 hxwk29
                replace hE26 := Ex.tr hE26 hxwk29
                have hE32 := hxwk29
                refine RG.vl rfl rfl rfl (Ev.move rfl rfl) ?_
                refine RG.appO rfl rfl rfl rfl rfl rfl rfl Tryz.underlying29 inf_3 rfl rfl encZ_len (fun _ => rfl) hown30 ((hz.ext hxwl22)) (by show 0 + _ ≤ maxLen; simp only [maxLen]; omega) (by show (0 + _) * _ ≤ _; omega) (hxwl22.size) (fun v33 wa34 hown35 hgr36 hat37 => ?_)
                replace hxwl22 := own_block hown30 hxwl22 hgr36 (Nat.le_refl _) hxwl22.size
                rw [List.nil_append] at hown35
                refine RG.vl rfl rfl rfl (Ev.move rfl rfl) ?_
                refine RG.litO (os := [.tmp 80]) (enc := encZ) ([p1]) rfl rfl rfl rfl rfl rfl rfl Tryz.underlying29 inf_3 rfl rfl rfl rfl rfl encZ_len rfl rfl (fun v38 wk39 hxwk39 hown40 hnew41 => ?_)
                replace hxwl22 := Ex.tr hxwl22 hxwk39
                have hE42 := hxwk39
                refine RG.appO rfl rfl rfl rfl rfl rfl rfl Tryz.underlying29 inf_3 rfl rfl encZ_len (fun _ => rfl) (Own.ext hown35 hE42) ((hown40.rdl encZ_len)) (by show _ + 1 ≤ maxLen; simp only [maxLen]; omega) (by show (_ + 1) * _ ≤ _; omega) (hxwl22.size) (fun v43 wa44 hown45 hgr46 hat47 => ?_)
                replace hxwl22 := own_block (Own.ext hown35 hE42) hxwl22 hgr46 (Nat.le_refl _) hxwl22.size
                refine RG.call rfl rfl rfl rfl rfl rfl rfl en_78 (filled_ret _ _ l (er ++ [p1]) _ ((hl.ext hxwl22)) ((hown45.rdl encZ_len)) hyes hnd2 (by omega) hp2) ?_
                have hpre48 := (Ex.tr hB0 hxwl22)
                rintro _ w48 ⟨r48, b48, o48, rfl, hor48, hyes48, hno48, hx48⟩
                replace hxwl22 := Ex.tr hxwl22 hx48
                have hE49 := hx48
                refine RG.vl rfl rfl rfl (Ev.move rfl rfl) ?_
                refine RG.vl rfl rfl rfl (Ev.extract rfl rfl rfl) ?_
                refine RG.vl rfl rfl rfl (Ev.extract rfl rfl rfl) ?_
                refine RG.vl rfl rfl rfl (Ev.assign rfl rfl) ?_
                refine RG.vl rfl rfl rfl (Ev.assign rfl rfl) ?_
                refine RG.done ?_
                refine QW.sub (S' := [(0, _), (1, _), (10, _), (11, _), (12, _)]) ⟨rfl, rfl, rfl, rfl, rfl, trivial⟩ ?_
                refine QW.then_ ?_
                refine CW.seq ?_
                refine CW.region ?_
                refine RG.vl rfl rfl rfl (Ev.move rfl rfl) ?_
                refine RG.done ?_
                refine QW.then_ ?_
                refine CW.cond rfl (fun hc50 => ?_) (fun hc50 => ?_)
                · refine CW.seq ?_
                  have hE19 : Ex w w48 := (Ex.tr hB0 hxwl22)
                  refine CW.region ?_
                  refine RG.vl rfl rfl rfl (Ev.move rfl rfl) ?_
                  refine RG.vl rfl rfl rfl (Ev.move rfl rfl) ?_
                  refine RG.litO (os := [.tmp 88]) (enc := encZ) ([p1]) rfl rfl rfl rfl rfl rfl rfl Tryz.underlying29 inf_3 rfl rfl rfl rfl rfl encZ_len rfl rfl (fun v51 wk52 hxwk52 hown53 hnew54 => ?_)
                  replace hxwl22 := Ex.tr hxwl22 hxwk52
                  replace hE49 := Ex.tr hE49 hxwk52
                  have hE55 := hxwk52
                  refine RG.vl rfl rfl rfl (Ev.assign rfl rfl) ?_
                  refine RG.vl rfl rfl rfl (Ev.assign rfl rfl) ?_
                  refine RG.vl rfl rfl rfl (Ev.assign rfl rfl) ?_
                  refine RG.done ?_
                  refine QW.then_ ?_
                  refine CW.ret ?_
                  refine QW.blockR ?_
                  refine QW.thenRet ?_
                  refine QW.thenRet ?_
                  refine QW.blockR ?_
                  refine QW.thenRet ?_
                  refine QW.ret3 rfl rfl rfl rfl ?_
                  have hB := (Ex.tr hB0 hxwl22)
                  exact ⟨_, _, o48, [p1], 0, rfl, (Own.ext hor48 hE55).low (by have := hpre48.size; omega), Own.low (B' := w.heap.size) hown53 (by have := hE19.size; omega), .inr ⟨hyes, hok, .inr ⟨rfl, by rw [← her]; exact near_one (by omega) (by omega) hnin hno0 (hyes48 (by assumption))⟩⟩, hB⟩
                · refine CW.skip ?_
                  refine QW.blockN ?_
                  refine QW.then_ ?_
                  refine CW.region ?_
                  refine RG.vl rfl rfl rfl (Ev.move rfl rfl) ?_
                  refine RG.vl rfl rfl rfl (Ev.addI rfl rfl rfl (by omega)) ?_
                  refine RG.vl rfl rfl rfl (Ev.assign rfl rfl) ?_
                  refine RG.done ?_
                  refine QW.round1 (p1 + 1) ⟨rfl, trivial⟩ ⟨rfl, rfl, trivial⟩ ⟨⟨by omega, fun h2 a ha hn => by rcases Nat.lt_or_ge a p1 with h | h; exact hone h2 a h hn; obtain rfl : a = p1 := (by omega); exact hno48 (by assumption)⟩, (Ex.tr hB0 hxwl22)⟩ (by omega)
            · refine CW.exit ?_
              refine QW.thenExit ?_
              refine QW.thenExit ?_
              refine QW.blockHit ?_
              refine QW.then_ ?_
              refine CW.seq ?_
              refine CW.seq ?_
              refine CW.region ?_
              refine RG.vl rfl rfl rfl (Ev.assign rfl rfl) ?_
              refine RG.done ?_
              refine QW.then_ ?_
              refine CW.block ?_
              refine CW.loop1 [(0, _), (1, _)] ⟨rfl, rfl, trivial⟩ (fun (p : Nat) => [(13, .int .i64 (p : Int))]) (fun p w' => (p ≤ l.length ∧ (er = [] → ∀ a b, a < p → a < b → b < l.length → NoR l [a, b])) ∧ Ex w w') (fun p => l.length - p) (0) ⟨rfl, trivial⟩ ⟨⟨Nat.zero_le _, fun _ a b h => absurd h (by omega)⟩, (Ex.tr hB0 hxwl22)⟩ ?_
              rintro p wl56 ⟨⟨hp, htwo⟩, hxwl56⟩
              refine CW.sub (S' := [(13, _), (0, _), (1, _)]) ⟨rfl, rfl, rfl, trivial⟩ ?_
              refine CW.seq ?_
              refine CW.seq ?_
              refine CW.region ?_
              refine RG.vl rfl rfl rfl (Ev.move rfl rfl) ?_
              refine RG.vl rfl rfl rfl (Ev.move rfl rfl) ?_
              refine RG.vl rfl rfl rfl (Ev.lenL rfl rfl rfl Tryz.underlying58 ((hl.ext hxwl56))) ?_
              refine RG.vl rfl rfl rfl (Ev.lss rfl rfl rfl) ?_
              refine RG.vl rfl rfl rfl (Ev.move rfl rfl) ?_
              refine RG.split (d := 94) rfl (fun hg57 => ?_) (fun hg57 => ?_)
              · refine RG.vl rfl rfl rfl (Ev.move rfl rfl) ?_
                refine RG.vl rfl rfl rfl (Ev.lenL rfl rfl rfl Tryz.underlying29 ((hz.ext hxwl56))) ?_
                refine RG.vl rfl rfl rfl (Ev.eqI rfl rfl rfl) ?_
                refine RG.vl rfl rfl rfl (Ev.pickT rfl rfl rfl) ?_
                refine RG.done ?_
                refine QW.then_ ?_
                refine CW.condP rfl (fun hc58 => ?_) (fun hc58 => ?_)
                · refine CW.skip ?_
                  refine QW.then_ ?_
                  refine CW.seq ?_
                  refine CW.block ?_
                  refine CW.seq ?_
                  refine CW.region ?_
                  refine RG.vl rfl rfl rfl (Ev.move rfl rfl) ?_
                  refine RG.vl rfl rfl rfl (Ev.addI rfl rfl rfl (by omega)) ?_
                  refine RG.vl rfl rfl rfl (Ev.assign rfl rfl) ?_
                  refine RG.done ?_
                  refine QW.then_ ?_
                  refine CW.block ?_
                  refine CW.loop1 [(0, _), (1, _), (13, _)] ⟨rfl, rfl, rfl, trivial⟩ (fun (q : Nat) => [(14, .int .i64 (q : Int))]) (fun q w' => (p < q ∧ q ≤ l.length ∧ ∀ b, p < b → b < q → NoR l [p, b]) ∧ Ex w w') (fun q => l.length - q) (p + 1) ⟨rfl, trivial⟩ ⟨⟨by omega, by omega, fun b h1 h2 => absurd h1 (by omega)⟩, (Ex.tr hB0 hxwl56)⟩ ?_
                  rintro q wl59 ⟨⟨hq1, hq2, hthr⟩, hxwl59⟩
                  refine CW.sub (S' := [(14, _), (0, _), (1, _), (13, _)]) ⟨rfl, rfl, rfl, rfl, trivial⟩ ?_
                  refine CW.seq ?_
                  refine CW.seq ?_
                  refine CW.region ?_
                  refine RG.vl rfl rfl rfl (Ev.move rfl rfl) ?_
                  refine RG.vl rfl rfl rfl (Ev.move rfl rfl) ?_
                  refine RG.vl rfl rfl rfl (Ev.lenL rfl rfl rfl Tryz.underlying58 ((hl.ext hxwl59))) ?_
                  refine RG.vl rfl rfl rfl (Ev.lss rfl rfl rfl) ?_
                  refine RG.done ?_
                  refine QW.then_ ?_
                  refine CW.condP rfl (fun hc60 => ?_) (fun hc60 => ?_)
                  · refine CW.skip ?_
                    refine QW.then_ ?_
                    refine CW.seq ?_
                    refine CW.block ?_
                    refine CW.seq ?_
                    have he0 : er = [] := List.eq_nil_of_length_eq_zero (by omega)
                    have hpq : [p, q].Nodup := by simp; omega
                    have hpl : ∀ a ∈ [p, q], a < l.length := fun a ha => by simp at ha; omega
                    refine CW.region ?_
                    refine RG.vl rfl rfl rfl (Ev.move rfl rfl) ?_
                    refine RG.vl rfl rfl rfl (Ev.move rfl rfl) ?_
                    refine RG.vl rfl rfl rfl (Ev.move rfl rfl) ?_
                    refine RG.litO (os := [.tmp 111, .tmp 112]) (enc := encZ) ([p, q]) rfl rfl rfl rfl rfl rfl rfl Tryz.underlying29 inf_3 rfl rfl rfl rfl rfl encZ_len rfl rfl (fun v61 wk62 hxwk62 hown63 hnew64 => ?_)
                    replace hxwl59 := Ex.tr hxwl59 hxwk62
                    have hE65 := hxwk62
                    refine RG.call rfl rfl rfl rfl rfl rfl rfl en_78 (filled_ret _ _ l [p, q] _ ((hl.ext hxwl59)) ((hown63.rdl encZ_len)) hyes hpq (by show 2 ≤ 4; omega) hpl) ?_
                    have hpre66 := (Ex.tr hB0 hxwl59)
                    rintro _ w66 ⟨r66, b66, o66, rfl, hor66, hyes66, hno66, hx66⟩
                    replace hxwl59 := Ex.tr hxwl59 hx66
                    replace hE65 := Ex.tr hE65 hx66
                    have hE67 := hx66
                    refine RG.vl rfl rfl rfl (Ev.move rfl rfl) ?_
                    refine RG.vl rfl rfl rfl (Ev.extract rfl rfl rfl) ?_
                    refine RG.vl rfl rfl rfl (Ev.extract rfl rfl rfl) ?_
                    refine RG.vl rfl rfl rfl (Ev.assign rfl rfl) ?_
                    refine RG.vl rfl rfl rfl (Ev.assign rfl rfl) ?_
                    refine RG.done ?_
                    refine QW.sub (S' := [(0, _), (1, _), (13, _), (14, _), (15, _), (16, _)]) ⟨rfl, rfl, rfl, rfl, rfl, rfl, trivial⟩ ?_
                    refine QW.then_ ?_
                    refine CW.seq ?_
                    refine CW.region ?_
                    refine RG.vl rfl rfl rfl (Ev.move rfl rfl) ?_
                    refine RG.done ?_
                    refine QW.then_ ?_
                    refine CW.cond rfl (fun hc68 => ?_) (fun hc68 => ?_)
                    · refine CW.seq ?_
                      have hE28 : Ex w w66 := (Ex.tr hB0 hxwl59)
                      refine CW.region ?_
                      refine RG.vl rfl rfl rfl (Ev.move rfl rfl) ?_
                      refine RG.vl rfl rfl rfl (Ev.move rfl rfl) ?_
                      refine RG.vl rfl rfl rfl (Ev.move rfl rfl) ?_
                      refine RG.litO (os := [.tmp 119, .tmp 120]) (enc := encZ) ([p, q]) rfl rfl rfl rfl rfl rfl rfl Tryz.underlying29 inf_3 rfl rfl rfl rfl rfl encZ_len rfl rfl (fun v69 wk70 hxwk70 hown71 hnew72 => ?_)
                      replace hxwl59 := Ex.tr hxwl59 hxwk70
                      replace hE65 := Ex.tr hE65 hxwk70
                      replace hE67 := Ex.tr hE67 hxwk70
                      have hE73 := hxwk70
                      refine RG.vl rfl rfl rfl (Ev.assign rfl rfl) ?_
                      refine RG.vl rfl rfl rfl (Ev.assign rfl rfl) ?_
                      refine RG.vl rfl rfl rfl (Ev.assign rfl rfl) ?_
                      refine RG.done ?_
                      refine QW.then_ ?_
                      refine CW.ret ?_
                      refine QW.blockR ?_
                      refine QW.thenRet ?_
                      refine QW.thenRet ?_
                      refine QW.blockR ?_
                      refine QW.blockR ?_
                      refine QW.thenRet ?_
                      refine QW.thenRet ?_
                      refine QW.blockR ?_
                      refine QW.thenRet ?_
                      refine QW.ret3 rfl rfl rfl rfl ?_
                      have hB := (Ex.tr hB0 hxwl59)
                      exact ⟨_, _, o66, [p, q], 0, rfl, (Own.ext hor66 hE73).low (by have := hpre66.size; omega), Own.low (B' := w.heap.size) hown71 (by have := hE28.size; omega), .inr ⟨hyes, hok, .inr ⟨rfl, by rw [← her, he0]; exact near_two (by omega) (by omega) (fun q hq => by have := hone (by omega) q (by omega) (by rw [he0]; simp); rwa [he0] at this) (hyes66 (by assumption))⟩⟩, hB⟩
                    · refine CW.skip ?_
                      refine QW.blockN ?_
                      refine QW.then_ ?_
                      refine CW.region ?_
                      refine RG.vl rfl rfl rfl (Ev.move rfl rfl) ?_
                      refine RG.vl rfl rfl rfl (Ev.addI rfl rfl rfl (by omega)) ?_
                      refine RG.vl rfl rfl rfl (Ev.assign rfl rfl) ?_
                      refine RG.done ?_
                      refine QW.round1 (q + 1) ⟨rfl, trivial⟩ ⟨rfl, rfl, rfl, trivial⟩ ⟨⟨by omega, by omega, fun b h1 h2 => by rcases Nat.lt_or_ge b q with h | h; exact hthr b h1 h; obtain rfl : b = q := (by omega); exact hno66 (by assumption)⟩, (Ex.tr hB0 hxwl59)⟩ (by omega)
                  · refine CW.exit ?_
                    refine QW.thenExit ?_
                    refine QW.thenExit ?_
                    refine QW.blockHit ?_
                    refine QW.blockN ?_
                    refine QW.then_ ?_
                    refine CW.region ?_
                    refine RG.vl rfl rfl rfl (Ev.move rfl rfl) ?_
                    refine RG.vl rfl rfl rfl (Ev.addI rfl rfl rfl (by omega)) ?_
                    refine RG.vl rfl rfl rfl (Ev.assign rfl rfl) ?_
                    refine RG.done ?_
                    refine QW.round1 (p + 1) ⟨rfl, trivial⟩ ⟨rfl, rfl, trivial⟩ ⟨⟨by omega, fun he a b ha hab hb => by rcases Nat.lt_or_ge a p with h | h; exact htwo he a b h hab hb; obtain rfl : a = p := (by omega); exact hthr b hab (by omega)⟩, (Ex.tr hB0 hxwl59)⟩ (by omega)
                · refine CW.exit ?_
                  refine QW.thenExit ?_
                  refine QW.thenExit ?_
                  refine QW.blockHit ?_
                  refine QW.then_ ?_
                  refine CW.seq ?_
                  refine CW.region ?_
                  refine RG.vl rfl rfl rfl (Ev.assign rfl rfl) ?_
                  refine RG.vl rfl rfl rfl (Ev.assign rfl rfl) ?_
                  refine RG.vl rfl rfl rfl (Ev.assign rfl rfl) ?_
                  refine RG.done ?_
                  refine QW.then_ ?_
                  refine CW.ret ?_
                  refine QW.ret3 rfl rfl rfl rfl ?_
                  have hB := (Ex.tr hB0 hxwl56)
                  exact ⟨_, _, [], [], 190, rfl, Own.nil_ _ _ _ _ _, Own.nil_ _ _ _ _ _, .inr ⟨hyes, hok, .inl ⟨rfl, rfl, rfl, .inr (by rw [← her]; exact far_end hno0 (fun h2 a ha hn => hone h2 a (by omega) hn) (fun he a b hab hb => by have he1 : er.length = 0 := (by rw [he]; rfl); exact htwo he a b (by omega) hab hb))⟩⟩, hB⟩
              · refine RG.pass rfl rfl rfl ?_
                refine RG.pass rfl rfl rfl ?_
                refine RG.pass rfl rfl rfl ?_
                refine RG.vl rfl rfl rfl (Ev.pickF rfl rfl rfl) ?_
                refine RG.done ?_
                refine QW.then_ ?_
                refine CW.condF rfl ?_
                refine CW.exit ?_
                refine QW.thenExit ?_
                refine QW.thenExit ?_
                refine QW.blockHit ?_
                refine QW.then_ ?_
                refine CW.seq ?_
                refine CW.region ?_
                refine RG.vl rfl rfl rfl (Ev.assign rfl rfl) ?_
                refine RG.vl rfl rfl rfl (Ev.assign rfl rfl) ?_
                refine RG.vl rfl rfl rfl (Ev.assign rfl rfl) ?_
                refine RG.done ?_
                refine QW.then_ ?_
                refine CW.ret ?_
                refine QW.ret3 rfl rfl rfl rfl ?_
                have hB := (Ex.tr hB0 hxwl56)
                exact ⟨_, _, [], [], 190, rfl, Own.nil_ _ _ _ _ _, Own.nil_ _ _ _ _ _, .inr ⟨hyes, hok, .inl ⟨rfl, rfl, rfl, .inr (by rw [← her]; exact far_end hno0 (fun h2 a ha hn => hone h2 a (by omega) hn) (fun he a b hab hb => by have he1 : er.length = 0 := (by rw [he]; rfl); exact htwo he a b (by omega) hab hb))⟩⟩, hB⟩
          · refine RG.pass rfl rfl rfl ?_
            refine RG.pass rfl rfl rfl ?_
            refine RG.pass rfl rfl rfl ?_
            refine RG.vl rfl rfl rfl (Ev.pickF rfl rfl rfl) ?_
            refine RG.done ?_
            refine QW.then_ ?_
            refine CW.condF rfl ?_
            refine CW.exit ?_
            refine QW.thenExit ?_
            refine QW.thenExit ?_
            refine QW.blockHit ?_
            refine QW.then_ ?_
            refine CW.seq ?_
            refine CW.seq ?_
            refine CW.region ?_
            refine RG.vl rfl rfl rfl (Ev.assign rfl rfl) ?_
            refine RG.done ?_
            refine QW.then_ ?_
            refine CW.block ?_
            refine CW.loop1 [(0, _), (1, _)] ⟨rfl, rfl, trivial⟩ (fun (p : Nat) => [(13, .int .i64 (p : Int))]) (fun p w' => (p ≤ l.length ∧ (er = [] → ∀ a b, a < p → a < b → b < l.length → NoR l [a, b])) ∧ Ex w w') (fun p => l.length - p) (0) ⟨rfl, trivial⟩ ⟨⟨Nat.zero_le _, fun _ a b h => absurd h (by omega)⟩, (Ex.tr hB0 hxwl22)⟩ ?_
            rintro p wl74 ⟨⟨hp, htwo⟩, hxwl74⟩
            refine CW.sub (S' := [(13, _), (0, _), (1, _)]) ⟨rfl, rfl, rfl, trivial⟩ ?_
            refine CW.seq ?_
            refine CW.seq ?_
            refine CW.region ?_
            refine RG.vl rfl rfl rfl (Ev.move rfl rfl) ?_
            refine RG.vl rfl rfl rfl (Ev.move rfl rfl) ?_
            refine RG.vl rfl rfl rfl (Ev.lenL rfl rfl rfl Tryz.underlying58 ((hl.ext hxwl74))) ?_
            refine RG.vl rfl rfl rfl (Ev.lss rfl rfl rfl) ?_
            refine RG.vl rfl rfl rfl (Ev.move rfl rfl) ?_
            refine RG.split (d := 94) rfl (fun hg75 => ?_) (fun hg75 => ?_)
            · refine RG.vl rfl rfl rfl (Ev.move rfl rfl) ?_
              refine RG.vl rfl rfl rfl (Ev.lenL rfl rfl rfl Tryz.underlying29 ((hz.ext hxwl74))) ?_
              refine RG.vl rfl rfl rfl (Ev.eqI rfl rfl rfl) ?_
              refine RG.vl rfl rfl rfl (Ev.pickT rfl rfl rfl) ?_
              refine RG.done ?_
              refine QW.then_ ?_
              refine CW.condP rfl (fun hc76 => ?_) (fun hc76 => ?_)
              · refine CW.skip ?_
                refine QW.then_ ?_
                refine CW.seq ?_
                refine CW.block ?_
                refine CW.seq ?_
                refine CW.region ?_
                refine RG.vl rfl rfl rfl (Ev.move rfl rfl) ?_
                refine RG.vl rfl rfl rfl (Ev.addI rfl rfl rfl (by omega)) ?_
                refine RG.vl rfl rfl rfl (Ev.assign rfl rfl) ?_
                refine RG.done ?_
                refine QW.then_ ?_
                refine CW.block ?_
                refine CW.loop1 [(0, _), (1, _), (13, _)] ⟨rfl, rfl, rfl, trivial⟩ (fun (q : Nat) => [(14, .int .i64 (q : Int))]) (fun q w' => (p < q ∧ q ≤ l.length ∧ ∀ b, p < b → b < q → NoR l [p, b]) ∧ Ex w w') (fun q => l.length - q) (p + 1) ⟨rfl, trivial⟩ ⟨⟨by omega, by omega, fun b h1 h2 => absurd h1 (by omega)⟩, (Ex.tr hB0 hxwl74)⟩ ?_
                rintro q wl77 ⟨⟨hq1, hq2, hthr⟩, hxwl77⟩
                refine CW.sub (S' := [(14, _), (0, _), (1, _), (13, _)]) ⟨rfl, rfl, rfl, rfl, trivial⟩ ?_
                refine CW.seq ?_
                refine CW.seq ?_
                refine CW.region ?_
                refine RG.vl rfl rfl rfl (Ev.move rfl rfl) ?_
                refine RG.vl rfl rfl rfl (Ev.move rfl rfl) ?_
                refine RG.vl rfl rfl rfl (Ev.lenL rfl rfl rfl Tryz.underlying58 ((hl.ext hxwl77))) ?_
                refine RG.vl rfl rfl rfl (Ev.lss rfl rfl rfl) ?_
                refine RG.done ?_
                refine QW.then_ ?_
                refine CW.condP rfl (fun hc78 => ?_) (fun hc78 => ?_)
                · refine CW.skip ?_
                  refine QW.then_ ?_
                  refine CW.seq ?_
                  refine CW.block ?_
                  refine CW.seq ?_
                  have he0 : er = [] := List.eq_nil_of_length_eq_zero (by omega)
                  have hpq : [p, q].Nodup := by simp; omega
                  have hpl : ∀ a ∈ [p, q], a < l.length := fun a ha => by simp at ha; omega
                  refine CW.region ?_
                  refine RG.vl rfl rfl rfl (Ev.move rfl rfl) ?_
                  refine RG.vl rfl rfl rfl (Ev.move rfl rfl) ?_
                  refine RG.vl rfl rfl rfl (Ev.move rfl rfl) ?_
                  refine RG.litO (os := [.tmp 111, .tmp 112]) (enc := encZ) ([p, q]) rfl rfl rfl rfl rfl rfl rfl Tryz.underlying29 inf_3 rfl rfl rfl rfl rfl encZ_len rfl rfl (fun v79 wk80 hxwk80 hown81 hnew82 => ?_)
                  replace hxwl77 := Ex.tr hxwl77 hxwk80
                  have hE83 := hxwk80
                  refine RG.call rfl rfl rfl rfl rfl rfl rfl en_78 (filled_ret _ _ l [p, q] _ ((hl.ext hxwl77)) ((hown81.rdl encZ_len)) hyes hpq (by show 2 ≤ 4; omega) hpl) ?_
                  have hpre84 := (Ex.tr hB0 hxwl77)
                  rintro _ w84 ⟨r84, b84, o84, rfl, hor84, hyes84, hno84, hx84⟩
                  replace hxwl77 := Ex.tr hxwl77 hx84
                  replace hE83 := Ex.tr hE83 hx84
                  have hE85 := hx84
                  refine RG.vl rfl rfl rfl (Ev.move rfl rfl) ?_
                  refine RG.vl rfl rfl rfl (Ev.extract rfl rfl rfl) ?_
                  refine RG.vl rfl rfl rfl (Ev.extract rfl rfl rfl) ?_
                  refine RG.vl rfl rfl rfl (Ev.assign rfl rfl) ?_
                  refine RG.vl rfl rfl rfl (Ev.assign rfl rfl) ?_
                  refine RG.done ?_
                  refine QW.sub (S' := [(0, _), (1, _), (13, _), (14, _), (15, _), (16, _)]) ⟨rfl, rfl, rfl, rfl, rfl, rfl, trivial⟩ ?_
                  refine QW.then_ ?_
                  refine CW.seq ?_
                  refine CW.region ?_
                  refine RG.vl rfl rfl rfl (Ev.move rfl rfl) ?_
                  refine RG.done ?_
                  refine QW.then_ ?_
                  refine CW.cond rfl (fun hc86 => ?_) (fun hc86 => ?_)
                  · refine CW.seq ?_
                    have hE28 : Ex w w84 := (Ex.tr hB0 hxwl77)
                    refine CW.region ?_
                    refine RG.vl rfl rfl rfl (Ev.move rfl rfl) ?_
                    refine RG.vl rfl rfl rfl (Ev.move rfl rfl) ?_
                    refine RG.vl rfl rfl rfl (Ev.move rfl rfl) ?_
                    refine RG.litO (os := [.tmp 119, .tmp 120]) (enc := encZ) ([p, q]) rfl rfl rfl rfl rfl rfl rfl Tryz.underlying29 inf_3 rfl rfl rfl rfl rfl encZ_len rfl rfl (fun v87 wk88 hxwk88 hown89 hnew90 => ?_)
                    replace hxwl77 := Ex.tr hxwl77 hxwk88
                    replace hE83 := Ex.tr hE83 hxwk88
                    replace hE85 := Ex.tr hE85 hxwk88
                    have hE91 := hxwk88
                    refine RG.vl rfl rfl rfl (Ev.assign rfl rfl) ?_
                    refine RG.vl rfl rfl rfl (Ev.assign rfl rfl) ?_
                    refine RG.vl rfl rfl rfl (Ev.assign rfl rfl) ?_
                    refine RG.done ?_
                    refine QW.then_ ?_
                    refine CW.ret ?_
                    refine QW.blockR ?_
                    refine QW.thenRet ?_
                    refine QW.thenRet ?_
                    refine QW.blockR ?_
                    refine QW.blockR ?_
                    refine QW.thenRet ?_
                    refine QW.thenRet ?_
                    refine QW.blockR ?_
                    refine QW.thenRet ?_
                    refine QW.ret3 rfl rfl rfl rfl ?_
                    have hB := (Ex.tr hB0 hxwl77)
                    exact ⟨_, _, o84, [p, q], 0, rfl, (Own.ext hor84 hE91).low (by have := hpre84.size; omega), Own.low (B' := w.heap.size) hown89 (by have := hE28.size; omega), .inr ⟨hyes, hok, .inr ⟨rfl, by rw [← her, he0]; exact near_two (by omega) (by omega) (fun q hq => by have := hone (by omega) q (by omega) (by rw [he0]; simp); rwa [he0] at this) (hyes84 (by assumption))⟩⟩, hB⟩
                  · refine CW.skip ?_
                    refine QW.blockN ?_
                    refine QW.then_ ?_
                    refine CW.region ?_
                    refine RG.vl rfl rfl rfl (Ev.move rfl rfl) ?_
                    refine RG.vl rfl rfl rfl (Ev.addI rfl rfl rfl (by omega)) ?_
                    refine RG.vl rfl rfl rfl (Ev.assign rfl rfl) ?_
                    refine RG.done ?_
                    refine QW.round1 (q + 1) ⟨rfl, trivial⟩ ⟨rfl, rfl, rfl, trivial⟩ ⟨⟨by omega, by omega, fun b h1 h2 => by rcases Nat.lt_or_ge b q with h | h; exact hthr b h1 h; obtain rfl : b = q := (by omega); exact hno84 (by assumption)⟩, (Ex.tr hB0 hxwl77)⟩ (by omega)
                · refine CW.exit ?_
                  refine QW.thenExit ?_
                  refine QW.thenExit ?_
                  refine QW.blockHit ?_
                  refine QW.blockN ?_
                  refine QW.then_ ?_
                  refine CW.region ?_
                  refine RG.vl rfl rfl rfl (Ev.move rfl rfl) ?_
                  refine RG.vl rfl rfl rfl (Ev.addI rfl rfl rfl (by omega)) ?_
                  refine RG.vl rfl rfl rfl (Ev.assign rfl rfl) ?_
                  refine RG.done ?_
                  refine QW.round1 (p + 1) ⟨rfl, trivial⟩ ⟨rfl, rfl, trivial⟩ ⟨⟨by omega, fun he a b ha hab hb => by rcases Nat.lt_or_ge a p with h | h; exact htwo he a b h hab hb; obtain rfl : a = p := (by omega); exact hthr b hab (by omega)⟩, (Ex.tr hB0 hxwl77)⟩ (by omega)
              · refine CW.exit ?_
                refine QW.thenExit ?_
                refine QW.thenExit ?_
                refine QW.blockHit ?_
                refine QW.then_ ?_
                refine CW.seq ?_
                refine CW.region ?_
                refine RG.vl rfl rfl rfl (Ev.assign rfl rfl) ?_
                refine RG.vl rfl rfl rfl (Ev.assign rfl rfl) ?_
                refine RG.vl rfl rfl rfl (Ev.assign rfl rfl) ?_
                refine RG.done ?_
                refine QW.then_ ?_
                refine CW.ret ?_
                refine QW.ret3 rfl rfl rfl rfl ?_
                have hB := (Ex.tr hB0 hxwl74)
                exact ⟨_, _, [], [], 190, rfl, Own.nil_ _ _ _ _ _, Own.nil_ _ _ _ _ _, .inr ⟨hyes, hok, .inl ⟨rfl, rfl, rfl, .inr (by rw [← her]; exact far_end hno0 (fun h2 a ha hn => hone h2 a (by omega) hn) (fun he a b hab hb => by have he1 : er.length = 0 := (by rw [he]; rfl); exact htwo he a b (by omega) hab hb))⟩⟩, hB⟩
            · refine RG.pass rfl rfl rfl ?_
              refine RG.pass rfl rfl rfl ?_
              refine RG.pass rfl rfl rfl ?_
              refine RG.vl rfl rfl rfl (Ev.pickF rfl rfl rfl) ?_
              refine RG.done ?_
              refine QW.then_ ?_
              refine CW.condF rfl ?_
              refine CW.exit ?_
              refine QW.thenExit ?_
              refine QW.thenExit ?_
              refine QW.blockHit ?_
              refine QW.then_ ?_
              refine CW.seq ?_
              refine CW.region ?_
              refine RG.vl rfl rfl rfl (Ev.assign rfl rfl) ?_
              refine RG.vl rfl rfl rfl (Ev.assign rfl rfl) ?_
              refine RG.vl rfl rfl rfl (Ev.assign rfl rfl) ?_
              refine RG.done ?_
              refine QW.then_ ?_
              refine CW.ret ?_
              refine QW.ret3 rfl rfl rfl rfl ?_
              have hB := (Ex.tr hB0 hxwl74)
              exact ⟨_, _, [], [], 190, rfl, Own.nil_ _ _ _ _ _, Own.nil_ _ _ _ _ _, .inr ⟨hyes, hok, .inl ⟨rfl, rfl, rfl, .inr (by rw [← her]; exact far_end hno0 (fun h2 a ha hn => hone h2 a (by omega) hn) (fun he a b hab hb => by have he1 : er.length = 0 := (by rw [he]; rfl); exact htwo he a b (by omega) hab hb))⟩⟩, hB⟩

end Go.Proofs.YtgjnchjkjdnidaaGreat

/- Walks (VB). Written by program. -/
namespace Go.Proofs.YtgjnchjkjdnidaaGreat
open Go.RowKit
theorem rwriteW_ret (u : Value) (c : List Nat) (w : World) (hl : RdL w 1 encN u c) (he : El c) (h66 : c.length ≤ 66) : Ret Tryz.prog 21 [u] w (fun v w' => v = .tuple #[.string ⟨(wd c).toArray⟩, .int .i64 0] ∧ Ex w w') :=
  (rwrite_ret u (bN c) w (rdl_bN hl (el_256 he)) (by rw [bN_len]; omega)).mono fun _ _ ⟨h, hx⟩ => ⟨by rw [h, writeB_wd he h66], hx⟩

set_option maxRecDepth 100000 in
set_option maxHeartbeats 1000000 in
theorem rwr22_ret (t : List UInt8) (w : World) (hlen : t.length ≤ 1000) :
    Ret Tryz.prog 10 [.string ⟨t.toArray⟩] w (fun v w' => ∃ x, v = .tuple #[.string ⟨x.toArray⟩, .int .i64 (errW t)] ∧ WrR t x ∧ Ex w w') := by
  have hts := sb_len t
  have hB0 : Ex w w := Ex.rfl_ _
  refine Ret.of Tryz.func10 rfl Tryz.ntmps10 rfl ?_
  refine CW.seq ?_
  refine CW.region ?_
  refine RG.vl rfl rfl rfl (Ev.assign rfl rfl) ?_
  refine RG.vl rfl rfl rfl (Ev.assign rfl rfl) ?_
  refine RG.done ?_
  refine QW.then_ ?_
  refine CW.seq ?_
  refine CW.seq ?_
  refine CW.region ?_
  refine RG.vl rfl rfl rfl (Ev.move rfl rfl) ?_
  refine RG.vl rfl rfl rfl (Ev.lenStr rfl rfl rfl Tryz.underlying9) ?_
  refine RG.vl rfl rfl rfl (Ev.gtr rfl rfl rfl) ?_
  refine RG.done ?_
  refine QW.then_ ?_
  refine CW.condP rfl (fun hc1 => ?_) (fun hc1 => ?_)
  · refine CW.seq ?_
    refine CW.region ?_
    refine RG.vl rfl rfl rfl (Ev.assign rfl rfl) ?_
    refine RG.vl rfl rfl rfl (Ev.assign rfl rfl) ?_
    refine RG.done ?_
    refine QW.then_ ?_
    refine CW.ret ?_
    refine QW.thenRet ?_
    refine QW.ret2 rfl rfl rfl ?_
    have hB := hB0
    have he := errW_long (t := t) (by omega)
    exact ⟨[], by rw [he], wr_no (by rw [he]; decide), hB⟩
  · refine CW.skip ?_
    refine QW.then_ ?_
    refine CW.seq ?_
    refine CW.seq ?_
    refine CW.region ?_
    refine RG.vl rfl rfl rfl (Ev.assign rfl rfl) ?_
    refine RG.done ?_
    refine QW.then_ ?_
    refine CW.block ?_
    refine CW.loop1 [(0, _)] ⟨rfl, trivial⟩ (fun (i : Nat) => [(4, .int .i64 (i : Int))]) (fun i w' => (i ≤ t.length ∧ (t.take i).all isDg = true) ∧ Ex w w') (fun i => t.length - i) (0) ⟨rfl, trivial⟩ ⟨⟨Nat.zero_le _, rfl⟩, hB0⟩ ?_
    rintro i wl2 ⟨⟨hi, hall⟩, hxwl2⟩
    refine CW.sub (S' := [(4, _), (0, _)]) ⟨rfl, rfl, trivial⟩ ?_
    refine CW.seq ?_
    refine CW.seq ?_
    refine CW.region ?_
    refine RG.vl rfl rfl rfl (Ev.move rfl rfl) ?_
    refine RG.vl rfl rfl rfl (Ev.move rfl rfl) ?_
    refine RG.vl rfl rfl rfl (Ev.lenStr rfl rfl rfl Tryz.underlying9) ?_
    refine RG.vl rfl rfl rfl (Ev.lss rfl rfl rfl) ?_
    refine RG.done ?_
    refine QW.then_ ?_
    refine CW.condP rfl (fun hc3 => ?_) (fun hc3 => ?_)
    · refine CW.skip ?_
      refine QW.then_ ?_
      refine CW.seq ?_
      refine CW.block ?_
      refine CW.seq ?_
      obtain ⟨c, hc⟩ : ∃ c, t[i]? = some c := ⟨_, List.getElem?_eq_getElem (by omega)⟩
      refine CW.region ?_
      refine RG.vl rfl rfl rfl (Ev.move rfl rfl) ?_
      refine RG.vl rfl rfl rfl (Ev.move rfl rfl) ?_
      refine RG.vl rfl rfl rfl (Ev.byteAt rfl rfl rfl Tryz.underlying9 (by omega) (hc)) ?_
      refine RG.vl rfl rfl rfl (Ev.lss rfl rfl rfl) ?_
      refine RG.vl rfl rfl rfl (Ev.move rfl rfl) ?_
      refine RG.split (d := 20) rfl (fun hg4 => ?_) (fun hg4 => ?_)
      · refine RG.pass rfl rfl rfl ?_
        refine RG.pass rfl rfl rfl ?_
        refine RG.pass rfl rfl rfl ?_
        refine RG.pass rfl rfl rfl ?_
        refine RG.vl rfl rfl rfl (Ev.pickT rfl rfl rfl) ?_
        refine RG.done ?_
        refine QW.sub (S' := [(0, _), (4, _), (25, _)]) ⟨rfl, rfl, rfl, trivial⟩ ?_
        refine QW.then_ ?_
        refine CW.condT rfl ?_
        refine CW.seq ?_
        refine CW.region ?_
        refine RG.vl rfl rfl rfl (Ev.assign rfl rfl) ?_
        refine RG.vl rfl rfl rfl (Ev.assign rfl rfl) ?_
        refine RG.done ?_
        refine QW.then_ ?_
        refine CW.ret ?_
        refine QW.blockR ?_
        refine QW.thenRet ?_
        refine QW.thenRet ?_
        refine QW.blockR ?_
        refine QW.thenRet ?_
        refine QW.ret2 rfl rfl rfl ?_
        have hB := (Ex.tr hB0 hxwl2)
        have he : errW t = 2 := errW_bad (by omega) (all_not hc (dg_no (by omega)))
        exact ⟨[], by rw [he], wr_no (by rw [he]; decide), hB⟩
      · refine RG.vl rfl rfl rfl (Ev.move rfl rfl) ?_
        refine RG.vl rfl rfl rfl (Ev.move rfl rfl) ?_
        refine RG.vl rfl rfl rfl (Ev.byteAt rfl rfl rfl Tryz.underlying9 (by omega) (hc)) ?_
        refine RG.vl rfl rfl rfl (Ev.gtr rfl rfl rfl) ?_
        refine RG.vl rfl rfl rfl (Ev.pickF rfl rfl rfl) ?_
        refine RG.done ?_
        refine QW.sub (S' := [(0, _), (4, _), (25, _)]) ⟨rfl, rfl, rfl, trivial⟩ ?_
        refine QW.then_ ?_
        refine CW.condP rfl (fun hc5 => ?_) (fun hc5 => ?_)
        · refine CW.seq ?_
          refine CW.region ?_
          refine RG.vl rfl rfl rfl (Ev.assign rfl rfl) ?_
          refine RG.vl rfl rfl rfl (Ev.assign rfl rfl) ?_
          refine RG.done ?_
          refine QW.then_ ?_
          refine CW.ret ?_
          refine QW.blockR ?_
          refine QW.thenRet ?_
          refine QW.thenRet ?_
          refine QW.blockR ?_
          refine QW.thenRet ?_
          refine QW.ret2 rfl rfl rfl ?_
          have hB := (Ex.tr hB0 hxwl2)
          have he : errW t = 2 := errW_bad (by omega) (all_not hc (dg_no (by omega)))
          exact ⟨[], by rw [he], wr_no (by rw [he]; decide), hB⟩
        · refine CW.skip ?_
          refine QW.blockN ?_
          refine QW.then_ ?_
          refine CW.region ?_
          refine RG.vl rfl rfl rfl (Ev.move rfl rfl) ?_
          refine RG.vl rfl rfl rfl (Ev.addI rfl rfl rfl (by omega)) ?_
          refine RG.vl rfl rfl rfl (Ev.assign rfl rfl) ?_
          refine RG.done ?_
          refine QW.round1 (i + 1) ⟨rfl, trivial⟩ ⟨rfl, trivial⟩ ⟨⟨by omega, all_take hc hall (dg_yes (by omega) (by omega))⟩, (Ex.tr hB0 hxwl2)⟩ (by omega)
    · refine CW.exit ?_
      refine QW.thenExit ?_
      refine QW.thenExit ?_
      refine QW.blockHit ?_
      refine QW.then_ ?_
      refine CW.seq ?_
      obtain rfl : i = t.length := by omega
      rw [List.take_length] at hall
      have herr := errW_0 (by omega) hall
      refine CW.region ?_
      refine RG.vl rfl rfl rfl (Ev.move rfl rfl) ?_
      refine RG.call rfl rfl rfl rfl rfl rfl rfl en_23 (symb_ret _ _ hall (by omega)) ?_
      have hpre6 := (Ex.tr hB0 hxwl2)
      rintro sv6 w6 ⟨hsy6, hx6⟩
      replace hxwl2 := Ex.tr hxwl2 hx6
      have hE7 := hx6
      refine RG.call rfl rfl rfl rfl rfl rfl rfl en_22 (rencode_ret _ (b64 (numT t)) _ ((hsy6.rdl encN_len)) (by rw [b64_len]; decide) (b64_lt _)) ?_
      have hpre8 := (Ex.tr hB0 hxwl2)
      rintro ve w8 ⟨c1, hoe, hie, hx8⟩
      have hsep9 : Sep ve _ := Sep.of_new hsy6 (fun k h => Own.ge hoe h)
      replace hxwl2 := Ex.tr hxwl2 hx8
      replace hE7 := Ex.tr hE7 hx8
      have hE10 := hx8
      have hcl := enc20 hie
      refine RG.call rfl rfl rfl rfl rfl rfl rfl en_21 (rwriteW_ret _ c1 _ ((hoe.rdl encN_len)) hie.el (by omega)) ?_
      rintro _ w11 ⟨rfl, hx11⟩
      replace hxwl2 := Ex.tr hxwl2 hx11
      replace hE7 := Ex.tr hE7 hx11
      replace hE10 := Ex.tr hE10 hx11
      have hE12 := hx11
      have hwl := wd_len c1
      have hws := sb_len (wd c1)
      refine RG.vl rfl rfl rfl (Ev.move rfl rfl) ?_
      refine RG.vl rfl rfl rfl (Ev.extract rfl rfl rfl) ?_
      refine RG.vl rfl rfl rfl (Ev.extract rfl rfl rfl) ?_
      refine RG.vl rfl rfl rfl (Ev.assign rfl rfl) ?_
      refine RG.vl rfl rfl rfl (Ev.assign rfl rfl) ?_
      refine RG.done ?_
      refine QW.then_ ?_
      refine CW.seq ?_
      refine CW.region ?_
      refine RG.vl rfl rfl rfl (Ev.move rfl rfl) ?_
      refine RG.vl rfl rfl rfl ((Ev.cat rfl rfl rfl (by rw [sb_len]; show 2 + _ ≤ _; omega)).conv (congrArg Value.string (bx_cat [65, 84] _))) ?_
      refine RG.vl rfl rfl rfl ((Ev.cat rfl rfl rfl (by rw [sb_len, List.length_append]; show 2 + _ + 2 ≤ _; omega)).conv (congrArg Value.string (bx_cat _ [70, 68]))) ?_
      refine RG.vl rfl rfl rfl (Ev.assign rfl rfl) ?_
      refine RG.vl rfl rfl rfl (Ev.assign rfl rfl) ?_
      refine RG.done ?_
      refine QW.sub (S' := [(2, _), (3, _)]) ⟨rfl, rfl, trivial⟩ ?_
      refine QW.then_ ?_
      refine CW.ret ?_
      refine QW.ret2 rfl rfl rfl ?_
      have hB := (Ex.tr hB0 hxwl2)
      exact ⟨_, by rw [herr]; rfl, ⟨fun _ => ⟨c1, hie, rfl⟩, fun h => absurd herr h⟩, hB⟩

set_option maxRecDepth 100000 in
set_option maxHeartbeats 4000000 in
theorem rrd22_ret (t : List UInt8) (w : World)  :
    Ret Tryz.prog 14 [.string ⟨t.toArray⟩] w (fun v w' => ∃ x b y z es er e, v = .tuple #[.agg ([.string ⟨x.toArray⟩, .bool b, y, z] : List Value).toArray, .int .i64 e] ∧ Own w' w.heap.size 3 1 encZ y es ∧ Own w' w.heap.size 3 1 encZ z er ∧ RdQ t x b es er e ∧ Ex w w') := by
  have hts := sb_len t
  have hB0 : Ex w w := Ex.rfl_ _
  refine Ret.of Tryz.func14 rfl Tryz.ntmps14 rfl ?_
  refine CW.seq ?_
  refine CW.region ?_
  refine RG.alloc_ rfl rfl rfl rfl inf_39 (fun gR w1 egR hx1 hb1 => ?_)
  have hle2 : w.heap.size ≤ gR := by have := (Ex.rfl_ w).size; omega
  have hE3 := hx1
  refine RG.vl rfl rfl rfl (Ev.assign rfl rfl) ?_
  refine RG.done ?_
  refine QW.then_ ?_
  refine CW.seq ?_
  refine CW.seq ?_
  refine CW.region ?_
  refine RG.vl rfl rfl rfl (Ev.move rfl rfl) ?_
  refine RG.vl rfl rfl rfl (Ev.lenStr rfl rfl rfl Tryz.underlying9) ?_
  refine RG.vl rfl rfl rfl (Ev.neI rfl rfl rfl) ?_
  refine RG.done ?_
  refine QW.then_ ?_
  refine CW.condP rfl (fun hc4 => ?_) (fun hc4 => ?_)
  · refine CW.seq ?_
    refine CW.region ?_
    refine RG.vl rfl rfl rfl (Ev.build1 rfl rfl rfl inf_39 rfl rfl (by kernel_rfl) rfl) ?_
    refine RG.stAll (g := gR) rfl rfl rfl rfl rfl sz_39 rfl rfl rfl hb1 (fun ws5 hwws5 hbws5 => ?_)
    replace hE3 := Wr.below hE3 hwws5 hle2
    refine RG.vl rfl rfl rfl (Ev.assign rfl rfl) ?_
    refine RG.done ?_
    refine QW.then_ ?_
    refine CW.ret ?_
    refine QW.thenRet ?_
    refine QW.retCT rfl rfl rfl Tryz.underlying39 rfl sz_39 (us := [.string _, .bool _, _, _]) rfl hbws5 ?_
    have hB := (Ex.tr hB0 hE3)
    exact ⟨[], false, _, _, [], [], 2, rfl, Own.nil_ _ _ _ _ _, Own.nil_ _ _ _ _ _, .len (by omega), hB⟩
  · refine CW.skip ?_
    refine QW.then_ ?_
    refine CW.seq ?_
    have h64 : t.length = 64 := by omega
    refine CW.region ?_
    refine RG.vl rfl rfl rfl (Ev.move rfl rfl) ?_
    refine RG.call rfl rfl rfl rfl rfl rfl rfl en_33 (runf_ret t _ (by omega)) ?_
    rintro _ w6 ⟨rfl, hx6⟩
    replace hE3 := Ex.tr hE3 hx6
    have hE7 := hx6
    refine RG.vl rfl rfl rfl (Ev.move rfl rfl) ?_
    refine RG.vl rfl rfl rfl (Ev.extract rfl rfl rfl) ?_
    refine RG.vl rfl rfl rfl (Ev.extract rfl rfl rfl) ?_
    refine RG.vl rfl rfl rfl (Ev.extract rfl rfl rfl) ?_
    refine RG.vl rfl rfl rfl (Ev.assign rfl rfl) ?_
    refine RG.vl rfl rfl rfl (Ev.assign rfl rfl) ?_
    refine RG.vl rfl rfl rfl (Ev.assign rfl rfl) ?_
    refine RG.done ?_
    refine QW.sub (S' := [(2, _), (3, _), (4, _), (5, _), (6, _)]) ⟨rfl, rfl, rfl, rfl, rfl, trivial⟩ ?_
    refine QW.then_ ?_
    refine CW.seq ?_
    refine CW.seq ?_
    refine CW.region ?_
    refine RG.vl rfl rfl rfl (Ev.move rfl rfl) ?_
    refine RG.vl rfl rfl rfl (Ev.neI rfl rfl rfl) ?_
    refine RG.done ?_
    refine QW.then_ ?_
    refine CW.condP rfl (fun hc8 => ?_) (fun hc8 => ?_)
    · refine CW.seq ?_
      refine CW.region ?_
      refine RG.vl rfl rfl rfl (Ev.build1 rfl rfl rfl inf_39 rfl rfl (by kernel_rfl) rfl) ?_
      refine RG.vl rfl rfl rfl (Ev.move rfl rfl) ?_
      refine RG.stAll (g := gR) rfl rfl rfl rfl rfl sz_39 rfl rfl rfl (hb1.ext hE7) (fun ws9 hwws9 hbws9 => ?_)
      replace hE3 := Wr.below hE3 hwws9 hle2
      refine RG.vl rfl rfl rfl (Ev.assign rfl rfl) ?_
      refine RG.done ?_
      refine QW.then_ ?_
      refine CW.ret ?_
      refine QW.thenRet ?_
      refine QW.retCT rfl rfl rfl Tryz.underlying39 rfl sz_39 (us := [.string _, .bool _, _, _]) rfl hbws9 ?_
      have hB := (Ex.tr hB0 hE3)
      exact ⟨[], false, _, _, [], [], _, rfl, Own.nil_ _ _ _ _ _, Own.nil_ _ _ _ _ _, .ends h64 (by omega), hB⟩
    · refine CW.skip ?_
      refine QW.then_ ?_
      refine CW.seq ?_
      have he0 : (unframeB t).2.2 = 0 := by omega
      obtain ⟨h60, h60a⟩ := unf_60 h64 he0
      refine CW.region ?_
      refine RG.vl rfl rfl rfl (Ev.move rfl rfl) ?_
      refine RG.call rfl rfl rfl rfl rfl rfl rfl en_34 (brread_ret (unframeB t).1 _ (by omega)) ?_
      have hpre10 := (Ex.tr hB0 hE3)
      rintro _ w10 ⟨br, be, rfl, hob, hor2, hx10⟩
      have hsb11 := fun e => sep_blk (hb1.ext hE7) (Nat.le_refl _) hob e
      have hsb12 := fun e => sep_blk (hb1.ext hE7) (Nat.le_refl _) hor2 e
      replace hob := Own.low (B' := w.heap.size) hob (by have := (Ex.tr hB0 hE3).size; omega)
      replace hor2 := Own.low (B' := w.heap.size) hor2 (by have := (Ex.tr hB0 hE3).size; omega)
      replace hE3 := Ex.tr hE3 hx10
      replace hE7 := Ex.tr hE7 hx10
      have hE13 := hx10
      have hr0 : (readB (unframeB t).1).2.2 = 0 := by rw [read_60 h60 h60a]
      rw [hr0]
      obtain ⟨bA, bC, rfl⟩ := hob.shape
      obtain ⟨eA, eC, rfl⟩ := hor2.shape
      have hobN := own_nB hob
      have hl20 : (nB (readB (unframeB t).1).1).length = 20 := by rw [nB_len, read_60 h60 h60a]; exact syms_len _ _
      have hel20 : (readB (unframeB t).1).2.1.length ≤ 20 := by rw [read_60 h60 h60a]; exact eras_len _ _
      refine RG.vl rfl rfl rfl (Ev.move rfl rfl) ?_
      refine RG.vl rfl rfl rfl (Ev.extract rfl rfl rfl) ?_
      refine RG.vl rfl rfl rfl (Ev.extract rfl rfl rfl) ?_
      refine RG.vl rfl rfl rfl (Ev.extract rfl rfl rfl) ?_
      refine RG.vl rfl rfl rfl (Ev.assign rfl rfl) ?_
      refine RG.vl rfl rfl rfl (Ev.assign rfl rfl) ?_
      refine RG.vl rfl rfl rfl (Ev.assign rfl rfl) ?_
      refine RG.done ?_
      refine QW.then_ ?_
      refine CW.seq ?_
      refine CW.region ?_
      refine RG.vl rfl rfl rfl (Ev.move rfl rfl) ?_
      refine RG.vl rfl rfl rfl (Ev.move rfl rfl) ?_
      refine RG.call rfl rfl rfl rfl rfl rfl rfl en_35 (rdecode_ret _ _ (nB (readB (unframeB t).1).1) (castI (readB (unframeB t).1).2.1) _ (rdl_nB (hob.rdl encB_len)) (rdl_i (hor2.rdl encZ_len)) (by omega) (by rw [show (castI (readB (unframeB t).1).2.1).length = (readB (unframeB t).1).2.1.length from List.length_map ..]; omega)) ?_
      have hpre14 := (Ex.tr hB0 hE3)
      rintro _ w14 ⟨cr, cx, c, es, e, rfl, hoc, hox, hdp, hx14⟩
      have hsb15 := fun e => sep_blk (hb1.ext hE7) (Nat.le_refl _) hoc e
      have hsb16 := fun e => sep_blk (hb1.ext hE7) (Nat.le_refl _) hox e
      replace hoc := Own.low (B' := w.heap.size) hoc (by have := (Ex.tr hB0 hE3).size; omega)
      replace hox := Own.low (B' := w.heap.size) hox (by have := (Ex.tr hB0 hE3).size; omega)
      replace hE3 := Ex.tr hE3 hx14
      replace hE7 := Ex.tr hE7 hx14
      replace hE13 := Ex.tr hE13 hx14
      have hE17 := hx14
      obtain ⟨cA, cC, rfl⟩ := hoc.shape
      obtain ⟨xA, xC, rfl⟩ := hox.shape
      refine RG.vl rfl rfl rfl (Ev.move rfl rfl) ?_
      refine RG.vl rfl rfl rfl (Ev.extract rfl rfl rfl) ?_
      refine RG.vl rfl rfl rfl (Ev.extract rfl rfl rfl) ?_
      refine RG.vl rfl rfl rfl (Ev.extract rfl rfl rfl) ?_
      refine RG.vl rfl rfl rfl (Ev.assign rfl rfl) ?_
      refine RG.vl rfl rfl rfl (Ev.assign rfl rfl) ?_
      refine RG.vl rfl rfl rfl (Ev.assign rfl rfl) ?_
      refine RG.done ?_
      refine QW.sub (S' := [(2, _), (3, _), (5, _), (6, _), (8, _), (10, _), (11, _)]) ⟨rfl, rfl, rfl, rfl, rfl, rfl, rfl, trivial⟩ ?_
      refine QW.then_ ?_
      refine CW.seq ?_
      refine CW.seq ?_
      refine CW.region ?_
      refine RG.vl rfl rfl rfl (Ev.move rfl rfl) ?_
      refine RG.vl rfl rfl rfl (Ev.neI rfl rfl rfl) ?_
      refine RG.done ?_
      refine QW.then_ ?_
      refine CW.condP rfl (fun hc18 => ?_) (fun hc18 => ?_)
      · refine CW.seq ?_
        refine CW.region ?_
        refine RG.vl rfl rfl rfl (Ev.build1 rfl rfl rfl inf_39 rfl rfl (by kernel_rfl) rfl) ?_
        refine RG.vl rfl rfl rfl (Ev.move rfl rfl) ?_
        refine RG.stAll (g := gR) rfl rfl rfl rfl rfl sz_39 rfl rfl rfl (hb1.ext hE7) (fun ws19 hwws19 hbws19 => ?_)
        replace hob := Own.far (Own.ext hob hE17) hwws19 hsb11
        replace hor2 := Own.far (Own.ext hor2 hE17) hwws19 hsb12
        replace hoc := Own.far hoc hwws19 hsb15
        replace hox := Own.far hox hwws19 hsb16
        replace hE3 := Wr.below hE3 hwws19 hle2
        refine RG.vl rfl rfl rfl (Ev.assign rfl rfl) ?_
        refine RG.done ?_
        refine QW.then_ ?_
        refine CW.ret ?_
        refine QW.thenRet ?_
        refine QW.retCT rfl rfl rfl Tryz.underlying39 rfl sz_39 (us := [.string _, .bool _, _, _]) rfl hbws19 ?_
        have hB := (Ex.tr hB0 hE3)
        exact ⟨[], false, _, _, [], [], _, rfl, Own.nil_ _ _ _ _ _, Own.nil_ _ _ _ _ _, .far h64 he0 hdp (by omega), hB⟩
      · refine CW.skip ?_
        refine QW.then_ ?_
        refine CW.seq ?_
        obtain rfl : e = 0 := by omega
        obtain ⟨hc20, hce⟩ := rdec_e h60 h60a hdp
        have hc16 : (c.take 16).length = 16 := by rw [List.length_take]; omega
        have hce16 : El (c.take 16) := hce.take 16
        refine CW.region ?_
        refine RG.vl rfl rfl rfl (Ev.move rfl rfl) ?_
        refine RG.sliceL (L := 0) (H := 16) _ rfl rfl rfl rfl rfl Tryz.underlying58 sz_5 ((hoc.rdl encN_len)) (.inl ⟨rfl, rfl⟩) (.inr ⟨_, _, _, rfl, rfl, by omega⟩) (by omega) (by omega) (fun v20 hrv20 => ?_)
        rw [List.drop_zero] at hrv20
        refine RG.call rfl rfl rfl rfl rfl rfl rfl en_36 (rpay_ret _ (c.take 16) _ (hrv20) hc16 hce16) ?_
        rintro _ w21 ⟨rp, hpay, rfl, hx21⟩
        replace hE3 := Ex.tr hE3 hx21
        replace hE7 := Ex.tr hE7 hx21
        replace hE13 := Ex.tr hE13 hx21
        replace hE17 := Ex.tr hE17 hx21
        have hE22 := hx21
        refine RG.vl rfl rfl rfl (Ev.move rfl rfl) ?_
        refine RG.vl rfl rfl rfl (Ev.extract rfl rfl rfl) ?_
        refine RG.vl rfl rfl rfl (Ev.extract rfl rfl rfl) ?_
        refine RG.vl rfl rfl rfl (Ev.assign rfl rfl) ?_
        refine RG.vl rfl rfl rfl (Ev.assign rfl rfl) ?_
        refine RG.done ?_
        refine QW.then_ ?_
        refine CW.seq ?_
        refine CW.seq ?_
        refine CW.region ?_
        refine RG.vl rfl rfl rfl (Ev.move rfl rfl) ?_
        refine RG.vl rfl rfl rfl (Ev.not rfl rfl) ?_
        refine RG.done ?_
        refine QW.then_ ?_
        refine CW.cond rfl (fun hc23 => ?_) (fun hc23 => ?_)
        · refine CW.seq ?_
          refine CW.region ?_
          refine RG.vl rfl rfl rfl (Ev.build1 rfl rfl rfl inf_39 rfl rfl (by kernel_rfl) rfl) ?_
          refine RG.stAll (g := gR) rfl rfl rfl rfl rfl sz_39 rfl rfl rfl (hb1.ext hE7) (fun ws24 hwws24 hbws24 => ?_)
          replace hob := Own.far (Own.ext hob hE17) hwws24 hsb11
          replace hor2 := Own.far (Own.ext hor2 hE17) hwws24 hsb12
          replace hoc := Own.far (Own.ext hoc hE22) hwws24 hsb15
          replace hox := Own.far (Own.ext hox hE22) hwws24 hsb16
          replace hE3 := Wr.below hE3 hwws24 hle2
          refine RG.vl rfl rfl rfl (Ev.assign rfl rfl) ?_
          refine RG.done ?_
          refine QW.sub (S' := [(2, _), (3, _), (5, _), (8, _), (11, _), (12, _)]) ⟨rfl, rfl, rfl, rfl, rfl, rfl, trivial⟩ ?_
          refine QW.then_ ?_
          refine CW.ret ?_
          refine QW.thenRet ?_
          refine QW.retCT rfl rfl rfl Tryz.underlying39 rfl sz_39 (us := [.string _, .bool _, _, _]) rfl hbws24 ?_
          have hB := (Ex.tr hB0 hE3)
          have hrn : rp = none := by cases rp with
            | none => rfl
            | some t => exact absurd (show (!true) = true by assumption) (by decide)
          subst hrn
          exact ⟨[], false, _, _, [], [], 220, rfl, Own.nil_ _ _ _ _ _, Own.nil_ _ _ _ _ _, .code h64 he0 hdp hpay, hB⟩
        · refine CW.skip ?_
          refine QW.then_ ?_
          refine CW.seq ?_
          refine CW.region ?_
          refine RG.vl rfl rfl rfl (Ev.move rfl rfl) ?_
          refine RG.vl rfl rfl rfl (Ev.move rfl rfl) ?_
          refine RG.vl rfl rfl rfl (Ev.move rfl rfl) ?_
          refine RG.vl rfl rfl rfl (Ev.move rfl rfl) ?_
          refine RG.vl rfl rfl rfl (Ev.build1 rfl rfl rfl inf_39 rfl rfl (by kernel_rfl) rfl) ?_
          refine RG.stAll (g := gR) rfl rfl rfl rfl rfl sz_39 rfl rfl rfl (hb1.ext hE7) (fun ws25 hwws25 hbws25 => ?_)
          replace hob := Own.far (Own.ext hob hE17) hwws25 hsb11
          replace hor2 := Own.far (Own.ext hor2 hE17) hwws25 hsb12
          replace hoc := Own.far (Own.ext hoc hE22) hwws25 hsb15
          replace hox := Own.far (Own.ext hox hE22) hwws25 hsb16
          replace hE3 := Wr.below hE3 hwws25 hle2
          refine RG.vl rfl rfl rfl (Ev.assign rfl rfl) ?_
          refine RG.done ?_
          refine QW.sub (S' := [(2, _), (3, _)]) ⟨rfl, rfl, trivial⟩ ?_
          refine QW.then_ ?_
          refine CW.ret ?_
          refine QW.retCT rfl rfl rfl Tryz.underlying39 rfl sz_39 (us := [.string _, .bool _, _, _]) rfl hbws25 ?_
          have hB := (Ex.tr hB0 hE3)
          obtain ⟨t1, rfl⟩ : ∃ t1, rp = some t1 := by cases rp with
            | none => exact absurd (show (!false) = false by assumption) (by decide)
            | some t => exact ⟨t, rfl⟩
          exact ⟨t1, (unframeB t).2.1, _, _, es, (readB (unframeB t).1).2.1, 0, rfl, hox, hor2, .found h64 he0 hdp hpay, hB⟩

end Go.Proofs.YtgjnchjkjdnidaaGreat

/- Walks (UC). Written by program. -/
namespace Go.Proofs.YtgjnchjkjdnidaaGreat
open Go.RowKit
set_option maxRecDepth 100000 in
set_option maxHeartbeats 1000000 in
theorem bwr_ret (t : List UInt8) (w : World) (hlen : t.length ≤ 1000) :
    Ret Tryz.prog 12 [.string ⟨t.toArray⟩] w (fun v w' => ∃ x, v = .tuple #[.string ⟨x.toArray⟩, .int .i64 (errW t)] ∧ WrR t x ∧ Ex w w') := by
  have hts := sb_len t
  have hB0 : Ex w w := Ex.rfl_ _
  refine Ret.of Tryz.func12 rfl Tryz.ntmps12 rfl ?_
  refine CW.seq ?_
  refine CW.region ?_
  refine RG.vl rfl rfl rfl (Ev.assign rfl rfl) ?_
  refine RG.vl rfl rfl rfl (Ev.assign rfl rfl) ?_
  refine RG.done ?_
  refine QW.then_ ?_
  refine CW.seq ?_
  refine CW.seq ?_
  refine CW.region ?_
  refine RG.vl rfl rfl rfl (Ev.move rfl rfl) ?_
  refine RG.vl rfl rfl rfl (Ev.lenStr rfl rfl rfl Tryz.underlying9) ?_
  refine RG.vl rfl rfl rfl (Ev.gtr rfl rfl rfl) ?_
  refine RG.done ?_
  refine QW.then_ ?_
  refine CW.condP rfl (fun hc1 => ?_) (fun hc1 => ?_)
  · refine CW.seq ?_
    refine CW.region ?_
    refine RG.vl rfl rfl rfl (Ev.assign rfl rfl) ?_
    refine RG.vl rfl rfl rfl (Ev.assign rfl rfl) ?_
    refine RG.done ?_
    refine QW.then_ ?_
    refine CW.ret ?_
    refine QW.thenRet ?_
    refine QW.ret2 rfl rfl rfl ?_
    have hB := hB0
    have he := errW_long (t := t) (by omega)
    exact ⟨[], by rw [he], wr_no (by rw [he]; decide), hB⟩
  · refine CW.skip ?_
    refine QW.then_ ?_
    refine CW.seq ?_
    refine CW.region ?_
    refine RG.vl rfl rfl rfl (Ev.move rfl rfl) ?_
    refine RG.call rfl rfl rfl rfl rfl rfl rfl en_25 (numOf_ret t _ (by omega)) ?_
    rintro _ w2 ⟨rfl, hx2⟩
    have hE3 := hx2
    refine RG.vl rfl rfl rfl (Ev.move rfl rfl) ?_
    refine RG.vl rfl rfl rfl (Ev.extract rfl rfl rfl) ?_
    refine RG.vl rfl rfl rfl (Ev.extract rfl rfl rfl) ?_
    refine RG.local_ rfl rfl rfl rfl (fun _ => rfl) rfl rfl (fun _ => rfl) inf_62 rfl (show (c16 (b64 _)).toArray.size = 16 by simp [c16_len, b64_len]) (by show (c16 _).all _ = true; exact c16_one _) (fun gW w4 egW hx4 hb4 => ?_)
    have hle5 : w.heap.size ≤ gW := by have := hE3.size; omega
    have hle6 : w2.heap.size ≤ gW := by have := (Ex.rfl_ w2).size; omega
    replace hE3 := Ex.tr hE3 hx4
    refine RG.vl rfl rfl rfl (Ev.assign rfl rfl) ?_
    refine RG.done ?_
    refine QW.then_ ?_
    refine CW.seq ?_
    refine CW.seq ?_
    refine CW.region ?_
    refine RG.vl rfl rfl rfl (Ev.move rfl rfl) ?_
    refine RG.vl rfl rfl rfl (Ev.not rfl rfl) ?_
    refine RG.done ?_
    refine QW.sub (S' := [(2, _), (3, _), (4, _), (18, _)]) ⟨rfl, rfl, rfl, rfl, trivial⟩ ?_
    refine QW.then_ ?_
    refine CW.cond rfl (fun hc7 => ?_) (fun hc7 => ?_)
    · refine CW.seq ?_
      refine CW.region ?_
      refine RG.vl rfl rfl rfl (Ev.assign rfl rfl) ?_
      refine RG.vl rfl rfl rfl (Ev.assign rfl rfl) ?_
      refine RG.done ?_
      refine QW.then_ ?_
      refine CW.ret ?_
      refine QW.thenRet ?_
      refine QW.ret2 rfl rfl rfl ?_
      have hB := (Ex.tr hB0 hE3)
      have he : errW t = 2 := errW_bad (by omega) (by simpa using (by assumption : (!t.all isDg) = true))
      exact ⟨[], by rw [he], wr_no (by rw [he]; decide), hB⟩
    · refine CW.skip ?_
      refine QW.then_ ?_
      refine CW.seq ?_
      have hall : t.all isDg = true := by simpa using (by assumption : (!t.all isDg) = false)
      have herr := errW_0 (by omega) hall
      rw [hall, if_pos rfl] at hb4
      refine CW.region ?_
      refine RG.vl rfl rfl rfl ((Ev.sliceArr rfl rfl Tryz.underlying62 sz_5).conv (show _ = Value.slice (some ⟨gW, 0, none⟩) (b64 (numT t)).length 16 by rw [b64_len])) ?_
      have hrd : RdL w4 1 encN (.slice (some ⟨gW, 0, none⟩) (b64 (numT t)).length 16) (b64 (numT t)) := RdL.of_blk encN_len (by rw [← c16_flat]; exact hb4) (by rw [b64_len]; decide) (by decide)
      refine RG.call rfl rfl rfl rfl rfl rfl rfl en_26 (encode_ret _ (b64 (numT t)) _ (hrd) (by rw [b64_len]; decide)) ?_
      have hpre8 := (Ex.tr hB0 hE3)
      rintro _ w8 ⟨er, c, rfl, hoc, hen, hne, hx8⟩
      replace hE3 := Ex.tr hE3 hx8
      have hE9 := hx8
      have hie := hen (b64_ok _)
      have hcl := enc20 hie
      rw [b64_ok] at *
      refine RG.vl rfl rfl rfl (Ev.move rfl rfl) ?_
      refine RG.vl rfl rfl rfl (Ev.extract rfl rfl rfl) ?_
      refine RG.vl rfl rfl rfl (Ev.extract rfl rfl rfl) ?_
      refine RG.vl rfl rfl rfl (Ev.assign rfl rfl) ?_
      refine RG.vl rfl rfl rfl (Ev.assign rfl rfl) ?_
      refine RG.done ?_
      refine QW.then_ ?_
      refine CW.seq ?_
      refine CW.seq ?_
      refine CW.region ?_
      refine RG.vl rfl rfl rfl (Ev.move rfl rfl) ?_
      refine RG.vl rfl rfl rfl (Ev.isF (Ev.neI rfl rfl rfl) (fun h => h rfl)) ?_
      refine RG.done ?_
      refine QW.then_ ?_
      refine CW.condF rfl ?_
      refine CW.skip ?_
      refine QW.then_ ?_
      refine CW.seq ?_
      refine CW.region ?_
      refine RG.vl rfl rfl rfl (Ev.move rfl rfl) ?_
      refine RG.call rfl rfl rfl rfl rfl rfl rfl en_27 (bwrite_ret _ (bN c) _ (rdl_bN ((hoc.rdl encN_len)) (el_256 hie.el))) ?_
      rintro _ w10 ⟨rfl, hx10⟩
      replace hE3 := Ex.tr hE3 hx10
      replace hE9 := Ex.tr hE9 hx10
      have hE11 := hx10
      rw [writeB_wd hie.el (by omega)] at *
      refine RG.vl rfl rfl rfl (Ev.move rfl rfl) ?_
      refine RG.vl rfl rfl rfl (Ev.extract rfl rfl rfl) ?_
      refine RG.vl rfl rfl rfl (Ev.extract rfl rfl rfl) ?_
      refine RG.vl rfl rfl rfl (Ev.assign rfl rfl) ?_
      refine RG.vl rfl rfl rfl (Ev.assign rfl rfl) ?_
      refine RG.done ?_
      refine QW.sub (S' := [(2, _), (3, _), (7, _), (8, _)]) ⟨rfl, rfl, rfl, rfl, trivial⟩ ?_
      refine QW.then_ ?_
      refine CW.seq ?_
      refine CW.seq ?_
      refine CW.region ?_
      refine RG.vl rfl rfl rfl (Ev.move rfl rfl) ?_
      refine RG.vl rfl rfl rfl (Ev.isF (Ev.neI rfl rfl rfl) (fun h => h rfl)) ?_
      refine RG.done ?_
      refine QW.then_ ?_
      refine CW.condF rfl ?_
      refine CW.skip ?_
      refine QW.then_ ?_
      refine CW.seq ?_
      refine CW.region ?_
      refine RG.vl rfl rfl rfl (Ev.move rfl rfl) ?_
      refine RG.call rfl rfl rfl rfl rfl rfl rfl en_28 (frame_ret (wd c) _) ?_
      rintro _ w12 ⟨rfl, hx12⟩
      replace hE3 := Ex.tr hE3 hx12
      replace hE9 := Ex.tr hE9 hx12
      replace hE11 := Ex.tr hE11 hx12
      have hE13 := hx12
      rw [frameB_wd hcl] at *
      refine RG.vl rfl rfl rfl (Ev.extract rfl rfl rfl) ?_
      refine RG.vl rfl rfl rfl (Ev.extract rfl rfl rfl) ?_
      refine RG.vl rfl rfl rfl (Ev.assign rfl rfl) ?_
      refine RG.vl rfl rfl rfl (Ev.assign rfl rfl) ?_
      refine RG.done ?_
      refine QW.then_ ?_
      refine CW.ret ?_
      refine QW.ret2 rfl rfl rfl ?_
      have hB := (Ex.tr hB0 hE3)
      exact ⟨_, by rw [herr], ⟨fun _ => ⟨c, hie, rfl⟩, fun h => absurd herr h⟩, hB⟩

set_option maxRecDepth 100000 in
set_option maxHeartbeats 4000000 in
theorem brd_ret (t : List UInt8) (w : World)  :
    Ret Tryz.prog 13 [.string ⟨t.toArray⟩] w (fun v w' => ∃ x b y z es er e, v = .tuple #[.agg ([.string ⟨x.toArray⟩, .bool b, y, z] : List Value).toArray, .int .i64 e] ∧ Own w' w.heap.size 3 1 encZ y es ∧ Own w' w.heap.size 3 1 encZ z er ∧ RdR t x b es er e ∧ Ex w w') := by
  have hts := sb_len t
  have hB0 : Ex w w := Ex.rfl_ _
  refine Ret.of Tryz.func13 rfl Tryz.ntmps13 rfl ?_
  refine CW.seq ?_
  refine CW.region ?_
  refine RG.alloc_ rfl rfl rfl rfl inf_31 (fun gR w1 egR hx1 hb1 => ?_)
  have hle2 : w.heap.size ≤ gR := by have := (Ex.rfl_ w).size; omega
  have hE3 := hx1
  refine RG.vl rfl rfl rfl (Ev.assign rfl rfl) ?_
  refine RG.done ?_
  refine QW.then_ ?_
  refine CW.seq ?_
  refine CW.seq ?_
  refine CW.region ?_
  refine RG.vl rfl rfl rfl (Ev.move rfl rfl) ?_
  refine RG.vl rfl rfl rfl (Ev.lenStr rfl rfl rfl Tryz.underlying9) ?_
  refine RG.vl rfl rfl rfl (Ev.neI rfl rfl rfl) ?_
  refine RG.done ?_
  refine QW.then_ ?_
  refine CW.condP rfl (fun hc4 => ?_) (fun hc4 => ?_)
  · refine CW.seq ?_
    refine CW.region ?_
    refine RG.vl rfl rfl rfl (Ev.build1 rfl rfl rfl inf_31 rfl rfl (by kernel_rfl) rfl) ?_
    refine RG.stAll (g := gR) rfl rfl rfl rfl rfl sz_31 rfl rfl rfl hb1 (fun ws5 hwws5 hbws5 => ?_)
    replace hE3 := Wr.below hE3 hwws5 hle2
    refine RG.vl rfl rfl rfl (Ev.assign rfl rfl) ?_
    refine RG.done ?_
    refine QW.then_ ?_
    refine CW.ret ?_
    refine QW.thenRet ?_
    refine QW.retCT rfl rfl rfl Tryz.underlying31 rfl sz_31 (us := [.string _, .bool _, _, _]) rfl hbws5 ?_
    have hB := (Ex.tr hB0 hE3)
    exact ⟨[], false, _, _, [], [], 2, rfl, Own.nil_ _ _ _ _ _, Own.nil_ _ _ _ _ _, .len (by omega), hB⟩
  · refine CW.skip ?_
    refine QW.then_ ?_
    refine CW.seq ?_
    have h64 : t.length = 64 := by omega
    refine CW.region ?_
    refine RG.vl rfl rfl rfl (Ev.move rfl rfl) ?_
    refine RG.call rfl rfl rfl rfl rfl rfl rfl en_29 (unf_ret _ _) ?_
    rintro _ w6 ⟨rfl, hx6⟩
    replace hE3 := Ex.tr hE3 hx6
    have hE7 := hx6
    refine RG.vl rfl rfl rfl (Ev.move rfl rfl) ?_
    refine RG.vl rfl rfl rfl (Ev.extract rfl rfl rfl) ?_
    refine RG.vl rfl rfl rfl (Ev.extract rfl rfl rfl) ?_
    refine RG.vl rfl rfl rfl (Ev.extract rfl rfl rfl) ?_
    refine RG.vl rfl rfl rfl (Ev.assign rfl rfl) ?_
    refine RG.vl rfl rfl rfl (Ev.assign rfl rfl) ?_
    refine RG.vl rfl rfl rfl (Ev.assign rfl rfl) ?_
    refine RG.done ?_
    refine QW.sub (S' := [(2, _), (3, _), (4, _), (5, _), (6, _)]) ⟨rfl, rfl, rfl, rfl, rfl, trivial⟩ ?_
    refine QW.then_ ?_
    refine CW.seq ?_
    refine CW.seq ?_
    refine CW.region ?_
    refine RG.vl rfl rfl rfl (Ev.move rfl rfl) ?_
    refine RG.vl rfl rfl rfl (Ev.neI rfl rfl rfl) ?_
    refine RG.done ?_
    refine QW.then_ ?_
    refine CW.condP rfl (fun hc8 => ?_) (fun hc8 => ?_)
    · refine CW.seq ?_
      refine CW.region ?_
      refine RG.vl rfl rfl rfl (Ev.build1 rfl rfl rfl inf_31 rfl rfl (by kernel_rfl) rfl) ?_
      refine RG.vl rfl rfl rfl (Ev.move rfl rfl) ?_
      refine RG.stAll (g := gR) rfl rfl rfl rfl rfl sz_31 rfl rfl rfl (hb1.ext hE7) (fun ws9 hwws9 hbws9 => ?_)
      replace hE3 := Wr.below hE3 hwws9 hle2
      refine RG.vl rfl rfl rfl (Ev.assign rfl rfl) ?_
      refine RG.done ?_
      refine QW.then_ ?_
      refine CW.ret ?_
      refine QW.thenRet ?_
      refine QW.retCT rfl rfl rfl Tryz.underlying31 rfl sz_31 (us := [.string _, .bool _, _, _]) rfl hbws9 ?_
      have hB := (Ex.tr hB0 hE3)
      exact ⟨[], false, _, _, [], [], _, rfl, Own.nil_ _ _ _ _ _, Own.nil_ _ _ _ _ _, .ends h64 (by assumption), hB⟩
    · refine CW.skip ?_
      refine QW.then_ ?_
      refine CW.seq ?_
      have he0 : (unframeB t).2.2 = 0 := by omega
      refine CW.region ?_
      refine RG.vl rfl rfl rfl (Ev.move rfl rfl) ?_
      refine RG.call rfl rfl rfl rfl rfl rfl rfl en_30 (bread_ret (unframeB t).1 _) ?_
      have hpre10 := (Ex.tr hB0 hE3)
      rintro _ w10 ⟨br, be, rfl, hob, hor2, hx10⟩
      have hsb11 := fun e => sep_blk (hb1.ext hE7) (Nat.le_refl _) hob e
      have hsb12 := fun e => sep_blk (hb1.ext hE7) (Nat.le_refl _) hor2 e
      replace hob := Own.low (B' := w.heap.size) hob (by have := (Ex.tr hB0 hE3).size; omega)
      replace hor2 := Own.low (B' := w.heap.size) hor2 (by have := (Ex.tr hB0 hE3).size; omega)
      replace hE3 := Ex.tr hE3 hx10
      replace hE7 := Ex.tr hE7 hx10
      have hE13 := hx10
      obtain ⟨h60, h60a⟩ := unf_60 h64 he0
      have hr0 : (readB (unframeB t).1).2.2 = 0 := by rw [read_60 h60 h60a]
      rw [hr0]
      obtain ⟨bA, bC, rfl⟩ := hob.shape
      obtain ⟨eA, eC, rfl⟩ := hor2.shape
      have hobN := own_nB hob
      have hl20 : (nB (readB (unframeB t).1).1).length = 20 := by rw [nB_len, read_60 h60 h60a]; exact syms_len _ _
      have hel20 : (readB (unframeB t).1).2.1.length ≤ 20 := by rw [read_60 h60 h60a]; exact eras_len _ _
      refine RG.vl rfl rfl rfl (Ev.move rfl rfl) ?_
      refine RG.vl rfl rfl rfl (Ev.extract rfl rfl rfl) ?_
      refine RG.vl rfl rfl rfl (Ev.extract rfl rfl rfl) ?_
      refine RG.vl rfl rfl rfl (Ev.extract rfl rfl rfl) ?_
      refine RG.vl rfl rfl rfl (Ev.assign rfl rfl) ?_
      refine RG.vl rfl rfl rfl (Ev.assign rfl rfl) ?_
      refine RG.vl rfl rfl rfl (Ev.assign rfl rfl) ?_
      refine RG.done ?_
      refine QW.then_ ?_
      refine CW.seq ?_
      refine CW.seq ?_
      refine CW.region ?_
      refine RG.vl rfl rfl rfl (Ev.move rfl rfl) ?_
      refine RG.vl rfl rfl rfl (Ev.isF (Ev.neI rfl rfl rfl) (fun h => h rfl)) ?_
      refine RG.done ?_
      refine QW.then_ ?_
      refine CW.condF rfl ?_
      refine CW.skip ?_
      refine QW.then_ ?_
      refine CW.seq ?_
      refine CW.region ?_
      refine RG.vl rfl rfl rfl (Ev.move rfl rfl) ?_
      refine RG.vl rfl rfl rfl (Ev.move rfl rfl) ?_
      refine RG.call rfl rfl rfl rfl rfl rfl rfl en_31 (decode_ret _ _ (nB (readB (unframeB t).1).1) (castI (readB (unframeB t).1).2.1) _ (rdl_nB (hob.rdl encB_len)) (rdl_i (hor2.rdl encZ_len)) (by omega) (by rw [show (castI (readB (unframeB t).1).2.1).length = (readB (unframeB t).1).2.1.length from List.length_map ..]; omega)) ?_
      have hpre14 := (Ex.tr hB0 hE3)
      rintro _ w14 ⟨cr, cx, c, es, e, rfl, hoc, hox, hdp, hx14⟩
      have hsb15 := fun e => sep_blk (hb1.ext hE7) (Nat.le_refl _) hoc e
      have hsb16 := fun e => sep_blk (hb1.ext hE7) (Nat.le_refl _) hox e
      replace hoc := Own.low (B' := w.heap.size) hoc (by have := (Ex.tr hB0 hE3).size; omega)
      replace hox := Own.low (B' := w.heap.size) hox (by have := (Ex.tr hB0 hE3).size; omega)
      replace hE3 := Ex.tr hE3 hx14
      replace hE7 := Ex.tr hE7 hx14
      replace hE13 := Ex.tr hE13 hx14
      have hE17 := hx14
      obtain ⟨cA, cC, rfl⟩ := hoc.shape
      obtain ⟨xA, xC, rfl⟩ := hox.shape
      refine RG.vl rfl rfl rfl (Ev.move rfl rfl) ?_
      refine RG.vl rfl rfl rfl (Ev.extract rfl rfl rfl) ?_
      refine RG.vl rfl rfl rfl (Ev.extract rfl rfl rfl) ?_
      refine RG.local_ rfl rfl rfl rfl (fun _ => rfl) rfl rfl (fun _ => rfl) inf_73 rfl rfl rfl (fun gF w18 egF hx18 hb18 => ?_)
      have hsb19 := fun e => sep_new (g := gF) (Own.ext hob hE17) egF e
      have hsb20 := fun e => sep_new (g := gF) (Own.ext hor2 hE17) egF e
      have hsb21 := fun e => sep_new (g := gF) hoc egF e
      have hsb22 := fun e => sep_new (g := gF) hox egF e
      have hle23 : w.heap.size ≤ gF := by have := hE3.size; omega
      have hle24 : w1.heap.size ≤ gF := by have := hE7.size; omega
      have hle25 : w6.heap.size ≤ gF := by have := hE13.size; omega
      have hle26 : w10.heap.size ≤ gF := by have := hE17.size; omega
      have hle27 : w14.heap.size ≤ gF := by have := (Ex.rfl_ w14).size; omega
      have hlt28 : gR < gF := by have := Blk.lt (hb1.ext hE7); omega
      replace hE3 := Ex.tr hE3 hx18
      replace hE7 := Ex.tr hE7 hx18
      replace hE13 := Ex.tr hE13 hx18
      replace hE17 := Ex.tr hE17 hx18
      have hE29 := hx18
      refine RG.vl rfl rfl rfl (Ev.assign rfl rfl) ?_
      refine RG.done ?_
      refine QW.sub (S' := [(2, _), (3, _), (5, _), (6, _), (8, _), (9, _)]) ⟨rfl, rfl, rfl, rfl, rfl, rfl, trivial⟩ ?_
      refine QW.then_ ?_
      refine CW.seq ?_
      refine CW.seq ?_
      refine CW.region ?_
      refine RG.vl rfl rfl rfl (Ev.move rfl rfl) ?_
      refine RG.vl rfl rfl rfl (Ev.neI rfl rfl rfl) ?_
      refine RG.done ?_
      refine QW.then_ ?_
      refine CW.condP rfl (fun hc30 => ?_) (fun hc30 => ?_)
      · refine CW.seq ?_
        refine CW.region ?_
        refine RG.vl rfl rfl rfl (Ev.build1 rfl rfl rfl inf_31 rfl rfl (by kernel_rfl) rfl) ?_
        refine RG.vl rfl rfl rfl (Ev.move rfl rfl) ?_
        refine RG.stAll (g := gR) rfl rfl rfl rfl rfl sz_31 rfl rfl rfl (hb1.ext hE7) (fun ws31 hwws31 hbws31 => ?_)
        replace hob := Own.far (Own.ext hob hE17) hwws31 hsb11
        replace hor2 := Own.far (Own.ext hor2 hE17) hwws31 hsb12
        replace hoc := Own.far (Own.ext hoc hE29) hwws31 hsb15
        replace hox := Own.far (Own.ext hox hE29) hwws31 hsb16
        replace hb18 := Blk.far hb18 hwws31 (by omega)
        replace hE3 := Wr.below hE3 hwws31 hle2
        refine RG.vl rfl rfl rfl (Ev.assign rfl rfl) ?_
        refine RG.done ?_
        refine QW.then_ ?_
        refine CW.ret ?_
        refine QW.thenRet ?_
        refine QW.retCT rfl rfl rfl Tryz.underlying31 rfl sz_31 (us := [.string _, .bool _, _, _]) rfl hbws31 ?_
        have hB := (Ex.tr hB0 hE3)
        exact ⟨[], false, _, _, [], [], _, rfl, Own.nil_ _ _ _ _ _, Own.nil_ _ _ _ _ _, .far h64 he0 hdp (by assumption), hB⟩
      · refine CW.skip ?_
        refine QW.then_ ?_
        refine CW.seq ?_
        obtain rfl : e = 0 := by omega
        obtain ⟨hc20, hce⟩ := dec_e h60 h60a hdp rfl
        have hc16 : (c.take 16).length = 16 := by rw [List.length_take]; omega
        have hce16 : El (c.take 16) := hce.take 16
        refine CW.region ?_
        refine RG.vl rfl rfl rfl (Ev.fld rfl rfl fld_73_0) ?_
        refine RG.vl rfl rfl rfl (Ev.ldAt rfl rfl Tryz.underlying58 rfl (hb18.cells) (rfl)) ?_
        obtain ⟨gq, cq, hveq, hqB, hql⟩ := own_at (Own.ext hoc hE29) (by omega)
        injection hveq with e1 _ e3
        subst e1 e3
        refine RG.vl rfl rfl rfl (Ev.toArr rfl rfl Tryz.underlying62 (by omega)) ?_
        refine RG.vl rfl rfl rfl (Ev.ldAgg rfl rfl Tryz.underlying62 rfl sz_62 (by rw [c16_len, hc16]) (own_c16 (Own.ext hoc hE29) (by omega) (by omega))) ?_
        refine RG.call rfl rfl rfl rfl rfl rfl rfl en_32 (digOf_ret (c.take 16) _ hc16 hce16) ?_
        rintro _ w32 ⟨rp, hpay, rfl, hx32⟩
        replace hE3 := Ex.tr hE3 hx32
        replace hE7 := Ex.tr hE7 hx32
        replace hE13 := Ex.tr hE13 hx32
        replace hE17 := Ex.tr hE17 hx32
        replace hE29 := Ex.tr hE29 hx32
        have hE33 := hx32
        refine RG.vl rfl rfl rfl (Ev.move rfl rfl) ?_
        refine RG.vl rfl rfl rfl (Ev.extract rfl rfl rfl) ?_
        refine RG.vl rfl rfl rfl (Ev.extract rfl rfl rfl) ?_
        refine RG.vl rfl rfl rfl (Ev.assign rfl rfl) ?_
        refine RG.vl rfl rfl rfl (Ev.assign rfl rfl) ?_
        refine RG.done ?_
        refine QW.then_ ?_
        refine CW.seq ?_
        refine CW.seq ?_
        refine CW.region ?_
        refine RG.vl rfl rfl rfl (Ev.move rfl rfl) ?_
        refine RG.vl rfl rfl rfl (Ev.not rfl rfl) ?_
        refine RG.done ?_
        refine QW.sub (S' := [(2, _), (3, _), (5, _), (8, _), (9, _), (10, _), (55, _)]) ⟨rfl, rfl, rfl, rfl, rfl, rfl, rfl, trivial⟩ ?_
        refine QW.then_ ?_
        refine CW.cond rfl (fun hc34 => ?_) (fun hc34 => ?_)
        · refine CW.seq ?_
          refine CW.region ?_
          refine RG.vl rfl rfl rfl (Ev.build1 rfl rfl rfl inf_31 rfl rfl (by kernel_rfl) rfl) ?_
          refine RG.stAll (g := gR) rfl rfl rfl rfl rfl sz_31 rfl rfl rfl (hb1.ext hE7) (fun ws35 hwws35 hbws35 => ?_)
          replace hob := Own.far (Own.ext hob hE17) hwws35 hsb11
          replace hor2 := Own.far (Own.ext hor2 hE17) hwws35 hsb12
          replace hoc := Own.far (Own.ext hoc hE29) hwws35 hsb15
          replace hox := Own.far (Own.ext hox hE29) hwws35 hsb16
          replace hb18 := Blk.far (hb18.ext hE33) hwws35 (by omega)
          replace hE3 := Wr.below hE3 hwws35 hle2
          refine RG.vl rfl rfl rfl (Ev.assign rfl rfl) ?_
          refine RG.done ?_
          refine QW.then_ ?_
          refine CW.ret ?_
          refine QW.thenRet ?_
          refine QW.retCT rfl rfl rfl Tryz.underlying31 rfl sz_31 (us := [.string _, .bool _, _, _]) rfl hbws35 ?_
          have hB := (Ex.tr hB0 hE3)
          have hrn : rp = none := by cases rp with
            | none => rfl
            | some t => exact absurd (show (!true) = true by assumption) (by decide)
          subst hrn
          exact ⟨[], false, _, _, [], [], 220, rfl, Own.nil_ _ _ _ _ _, Own.nil_ _ _ _ _ _, .code h64 he0 hdp hpay, hB⟩
        · refine CW.skip ?_
          refine QW.then_ ?_
          refine CW.seq ?_
          refine CW.region ?_
          refine RG.vl rfl rfl rfl (Ev.move rfl rfl) ?_
          refine RG.vl rfl rfl rfl (Ev.move rfl rfl) ?_
          refine RG.vl rfl rfl rfl (Ev.fld rfl rfl fld_73_1) ?_
          refine RG.vl rfl rfl rfl (Ev.ldAt rfl rfl Tryz.underlying29 rfl ((hb18.ext hE33).cells) (rfl)) ?_
          refine RG.vl rfl rfl rfl (Ev.move rfl rfl) ?_
          refine RG.vl rfl rfl rfl (Ev.build1 rfl rfl rfl inf_31 rfl rfl (by kernel_rfl) rfl) ?_
          refine RG.stAll (g := gR) rfl rfl rfl rfl rfl sz_31 rfl rfl rfl (hb1.ext hE7) (fun ws36 hwws36 hbws36 => ?_)
          replace hob := Own.far (Own.ext hob hE17) hwws36 hsb11
          replace hor2 := Own.far (Own.ext hor2 hE17) hwws36 hsb12
          replace hoc := Own.far (Own.ext hoc hE29) hwws36 hsb15
          replace hox := Own.far (Own.ext hox hE29) hwws36 hsb16
          replace hb18 := Blk.far (hb18.ext hE33) hwws36 (by omega)
          replace hE3 := Wr.below hE3 hwws36 hle2
          refine RG.vl rfl rfl rfl (Ev.assign rfl rfl) ?_
          refine RG.done ?_
          refine QW.then_ ?_
          refine CW.ret ?_
          refine QW.retCT rfl rfl rfl Tryz.underlying31 rfl sz_31 (us := [.string _, .bool _, _, _]) rfl hbws36 ?_
          have hB := (Ex.tr hB0 hE3)
          obtain ⟨t1, rfl⟩ : ∃ t1, rp = some t1 := by cases rp with
            | none => exact absurd (show (!false) = false by assumption) (by decide)
            | some t => exact ⟨t, rfl⟩
          exact ⟨t1, (unframeB t).2.1, _, _, es, (readB (unframeB t).1).2.1, 0, rfl, hox, hor2, .found h64 he0 hdp hpay, hB⟩

end Go.Proofs.YtgjnchjkjdnidaaGreat

/- What Read finds where a word is near; the calls of awake at what is known. -/
namespace Go.Proofs.YtgjnchjkjdnidaaGreat
open Go.RowKit Go.Shelf
theorem code_dec {n : Nat} {c : List Nat} (h : (Nat.beq c.length n && c.all (fun a => Nat.blt a 64) && Nat.beq (sy c 0) 0 && Nat.beq (sy c 1) 0 && Nat.beq (sy c 2) 0 && Nat.beq (sy c 3) 0) = true) : Code_ n c := by
  simp only [Bool.and_eq_true] at h
  obtain ⟨⟨⟨⟨⟨h1, h2⟩, h3⟩, h4⟩, h5⟩, h6⟩ := h
  refine ⟨Nat.eq_of_beq_eq_true h1, fun a ha => by simpa [Nat.blt_eq] using List.all_eq_true.1 h2 a ha, fun r hr => ?_⟩
  match r, hr with
  | 0, _ => exact Nat.eq_of_beq_eq_true h3
  | 1, _ => exact Nat.eq_of_beq_eq_true h4
  | 2, _ => exact Nat.eq_of_beq_eq_true h5
  | 3, _ => exact Nat.eq_of_beq_eq_true h6
theorem isEnc_of {l c : List Nat} (h : Code_ (l.length + 4) c) (hp : c.take l.length = l) : IsEnc l c := ⟨h.len, h.el, hp, h.syn⟩
/-- Decode at what was read, near a word. -/
theorem dec_at {t : List UInt8} (h : t.length = 60) (ha : t.all isL = true) {d : List Nat} (hd : Code_ 20 d) (hb : 2 * (diffs (nB (symsL t 20)) d (erasL t 20)).length + (erasL t 20).length ≤ 4) {c es : List Nat} {e : Int} (hdp : DecP (nB (readB t).1) (castI (readB t).2.1) e c es) : e = 0 ∧ c = d ∧ es = diffs (nB (symsL t 20)) d (erasL t 20) := by
  rw [read_60 h ha] at hdp
  have hdp : DecP (nB (symsL t 20)) (castI (erasL t 20)) e c es := hdp
  have hl : (nB (symsL t 20)).length = 20 := by rw [nB_len, syms_len]
  have hcl : (castI (erasL t 20)).length = (erasL t 20).length := List.length_map ..
  rcases hdp with ⟨h1 | h1, _⟩ | ⟨_, _, ⟨h1, _⟩ | ⟨_, hf⟩⟩
  · rw [syms_W ha] at h1; cases h1
  · exact absurd (okE_cast (eras_nd t 20) fun a h => by rw [hl]; exact eras_lt a h) h1
  · omega
  · unfold castI at hf
    rw [erN_cast] at hf
    exact found_is (syms_el ha 20) (by omega) (eras_nd t 20) (fun a h => by rw [hl]; exact eras_lt a h) (by omega) (by rw [hl]; exact hd) hb hf
theorem rd_is {x t t' : List UInt8} {b : Bool} {es er d : List Nat} {e : Int} (h64 : x.length = 64) (hu : (unframeB x).2.2 = 0) (hd : Code_ 20 d) (hb : 2 * (diffs (nB (symsL (unframeB x).1 20)) d (erasL (unframeB x).1 20)).length + (erasL (unframeB x).1 20).length ≤ 4) (hp : PayT (vb 64 0 (d.take 16)) (some t)) (h : RdR x t' b es er e) :
    e = 0 ∧ t' = t ∧ b = (unframeB x).2.1 ∧ es = diffs (nB (symsL (unframeB x).1 20)) d (erasL (unframeB x).1 20) ∧ er = erasL (unframeB x).1 20 := by
  obtain ⟨h60, ha⟩ := unf_60 h64 hu
  cases h with
  | len h => exact absurd h64 h
  | ends _ he => exact absurd hu he
  | far _ _ hdp h0 => exact absurd (dec_at h60 ha hd hb hdp).1 h0
  | code _ _ hdp hpn =>
    rw [(dec_at h60 ha hd hb hdp).2.1] at hpn
    cases pay_uniq hpn hp
  | found _ _ hdp hpt =>
    obtain ⟨_, h2, h3⟩ := dec_at h60 ha hd hb hdp
    rw [h2] at hpt
    have := pay_uniq hpt hp
    injection this with this
    exact ⟨rfl, this, rfl, h3, by rw [read_60 h60 ha]⟩
theorem rd_ends {x t : List UInt8} {b : Bool} {es er : List Nat} {e e0 : Int} (h64 : x.length = 64) (hu : (unframeB x).2.2 = e0) (h0 : e0 ≠ 0) (h : RdR x t b es er e) : e = e0 ∧ t = [] ∧ b = false ∧ es = [] ∧ er = [] := by
  cases h with
  | len h => exact absurd h64 h
  | ends => exact ⟨hu, rfl, rfl, rfl, rfl⟩
  | far _ he => rw [he] at hu; exact absurd hu.symm h0
  | code _ he => rw [he] at hu; exact absurd hu.symm h0
  | found _ he => rw [he] at hu; exact absurd hu.symm h0
theorem rd_len {x t : List UInt8} {b : Bool} {es er : List Nat} {e : Int} (hx : x.length ≠ 64) (h : RdR x t b es er e) : e = 2 ∧ t = [] ∧ b = false ∧ es = [] ∧ er = [] := by
  cases h with
  | len => exact ⟨rfl, rfl, rfl, rfl, rfl⟩
  | ends h => exact absurd h hx
  | far h => exact absurd h hx
  | code h => exact absurd h hx
  | found h => exact absurd h hx
theorem rep84 : ∀ c : Nat, Lib.repeatL [(84 : UInt8)] c = List.replicate c 84
  | 0 => rfl
  | c + 1 => by
    show [(84 : UInt8)] ++ Lib.repeatL [84] c = _
    rw [rep84 c]
    rfl
theorem rep_ret (c : Nat) (w : World) (hc : c ≤ 1000) : Ret Tryz.prog 15 [.string ⟨[(84 : UInt8)].toArray⟩, .int .i64 (c : Int)] w (fun v w' => v = .string ⟨(List.replicate c (84 : UInt8)).toArray⟩ ∧ Ex w w') :=
  Calls.mono (Any.strings_Repeat lays105 bX ⟨[(84 : UInt8)].toArray⟩ c w (by omega) (by show 1 * c ≤ _; omega)) fun _ _ ⟨h1, h2⟩ => ⟨_, h1, by rw [show (⟨[(84 : UInt8)].toArray⟩ : ByteArray).data.toList = [84] from rfl, rep84], h2⟩
/-- The examples. -/
def wo1 : List Nat := List.replicate 15 0 ++ [1, 30, 29, 17, 48]
def wo5 : List Nat := List.replicate 15 0 ++ [15, 44, 61, 58, 28]
def x5 : List UInt8 := barsT wo5
theorem wo1_code : Code_ 20 wo1 := code_dec (by decide +kernel)
theorem wo5_code : Code_ 20 wo5 := code_dec (by decide +kernel)
theorem wo1_is : WrR [] (barsT wo1) := ⟨fun _ => ⟨wo1, isEnc_of (by rw [b64_len]; exact wo1_code) (by decide +kernel), rfl⟩, fun h => absurd (by decide) h⟩
theorem wo5_is : WrR [53] x5 := ⟨fun _ => ⟨wo5, isEnc_of (by rw [b64_len]; exact wo5_code) (by decide +kernel), rfl⟩, fun h => absurd (by decide) h⟩
theorem wo5_pay : PayT (vb 64 0 (wo5.take 16)) (some [53]) := ⟨by decide, by decide +kernel⟩
section
variable (w : World)
theorem wr_is {t x : List UInt8} (h : WrR t x) (he : errW t = 0) (hl : t.length ≤ 1000) : Ret Tryz.prog 12 [.string ⟨t.toArray⟩] w (fun v w' => v = .tuple #[.string ⟨x.toArray⟩, .int .i64 0] ∧ Ex w w') := by
  refine (bwr_ret t w hl).mono ?_
  rintro v w' ⟨y, rfl, hy, hx⟩
  rw [wr_uniq hy h, he]
  exact ⟨rfl, hx⟩
theorem brd_at {x t : List UInt8} {b : Bool} {d es er : List Nat} (hd : Code_ 20 d) (hp : PayT (vb 64 0 (d.take 16)) (some t)) (h64 : x.length = 64) (hu : (unframeB x).2.2 = 0) (hb : (unframeB x).2.1 = b) (hs : diffs (nB (symsL (unframeB x).1 20)) d (erasL (unframeB x).1 20) = es) (hr : erasL (unframeB x).1 20 = er) (h4 : 2 * es.length + er.length ≤ 4) :
    Ret Tryz.prog 13 [.string ⟨x.toArray⟩] w (fun v w' => ∃ A B C D, v = .tuple #[.agg ([.string ⟨t.toArray⟩, .bool b, .slice A es.length B, .slice C er.length D] : List Value).toArray, .int .i64 0] ∧ Own w' w.heap.size 3 1 encZ (.slice A es.length B) es ∧ Own w' w.heap.size 3 1 encZ (.slice C er.length D) er ∧ Ex w w') := by
  refine (brd_ret x w).mono ?_
  rintro v w' ⟨t', b', y, z, es', er', e, rfl, hy, hz, hrd, hx⟩
  obtain ⟨rfl, rfl, rfl, rfl, rfl⟩ := rd_is h64 hu hd (by rw [hs, hr]; exact h4) hp hrd
  subst hb hs hr
  obtain ⟨A, B, rfl⟩ := hy.shape
  obtain ⟨C, D, rfl⟩ := hz.shape
  exact ⟨A, B, C, D, rfl, hy, hz, hx⟩
theorem brd_no {x : List UInt8} {e0 : Int} (h64 : x.length = 64) (hu : (unframeB x).2.2 = e0) (h0 : e0 ≠ 0) :
    Ret Tryz.prog 13 [.string ⟨x.toArray⟩] w (fun v w' => ∃ A B C D, v = .tuple #[.agg ([.string ⟨#[]⟩, .bool false, .slice A 0 B, .slice C 0 D] : List Value).toArray, .int .i64 e0] ∧ Own w' w.heap.size 3 1 encZ (.slice A 0 B) [] ∧ Own w' w.heap.size 3 1 encZ (.slice C 0 D) [] ∧ Ex w w') := by
  refine (brd_ret x w).mono ?_
  rintro v w' ⟨t', b', y, z, es', er', e, rfl, hy, hz, hrd, hx⟩
  obtain ⟨rfl, rfl, rfl, rfl, rfl⟩ := rd_ends h64 hu h0 hrd
  obtain ⟨A, B, rfl⟩ := hy.shape
  obtain ⟨C, D, rfl⟩ := hz.shape
  exact ⟨A, B, C, D, rfl, hy, hz, hx⟩
theorem turnE_at {t r : List UInt8} (h : turnB t = (r, 0)) : Ret Tryz.prog 16 [.string ⟨t.toArray⟩] w (fun v w' => v = .tuple #[.string ⟨r.toArray⟩, .int .i64 0] ∧ Ex w w') := by
  refine (turn_ret t w).mono ?_
  rintro v w' ⟨rfl, hx⟩
  rw [h]
  exact ⟨rfl, hx⟩
end
/-- The texts that are read. -/
def ta : List UInt8 := ([65, 84] ++ List.replicate 39 84) ++ [63, 63, 63, 84, 63, 84] ++ (x5.take 64).drop 47
def tb : List UInt8 := ([65, 84, 65, 84] ++ (x5.take 20).drop 4) ++ [70] ++ (x5.take 64).drop 21
def tc : List UInt8 := [70] ++ (x5.take 64).drop 1
theorem ta_1 : ta.length = 64 ∧ (unframeB ta).2.2 = 0 ∧ (unframeB ta).2.1 = false ∧ diffs (nB (symsL (unframeB ta).1 20)) wo5 (erasL (unframeB ta).1 20) = [] ∧ erasL (unframeB ta).1 20 = [13, 14] := by decide +kernel
theorem tb_1 : turnB tb = (turnL tb, 0) := by decide +kernel
theorem tb_2 : (turnL tb).length = 64 ∧ (unframeB (turnL tb)).2.2 = 0 ∧ (unframeB (turnL tb)).2.1 = true ∧ diffs (nB (symsL (unframeB (turnL tb)).1 20)) wo5 (erasL (unframeB (turnL tb)).1 20) = [0, 6] ∧ erasL (unframeB (turnL tb)).1 20 = [] := by decide +kernel
theorem tc_1 : tc.length = 64 ∧ (unframeB tc).2.2 = 200 := by decide +kernel
theorem x1_is : [65, 84] ++ List.replicate 45 84 ++ [84, 84, 65, 65, 70, 68, 65, 70, 65, 65, 84, 65, 70, 84, 84, 70, 68] = barsT wo1 := by decide +kernel
theorem x5_len : x5.length = 64 := by decide +kernel
theorem x5_is : (x5.take 50).drop 47 = [84, 70, 70] := by decide +kernel
end Go.Proofs.YtgjnchjkjdnidaaGreat

/- Walks (UF). Written by program. -/
namespace Go.Proofs.YtgjnchjkjdnidaaGreat
open Go.RowKit
set_option maxRecDepth 100000 in
set_option maxHeartbeats 1000000 in
theorem sameI_ret (u v : Value) (l m : List Nat) (w : World) (hl : RdL w 1 encZ u l) (hm : RdL w 1 encZ v m) (hlen : l.length ≤ 100000) :
    Ret Tryz.prog 17 [u, v] w (fun v w' => v = .bool (decide (l = m)) ∧ Ex w w') := by
  have hB0 : Ex w w := Ex.rfl_ _
  refine Ret.of Tryz.func17 rfl Tryz.ntmps17 rfl ?_
  refine CW.seq ?_
  refine CW.region ?_
  refine RG.vl rfl rfl rfl (Ev.assign rfl rfl) ?_
  refine RG.done ?_
  refine QW.then_ ?_
  refine CW.seq ?_
  refine CW.seq ?_
  refine CW.region ?_
  refine RG.vl rfl rfl rfl (Ev.move rfl rfl) ?_
  refine RG.vl rfl rfl rfl (Ev.lenL rfl rfl rfl Tryz.underlying29 (hl)) ?_
  refine RG.vl rfl rfl rfl (Ev.move rfl rfl) ?_
  refine RG.vl rfl rfl rfl (Ev.lenL rfl rfl rfl Tryz.underlying29 (hm)) ?_
  refine RG.vl rfl rfl rfl (Ev.neI rfl rfl rfl) ?_
  refine RG.done ?_
  refine QW.then_ ?_
  refine CW.condP rfl (fun hc1 => ?_) (fun hc1 => ?_)
  · refine CW.seq ?_
    refine CW.region ?_
    refine RG.vl rfl rfl rfl (Ev.assign rfl rfl) ?_
    refine RG.done ?_
    refine QW.then_ ?_
    refine CW.ret ?_
    refine QW.thenRet ?_
    refine QW.ret1 rfl rfl ?_
    have hB := hB0
    refine ⟨congrArg Value.bool ?_, hB⟩; rw [eq_comm, decide_eq_false_iff_not]; rintro rfl; omega
  · refine CW.skip ?_
    refine QW.then_ ?_
    refine CW.seq ?_
    refine CW.seq ?_
    refine CW.region ?_
    refine RG.vl rfl rfl rfl (Ev.assign rfl rfl) ?_
    refine RG.done ?_
    refine QW.then_ ?_
    refine CW.block ?_
    refine CW.loop1 [(0, _), (1, _)] ⟨rfl, rfl, trivial⟩ (fun (k : Nat) => [(5, .int .i64 k)]) (fun k w' => (k ≤ l.length ∧ ∀ j, j < k → l[j]? = m[j]?) ∧ Ex w w') (fun k => l.length - k) (0) ⟨rfl, trivial⟩ ⟨⟨Nat.zero_le _, fun j h => absurd h (by omega)⟩, hB0⟩ ?_
    rintro k wl2 ⟨⟨hkl, heq⟩, hxwl2⟩
    refine CW.sub (S' := [(5, _), (0, _), (1, _)]) ⟨rfl, rfl, rfl, trivial⟩ ?_
    refine CW.seq ?_
    refine CW.seq ?_
    refine CW.region ?_
    refine RG.vl rfl rfl rfl (Ev.move rfl rfl) ?_
    refine RG.vl rfl rfl rfl (Ev.move rfl rfl) ?_
    refine RG.vl rfl rfl rfl (Ev.lenL rfl rfl rfl Tryz.underlying29 ((hl.ext hxwl2))) ?_
    refine RG.vl rfl rfl rfl (Ev.lss rfl rfl rfl) ?_
    refine RG.done ?_
    refine QW.then_ ?_
    refine CW.condP rfl (fun hc3 => ?_) (fun hc3 => ?_)
    · refine CW.skip ?_
      refine QW.then_ ?_
      refine CW.seq ?_
      refine CW.block ?_
      refine CW.seq ?_
      obtain ⟨b, hk⟩ : ∃ b, l[k]? = some b := ⟨_, List.getElem?_eq_getElem (by omega)⟩
      obtain ⟨c, hk2⟩ : ∃ c, m[k]? = some c := ⟨_, List.getElem?_eq_getElem (by omega)⟩
      refine CW.draw [] (.ex) 9 rfl mixed (fun wd4 hxwd4 => ?_)
      replace hxwl2 := Ex.tr hxwl2 hxwd4
      have hE5 := hxwd4
      refine AG.takeW 0 rfl (by kernel_rfl) (by kernel_rfl) rfl rfl rfl (fun _ => Ev.move rfl rfl) ?_
      refine AG.takeW 1 rfl (by kernel_rfl) (by kernel_rfl) rfl rfl rfl (fun _ => Ev.move rfl rfl) ?_
      refine AG.idxL _ 2 rfl (by kernel_rfl) (by kernel_rfl) rfl rfl rfl rfl rfl rfl Tryz.underlying29 sz_3 ((hl.ext hxwl2)) (hk) (fun p6 hp6b hp6 => ?_)
      refine AG.take 3 rfl (by kernel_rfl) (by kernel_rfl) rfl rfl rfl (fun wq hq => Ev.ld0 rfl rfl Tryz.underlying3 rfl (hp6.ext hq hp6b) (rfl)) ?_
      refine AG.takeW 4 rfl (by kernel_rfl) (by kernel_rfl) rfl rfl rfl (fun _ => Ev.move rfl rfl) ?_
      refine AG.takeW 5 rfl (by kernel_rfl) (by kernel_rfl) rfl rfl rfl (fun _ => Ev.move rfl rfl) ?_
      refine AG.idxL _ 6 rfl (by kernel_rfl) (by kernel_rfl) rfl rfl rfl rfl rfl rfl Tryz.underlying29 sz_3 ((hm.ext hxwl2)) (hk2) (fun p7 hp7b hp7 => ?_)
      refine AG.take 7 rfl (by kernel_rfl) (by kernel_rfl) rfl rfl rfl (fun wq hq => Ev.ld0 rfl rfl Tryz.underlying3 rfl (hp7.ext hq hp7b) (rfl)) ?_
      refine AG.takeW 8 rfl (by kernel_rfl) (by kernel_rfl) rfl rfl rfl (fun _ => Ev.neI rfl rfl rfl) ?_
      refine AG.done (by kernel_rfl) ?_
      refine QW.then_ ?_
      refine CW.condP rfl (fun hc8 => ?_) (fun hc8 => ?_)
      · refine CW.seq ?_
        refine CW.region ?_
        refine RG.vl rfl rfl rfl (Ev.assign rfl rfl) ?_
        refine RG.done ?_
        refine QW.sub (S' := [(0, _), (1, _), (4, _), (5, _)]) ⟨rfl, rfl, rfl, rfl, trivial⟩ ?_
        refine QW.then_ ?_
        refine CW.ret ?_
        refine QW.blockR ?_
        refine QW.thenRet ?_
        refine QW.thenRet ?_
        refine QW.blockR ?_
        refine QW.thenRet ?_
        refine QW.ret1 rfl rfl ?_
        have hB := (Ex.tr hB0 hxwl2)
        refine ⟨congrArg Value.bool ?_, hB⟩; rw [eq_comm, decide_eq_false_iff_not]; rintro rfl; rw [hk] at hk2; injection hk2 with hk2; subst hk2; omega
      · refine CW.skip ?_
        refine QW.blockN ?_
        refine QW.then_ ?_
        refine CW.region ?_
        refine RG.vl rfl rfl rfl (Ev.move rfl rfl) ?_
        refine RG.vl rfl rfl rfl (Ev.addI rfl rfl rfl (by omega)) ?_
        refine RG.vl rfl rfl rfl (Ev.assign rfl rfl) ?_
        refine RG.done ?_
        refine QW.sub (S' := [(0, _), (1, _), (5, _)]) ⟨rfl, rfl, rfl, trivial⟩ ?_
        refine QW.round1 (k + 1) ⟨rfl, trivial⟩ ⟨rfl, rfl, trivial⟩ ⟨⟨by omega, fun j hj => by rcases Nat.lt_or_ge j k with h | h; exact heq j h; obtain rfl : j = k := (by omega); rw [hk, hk2]; congr 1; omega⟩, (Ex.tr hB0 hxwl2)⟩ (by omega)
    · refine CW.exit ?_
      refine QW.thenExit ?_
      refine QW.thenExit ?_
      refine QW.blockHit ?_
      refine QW.then_ ?_
      refine CW.seq ?_
      refine CW.region ?_
      refine RG.vl rfl rfl rfl (Ev.assign rfl rfl) ?_
      refine RG.done ?_
      refine QW.then_ ?_
      refine CW.ret ?_
      refine QW.ret1 rfl rfl ?_
      have hB := (Ex.tr hB0 hxwl2)
      refine ⟨congrArg Value.bool ?_, hB⟩; rw [eq_comm, decide_eq_true_iff]; refine List.ext_getElem? fun j => ?_; rcases Nat.lt_or_ge j l.length with h | h; exact heq j (by omega); rw [List.getElem?_eq_none h, List.getElem?_eq_none (by omega)]

theorem sameI_t (u v : Value) (l : List Nat) (w : World) (hl : RdL w 1 encZ u l) (hm : RdL w 1 encZ v l) (hlen : l.length ≤ 100000) : Ret Tryz.prog 17 [u, v] w (fun v w' => v = .bool true ∧ Ex w w') :=
  (sameI_ret u v l l w hl hm hlen).mono fun _ _ h => ⟨h.1.trans (congrArg Value.bool (decide_eq_true rfl)), h.2⟩

set_option maxRecDepth 100000 in
set_option maxHeartbeats 8000000 in
theorem awake_ret  (w : World)  :
    Ret Tryz.prog 5 [] w (fun v w' => v = .bool true ∧ Ex w w') := by
  have hB0 : Ex w w := Ex.rfl_ _
  refine Ret.of Tryz.func5 rfl Tryz.ntmps5 rfl ?_
  refine CW.seq ?_
  refine CW.region ?_
  refine RG.vl rfl rfl rfl (Ev.assign rfl rfl) ?_
  refine RG.done ?_
  refine QW.then_ ?_
  refine CW.seq ?_
  refine CW.region ?_
  refine RG.call rfl rfl rfl rfl rfl rfl rfl en_12 (wr_is _ wo1_is (by decide) (by decide)) ?_
  rintro _ w1 ⟨rfl, hx1⟩
  have hE2 := hx1
  refine RG.vl rfl rfl rfl (Ev.move rfl rfl) ?_
  refine RG.vl rfl rfl rfl (Ev.extract rfl rfl rfl) ?_
  refine RG.vl rfl rfl rfl (Ev.extract rfl rfl rfl) ?_
  refine RG.vl rfl rfl rfl (Ev.assign rfl rfl) ?_
  refine RG.vl rfl rfl rfl (Ev.assign rfl rfl) ?_
  refine RG.done ?_
  refine QW.then_ ?_
  refine CW.seq ?_
  refine CW.region ?_
  refine RG.call rfl rfl rfl rfl rfl rfl rfl en_12 (wr_is _ wo5_is (by decide) (by decide)) ?_
  rintro _ w3 ⟨rfl, hx3⟩
  replace hE2 := Ex.tr hE2 hx3
  have hE4 := hx3
  refine RG.vl rfl rfl rfl (Ev.move rfl rfl) ?_
  refine RG.vl rfl rfl rfl (Ev.extract rfl rfl rfl) ?_
  refine RG.vl rfl rfl rfl (Ev.extract rfl rfl rfl) ?_
  refine RG.vl rfl rfl rfl (Ev.assign rfl rfl) ?_
  refine RG.vl rfl rfl rfl (Ev.assign rfl rfl) ?_
  refine RG.done ?_
  refine QW.then_ ?_
  refine CW.seq ?_
  refine CW.seq ?_
  refine CW.region ?_
  refine RG.vl rfl rfl rfl (Ev.move rfl rfl) ?_
  refine RG.vl rfl rfl rfl (Ev.move rfl rfl) ?_
  refine RG.vl rfl rfl rfl (Ev.addI rfl rfl rfl (by omega)) ?_
  refine RG.vl rfl rfl rfl (Ev.isF (Ev.neI rfl rfl rfl) (fun h => h rfl)) ?_
  refine RG.vl rfl rfl rfl (Ev.move rfl rfl) ?_
  refine RG.vl rfl rfl rfl (Ev.move rfl rfl) ?_
  refine RG.call rfl rfl rfl rfl rfl rfl rfl en_15 (rep_ret 45 _ (by decide)) ?_
  rintro _ w5 ⟨rfl, hx5⟩
  replace hE2 := Ex.tr hE2 hx5
  replace hE4 := Ex.tr hE4 hx5
  have hE6 := hx5
  refine RG.vl rfl rfl rfl ((Ev.cat rfl rfl rfl (by decide +kernel)).conv (congrArg Value.string (bx_cat ([65, 84]) (_)))) ?_
  refine RG.vl rfl rfl rfl ((Ev.cat rfl rfl rfl (by decide +kernel)).conv (congrArg Value.string ((bx_cat (_) ([84, 84, 65, 65, 70, 68, 65, 70, 65, 65, 84, 65, 70, 84, 84, 70, 68])).trans (by rw [x1_is])))) ?_
  refine RG.vl rfl rfl rfl (Ev.isF (Ev.neS rfl rfl rfl) (fun h => h rfl)) ?_
  refine RG.vl rfl rfl rfl (Ev.pickF rfl rfl rfl) ?_
  refine RG.vl rfl rfl rfl (Ev.move rfl rfl) ?_
  refine RG.vl rfl rfl rfl (Ev.move rfl rfl) ?_
  refine RG.vl rfl rfl rfl (Ev.lenStr rfl rfl rfl Tryz.underlying9) ?_
  refine RG.vl rfl rfl rfl (Ev.isF (Ev.neI rfl rfl rfl) (fun h => h (by rw [sb_len, x5_len]; rfl))) ?_
  refine RG.vl rfl rfl rfl (Ev.pickF rfl rfl rfl) ?_
  refine RG.vl rfl rfl rfl (Ev.move rfl rfl) ?_
  refine RG.vl rfl rfl rfl (Ev.move rfl rfl) ?_
  refine RG.vl rfl rfl rfl ((Ev.cutStr (i := 47) (j := 50) rfl rfl Tryz.underlying9 rfl rfl (by decide) (by rw [sb_len, x5_len]; decide)).conv (congrArg Value.string ((bx_cut x5 47 50).trans (by rw [x5_is])))) ?_
  refine RG.vl rfl rfl rfl (Ev.isF (Ev.neS rfl rfl rfl) (fun h => h rfl)) ?_
  refine RG.vl rfl rfl rfl (Ev.pickF rfl rfl rfl) ?_
  refine RG.done ?_
  refine QW.sub (S' := [(0, _), (2, _), (3, _), (4, _), (40, _)]) ⟨rfl, rfl, rfl, rfl, rfl, trivial⟩ ?_
  refine QW.then_ ?_
  refine CW.condF rfl ?_
  refine CW.skip ?_
  refine QW.then_ ?_
  refine CW.seq ?_
  refine CW.draw [] (.ex) 7 rfl mixed (fun wd7 hxwd7 => ?_)
  replace hE2 := Ex.tr hE2 hxwd7
  replace hE4 := Ex.tr hE4 hxwd7
  replace hE6 := Ex.tr hE6 hxwd7
  refine AG.takeW 3 rfl (by kernel_rfl) (by kernel_rfl) rfl rfl rfl (fun _ => Ev.move rfl rfl) ?_
  refine AG.takeW 4 rfl (by kernel_rfl) (by kernel_rfl) rfl rfl rfl (fun _ => (Ev.cutStr (i := 47) rfl rfl Tryz.underlying9 rfl rfl (by rw [sb_len, x5_len]; decide) (Nat.le_refl _)).conv (congrArg Value.string ((bx_cut x5 47 _).trans (by rw [sb_len, x5_len])))) ?_
  refine AG.only 0 rfl (by kernel_rfl) ?_
  refine RG.call rfl rfl rfl rfl rfl rfl rfl en_15 (rep_ret 39 _ (by decide)) ?_
  rintro _ w9 ⟨rfl, hx9⟩
  replace hE2 := Ex.tr hE2 hx9
  replace hE4 := Ex.tr hE4 hx9
  replace hE6 := Ex.tr hE6 hx9
  have hE10 := hx9
  refine RG.done ?_
  refine QW.an (fun _ => hE10) ?_
  refine AG.takeW 1 rfl (by kernel_rfl) (by kernel_rfl) rfl rfl rfl (fun _ => (Ev.cat rfl rfl rfl (by decide +kernel)).conv (congrArg Value.string (bx_cat ([65, 84]) (_)))) ?_
  refine AG.takeW 2 rfl (by kernel_rfl) (by kernel_rfl) rfl rfl rfl (fun _ => (Ev.cat rfl rfl rfl (by decide +kernel)).conv (congrArg Value.string (bx_cat (_) ([63, 63, 63, 84, 63, 84])))) ?_
  refine AG.takeW 5 rfl (by kernel_rfl) (by kernel_rfl) rfl rfl rfl (fun _ => (Ev.cat rfl rfl rfl (by decide +kernel)).conv (congrArg Value.string (bx_cat (_) (_)))) ?_
  refine AG.takeW 6 rfl (by kernel_rfl) (by kernel_rfl) rfl rfl rfl (fun _ => Ev.assign rfl rfl) ?_
  refine AG.done (by kernel_rfl) ?_
  refine QW.then_ ?_
  refine CW.seq ?_
  refine CW.region ?_
  refine RG.vl rfl rfl rfl (Ev.move rfl rfl) ?_
  have hR11 := (Ex.tr hB0 hE2)
  have hR12 := hE4
  have hR13 := hE6
  have hR14 := hE10
  refine RG.call rfl rfl rfl rfl rfl rfl rfl en_13 (brd_at _ wo5_code wo5_pay ta_1.1 ta_1.2.1 ta_1.2.2.1 ta_1.2.2.2.1 ta_1.2.2.2.2 (by decide)) ?_
  have hpre15 := hR11
  rintro _ w15 ⟨A1, B1, C1, D1, rfl, hoy1, hoz1, hx15⟩
  have hE16 := hx15
  refine RG.vl rfl rfl rfl (Ev.move rfl rfl) ?_
  refine RG.vl rfl rfl rfl (Ev.extract rfl rfl rfl) ?_
  refine RG.vl rfl rfl rfl (Ev.extract rfl rfl rfl) ?_
  refine RG.local_ rfl rfl rfl rfl (fun _ => rfl) rfl rfl (fun _ => rfl) inf_31 rfl rfl rfl (fun g1 w17 eg1 hx17 hb17 => ?_)
  have hsb18 := fun e => sep_new (g := g1) hoy1 eg1 e
  have hsb19 := fun e => sep_new (g := g1) hoz1 eg1 e
  have hle20 : w9.heap.size ≤ g1 := by have := hE16.size; omega
  have hle21 : w15.heap.size ≤ g1 := by have := (Ex.rfl_ w15).size; omega
  replace hE16 := Ex.tr hE16 hx17
  have hE22 := hx17
  refine RG.vl rfl rfl rfl (Ev.assign rfl rfl) ?_
  refine RG.done ?_
  refine QW.sub (S' := [(0, _), (2, _), (3, _), (4, _), (6, _)]) ⟨rfl, rfl, rfl, rfl, rfl, trivial⟩ ?_
  refine QW.then_ ?_
  refine CW.seq ?_
  refine CW.draw [] (.ex) 13 rfl mixed (fun wd23 hxwd23 => ?_)
  replace hE16 := Ex.tr hE16 hxwd23
  replace hE22 := Ex.tr hE22 hxwd23
  have hE24 := hxwd23
  refine AG.takeW 0 rfl (by kernel_rfl) (by kernel_rfl) rfl rfl rfl (fun _ => Ev.move rfl rfl) ?_
  refine AG.takeW 1 rfl (by kernel_rfl) (by kernel_rfl) rfl rfl rfl (fun _ => (Ev.cutStr (i := 4) (j := 20) rfl rfl Tryz.underlying9 rfl rfl (by decide) (by rw [sb_len, x5_len]; decide)).conv (congrArg Value.string ((bx_cut x5 4 20).trans (rfl)))) ?_
  refine AG.takeW 2 rfl (by kernel_rfl) (by kernel_rfl) rfl rfl rfl (fun _ => (Ev.cat rfl rfl rfl (by decide +kernel)).conv (congrArg Value.string (bx_cat ([65, 84, 65, 84]) (_)))) ?_
  refine AG.takeW 3 rfl (by kernel_rfl) (by kernel_rfl) rfl rfl rfl (fun _ => (Ev.cat rfl rfl rfl (by decide +kernel)).conv (congrArg Value.string (bx_cat (_) ([70])))) ?_
  refine AG.takeW 4 rfl (by kernel_rfl) (by kernel_rfl) rfl rfl rfl (fun _ => Ev.move rfl rfl) ?_
  refine AG.takeW 5 rfl (by kernel_rfl) (by kernel_rfl) rfl rfl rfl (fun _ => (Ev.cutStr (i := 21) rfl rfl Tryz.underlying9 rfl rfl (by rw [sb_len, x5_len]; decide) (Nat.le_refl _)).conv (congrArg Value.string ((bx_cut x5 21 _).trans (by rw [sb_len, x5_len])))) ?_
  refine AG.takeW 6 rfl (by kernel_rfl) (by kernel_rfl) rfl rfl rfl (fun _ => (Ev.cat rfl rfl rfl (by decide +kernel)).conv (congrArg Value.string (bx_cat (_) (_)))) ?_
  refine AG.only 7 rfl (by kernel_rfl) ?_
  refine RG.call rfl rfl rfl rfl rfl rfl rfl en_16 (turnE_at _ tb_1) ?_
  rintro _ w26 ⟨rfl, hx26⟩
  replace hE16 := Ex.tr hE16 hx26
  replace hE22 := Ex.tr hE22 hx26
  replace hE24 := Ex.tr hE24 hx26
  have hE27 := hx26
  refine RG.done ?_
  refine QW.an (fun _ => hE27) ?_
  refine AG.takeW 8 rfl (by kernel_rfl) (by kernel_rfl) rfl rfl rfl (fun _ => Ev.move rfl rfl) ?_
  refine AG.takeW 9 rfl (by kernel_rfl) (by kernel_rfl) rfl rfl rfl (fun _ => Ev.extract rfl rfl rfl) ?_
  refine AG.takeW 10 rfl (by kernel_rfl) (by kernel_rfl) rfl rfl rfl (fun _ => Ev.extract rfl rfl rfl) ?_
  refine AG.takeW 11 rfl (by kernel_rfl) (by kernel_rfl) rfl rfl rfl (fun _ => Ev.assign rfl rfl) ?_
  refine AG.takeW 12 rfl (by kernel_rfl) (by kernel_rfl) rfl rfl rfl (fun _ => Ev.assign rfl rfl) ?_
  refine AG.done (by kernel_rfl) ?_
  refine QW.then_ ?_
  refine CW.seq ?_
  refine CW.region ?_
  refine RG.vl rfl rfl rfl (Ev.move rfl rfl) ?_
  replace hoy1 := (Own.ext hoy1 hE22)
  replace hoz1 := (Own.ext hoz1 hE22)
  replace hb17 := (hb17.ext hE24)
  have hR28 := (Ex.tr hR11 hE16)
  have hR29 := (Ex.tr hR12 hE16)
  have hR30 := (Ex.tr hR13 hE16)
  have hR31 := (Ex.tr hR14 hE16)
  have hR32 := hE16
  have hR33 := hE27
  refine RG.call rfl rfl rfl rfl rfl rfl rfl en_13 (brd_at _ wo5_code wo5_pay tb_2.1 tb_2.2.1 tb_2.2.2.1 tb_2.2.2.2.1 tb_2.2.2.2.2 (by decide)) ?_
  have hpre34 := hR28
  rintro _ w34 ⟨A2, B2, C2, D2, rfl, hoy2, hoz2, hx34⟩
  have hE35 := hx34
  refine RG.vl rfl rfl rfl (Ev.move rfl rfl) ?_
  refine RG.vl rfl rfl rfl (Ev.extract rfl rfl rfl) ?_
  refine RG.vl rfl rfl rfl (Ev.extract rfl rfl rfl) ?_
  refine RG.local_ rfl rfl rfl rfl (fun _ => rfl) rfl rfl (fun _ => rfl) inf_31 rfl rfl rfl (fun g2 w36 eg2 hx36 hb36 => ?_)
  have hsb37 := fun e => sep_new (g := g2) (Own.ext hoy1 hE35) eg2 e
  have hsb38 := fun e => sep_new (g := g2) (Own.ext hoz1 hE35) eg2 e
  have hsb39 := fun e => sep_new (g := g2) hoy2 eg2 e
  have hsb40 := fun e => sep_new (g := g2) hoz2 eg2 e
  have hle41 : w26.heap.size ≤ g2 := by have := hE35.size; omega
  have hle42 : w34.heap.size ≤ g2 := by have := (Ex.rfl_ w34).size; omega
  have hlt43 : g1 < g2 := by have := Blk.lt (hb17.ext hE35); omega
  replace hE35 := Ex.tr hE35 hx36
  have hE44 := hx36
  refine RG.vl rfl rfl rfl (Ev.assign rfl rfl) ?_
  refine RG.done ?_
  refine QW.sub (S' := [(0, _), (2, _), (3, _), (4, _), (6, _), (8, _), (9, _)]) ⟨rfl, rfl, rfl, rfl, rfl, rfl, rfl, trivial⟩ ?_
  refine QW.then_ ?_
  refine CW.seq ?_
  refine CW.region ?_
  refine RG.vl rfl rfl rfl (Ev.move rfl rfl) ?_
  refine RG.vl rfl rfl rfl ((Ev.cutStr (i := 1) rfl rfl Tryz.underlying9 rfl rfl (by rw [sb_len, x5_len]; decide) (Nat.le_refl _)).conv (congrArg Value.string ((bx_cut x5 1 _).trans (by rw [sb_len, x5_len])))) ?_
  refine RG.vl rfl rfl rfl ((Ev.cat rfl rfl rfl (by decide +kernel)).conv (congrArg Value.string (bx_cat ([70]) (_)))) ?_
  refine RG.call rfl rfl rfl rfl rfl rfl rfl en_13 (brd_no _ tc_1.1 tc_1.2 (by decide)) ?_
  have hpre45 := (Ex.tr hR28 hE35)
  rintro _ w45 ⟨A3, B3, C3, D3, rfl, hoy3, hoz3, hx45⟩
  replace hE35 := Ex.tr hE35 hx45
  replace hE44 := Ex.tr hE44 hx45
  have hE46 := hx45
  refine RG.vl rfl rfl rfl (Ev.move rfl rfl) ?_
  refine RG.vl rfl rfl rfl (Ev.extract rfl rfl rfl) ?_
  refine RG.vl rfl rfl rfl (Ev.extract rfl rfl rfl) ?_
  refine RG.local_ rfl rfl rfl rfl (fun _ => rfl) rfl rfl (fun _ => rfl) inf_31 rfl rfl rfl (fun g3 w47 eg3 hx47 hb47 => ?_)
  have hsb48 := fun e => sep_new (g := g3) (Own.ext hoy1 hE35) eg3 e
  have hsb49 := fun e => sep_new (g := g3) (Own.ext hoz1 hE35) eg3 e
  have hsb50 := fun e => sep_new (g := g3) (Own.ext hoy2 hE44) eg3 e
  have hsb51 := fun e => sep_new (g := g3) (Own.ext hoz2 hE44) eg3 e
  have hsb52 := fun e => sep_new (g := g3) hoy3 eg3 e
  have hle53 : w26.heap.size ≤ g3 := by have := hE35.size; omega
  have hle54 : w34.heap.size ≤ g3 := by have := hE44.size; omega
  have hle55 : w36.heap.size ≤ g3 := by have := hE46.size; omega
  have hle56 : w45.heap.size ≤ g3 := by have := (Ex.rfl_ w45).size; omega
  have hlt57 : g1 < g3 := by have := Blk.lt (hb17.ext hE35); omega
  have hlt58 : g2 < g3 := by have := Blk.lt (hb36.ext hE46); omega
  replace hE35 := Ex.tr hE35 hx47
  replace hE44 := Ex.tr hE44 hx47
  replace hE46 := Ex.tr hE46 hx47
  have hE59 := hx47
  refine RG.vl rfl rfl rfl (Ev.assign rfl rfl) ?_
  refine RG.done ?_
  refine QW.then_ ?_
  refine CW.seq ?_
  refine CW.region ?_
  refine RG.vl rfl rfl rfl (Ev.move rfl rfl) ?_
  refine RG.vl rfl rfl rfl (Ev.move rfl rfl) ?_
  refine RG.vl rfl rfl rfl (Ev.addI rfl rfl rfl (by omega)) ?_
  refine RG.vl rfl rfl rfl (Ev.move rfl rfl) ?_
  refine RG.vl rfl rfl rfl (Ev.addI rfl rfl rfl (by omega)) ?_
  refine RG.vl rfl rfl rfl (Ev.isT (Ev.eqI rfl rfl rfl) (rfl)) ?_
  refine RG.vl rfl rfl rfl (Ev.move rfl rfl) ?_
  refine RG.vl rfl rfl rfl (Ev.fld rfl rfl fld_31_0) ?_
  refine RG.vl rfl rfl rfl (Ev.ldAt rfl rfl Tryz.underlying9 rfl ((hb17.ext hE35).cells) (rfl)) ?_
  refine RG.vl rfl rfl rfl (Ev.isT (Ev.eqS rfl rfl rfl) (rfl)) ?_
  refine RG.vl rfl rfl rfl (Ev.pickT rfl rfl rfl) ?_
  refine RG.vl rfl rfl rfl (Ev.move rfl rfl) ?_
  refine RG.vl rfl rfl rfl (Ev.fld rfl rfl fld_31_1) ?_
  refine RG.vl rfl rfl rfl (Ev.ldAt rfl rfl Tryz.underlying4 rfl ((hb17.ext hE35).cells) (rfl)) ?_
  refine RG.vl rfl rfl rfl (Ev.notT rfl rfl) ?_
  refine RG.vl rfl rfl rfl (Ev.pickT rfl rfl rfl) ?_
  refine RG.vl rfl rfl rfl (Ev.move rfl rfl) ?_
  refine RG.vl rfl rfl rfl (Ev.fld rfl rfl fld_31_2) ?_
  refine RG.vl rfl rfl rfl (Ev.ldAt rfl rfl Tryz.underlying29 rfl ((hb17.ext hE35).cells) (rfl)) ?_
  refine RG.vl rfl rfl rfl (Ev.lenL rfl rfl rfl Tryz.underlying29 (((Own.ext hoy1 hE35).rdl encZ_len))) ?_
  refine RG.vl rfl rfl rfl (Ev.isT (Ev.eqI rfl rfl rfl) (rfl)) ?_
  refine RG.vl rfl rfl rfl (Ev.pickT rfl rfl rfl) ?_
  refine RG.vl rfl rfl rfl (Ev.move rfl rfl) ?_
  refine RG.vl rfl rfl rfl (Ev.fld rfl rfl fld_31_3) ?_
  refine RG.vl rfl rfl rfl (Ev.ldAt rfl rfl Tryz.underlying29 rfl ((hb17.ext hE35).cells) (rfl)) ?_
  refine RG.litO (os := [_, _]) (enc := encZ) ([13, 14]) rfl rfl rfl rfl rfl rfl rfl Tryz.underlying29 inf_3 rfl rfl rfl rfl rfl encZ_len rfl rfl (fun v60 wk61 hxwk61 hown62 hnew63 => ?_)
  replace hE35 := Ex.tr hE35 hxwk61
  replace hE44 := Ex.tr hE44 hxwk61
  replace hE46 := Ex.tr hE46 hxwk61
  replace hE59 := Ex.tr hE59 hxwk61
  have hE64 := hxwk61
  refine RG.call rfl rfl rfl rfl rfl rfl rfl en_17 (sameI_t _ _ [13, 14] _ (((Own.ext hoz1 hE35).rdl encZ_len)) ((hown62.rdl encZ_len)) (by decide)) ?_
  rintro _ w65 ⟨rfl, hx65⟩
  replace hE35 := Ex.tr hE35 hx65
  replace hE44 := Ex.tr hE44 hx65
  replace hE46 := Ex.tr hE46 hx65
  replace hE59 := Ex.tr hE59 hx65
  replace hE64 := Ex.tr hE64 hx65
  have hE66 := hx65
  refine RG.vl rfl rfl rfl (Ev.pickT rfl rfl rfl) ?_
  refine RG.vl rfl rfl rfl (Ev.move rfl rfl) ?_
  refine RG.vl rfl rfl rfl (Ev.fld rfl rfl fld_31_0) ?_
  refine RG.vl rfl rfl rfl (Ev.ldAt rfl rfl Tryz.underlying9 rfl ((hb36.ext hE46).cells) (rfl)) ?_
  refine RG.vl rfl rfl rfl (Ev.isT (Ev.eqS rfl rfl rfl) (rfl)) ?_
  refine RG.vl rfl rfl rfl (Ev.pickT rfl rfl rfl) ?_
  refine RG.vl rfl rfl rfl (Ev.move rfl rfl) ?_
  refine RG.vl rfl rfl rfl (Ev.fld rfl rfl fld_31_1) ?_
  refine RG.vl rfl rfl rfl (Ev.ldAt rfl rfl Tryz.underlying4 rfl ((hb36.ext hE46).cells) (rfl)) ?_
  refine RG.vl rfl rfl rfl (Ev.pickT rfl rfl rfl) ?_
  refine RG.vl rfl rfl rfl (Ev.move rfl rfl) ?_
  refine RG.vl rfl rfl rfl (Ev.fld rfl rfl fld_31_2) ?_
  refine RG.vl rfl rfl rfl (Ev.ldAt rfl rfl Tryz.underlying29 rfl ((hb36.ext hE46).cells) (rfl)) ?_
  refine RG.litO (os := [_, _]) (enc := encZ) ([0, 6]) rfl rfl rfl rfl rfl rfl rfl Tryz.underlying29 inf_3 rfl rfl rfl rfl rfl encZ_len rfl rfl (fun v67 wk68 hxwk68 hown69 hnew70 => ?_)
  replace hE35 := Ex.tr hE35 hxwk68
  replace hE44 := Ex.tr hE44 hxwk68
  replace hE46 := Ex.tr hE46 hxwk68
  replace hE59 := Ex.tr hE59 hxwk68
  replace hE64 := Ex.tr hE64 hxwk68
  replace hE66 := Ex.tr hE66 hxwk68
  have hE71 := hxwk68
  refine RG.call rfl rfl rfl rfl rfl rfl rfl en_17 (sameI_t _ _ [0, 6] _ (((Own.ext hoy2 hE44).rdl encZ_len)) ((hown69.rdl encZ_len)) (by decide)) ?_
  rintro _ w72 ⟨rfl, hx72⟩
  replace hE35 := Ex.tr hE35 hx72
  replace hE44 := Ex.tr hE44 hx72
  replace hE46 := Ex.tr hE46 hx72
  replace hE59 := Ex.tr hE59 hx72
  replace hE64 := Ex.tr hE64 hx72
  replace hE66 := Ex.tr hE66 hx72
  replace hE71 := Ex.tr hE71 hx72
  have hE73 := hx72
  refine RG.vl rfl rfl rfl (Ev.pickT rfl rfl rfl) ?_
  refine RG.vl rfl rfl rfl (Ev.move rfl rfl) ?_
  refine RG.vl rfl rfl rfl (Ev.fld rfl rfl fld_31_3) ?_
  refine RG.vl rfl rfl rfl (Ev.ldAt rfl rfl Tryz.underlying29 rfl ((hb36.ext hE46).cells) (rfl)) ?_
  refine RG.vl rfl rfl rfl (Ev.lenL rfl rfl rfl Tryz.underlying29 (((Own.ext hoz2 hE44).rdl encZ_len))) ?_
  refine RG.vl rfl rfl rfl (Ev.isT (Ev.eqI rfl rfl rfl) (rfl)) ?_
  refine RG.vl rfl rfl rfl (Ev.pickT rfl rfl rfl) ?_
  refine RG.vl rfl rfl rfl (Ev.move rfl rfl) ?_
  refine RG.vl rfl rfl rfl (Ev.move rfl rfl) ?_
  refine RG.vl rfl rfl rfl (Ev.isT (Ev.eqI rfl rfl rfl) (rfl)) ?_
  refine RG.vl rfl rfl rfl (Ev.pickT rfl rfl rfl) ?_
  refine RG.vl rfl rfl rfl (Ev.assign rfl rfl) ?_
  refine RG.done ?_
  refine QW.sub (S' := [(0, _)]) ⟨rfl, trivial⟩ ?_
  refine QW.then_ ?_
  refine CW.ret ?_
  refine QW.ret1 rfl rfl ?_
  have hB := (Ex.tr hR28 hE35)
  exact ⟨rfl, hB⟩

end Go.Proofs.YtgjnchjkjdnidaaGreat

/- Walks (VC). Written by program. -/
namespace Go.Proofs.YtgjnchjkjdnidaaGreat
open Go.RowKit
set_option maxRecDepth 100000 in
set_option maxHeartbeats 1000000 in
theorem same22_ret (x : List UInt8) (b : Bool) (u1 u2 v1 v2 : Value) (es er : List Nat) (w : World) (h1 : RdL w 1 encZ u1 es) (h2 : RdL w 1 encZ u2 er) (h3 : RdL w 1 encZ v1 es) (h4 : RdL w 1 encZ v2 er) (hs : es.length ≤ 1000) (hr : er.length ≤ 1000) :
    Ret Tryz.prog 9 [.agg ([.string ⟨x.toArray⟩, .bool b, u1, u2] : List Value).toArray, .agg ([.string ⟨x.toArray⟩, .bool b, v1, v2] : List Value).toArray] w (fun v w' => v = .bool true ∧ Ex w w') := by
  obtain ⟨A1, C1, rfl⟩ := h1.shape
  obtain ⟨A2, C2, rfl⟩ := h2.shape
  obtain ⟨A3, C3, rfl⟩ := h3.shape
  obtain ⟨A4, C4, rfl⟩ := h4.shape
  have hB0 : Ex w w := Ex.rfl_ _
  refine Ret.of Tryz.func9 rfl Tryz.ntmps9 rfl ?_
  refine CW.seq ?_
  refine CW.region ?_
  refine RG.box rfl rfl rfl rfl rfl (fun ga w1 ega hx1 hb1 => ?_)
  have hle2 : w.heap.size ≤ ga := by have := (Ex.rfl_ w).size; omega
  have hE3 := hx1
  refine RG.box rfl rfl rfl rfl rfl (fun gb w4 egb hx4 hb4 => ?_)
  have hle5 : w.heap.size ≤ gb := by have := hE3.size; omega
  have hle6 : w1.heap.size ≤ gb := by have := (Ex.rfl_ w1).size; omega
  have hlt7 : ga < gb := by have := Blk.lt hb1; omega
  replace hE3 := Ex.tr hE3 hx4
  have hE8 := hx4
  refine RG.vl rfl rfl rfl (Ev.assign rfl rfl) ?_
  refine RG.done ?_
  refine QW.then_ ?_
  refine CW.seq ?_
  cases b with
  | false =>
    refine CW.region ?_
    refine RG.vl rfl rfl rfl (Ev.fld rfl rfl fld_31_0) ?_
    refine RG.vl rfl rfl rfl (Ev.ldAt rfl rfl Tryz.underlying9 rfl ((hb1.ext hE8).cells) (rfl)) ?_
    refine RG.vl rfl rfl rfl (Ev.fld rfl rfl fld_39_0) ?_
    refine RG.vl rfl rfl rfl (Ev.ldAt rfl rfl Tryz.underlying9 rfl (hb4.cells) (rfl)) ?_
    refine RG.vl rfl rfl rfl (Ev.isT (Ev.eqS rfl rfl rfl) (rfl)) ?_
    refine RG.vl rfl rfl rfl (Ev.move rfl rfl) ?_
    refine RG.vl rfl rfl rfl (Ev.fld rfl rfl fld_31_1) ?_
    refine RG.vl rfl rfl rfl (Ev.ldAt rfl rfl Tryz.underlying4 rfl ((hb1.ext hE8).cells) (rfl)) ?_
    refine RG.vl rfl rfl rfl (Ev.fld rfl rfl fld_39_1) ?_
    refine RG.vl rfl rfl rfl (Ev.ldAt rfl rfl Tryz.underlying4 rfl (hb4.cells) (rfl)) ?_
    refine RG.vl rfl rfl rfl (Ev.isT (Ev.eqB rfl rfl rfl Tryz.underlying4) (rfl)) ?_
    refine RG.vl rfl rfl rfl (Ev.pickT rfl rfl rfl) ?_
    refine RG.vl rfl rfl rfl (Ev.move rfl rfl) ?_
    refine RG.vl rfl rfl rfl (Ev.fld rfl rfl fld_31_2) ?_
    refine RG.vl rfl rfl rfl (Ev.ldAt rfl rfl Tryz.underlying29 rfl ((hb1.ext hE8).cells) (rfl)) ?_
    refine RG.vl rfl rfl rfl (Ev.fld rfl rfl fld_39_2) ?_
    refine RG.vl rfl rfl rfl (Ev.ldAt rfl rfl Tryz.underlying29 rfl (hb4.cells) (rfl)) ?_
    refine RG.call rfl rfl rfl rfl rfl rfl rfl en_17 (sameI_t _ _ es _ ((h1.ext hE3)) ((h3.ext hE3)) (by omega)) ?_
    rintro _ w9 ⟨rfl, hx9⟩
    replace hE3 := Ex.tr hE3 hx9
    replace hE8 := Ex.tr hE8 hx9
    have hE10 := hx9
    refine RG.vl rfl rfl rfl (Ev.pickT rfl rfl rfl) ?_
    refine RG.vl rfl rfl rfl (Ev.move rfl rfl) ?_
    refine RG.vl rfl rfl rfl (Ev.fld rfl rfl fld_31_3) ?_
    refine RG.vl rfl rfl rfl (Ev.ldAt rfl rfl Tryz.underlying29 rfl ((hb1.ext hE8).cells) (rfl)) ?_
    refine RG.vl rfl rfl rfl (Ev.fld rfl rfl fld_39_3) ?_
    refine RG.vl rfl rfl rfl (Ev.ldAt rfl rfl Tryz.underlying29 rfl ((hb4.ext hE10).cells) (rfl)) ?_
    refine RG.call rfl rfl rfl rfl rfl rfl rfl en_17 (sameI_t _ _ er _ ((h2.ext hE3)) ((h4.ext hE3)) (by omega)) ?_
    rintro _ w11 ⟨rfl, hx11⟩
    replace hE3 := Ex.tr hE3 hx11
    replace hE8 := Ex.tr hE8 hx11
    replace hE10 := Ex.tr hE10 hx11
    have hE12 := hx11
    refine RG.vl rfl rfl rfl (Ev.pickT rfl rfl rfl) ?_
    refine RG.vl rfl rfl rfl (Ev.assign rfl rfl) ?_
    refine RG.done ?_
    refine QW.sub (S' := [(4, _)]) ⟨rfl, trivial⟩ ?_
    refine QW.then_ ?_
    refine CW.ret ?_
    refine QW.ret1 rfl rfl ?_
    have hB := (Ex.tr hB0 hE3)
    exact ⟨rfl, hB⟩
  | true =>
    refine CW.region ?_
    refine RG.vl rfl rfl rfl (Ev.fld rfl rfl fld_31_0) ?_
    refine RG.vl rfl rfl rfl (Ev.ldAt rfl rfl Tryz.underlying9 rfl ((hb1.ext hE8).cells) (rfl)) ?_
    refine RG.vl rfl rfl rfl (Ev.fld rfl rfl fld_39_0) ?_
    refine RG.vl rfl rfl rfl (Ev.ldAt rfl rfl Tryz.underlying9 rfl (hb4.cells) (rfl)) ?_
    refine RG.vl rfl rfl rfl (Ev.isT (Ev.eqS rfl rfl rfl) (rfl)) ?_
    refine RG.vl rfl rfl rfl (Ev.move rfl rfl) ?_
    refine RG.vl rfl rfl rfl (Ev.fld rfl rfl fld_31_1) ?_
    refine RG.vl rfl rfl rfl (Ev.ldAt rfl rfl Tryz.underlying4 rfl ((hb1.ext hE8).cells) (rfl)) ?_
    refine RG.vl rfl rfl rfl (Ev.fld rfl rfl fld_39_1) ?_
    refine RG.vl rfl rfl rfl (Ev.ldAt rfl rfl Tryz.underlying4 rfl (hb4.cells) (rfl)) ?_
    refine RG.vl rfl rfl rfl (Ev.isT (Ev.eqB rfl rfl rfl Tryz.underlying4) (rfl)) ?_
    refine RG.vl rfl rfl rfl (Ev.pickT rfl rfl rfl) ?_
    refine RG.vl rfl rfl rfl (Ev.move rfl rfl) ?_
    refine RG.vl rfl rfl rfl (Ev.fld rfl rfl fld_31_2) ?_
    refine RG.vl rfl rfl rfl (Ev.ldAt rfl rfl Tryz.underlying29 rfl ((hb1.ext hE8).cells) (rfl)) ?_
    refine RG.vl rfl rfl rfl (Ev.fld rfl rfl fld_39_2) ?_
    refine RG.vl rfl rfl rfl (Ev.ldAt rfl rfl Tryz.underlying29 rfl (hb4.cells) (rfl)) ?_
    refine RG.call rfl rfl rfl rfl rfl rfl rfl en_17 (sameI_t _ _ es _ ((h1.ext hE3)) ((h3.ext hE3)) (by omega)) ?_
    rintro _ w13 ⟨rfl, hx13⟩
    replace hE3 := Ex.tr hE3 hx13
    replace hE8 := Ex.tr hE8 hx13
    have hE14 := hx13
    refine RG.vl rfl rfl rfl (Ev.pickT rfl rfl rfl) ?_
    refine RG.vl rfl rfl rfl (Ev.move rfl rfl) ?_
    refine RG.vl rfl rfl rfl (Ev.fld rfl rfl fld_31_3) ?_
    refine RG.vl rfl rfl rfl (Ev.ldAt rfl rfl Tryz.underlying29 rfl ((hb1.ext hE8).cells) (rfl)) ?_
    refine RG.vl rfl rfl rfl (Ev.fld rfl rfl fld_39_3) ?_
    refine RG.vl rfl rfl rfl (Ev.ldAt rfl rfl Tryz.underlying29 rfl ((hb4.ext hE14).cells) (rfl)) ?_
    refine RG.call rfl rfl rfl rfl rfl rfl rfl en_17 (sameI_t _ _ er _ ((h2.ext hE3)) ((h4.ext hE3)) (by omega)) ?_
    rintro _ w15 ⟨rfl, hx15⟩
    replace hE3 := Ex.tr hE3 hx15
    replace hE8 := Ex.tr hE8 hx15
    replace hE14 := Ex.tr hE14 hx15
    have hE16 := hx15
    refine RG.vl rfl rfl rfl (Ev.pickT rfl rfl rfl) ?_
    refine RG.vl rfl rfl rfl (Ev.assign rfl rfl) ?_
    refine RG.done ?_
    refine QW.sub (S' := [(4, _)]) ⟨rfl, trivial⟩ ?_
    refine QW.then_ ?_
    refine CW.ret ?_
    refine QW.ret1 rfl rfl ?_
    have hB := (Ex.tr hB0 hE3)
    exact ⟨rfl, hB⟩

set_option maxRecDepth 100000 in
set_option maxHeartbeats 4000000 in
theorem barcodeTells_ret (t u : List UInt8) (w : World)  :
    Ret Tryz.prog 4 [.string ⟨t.toArray⟩, .string ⟨u.toArray⟩] w (fun v w' => v = .bool true ∧ Ex w w') := by
  have hts := sb_len t
  have hus := sb_len u
  have hB0 : Ex w w := Ex.rfl_ _
  refine Ret.of Tryz.func4 rfl Tryz.ntmps4 rfl ?_
  refine CW.seq ?_
  refine CW.region ?_
  refine RG.vl rfl rfl rfl (Ev.assign rfl rfl) ?_
  refine RG.done ?_
  refine QW.then_ ?_
  refine CW.seq ?_
  refine CW.seq ?_
  refine CW.region ?_
  refine RG.vl rfl rfl rfl (Ev.move rfl rfl) ?_
  refine RG.vl rfl rfl rfl (Ev.lenStr rfl rfl rfl Tryz.underlying9) ?_
  refine RG.vl rfl rfl rfl (Ev.gtr rfl rfl rfl) ?_
  refine RG.vl rfl rfl rfl (Ev.move rfl rfl) ?_
  refine RG.split (d := 16) rfl (fun hg1 => ?_) (fun hg1 => ?_)
  · refine RG.pass rfl rfl rfl ?_
    refine RG.pass rfl rfl rfl ?_
    refine RG.pass rfl rfl rfl ?_
    refine RG.vl rfl rfl rfl (Ev.pickT rfl rfl rfl) ?_
    refine RG.done ?_
    refine QW.then_ ?_
    refine CW.condT rfl ?_
    refine CW.seq ?_
    refine CW.region ?_
    refine RG.call rfl rfl rfl rfl rfl rfl rfl en_5 (awake_ret _) ?_
    rintro _ w2 ⟨rfl, hx2⟩
    have hE3 := hx2
    refine RG.vl rfl rfl rfl (Ev.assign rfl rfl) ?_
    refine RG.done ?_
    refine QW.then_ ?_
    refine CW.ret ?_
    refine QW.thenRet ?_
    refine QW.ret1 rfl rfl ?_
    have hB := (Ex.tr hB0 hE3)
    exact ⟨rfl, hB⟩
  · refine RG.vl rfl rfl rfl (Ev.move rfl rfl) ?_
    refine RG.vl rfl rfl rfl (Ev.lenStr rfl rfl rfl Tryz.underlying9) ?_
    refine RG.vl rfl rfl rfl (Ev.gtr rfl rfl rfl) ?_
    refine RG.vl rfl rfl rfl (Ev.pickF rfl rfl rfl) ?_
    refine RG.done ?_
    refine QW.then_ ?_
    refine CW.condP rfl (fun hc4 => ?_) (fun hc4 => ?_)
    · refine CW.seq ?_
      refine CW.region ?_
      refine RG.call rfl rfl rfl rfl rfl rfl rfl en_5 (awake_ret _) ?_
      rintro _ w5 ⟨rfl, hx5⟩
      have hE6 := hx5
      refine RG.vl rfl rfl rfl (Ev.assign rfl rfl) ?_
      refine RG.done ?_
      refine QW.then_ ?_
      refine CW.ret ?_
      refine QW.thenRet ?_
      refine QW.ret1 rfl rfl ?_
      have hB := (Ex.tr hB0 hE6)
      exact ⟨rfl, hB⟩
    · refine CW.skip ?_
      refine QW.then_ ?_
      refine CW.seq ?_
      refine CW.region ?_
      refine RG.vl rfl rfl rfl (Ev.move rfl rfl) ?_
      refine RG.call rfl rfl rfl rfl rfl rfl rfl en_12 (bwr_ret t _ (by omega)) ?_
      rintro _ w7 ⟨wx, rfl, hwr, hx7⟩
      have hE8 := hx7
      refine RG.vl rfl rfl rfl (Ev.move rfl rfl) ?_
      refine RG.vl rfl rfl rfl (Ev.extract rfl rfl rfl) ?_
      refine RG.vl rfl rfl rfl (Ev.extract rfl rfl rfl) ?_
      refine RG.vl rfl rfl rfl (Ev.assign rfl rfl) ?_
      refine RG.vl rfl rfl rfl (Ev.assign rfl rfl) ?_
      refine RG.done ?_
      refine QW.sub (S' := [(0, _), (1, _), (4, _), (5, _), (6, _)]) ⟨rfl, rfl, rfl, rfl, rfl, trivial⟩ ?_
      refine QW.then_ ?_
      refine CW.seq ?_
      refine CW.region ?_
      refine RG.vl rfl rfl rfl (Ev.move rfl rfl) ?_
      refine RG.call rfl rfl rfl rfl rfl rfl rfl en_13 (brd_ret _ _) ?_
      have hpre9 := (Ex.tr hB0 hE8)
      rintro _ w9 ⟨rx, rb, ry, rz, rs, re, rn, rfl, hoy, hoz, hrd, hx9⟩
      replace hE8 := Ex.tr hE8 hx9
      have hE10 := hx9
      obtain ⟨A1, B1, rfl⟩ := hoy.shape
      obtain ⟨C1, D1, rfl⟩ := hoz.shape
      refine RG.vl rfl rfl rfl (Ev.move rfl rfl) ?_
      refine RG.vl rfl rfl rfl (Ev.extract rfl rfl rfl) ?_
      refine RG.vl rfl rfl rfl (Ev.extract rfl rfl rfl) ?_
      refine RG.local_ rfl rfl rfl rfl (fun _ => rfl) rfl rfl (fun _ => rfl) inf_31 rfl rfl rfl (fun g1 w11 eg1 hx11 hb11 => ?_)
      have hsb12 := fun e => sep_new (g := g1) hoy eg1 e
      have hsb13 := fun e => sep_new (g := g1) hoz eg1 e
      have hle14 : w.heap.size ≤ g1 := by have := hE8.size; omega
      have hle15 : w7.heap.size ≤ g1 := by have := hE10.size; omega
      have hle16 : w9.heap.size ≤ g1 := by have := (Ex.rfl_ w9).size; omega
      replace hE8 := Ex.tr hE8 hx11
      replace hE10 := Ex.tr hE10 hx11
      have hE17 := hx11
      refine RG.vl rfl rfl rfl (Ev.assign rfl rfl) ?_
      refine RG.done ?_
      refine QW.then_ ?_
      refine CW.seq ?_
      refine CW.region ?_
      refine RG.vl rfl rfl rfl (Ev.move rfl rfl) ?_
      refine RG.call rfl rfl rfl rfl rfl rfl rfl en_10 (rwr22_ret t _ (by omega)) ?_
      rintro _ w18 ⟨qx, rfl, hqr, hx18⟩
      replace hE8 := Ex.tr hE8 hx18
      replace hE10 := Ex.tr hE10 hx18
      replace hE17 := Ex.tr hE17 hx18
      have hE19 := hx18
      refine RG.vl rfl rfl rfl (Ev.move rfl rfl) ?_
      refine RG.vl rfl rfl rfl (Ev.extract rfl rfl rfl) ?_
      refine RG.vl rfl rfl rfl (Ev.extract rfl rfl rfl) ?_
      refine RG.vl rfl rfl rfl (Ev.assign rfl rfl) ?_
      refine RG.vl rfl rfl rfl (Ev.assign rfl rfl) ?_
      refine RG.done ?_
      refine QW.sub (S' := [(1, _), (4, _), (5, _), (6, _), (7, _), (8, _), (9, _), (10, _)]) ⟨rfl, rfl, rfl, rfl, rfl, rfl, rfl, rfl, trivial⟩ ?_
      refine QW.then_ ?_
      refine CW.seq ?_
      refine CW.region ?_
      refine RG.vl rfl rfl rfl (Ev.move rfl rfl) ?_
      refine RG.call rfl rfl rfl rfl rfl rfl rfl en_14 (rrd22_ret u _) ?_
      have hpre20 := (Ex.tr hB0 hE8)
      rintro _ w20 ⟨qt, qb, qy, qz, qs, qe, qn, rfl, hqy, hqz, hqd, hx20⟩
      replace hE8 := Ex.tr hE8 hx20
      replace hE10 := Ex.tr hE10 hx20
      replace hE17 := Ex.tr hE17 hx20
      replace hE19 := Ex.tr hE19 hx20
      have hE21 := hx20
      obtain ⟨A2, B2, rfl⟩ := hqy.shape
      obtain ⟨C2, D2, rfl⟩ := hqz.shape
      obtain ⟨rfl, rfl, rfl, rfl, rfl⟩ := rd_same hrd hqd
      obtain ⟨hs20, hr20⟩ := rd_small hrd
      obtain rfl := wr_uniq hwr hqr
      refine RG.vl rfl rfl rfl (Ev.move rfl rfl) ?_
      refine RG.vl rfl rfl rfl (Ev.extract rfl rfl rfl) ?_
      refine RG.vl rfl rfl rfl (Ev.extract rfl rfl rfl) ?_
      refine RG.local_ rfl rfl rfl rfl (fun _ => rfl) rfl rfl (fun _ => rfl) inf_39 rfl rfl rfl (fun g2 w22 eg2 hx22 hb22 => ?_)
      have hsb23 := fun e => sep_new (g := g2) (Own.ext hoy hE17) eg2 e
      have hsb24 := fun e => sep_new (g := g2) (Own.ext hoz hE17) eg2 e
      have hsb25 := fun e => sep_new (g := g2) hqy eg2 e
      have hsb26 := fun e => sep_new (g := g2) hqz eg2 e
      have hle27 : w.heap.size ≤ g2 := by have := hE8.size; omega
      have hle28 : w7.heap.size ≤ g2 := by have := hE10.size; omega
      have hle29 : w9.heap.size ≤ g2 := by have := hE17.size; omega
      have hle30 : w11.heap.size ≤ g2 := by have := hE19.size; omega
      have hle31 : w18.heap.size ≤ g2 := by have := hE21.size; omega
      have hle32 : w20.heap.size ≤ g2 := by have := (Ex.rfl_ w20).size; omega
      have hlt33 : g1 < g2 := by have := Blk.lt (hb11.ext hE19); omega
      replace hE8 := Ex.tr hE8 hx22
      replace hE10 := Ex.tr hE10 hx22
      replace hE17 := Ex.tr hE17 hx22
      replace hE19 := Ex.tr hE19 hx22
      replace hE21 := Ex.tr hE21 hx22
      have hE34 := hx22
      refine RG.vl rfl rfl rfl (Ev.assign rfl rfl) ?_
      refine RG.done ?_
      refine QW.then_ ?_
      refine CW.seq ?_
      refine CW.region ?_
      refine RG.vl rfl rfl rfl (Ev.move rfl rfl) ?_
      refine RG.vl rfl rfl rfl (Ev.move rfl rfl) ?_
      refine RG.vl rfl rfl rfl (Ev.isT (Ev.eqS rfl rfl rfl) (rfl)) ?_
      refine RG.vl rfl rfl rfl (Ev.move rfl rfl) ?_
      refine RG.vl rfl rfl rfl (Ev.move rfl rfl) ?_
      refine RG.vl rfl rfl rfl (Ev.move rfl rfl) ?_
      refine RG.vl rfl rfl rfl (Ev.isT (Ev.eqI rfl rfl rfl) (rfl)) ?_
      refine RG.vl rfl rfl rfl (Ev.pickT rfl rfl rfl) ?_
      refine RG.vl rfl rfl rfl (Ev.move rfl rfl) ?_
      refine RG.vl rfl rfl rfl (Ev.ldAgg rfl rfl Tryz.underlying31 rfl sz_31 rfl ((hb11.ext hE19).cells)) ?_
      refine RG.vl rfl rfl rfl (Ev.ldAgg rfl rfl Tryz.underlying39 rfl sz_39 rfl (hb22.cells)) ?_
      refine RG.call rfl rfl rfl rfl rfl rfl rfl en_9 (same22_ret _ _ _ _ _ _ _ _ _ ((Own.ext hoy hE17).rdl encZ_len) ((Own.ext hoz hE17).rdl encZ_len) ((Own.ext hqy hE34).rdl encZ_len) ((Own.ext hqz hE34).rdl encZ_len) (by omega) (by omega)) ?_
      rintro _ w35 ⟨rfl, hx35⟩
      replace hE8 := Ex.tr hE8 hx35
      replace hE10 := Ex.tr hE10 hx35
      replace hE17 := Ex.tr hE17 hx35
      replace hE19 := Ex.tr hE19 hx35
      replace hE21 := Ex.tr hE21 hx35
      replace hE34 := Ex.tr hE34 hx35
      have hE36 := hx35
      refine RG.vl rfl rfl rfl (Ev.pickT rfl rfl rfl) ?_
      refine RG.vl rfl rfl rfl (Ev.move rfl rfl) ?_
      refine RG.vl rfl rfl rfl (Ev.move rfl rfl) ?_
      refine RG.vl rfl rfl rfl (Ev.move rfl rfl) ?_
      refine RG.vl rfl rfl rfl (Ev.isT (Ev.eqI rfl rfl rfl) (rfl)) ?_
      refine RG.vl rfl rfl rfl (Ev.pickT rfl rfl rfl) ?_
      refine RG.vl rfl rfl rfl (Ev.move rfl rfl) ?_
      refine RG.call rfl rfl rfl rfl rfl rfl rfl en_5 (awake_ret _) ?_
      rintro _ w37 ⟨rfl, hx37⟩
      replace hE8 := Ex.tr hE8 hx37
      replace hE10 := Ex.tr hE10 hx37
      replace hE17 := Ex.tr hE17 hx37
      replace hE19 := Ex.tr hE19 hx37
      replace hE21 := Ex.tr hE21 hx37
      replace hE34 := Ex.tr hE34 hx37
      replace hE36 := Ex.tr hE36 hx37
      have hE38 := hx37
      refine RG.vl rfl rfl rfl (Ev.pickT rfl rfl rfl) ?_
      refine RG.vl rfl rfl rfl (Ev.assign rfl rfl) ?_
      refine RG.done ?_
      refine QW.sub (S' := [(4, _)]) ⟨rfl, trivial⟩ ?_
      refine QW.then_ ?_
      refine CW.ret ?_
      refine QW.ret1 rfl rfl ?_
      have hB := (Ex.tr hB0 hE8)
      exact ⟨rfl, hB⟩

end Go.Proofs.YtgjnchjkjdnidaaGreat

