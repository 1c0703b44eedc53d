/- Walks (FD). Written by program. -/
import Derived.Test.YtjhgihgggofocaaT
import Derived.Test.YtjhgihgggofocaaFW
namespace Go.Proofs.Ytjhgihgggofocaa
open Go.RowKit
set_option maxRecDepth 100000 in
set_option maxHeartbeats 2000000 in
theorem divide_ret (u v : Value) (p q : List Nat) (w : World) (hl : RdL w 1 encN u p) (hm : RdL w 1 encN v q) (hlen : p.length ≤ 100000) (hlen2 : q.length ≤ 100000) :
    Ret Try.prog 43 [u, v] w (fun v w' => ∃ r1 r2 d r, v = .tuple #[r1, r2, .int .i64 (divE p q)] ∧ Own w' w.heap.size 5 1 encN r1 d ∧ Own w' w.heap.size 5 1 encN r2 r ∧ Sep r1 r2 ∧ (divE p q = 0 → IsDiv p q d r ∧ tr d = d ∧ tr r = r ∧ El d ∧ El r) ∧ (divE p q ≠ 0 → d = [] ∧ r = []) ∧ Ex w w') := by
  obtain ⟨Au, Cu, rfl⟩ := hl.shape
  obtain ⟨Av, Cv, rfl⟩ := hm.shape
  have hB0 : Ex w w := Ex.rfl_ _
  refine Ret.of Try.func43 rfl Try.ntmps43 rfl ?_
  refine CW.seq ?_
  refine CW.region ?_
  refine RG.vl rfl rfl rfl (Ev.assign rfl rfl) ?_
  refine RG.vl rfl rfl rfl (Ev.assign rfl rfl) ?_
  refine RG.vl rfl rfl rfl (Ev.assign rfl rfl) ?_
  refine RG.done ?_
  refine QW.then_ ?_
  refine CW.seq ?_
  refine CW.seq ?_
  refine CW.region ?_
  refine RG.vl rfl rfl rfl (Ev.move rfl rfl) ?_
  refine RG.vl rfl rfl rfl (Ev.move rfl rfl) ?_
  refine RG.litO (os := [.tmp 16, .tmp 17]) (enc := encV) ([_, _]) rfl rfl rfl rfl rfl rfl rfl Try.underlying95 inf_22 rfl rfl rfl rfl rfl encV_len rfl rfl (fun v1 wk2 hxwk2 hown3 hnew4 => ?_)
  have hE5 := hxwk2
  refine RG.call rfl rfl rfl rfl rfl rfl rfl en_49 (check2_ret _ _ _ _ _  _ ((hown3.rdl encV_len)) ((hl.ext hE5)) ((hm.ext hE5))) ?_
  rintro _ w6 ⟨rfl, hx6⟩
  replace hE5 := Ex.tr hE5 hx6
  have hE7 := hx6
  refine RG.vl rfl rfl rfl (Ev.assign rfl rfl) ?_
  refine RG.done ?_
  refine QW.then_ ?_
  refine CW.seq ?_
  refine CW.region ?_
  refine RG.vl rfl rfl rfl (Ev.move rfl rfl) ?_
  refine RG.vl rfl rfl rfl (Ev.neI rfl rfl rfl) ?_
  refine RG.done ?_
  refine QW.then_ ?_
  refine CW.condP rfl (fun hc8 => ?_) (fun hc8 => ?_)
  · refine CW.seq ?_
    refine CW.region ?_
    refine RG.vl rfl rfl rfl (Ev.move rfl rfl) ?_
    refine RG.vl rfl rfl rfl (Ev.assign rfl rfl) ?_
    refine RG.vl rfl rfl rfl (Ev.assign rfl rfl) ?_
    refine RG.vl rfl rfl rfl (Ev.assign rfl rfl) ?_
    refine RG.done ?_
    refine QW.sub (S' := [(0, _), (1, _), (4, _), (5, _), (6, _)]) ⟨rfl, rfl, rfl, rfl, rfl, trivial⟩ ?_
    refine QW.then_ ?_
    refine CW.ret ?_
    refine QW.thenRet ?_
    refine QW.ret3 rfl rfl rfl rfl ?_
    have hB := (Ex.tr hB0 hE5)
    have hmE : divE p q = errL [p, q] := by unfold divE; rw [if_neg (by assumption)]
    exact ⟨_, _, [], [], by rw [hmE], Own.nil_ _ _ _ _ _, Own.nil_ _ _ _ _ _, Sep.nil_ _, fun h => absurd h (by rw [hmE]; assumption), fun _ => ⟨rfl, rfl⟩, hB⟩
  · refine CW.skip ?_
    refine QW.then_ ?_
    refine CW.seq ?_
    have he0 : errL [p, q] = 0 := by omega
    obtain ⟨⟨hp128, hpe⟩, hq128, hqe⟩ := errL2 he0
    have hdp := dg_len p
    have hdq := dg_len q
    refine CW.region ?_
    refine RG.vl rfl rfl rfl (Ev.move rfl rfl) ?_
    refine RG.call rfl rfl rfl rfl rfl rfl rfl en_61 (degree_ret _ _ _ ((hm.ext hE5)) (by first | omega | (rw [List.length_replicate]; omega))) ?_
    rintro _ w9 ⟨rfl, hx9⟩
    replace hE5 := Ex.tr hE5 hx9
    replace hE7 := Ex.tr hE7 hx9
    have hE10 := hx9
    refine RG.vl rfl rfl rfl (Ev.assign rfl rfl) ?_
    refine RG.done ?_
    refine QW.then_ ?_
    refine CW.seq ?_
    refine CW.seq ?_
    refine CW.region ?_
    refine RG.vl rfl rfl rfl (Ev.move rfl rfl) ?_
    refine RG.vl rfl rfl rfl (Ev.lss rfl rfl rfl) ?_
    refine RG.done ?_
    refine QW.sub (S' := [(0, _), (1, _), (4, _), (5, _), (6, _), (8, _), (26, _)]) ⟨rfl, rfl, rfl, rfl, rfl, rfl, rfl, trivial⟩ ?_
    refine QW.then_ ?_
    refine CW.condP rfl (fun hc11 => ?_) (fun hc11 => ?_)
    · refine CW.seq ?_
      refine CW.region ?_
      refine RG.vl rfl rfl rfl (Ev.assign rfl rfl) ?_
      refine RG.vl rfl rfl rfl (Ev.assign rfl rfl) ?_
      refine RG.vl rfl rfl rfl (Ev.assign rfl rfl) ?_
      refine RG.done ?_
      refine QW.then_ ?_
      refine CW.ret ?_
      refine QW.thenRet ?_
      refine QW.ret3 rfl rfl rfl rfl ?_
      have hB := (Ex.tr hB0 hE5)
      have hmE : divE p q = 6 := by unfold divE; rw [if_pos he0, if_pos (by omega)]
      exact ⟨_, _, [], [], by rw [hmE], Own.nil_ _ _ _ _ _, Own.nil_ _ _ _ _ _, Sep.nil_ _, fun h => absurd h (by rw [hmE]; decide), fun _ => ⟨rfl, rfl⟩, hB⟩
    · refine CW.skip ?_
      refine QW.then_ ?_
      refine CW.seq ?_
      refine CW.region ?_
      refine RG.call rfl rfl rfl rfl rfl rfl rfl en_50 (newTables_ret _) ?_
      rintro _ w12 ⟨gt12, rfl, hge12, ht12, hx12⟩
      replace hE5 := Ex.tr hE5 hx12
      replace hE7 := Ex.tr hE7 hx12
      replace hE10 := Ex.tr hE10 hx12
      have hE13 := hx12
      refine RG.vl rfl rfl rfl (Ev.assign rfl rfl) ?_
      refine RG.done ?_
      refine QW.then_ ?_
      refine CW.seq ?_
      refine CW.region ?_
      refine RG.vl rfl rfl rfl (Ev.move rfl rfl) ?_
      replace hl := (hl.ext hE5)
      replace hm := (hm.ext hE5)
      replace hown3 := (Own.ext hown3 hE7)
      have hR14 := (Ex.tr hB0 hE5)
      have hR15 := hE7
      have hR16 := hE10
      have hR17 := hE13
      refine RG.call rfl rfl rfl rfl rfl rfl rfl en_62 (trimmed_ret _ _ _ (hl) (by omega)) ?_
      have hpre18 := hR14
      rintro vt w18 ⟨hvt, hx18⟩
      have hsep19 : Sep vt _ := Sep.of_new hown3 (fun k h => Own.ge hvt h)
      have hE20 := hx18
      refine RG.vl rfl rfl rfl (Ev.assign rfl rfl) ?_
      refine RG.done ?_
      refine QW.then_ ?_
      refine CW.seq ?_
      have htl := tr_len p
      refine CW.region ?_
      refine RG.vl rfl rfl rfl (Ev.move rfl rfl) ?_
      refine RG.vl rfl rfl rfl (Ev.lenL rfl rfl rfl Try.underlying22 ((hvt.rdl encN_len))) ?_
      refine RG.vl rfl rfl rfl (Ev.move rfl rfl) ?_
      refine RG.vl rfl rfl rfl (Ev.subI rfl rfl rfl (by omega)) ?_
      refine RG.vl rfl rfl rfl (Ev.max2 rfl rfl rfl rfl) ?_
      refine RG.makeO (m := dg p - (dg q - 1)) (enc := encN) 0 rfl rfl rfl rfl rfl rfl (by omega) Try.underlying22 inf_5 encN_len rfl rfl (by omega) (by simp only [maxLen]; omega) (fun vq wk21 hxwk21 hown22 hnew23 => ?_)
      have hsep24 : Sep vq _ := Sep.of_new (Own.ext hown3 hE20) hnew23
      have hsep25 : Sep vq _ := Sep.of_new hvt hnew23
      replace hown22 := Own.low (B' := w12.heap.size) hown22 (by have := hE20.size; omega)
      replace hE20 := Ex.tr hE20 hxwk21
      have hE26 := hxwk21
      refine RG.vl rfl rfl rfl (Ev.assign rfl rfl) ?_
      refine RG.done ?_
      refine QW.then_ ?_
      refine CW.seq ?_
      have hq64 := hqe.cf (dg q - 1)
      have hqk : q[dg q - 1]? = some (cf q (dg q - 1)) := getElem?_cf (by omega)
      refine CW.region ?_
      refine RG.vl rfl rfl rfl (Ev.move rfl rfl) ?_
      refine RG.vl rfl rfl rfl (Ev.move rfl rfl) ?_
      refine RG.vl rfl rfl rfl ((Ev.move rfl rfl).conv (congrArg (Value.int .i64) (show (dg q : Int) - 1 = ((dg q - 1 : Nat) : Int) by omega))) ?_
      refine RG.idxL rfl rfl rfl rfl rfl rfl Try.underlying22 sz_5 ((hm.ext hE20)) (hqk) (fun p27 hp27b hp27 => ?_)
      refine RG.vl rfl rfl rfl (Ev.ld0 rfl rfl Try.underlying5 rfl (hp27) (rfl)) ?_
      refine RG.call rfl rfl rfl rfl rfl rfl rfl en_63 (inv_ret _ _ _ (ht12.ext hE20) (by exact hq64)) ?_
      rintro _ w28 ⟨rfl, hx28⟩
      replace hE20 := Ex.tr hE20 hx28
      replace hE26 := Ex.tr hE26 hx28
      have hE29 := hx28
      refine RG.vl rfl rfl rfl (Ev.assign rfl rfl) ?_
      refine RG.done ?_
      refine QW.sub (S' := [(1, _), (4, _), (5, _), (6, _), (8, _), (9, _), (10, _), (11, _), (12, _)]) ⟨rfl, rfl, rfl, rfl, rfl, rfl, rfl, rfl, rfl, trivial⟩ ?_
      refine QW.then_ ?_
      refine CW.seq ?_
      refine CW.seq ?_
      refine CW.region ?_
      refine RG.vl rfl rfl rfl (Ev.move rfl rfl) ?_
      refine RG.vl rfl rfl rfl ((Ev.lenL rfl rfl rfl Try.underlying22 (((Own.ext hown22 hE29).rdl encN_len))).conv (congrArg (Value.int .i64) (show ((List.replicate (dg p - (dg q - 1)) 0).length : Int) = ((dg p - (dg q - 1) : Nat) : Int) by rw [List.length_replicate]))) ?_
      refine RG.vl rfl rfl rfl (Ev.subI rfl rfl rfl (by omega)) ?_
      refine RG.vl rfl rfl rfl (Ev.assign rfl rfl) ?_
      refine RG.done ?_
      refine QW.then_ ?_
      refine CW.block ?_
      refine CW.loop3 [(1, _), (4, _), (5, _), (6, _), (8, _), (9, _), (10, _), (11, _), (12, _)] ⟨rfl, rfl, rfl, rfl, rfl, rfl, rfl, rfl, rfl, trivial⟩ (fun (k1 : Nat) (D : List Nat) (R : List Nat) => [(13, .int .i64 ((k1 : Int) - 1))]) (fun k1 D R w' => (k1 ≤ dg p - (dg q - 1) ∧ Div p q D R k1 ∧ Own w' w12.heap.size 5 1 encN vq D ∧ Own w' w12.heap.size 5 1 encN vt R) ∧ Ex w12 w') (fun k1 D R => k1) (dg p - (dg q - 1)) (List.replicate (dg p - (dg q - 1)) 0) (tr p) ⟨rfl, trivial⟩ ⟨⟨Nat.le_refl _, div_start hpe, (Own.ext hown22 hE29), (Own.ext hvt hE26)⟩, hE20⟩ ?_
      rintro k1 D R wl30 ⟨⟨hk1, hdv, hvq, hvr⟩, hxwl30⟩
      refine CW.sub (S' := [(13, _), (1, _), (4, _), (5, _), (6, _), (8, _), (9, _), (10, _), (11, _), (12, _)]) ⟨rfl, rfl, rfl, rfl, rfl, rfl, rfl, rfl, rfl, rfl, trivial⟩ ?_
      refine CW.seq ?_
      refine CW.seq ?_
      refine CW.region ?_
      refine RG.vl rfl rfl rfl (Ev.move rfl rfl) ?_
      refine RG.vl rfl rfl rfl (Ev.geq rfl rfl rfl) ?_
      refine RG.done ?_
      refine QW.then_ ?_
      refine CW.condP rfl (fun hc31 => ?_) (fun hc31 => ?_)
      · refine CW.skip ?_
        refine QW.then_ ?_
        refine CW.seq ?_
        refine CW.block ?_
        refine CW.seq ?_
        obtain ⟨k, rfl⟩ : ∃ k, k1 = k + 1 := ⟨k1 - 1, by omega⟩
        have hRl := hdv.rl
        have hDl := hdv.dl
        have hR64 := hdv.re.cf (k + (dg q - 1))
        have hgi := (gi_lt (cf q (dg q - 1))).2
        have htq : ((q.take (dg q)).drop 0).length = dg q := by rw [List.length_drop, List.length_take]; omega
        refine CW.region ?_
        refine RG.vl rfl rfl rfl (Ev.move rfl rfl) ?_
        refine RG.vl rfl rfl rfl ((Ev.move rfl rfl).conv (congrArg (Value.int .i64) (show ((k + 1 : Nat) : Int) - 1 = (k : Int) by omega))) ?_
        refine RG.vl rfl rfl rfl (Ev.move rfl rfl) ?_
        refine RG.vl rfl rfl rfl (Ev.move rfl rfl) ?_
        refine RG.vl rfl rfl rfl ((Ev.move rfl rfl).conv (congrArg (Value.int .i64) (show ((k + 1 : Nat) : Int) - 1 = (k : Int) by omega))) ?_
        refine RG.vl rfl rfl rfl ((Ev.move rfl rfl).conv (congrArg (Value.int .i64) (show (dg q : Int) - 1 = ((dg q - 1 : Nat) : Int) by omega))) ?_
        refine RG.vl rfl rfl rfl ((Ev.addI rfl rfl rfl (by omega)).conv (congrArg (Value.int .i64) (Int.natCast_add k (dg q - 1)).symm)) ?_
        refine RG.idxO rfl rfl rfl rfl rfl rfl Try.underlying22 sz_5 encN_len (hvr) (getElem?_cf (by omega)) (fun g33 hg33 hBg33 hp32b hp32 => ?_)
        refine RG.vl rfl rfl rfl (Ev.ld0 rfl rfl Try.underlying5 rfl (hp32) (rfl)) ?_
        refine RG.vl rfl rfl rfl (Ev.move rfl rfl) ?_
        refine RG.call rfl rfl rfl rfl rfl rfl rfl en_51 (mul_ret _ _ _ _ (ht12.ext hxwl30) (by exact hR64) (by exact hgi)) ?_
        rintro _ w34 ⟨rfl, hx34⟩
        replace hxwl30 := Ex.tr hxwl30 hx34
        have hE35 := hx34
        refine RG.idxO rfl rfl rfl rfl rfl rfl Try.underlying22 sz_5 encN_len ((Own.ext hvq hE35)) (getElem?_cf (by omega)) (fun g37 hg37 hBg37 hp36b hp36 => ?_)
        refine RG.stOw0 (g := g37) (_) rfl rfl rfl rfl rfl sz_5 rfl (fun _ => rfl) (Own.ext hvq hE35) hg37 (getElem?_cf (by omega)) rfl (rfl) (fun ws38 hwws38 hown39 => ?_)
        replace hvr := Own.far (Own.ext hvr hE35) hwws38 (fun e => hsep25 _ hg37 e)
        replace hxwl30 := Wr.below hxwl30 hwws38 hBg37
        refine RG.done ?_
        refine QW.sub (S' := [(1, _), (4, _), (5, _), (6, _), (8, _), (9, _), (10, _), (11, _), (12, _), (13, _)]) ⟨rfl, rfl, rfl, rfl, rfl, rfl, rfl, rfl, rfl, rfl, trivial⟩ ?_
        refine QW.then_ ?_
        refine CW.seq ?_
        refine CW.region ?_
        refine RG.vl rfl rfl rfl (Ev.move rfl rfl) ?_
        refine RG.vl rfl rfl rfl ((Ev.move rfl rfl).conv (congrArg (Value.int .i64) (show (dg q : Int) - 1 = ((dg q - 1 : Nat) : Int) by omega))) ?_
        refine RG.vl rfl rfl rfl ((Ev.addI rfl rfl rfl (by omega)).conv (congrArg (Value.int .i64) (show ((dg q - 1 : Nat) : Int) + 1 = (dg q : Int) by omega))) ?_
        refine RG.sliceL (L := 0) (H := dg q) _ rfl rfl rfl rfl rfl Try.underlying22 sz_5 (hm) (.inl ⟨rfl, rfl⟩) (.inr ⟨_, _, _, rfl, rfl, by omega⟩) (by omega) (by omega) (fun v40 hrv40 => ?_)
        refine RG.vl rfl rfl rfl (Ev.lenL rfl rfl rfl Try.underlying22 ((hrv40.ext hxwl30))) ?_
        refine RG.vl rfl rfl rfl (Ev.move rfl rfl) ?_
        refine RG.done ?_
        refine QW.then_ ?_
        refine CW.block ?_
        refine CW.loop2 [(1, _), (4, _), (5, _), (6, _), (8, _), (9, _), (10, _), (11, _), (12, _), (13, _), (64, _), (65, _)] ⟨rfl, rfl, rfl, rfl, rfl, rfl, rfl, rfl, rfl, rfl, rfl, rfl, trivial⟩ (fun (j : Nat) (M : List Nat) => [(66, .int .i64 j)]) (fun j M w' => (j ≤ dg q ∧ Cfs M R.length (divF q R k (gm (cf R (k + (dg q - 1))) (gi (cf q (dg q - 1)))) j) ∧ Own w' w12.heap.size 5 1 encN vq (D.set k (gm (cf R (k + (dg q - 1))) (gi (cf q (dg q - 1))))) ∧ Own w' w12.heap.size 5 1 encN vt M) ∧ Ex w12 w') (fun j M => dg q - j) (0) (R) ⟨rfl, trivial⟩ ⟨⟨Nat.zero_le _, div_cfs q R k _, hown39, hvr⟩, hxwl30⟩ ?_
        rintro j M wl41 ⟨⟨hj, hM, hvq, hvr⟩, hxwl41⟩
        refine CW.sub (S' := [(66, _), (1, _), (4, _), (5, _), (6, _), (8, _), (9, _), (10, _), (11, _), (12, _), (13, _), (64, _), (65, _)]) ⟨rfl, rfl, rfl, rfl, rfl, rfl, rfl, rfl, rfl, rfl, rfl, rfl, rfl, trivial⟩ ?_
        refine CW.seq ?_
        refine CW.region ?_
        refine RG.vl rfl rfl rfl (Ev.lss rfl rfl rfl) ?_
        refine RG.done ?_
        refine QW.then_ ?_
        refine CW.seq ?_
        refine CW.condP rfl (fun hc42 => ?_) (fun hc42 => ?_)
        · refine CW.skip ?_
          refine QW.then_ ?_
          refine CW.seq ?_
          refine CW.block ?_
          refine CW.seq ?_
          obtain ⟨b, hbb⟩ : ∃ c, q[j]? = some c := ⟨_, List.getElem?_eq_getElem (by omega)⟩
          have hbb' : ((q.take (dg q)).drop 0)[j]? = some b := by rw [List.getElem?_drop, List.getElem?_take, Nat.zero_add, if_pos (by omega)]; exact hbb
          have hb64 := hqe.get hbb
          have hMl := hM.1
          have hC64 : (gm (cf R (k + (dg q - 1))) (gi (cf q (dg q - 1)))) < 64 := gm_lt _ _
          refine CW.region ?_
          refine RG.vl rfl rfl rfl (Ev.move rfl rfl) ?_
          refine RG.idxL rfl rfl rfl rfl rfl rfl Try.underlying22 sz_5 ((hrv40.ext hxwl41)) (hbb') (fun p43 hp43b hp43 => ?_)
          refine RG.vl rfl rfl rfl (Ev.ld0 rfl rfl Try.underlying5 rfl (hp43) (rfl)) ?_
          refine RG.vl rfl rfl rfl (Ev.assign rfl rfl) ?_
          refine RG.vl rfl rfl rfl (Ev.assign rfl rfl) ?_
          refine RG.done ?_
          refine QW.then_ ?_
          refine CW.draw [15] (.ex) 16 rfl mixed (fun wd44 hxwd44 => ?_)
          replace hxwl41 := Ex.tr hxwl41 hxwd44
          have hE45 := hxwd44
          refine AG.takeW 0 rfl (by kernel_rfl) (by kernel_rfl) rfl rfl rfl (fun _ => Ev.move rfl rfl) ?_
          refine AG.takeW 1 rfl (by kernel_rfl) (by kernel_rfl) rfl rfl rfl (fun _ => (Ev.move rfl rfl).conv (congrArg (Value.int .i64) (show ((k + 1 : Nat) : Int) - 1 = (k : Int) by omega))) ?_
          refine AG.takeW 2 rfl (by kernel_rfl) (by kernel_rfl) rfl rfl rfl (fun _ => Ev.move rfl rfl) ?_
          refine AG.takeW 3 rfl (by kernel_rfl) (by kernel_rfl) rfl rfl rfl (fun _ => (Ev.addI rfl rfl rfl (by omega)).conv (congrArg (Value.int .i64) (Int.natCast_add k j).symm)) ?_
          refine AG.idxO _ 4 rfl (by kernel_rfl) (by kernel_rfl) rfl rfl rfl rfl rfl rfl Try.underlying22 sz_5 encN_len ((Own.ext hvr hE45)) (hM.get (by omega)) (fun g47 hg47 hBg47 hp46b hp46 => ?_)
          refine AG.take 5 rfl (by kernel_rfl) (by kernel_rfl) rfl rfl rfl (fun wq hq => Ev.ld0 rfl rfl Try.underlying5 rfl (hp46.ext hq hp46b) (rfl)) ?_
          refine AG.takeW 6 rfl (by kernel_rfl) (by kernel_rfl) rfl rfl rfl (fun _ => Ev.move rfl rfl) ?_
          refine AG.takeW 7 rfl (by kernel_rfl) (by kernel_rfl) rfl rfl rfl (fun _ => Ev.move rfl rfl) ?_
          refine AG.takeW 8 rfl (by kernel_rfl) (by kernel_rfl) rfl rfl rfl (fun _ => (Ev.move rfl rfl).conv (congrArg (Value.int .i64) (show ((k + 1 : Nat) : Int) - 1 = (k : Int) by omega))) ?_
          refine AG.idxO _ 9 rfl (by kernel_rfl) (by kernel_rfl) rfl rfl rfl rfl rfl rfl Try.underlying22 sz_5 encN_len ((Own.ext hvq hE45)) (List.getElem?_set_self (by omega)) (fun g49 hg49 hBg49 hp48b hp48 => ?_)
          refine AG.take 10 rfl (by kernel_rfl) (by kernel_rfl) rfl rfl rfl (fun wq hq => Ev.ld0 rfl rfl Try.underlying5 rfl (hp48.ext hq hp48b) (rfl)) ?_
          refine AG.takeW 11 rfl (by kernel_rfl) (by kernel_rfl) rfl rfl rfl (fun _ => Ev.move rfl rfl) ?_
          refine AG.only 12 rfl (by kernel_rfl) ?_
          refine RG.call rfl rfl rfl rfl rfl rfl rfl en_51 (mul_ret _ _ _ _ (ht12.ext hxwl41) (by exact hC64) (by exact hb64)) ?_
          rintro _ w51 ⟨rfl, hx51⟩
          replace hxwl41 := Ex.tr hxwl41 hx51
          replace hE45 := Ex.tr hE45 hx51
          have hE52 := hx51
          refine RG.done ?_
          refine QW.an (fun _ => hE52) ?_
          refine AG.takeW 13 rfl (by kernel_rfl) (by kernel_rfl) rfl rfl rfl (fun _ => Ev.xor8 rfl rfl rfl (by have := divF_lt (q := q) hdv.re k (gm (cf R (k + (dg q - 1))) (gi (cf q (dg q - 1)))) j (k + j); have := gm_lt (gm (cf R (k + (dg q - 1))) (gi (cf q (dg q - 1)))) b; omega) (by have := divF_lt (q := q) hdv.re k (gm (cf R (k + (dg q - 1))) (gi (cf q (dg q - 1)))) j (k + j); have := gm_lt (gm (cf R (k + (dg q - 1))) (gi (cf q (dg q - 1)))) b; omega)) ?_
          refine AG.idxO _ 14 rfl (by kernel_rfl) (by kernel_rfl) rfl rfl rfl rfl rfl rfl Try.underlying22 sz_5 encN_len ((Own.ext hvr hE45)) (hM.get (by omega)) (fun g54 hg54 hBg54 hp53b hp53 => ?_)
          refine AG.only 15 rfl (by kernel_rfl) ?_
          refine RG.stOw0 (g := g54) (_) rfl rfl rfl rfl rfl sz_5 rfl (fun _ => rfl) (Own.ext hvr hE45) hg54 (hM.get (by omega)) rfl (rfl) (fun ws56 hwws56 hown57 => ?_)
          replace hvq := Own.far (Own.ext hvq hE45) hwws56 (fun e => (Sep.symm hsep25) _ hg54 e)
          replace hxwl41 := Wr.below hxwl41 hwws56 hBg54
          refine RG.done ?_
          refine QW.an (fun h => by simp at h) ?_
          refine AG.done (by kernel_rfl) ?_
          refine QW.sub (S' := [(1, _), (4, _), (5, _), (6, _), (8, _), (9, _), (10, _), (11, _), (12, _), (13, _), (64, _), (65, _), (66, _)]) ⟨rfl, rfl, rfl, rfl, rfl, rfl, rfl, rfl, rfl, rfl, rfl, rfl, rfl, trivial⟩ ?_
          refine QW.blockN ?_
          refine QW.then_ ?_
          refine CW.region ?_
          refine RG.vl rfl rfl rfl (Ev.addI rfl rfl rfl (by omega)) ?_
          refine RG.vl rfl rfl rfl (Ev.move rfl rfl) ?_
          refine RG.done ?_
          refine QW.round2 (j + 1) (_) ⟨rfl, trivial⟩ ⟨rfl, rfl, rfl, rfl, rfl, rfl, rfl, rfl, rfl, rfl, rfl, rfl, trivial⟩ ⟨⟨by omega, div_step hM (by omega) hbb, hvq, hown57⟩, hxwl41⟩ (by omega)
        · refine CW.exit ?_
          refine QW.thenExit ?_
          refine QW.thenExit ?_
          refine QW.blockHit ?_
          refine QW.blockN ?_
          refine QW.then_ ?_
          refine CW.region ?_
          refine RG.vl rfl rfl rfl (Ev.move rfl rfl) ?_
          refine RG.vl rfl rfl rfl (Ev.subI rfl rfl rfl (by omega)) ?_
          refine RG.vl rfl rfl rfl (Ev.assign rfl rfl) ?_
          refine RG.done ?_
          refine QW.round3 (k) (D.set k (gm (cf R (k + (dg q - 1))) (gi (cf q (dg q - 1))))) (M) ⟨congrArg (fun x => some (Value.int .i64 x)) (show ((k + 1 : Nat) : Int) - 1 - 1 = (k : Int) - 1 by omega), trivial⟩ ⟨rfl, rfl, rfl, rfl, rfl, rfl, rfl, rfl, rfl, trivial⟩ ⟨⟨by omega, div_row (by omega) hqe hdv (by omega) (by have e : j = dg q := (by omega); rw [e] at hM; exact hM), hvq, hvr⟩, hxwl41⟩ (by omega)
      · refine CW.exit ?_
        refine QW.thenExit ?_
        refine QW.thenExit ?_
        refine QW.blockHit ?_
        refine QW.then_ ?_
        refine CW.seq ?_
        have hRl := hdv.rl
        refine CW.region ?_
        refine RG.vl rfl rfl rfl (Ev.move rfl rfl) ?_
        refine RG.vl rfl rfl rfl (Ev.move rfl rfl) ?_
        refine RG.call rfl rfl rfl rfl rfl rfl rfl en_62 (trimmed_ret _ _ _ ((hvr.rdl encN_len)) (by omega)) ?_
        have hpre58 := (Ex.tr hR14 hxwl30)
        rintro vt58 w58 ⟨hown_t58, hx58⟩
        have hsep59 : Sep vt58 _ := Sep.of_new (Own.ext hown3 hxwl30) (fun k h => Own.ge hown_t58 h)
        have hsep60 : Sep vt58 _ := Sep.of_new hvq (fun k h => Own.ge hown_t58 h)
        have hsep61 : Sep vt58 _ := Sep.of_new hvr (fun k h => Own.ge hown_t58 h)
        replace hxwl30 := Ex.tr hxwl30 hx58
        have hE62 := hx58
        refine RG.vl rfl rfl rfl (Ev.assign rfl rfl) ?_
        refine RG.vl rfl rfl rfl (Ev.assign rfl rfl) ?_
        refine RG.vl rfl rfl rfl (Ev.assign rfl rfl) ?_
        refine RG.done ?_
        refine QW.then_ ?_
        refine CW.ret ?_
        refine QW.ret3 rfl rfl rfl rfl ?_
        have hB := (Ex.tr hR14 hxwl30)
        have hmE : divE p q = 0 := by unfold divE; rw [if_pos he0, if_neg (by omega)]
        obtain rfl : k1 = 0 := by omega
        obtain ⟨hdv1, hdv2⟩ := div_end (by omega) hdv
        exact ⟨_, _, D, tr R, by rw [hmE], (Own.ext hvq hE62).low (by have := hR14.size; omega), hown_t58.low (by have := hpre58.size; omega), (Sep.symm hsep60), fun _ => ⟨hdv1, hdv2, tr_tr R, hdv.de, hdv.re.tr⟩, fun h => absurd hmE h, hB⟩

end Go.Proofs.Ytjhgihgggofocaa
