/- Walks (FD). Written by program. -/
import Derived.Test.YtjaledljhiihmaaT
import Derived.Test.YtjaledljhiihmaaFW
namespace Go.Proofs.Ytjaledljhiihmaa
open Go.RowKit
set_option maxRecDepth 100000 in
set_option maxHeartbeats 1000000 in
theorem sum_ret (u v : Value) (p q : List Nat) (w : World) (hl : RdL w 1 encN u p) (hm : RdL w 1 encN v q) (hlen : p.length ≤ 100000) (hlen2 : q.length ≤ 100000) :
    Ret Try.prog 39 [u, v] w (fun v w' => ∃ r, v = .tuple #[r, .int .i64 (errL [p, q])] ∧ Own w' w.heap.size 5 1 encN r (if errL [p, q] = 0 then tr (pa p q) else []) ∧ Ex w w') := by
  obtain ⟨Au, Cu, rfl⟩ := hl.shape
  obtain ⟨Av, Cv, rfl⟩ := hm.shape
  have hB0 : Ex w w := Ex.rfl_ _
  refine Ret.of Try.func39 rfl Try.ntmps39 rfl ?_
  refine CW.seq ?_
  refine CW.region ?_
  refine RG.vl rfl rfl rfl (Ev.assign rfl rfl) ?_
  refine RG.vl rfl rfl rfl (Ev.assign rfl rfl) ?_
  refine RG.done ?_
  refine QW.then_ ?_
  refine CW.seq ?_
  refine CW.seq ?_
  refine CW.region ?_
  refine RG.vl rfl rfl rfl (Ev.move rfl rfl) ?_
  refine RG.vl rfl rfl rfl (Ev.move rfl rfl) ?_
  refine RG.litO (os := [.tmp 10, .tmp 11]) (enc := encV) ([_, _]) rfl rfl rfl rfl rfl rfl rfl Try.underlying76 inf_39 rfl rfl rfl rfl rfl encV_len rfl rfl (fun v1 wk2 hxwk2 hown3 hnew4 => ?_)
  have hE5 := hxwk2
  refine RG.call rfl rfl rfl rfl rfl rfl rfl en_44 (check2_ret _ _ _ _ _  _ ((hown3.rdl encV_len)) ((hl.ext hE5)) ((hm.ext hE5))) ?_
  rintro _ w6 ⟨rfl, hx6⟩
  replace hE5 := Ex.tr hE5 hx6
  have hE7 := hx6
  refine RG.vl rfl rfl rfl (Ev.assign rfl rfl) ?_
  refine RG.done ?_
  refine QW.then_ ?_
  refine CW.seq ?_
  refine CW.region ?_
  refine RG.vl rfl rfl rfl (Ev.move rfl rfl) ?_
  refine RG.vl rfl rfl rfl (Ev.neI rfl rfl rfl) ?_
  refine RG.done ?_
  refine QW.then_ ?_
  refine CW.condP rfl (fun hc8 => ?_) (fun hc8 => ?_)
  · refine CW.seq ?_
    refine CW.region ?_
    refine RG.vl rfl rfl rfl (Ev.move rfl rfl) ?_
    refine RG.vl rfl rfl rfl (Ev.assign rfl rfl) ?_
    refine RG.vl rfl rfl rfl (Ev.assign rfl rfl) ?_
    refine RG.done ?_
    refine QW.then_ ?_
    refine CW.ret ?_
    refine QW.thenRet ?_
    refine QW.ret2 rfl rfl rfl ?_
    have hB := (Ex.tr hB0 hE5)
    exact ⟨_, rfl, by rw [if_neg (by assumption)]; exact Own.nil_ _ _ _ _ _, hB⟩
  · refine CW.skip ?_
    refine QW.then_ ?_
    refine CW.seq ?_
    have he0 : errL [p, q] = 0 := by omega
    obtain ⟨⟨hp128, hpe⟩, hq128, hqe⟩ := errL2 he0
    have hdp := dg_len p
    have hdq := dg_len q
    refine CW.region ?_
    refine RG.vl rfl rfl rfl (Ev.move rfl rfl) ?_
    refine RG.vl rfl rfl rfl (Ev.lenL rfl rfl rfl Try.underlying39 ((hl.ext hE5))) ?_
    refine RG.vl rfl rfl rfl (Ev.move rfl rfl) ?_
    refine RG.vl rfl rfl rfl (Ev.lenL rfl rfl rfl Try.underlying39 ((hm.ext hE5))) ?_
    refine RG.vl rfl rfl rfl (Ev.max2 rfl rfl rfl rfl) ?_
    replace hl := (hl.ext hE5)
    replace hm := (hm.ext hE5)
    replace hown3 := (Own.ext hown3 hE7)
    have hR12 := (Ex.tr hB0 hE5)
    have hR13 := hE7
    refine RG.makeO (m := max p.length q.length) (enc := encN) 0 rfl rfl rfl rfl rfl rfl (by omega) Try.underlying39 inf_5 encN_len rfl rfl (by omega) (by simp only [maxLen]; omega) (fun sv wk9 hxwk9 hown10 hnew11 => ?_)
    have hsep14 : Sep sv _ := Sep.of_new hown3 hnew11
    have hE15 := hxwk9
    refine RG.vl rfl rfl rfl (Ev.assign rfl rfl) ?_
    refine RG.done ?_
    refine QW.sub (S' := [(0, _), (1, _), (4, _), (5, _), (7, _)]) ⟨rfl, rfl, rfl, rfl, rfl, trivial⟩ ?_
    refine QW.then_ ?_
    refine CW.seq ?_
    refine CW.region ?_
    refine RG.vl rfl rfl rfl (Ev.move rfl rfl) ?_
    refine RG.vl rfl rfl rfl (Ev.move rfl rfl) ?_
    refine RG.copyO rfl rfl rfl rfl rfl rfl rfl Try.underlying39 sz_5 encN_len (fun _ => rfl) hown10 (hl.ext hE15) (by rw [List.length_replicate]; omega) (fun wy16 hown17 hgr18 => ?_)
    replace hE15 := own_block hown10 hE15 hgr18 (Nat.le_refl _) hE15.size
    refine RG.done ?_
    refine QW.then_ ?_
    refine CW.seq ?_
    refine CW.seq ?_
    refine CW.region ?_
    refine RG.vl rfl rfl rfl (Ev.move rfl rfl) ?_
    refine RG.vl rfl rfl rfl (Ev.lenL rfl rfl rfl Try.underlying39 ((hm.ext hE15))) ?_
    refine RG.vl rfl rfl rfl (Ev.move rfl rfl) ?_
    refine RG.done ?_
    refine QW.then_ ?_
    refine CW.block ?_
    refine CW.loop2 [(4, _), (5, _), (7, _), (26, _), (27, _)] ⟨rfl, rfl, rfl, rfl, rfl, trivial⟩ (fun (i : Nat) (L : List Nat) => [(28, .int .i64 i)]) (fun i L w' => (i ≤ q.length ∧ Cfs L (max p.length q.length) (sumF p q i) ∧ Own w' w6.heap.size 5 1 encN sv L) ∧ Ex w6 w') (fun i L => q.length - i) (0) (_) ⟨rfl, trivial⟩ ⟨⟨Nat.zero_le _, sum_start p q, hown17⟩, hE15⟩ ?_
    rintro i L wl19 ⟨⟨hi, hL, hown⟩, hxwl19⟩
    refine CW.sub (S' := [(28, _), (4, _), (5, _), (7, _), (26, _), (27, _)]) ⟨rfl, rfl, rfl, rfl, rfl, rfl, trivial⟩ ?_
    refine CW.seq ?_
    refine CW.region ?_
    refine RG.vl rfl rfl rfl (Ev.lss rfl rfl rfl) ?_
    refine RG.done ?_
    refine QW.then_ ?_
    refine CW.seq ?_
    refine CW.condP rfl (fun hc20 => ?_) (fun hc20 => ?_)
    · refine CW.skip ?_
      refine QW.then_ ?_
      refine CW.seq ?_
      refine CW.block ?_
      refine CW.seq ?_
      obtain ⟨c, hc⟩ : ∃ c, q[i]? = some c := ⟨_, List.getElem?_eq_getElem (by omega)⟩
      have hc64 := hqe.get hc
      have hF := sumF_lt hpe hqe i i
      have hLl := hL.1
      refine CW.region ?_
      refine RG.vl rfl rfl rfl (Ev.move rfl rfl) ?_
      refine RG.idxL rfl rfl rfl rfl rfl rfl Try.underlying39 sz_5 ((hm.ext hxwl19)) (hc) (fun p21 hp21b hp21 => ?_)
      refine RG.vl rfl rfl rfl (Ev.ld0 rfl rfl Try.underlying5 rfl (hp21) (rfl)) ?_
      refine RG.vl rfl rfl rfl (Ev.assign rfl rfl) ?_
      refine RG.vl rfl rfl rfl (Ev.assign rfl rfl) ?_
      refine RG.done ?_
      refine QW.then_ ?_
      refine CW.region ?_
      refine RG.vl rfl rfl rfl (Ev.move rfl rfl) ?_
      refine RG.vl rfl rfl rfl (Ev.move rfl rfl) ?_
      refine RG.idxO rfl rfl rfl rfl rfl rfl Try.underlying39 sz_5 encN_len (hown) (hL.get (by omega)) (fun g23 hg23 hBg23 hp22b hp22 => ?_)
      refine RG.vl rfl rfl rfl (Ev.ld0 rfl rfl Try.underlying5 rfl (hp22) (rfl)) ?_
      refine RG.vl rfl rfl rfl (Ev.move rfl rfl) ?_
      refine RG.vl rfl rfl rfl (Ev.xor8 rfl rfl rfl (by omega) (by omega)) ?_
      refine RG.idxO rfl rfl rfl rfl rfl rfl Try.underlying39 sz_5 encN_len (hown) (hL.get (by omega)) (fun g25 hg25 hBg25 hp24b hp24 => ?_)
      refine RG.stOw0 (g := g25) (_) rfl rfl rfl rfl rfl sz_5 rfl (fun _ => rfl) hown hg25 (hL.get (by omega)) rfl (rfl) (fun ws26 hwws26 hown27 => ?_)
      replace hxwl19 := Wr.below hxwl19 hwws26 hBg25
      refine RG.done ?_
      refine QW.blockN ?_
      refine QW.then_ ?_
      refine CW.region ?_
      refine RG.vl rfl rfl rfl (Ev.addI rfl rfl rfl (by omega)) ?_
      refine RG.vl rfl rfl rfl (Ev.move rfl rfl) ?_
      refine RG.done ?_
      refine QW.sub (S' := [(4, _), (5, _), (7, _), (26, _), (27, _), (28, _)]) ⟨rfl, rfl, rfl, rfl, rfl, rfl, trivial⟩ ?_
      refine QW.round2 (i + 1) (_) ⟨rfl, trivial⟩ ⟨rfl, rfl, rfl, rfl, rfl, trivial⟩ ⟨⟨by omega, sum_step hL (by omega) hc, hown27⟩, hxwl19⟩ (by omega)
    · refine CW.exit ?_
      refine QW.thenExit ?_
      refine QW.thenExit ?_
      refine QW.blockHit ?_
      refine QW.then_ ?_
      refine CW.seq ?_
      have hLl := hL.1
      refine CW.region ?_
      refine RG.vl rfl rfl rfl (Ev.move rfl rfl) ?_
      refine RG.call rfl rfl rfl rfl rfl rfl rfl en_52 (trimmed_ret _ _ _ ((hown.rdl encN_len)) (by omega)) ?_
      have hpre28 := (Ex.tr hR12 hxwl19)
      rintro vt28 w28 ⟨hown_t28, hx28⟩
      have hsep29 : Sep vt28 _ := Sep.of_new (Own.ext hown3 hxwl19) (fun k h => Own.ge hown_t28 h)
      have hsep30 : Sep vt28 _ := Sep.of_new hown (fun k h => Own.ge hown_t28 h)
      replace hxwl19 := Ex.tr hxwl19 hx28
      have hE31 := hx28
      refine RG.vl rfl rfl rfl (Ev.assign rfl rfl) ?_
      refine RG.vl rfl rfl rfl (Ev.assign rfl rfl) ?_
      refine RG.done ?_
      refine QW.then_ ?_
      refine CW.ret ?_
      refine QW.ret2 rfl rfl rfl ?_
      have hB := (Ex.tr hR12 hxwl19)
      exact ⟨_, by rw [he0], by rw [if_pos he0, ← sum_end (by have e : i = q.length := (by omega); rw [e] at hL; exact hL)]; exact hown_t28.low (by have := hpre28.size; omega), hB⟩

set_option maxRecDepth 100000 in
set_option maxHeartbeats 1000000 in
theorem gather_ret (i a b c gP gT g B : Nat) (sv : Value) (L : List Nat) (w : World) (hP : Blk w gP 39 [sv]) (hT : Blk w gT 64 [.pointer (some ⟨g, 0, none⟩)]) (hb : Blk w g 69 tabs) (hown : Own w B 5 1 encN sv L) (hk : L[i]? = some c) (hc : c < 64) (ha : a < 64) (hb2 : b < 64) :
    Ret Try.prog 54 [.int .i64 (i : Int), .int .u8 (a : Int), .int .u8 (b : Int), .pointer (some ⟨gP, 0, none⟩), .pointer (some ⟨gT, 0, none⟩)] w (fun _ w' => Own w' B 5 1 encN sv (L.set i (c ^^^ gm a b)) ∧ w.grownBy w' sv.ownBlock) := by
  have hB0 : Ex w w := Ex.rfl_ _
  refine Ret.of Try.func54 rfl Try.ntmps54 rfl ?_
  refine CW.draw [10] (.ex) 11 rfl mixed (fun wd1 hxwd1 => ?_)
  have hE2 := hxwd1
  refine AG.take 0 rfl (by kernel_rfl) (by kernel_rfl) rfl rfl rfl (fun wq hq => Ev.ld0 rfl rfl Try.underlying39 rfl (((hP.ext hE2).ext hq).cells) (rfl)) ?_
  refine AG.takeW 1 rfl (by kernel_rfl) (by kernel_rfl) rfl rfl rfl (fun _ => Ev.move rfl rfl) ?_
  refine AG.idxO _ 2 rfl (by kernel_rfl) (by kernel_rfl) rfl rfl rfl rfl rfl rfl Try.underlying39 sz_5 encN_len ((Own.ext hown hE2)) (hk) (fun g4 hg4 hBg4 hp3b hp3 => ?_)
  refine AG.take 3 rfl (by kernel_rfl) (by kernel_rfl) rfl rfl rfl (fun wq hq => Ev.ld0 rfl rfl Try.underlying5 rfl (hp3.ext hq hp3b) (rfl)) ?_
  refine AG.take 4 rfl (by kernel_rfl) (by kernel_rfl) rfl rfl rfl (fun wq hq => Ev.ld0 rfl rfl Try.underlying64 rfl (((hT.ext hE2).ext hq).cells) (rfl)) ?_
  refine AG.takeW 5 rfl (by kernel_rfl) (by kernel_rfl) rfl rfl rfl (fun _ => Ev.move rfl rfl) ?_
  refine AG.takeW 6 rfl (by kernel_rfl) (by kernel_rfl) rfl rfl rfl (fun _ => Ev.move rfl rfl) ?_
  refine AG.only 7 rfl (by kernel_rfl) ?_
  refine RG.call rfl rfl rfl rfl rfl rfl rfl en_46 (mul_ret _ _ _ _ (hb.ext hE2) (by exact ha) (by exact hb2)) ?_
  rintro _ w6 ⟨rfl, hx6⟩
  replace hE2 := Ex.tr hE2 hx6
  have hE7 := hx6
  refine RG.done ?_
  refine QW.an (fun _ => hE7) ?_
  refine AG.takeW 8 rfl (by kernel_rfl) (by kernel_rfl) rfl rfl rfl (fun _ => Ev.xor8 rfl rfl rfl (by have := gm_lt a b; omega) (by have := gm_lt a b; omega)) ?_
  refine AG.idxO _ 9 rfl (by kernel_rfl) (by kernel_rfl) rfl rfl rfl rfl rfl rfl Try.underlying39 sz_5 encN_len ((Own.ext hown hE2)) (hk) (fun g9 hg9 hBg9 hp8b hp8 => ?_)
  refine AG.only 10 rfl (by kernel_rfl) ?_
  refine RG.stOw0 (g := g9) (_) rfl rfl rfl rfl rfl sz_5 rfl (fun _ => rfl) (Own.ext hown hE2) hg9 (hk) rfl (rfl) (fun ws11 hwws11 hown12 => ?_)
  have hpreW := (Ex.tr hB0 hE2)
  refine RG.done ?_
  refine QW.an (fun h => by simp at h) ?_
  refine AG.done (by kernel_rfl) ?_
  refine QW.end0 rfl ?_
  exact ⟨hown12, grown_of hpreW hwws11 hg9⟩

set_option maxRecDepth 100000 in
set_option maxHeartbeats 1000000 in
theorem product_ret (u v : Value) (p q : List Nat) (w : World) (hl : RdL w 1 encN u p) (hm : RdL w 1 encN v q) (hlen : p.length ≤ 100000) (hlen2 : q.length ≤ 100000) :
    Ret Try.prog 37 [u, v] w (fun v w' => ∃ r, v = .tuple #[r, .int .i64 (mulE p q)] ∧ Own w' w.heap.size 5 1 encN r (if mulE p q = 0 then tr (pm p q) else []) ∧ Ex w w') := by
  obtain ⟨Au, Cu, rfl⟩ := hl.shape
  obtain ⟨Av, Cv, rfl⟩ := hm.shape
  have hB0 : Ex w w := Ex.rfl_ _
  refine Ret.of Try.func37 rfl Try.ntmps37 rfl ?_
  refine CW.seq ?_
  refine CW.region ?_
  refine RG.vl rfl rfl rfl (Ev.assign rfl rfl) ?_
  refine RG.vl rfl rfl rfl (Ev.assign rfl rfl) ?_
  refine RG.done ?_
  refine QW.then_ ?_
  refine CW.seq ?_
  refine CW.seq ?_
  refine CW.region ?_
  refine RG.vl rfl rfl rfl (Ev.move rfl rfl) ?_
  refine RG.vl rfl rfl rfl (Ev.move rfl rfl) ?_
  refine RG.litO (os := [.tmp 16, .tmp 17]) (enc := encV) ([_, _]) rfl rfl rfl rfl rfl rfl rfl Try.underlying76 inf_39 rfl rfl rfl rfl rfl encV_len rfl rfl (fun v1 wk2 hxwk2 hown3 hnew4 => ?_)
  have hE5 := hxwk2
  refine RG.call rfl rfl rfl rfl rfl rfl rfl en_44 (check2_ret _ _ _ _ _  _ ((hown3.rdl encV_len)) ((hl.ext hE5)) ((hm.ext hE5))) ?_
  rintro _ w6 ⟨rfl, hx6⟩
  replace hE5 := Ex.tr hE5 hx6
  have hE7 := hx6
  refine RG.vl rfl rfl rfl (Ev.assign rfl rfl) ?_
  refine RG.done ?_
  refine QW.then_ ?_
  refine CW.seq ?_
  refine CW.region ?_
  refine RG.vl rfl rfl rfl (Ev.move rfl rfl) ?_
  refine RG.vl rfl rfl rfl (Ev.neI rfl rfl rfl) ?_
  refine RG.done ?_
  refine QW.then_ ?_
  refine CW.condP rfl (fun hc8 => ?_) (fun hc8 => ?_)
  · refine CW.seq ?_
    refine CW.region ?_
    refine RG.vl rfl rfl rfl (Ev.move rfl rfl) ?_
    refine RG.vl rfl rfl rfl (Ev.assign rfl rfl) ?_
    refine RG.vl rfl rfl rfl (Ev.assign rfl rfl) ?_
    refine RG.done ?_
    refine QW.then_ ?_
    refine CW.ret ?_
    refine QW.thenRet ?_
    refine QW.ret2 rfl rfl rfl ?_
    have hB := (Ex.tr hB0 hE5)
    have hmE : mulE p q = errL [p, q] := by unfold mulE; rw [if_neg (by assumption)]
    exact ⟨_, by rw [hmE], by rw [if_neg (by rw [hmE]; assumption)]; exact Own.nil_ _ _ _ _ _, hB⟩
  · refine CW.skip ?_
    refine QW.then_ ?_
    refine CW.seq ?_
    have he0 : errL [p, q] = 0 := by omega
    obtain ⟨⟨hp128, hpe⟩, hq128, hqe⟩ := errL2 he0
    have hdp := dg_len p
    have hdq := dg_len q
    refine CW.region ?_
    refine RG.vl rfl rfl rfl (Ev.move rfl rfl) ?_
    refine RG.call rfl rfl rfl rfl rfl rfl rfl en_50 (degree_ret _ _ _ ((hl.ext hE5)) (by first | omega | (rw [List.length_replicate]; omega))) ?_
    rintro _ w9 ⟨rfl, hx9⟩
    replace hE5 := Ex.tr hE5 hx9
    replace hE7 := Ex.tr hE7 hx9
    have hE10 := hx9
    refine RG.vl rfl rfl rfl (Ev.move rfl rfl) ?_
    refine RG.call rfl rfl rfl rfl rfl rfl rfl en_50 (degree_ret _ _ _ ((hm.ext hE5)) (by first | omega | (rw [List.length_replicate]; omega))) ?_
    rintro _ w11 ⟨rfl, hx11⟩
    replace hE5 := Ex.tr hE5 hx11
    replace hE7 := Ex.tr hE7 hx11
    replace hE10 := Ex.tr hE10 hx11
    have hE12 := hx11
    refine RG.vl rfl rfl rfl (Ev.assign rfl rfl) ?_
    refine RG.vl rfl rfl rfl (Ev.assign rfl rfl) ?_
    refine RG.done ?_
    refine QW.sub (S' := [(0, _), (1, _), (4, _), (5, _), (7, _), (8, _)]) ⟨rfl, rfl, rfl, rfl, rfl, rfl, trivial⟩ ?_
    refine QW.then_ ?_
    refine CW.seq ?_
    refine CW.seq ?_
    refine CW.region ?_
    refine RG.vl rfl rfl rfl (Ev.move rfl rfl) ?_
    refine RG.vl rfl rfl rfl (Ev.lss rfl rfl rfl) ?_
    refine RG.vl rfl rfl rfl (Ev.move rfl rfl) ?_
    refine RG.split (d := 29) rfl (fun hg13 => ?_) (fun hg13 => ?_)
    · refine RG.pass rfl rfl rfl ?_
      refine RG.pass rfl rfl rfl ?_
      refine RG.vl rfl rfl rfl (Ev.pickT rfl rfl rfl) ?_
      refine RG.done ?_
      refine QW.then_ ?_
      refine CW.condT rfl ?_
      refine CW.seq ?_
      refine CW.region ?_
      refine RG.vl rfl rfl rfl (Ev.assign rfl rfl) ?_
      refine RG.vl rfl rfl rfl (Ev.assign rfl rfl) ?_
      refine RG.done ?_
      refine QW.then_ ?_
      refine CW.ret ?_
      refine QW.thenRet ?_
      refine QW.ret2 rfl rfl rfl ?_
      have hB := (Ex.tr hB0 hE5)
      have hmE : mulE p q = 0 := by unfold mulE; rw [if_pos he0, if_neg (by omega)]
      exact ⟨_, by rw [hmE], by rw [if_pos hmE, tr_nil (pm_zero p q (by omega))]; exact Own.nil_ _ _ _ _ _, hB⟩
    · refine RG.vl rfl rfl rfl (Ev.move rfl rfl) ?_
      refine RG.vl rfl rfl rfl (Ev.lss rfl rfl rfl) ?_
      refine RG.vl rfl rfl rfl (Ev.pickF rfl rfl rfl) ?_
      refine RG.done ?_
      refine QW.then_ ?_
      refine CW.condP rfl (fun hc14 => ?_) (fun hc14 => ?_)
      · refine CW.seq ?_
        refine CW.region ?_
        refine RG.vl rfl rfl rfl (Ev.assign rfl rfl) ?_
        refine RG.vl rfl rfl rfl (Ev.assign rfl rfl) ?_
        refine RG.done ?_
        refine QW.then_ ?_
        refine CW.ret ?_
        refine QW.thenRet ?_
        refine QW.ret2 rfl rfl rfl ?_
        have hB := (Ex.tr hB0 hE5)
        have hmE : mulE p q = 0 := by unfold mulE; rw [if_pos he0, if_neg (by omega)]
        exact ⟨_, by rw [hmE], by rw [if_pos hmE, tr_nil (pm_zero p q (by omega))]; exact Own.nil_ _ _ _ _ _, hB⟩
      · refine CW.skip ?_
        refine QW.then_ ?_
        refine CW.seq ?_
        refine CW.seq ?_
        refine CW.region ?_
        refine RG.vl rfl rfl rfl (Ev.move rfl rfl) ?_
        refine RG.vl rfl rfl rfl (Ev.move rfl rfl) ?_
        refine RG.vl rfl rfl rfl (Ev.addI rfl rfl rfl (by omega)) ?_
        refine RG.vl rfl rfl rfl (Ev.addI rfl rfl rfl (by omega)) ?_
        refine RG.vl rfl rfl rfl (Ev.gtr rfl rfl rfl) ?_
        refine RG.done ?_
        refine QW.then_ ?_
        refine CW.condP rfl (fun hc15 => ?_) (fun hc15 => ?_)
        · refine CW.seq ?_
          refine CW.region ?_
          refine RG.vl rfl rfl rfl (Ev.assign rfl rfl) ?_
          refine RG.vl rfl rfl rfl (Ev.assign rfl rfl) ?_
          refine RG.done ?_
          refine QW.then_ ?_
          refine CW.ret ?_
          refine QW.thenRet ?_
          refine QW.ret2 rfl rfl rfl ?_
          have hB := (Ex.tr hB0 hE5)
          have hmE : mulE p q = 5 := by unfold mulE; rw [if_pos he0, if_pos (by omega)]
          exact ⟨_, by rw [hmE], by rw [if_neg (by rw [hmE]; decide)]; exact Own.nil_ _ _ _ _ _, hB⟩
        · refine CW.skip ?_
          refine QW.then_ ?_
          refine CW.seq ?_
          refine CW.region ?_
          refine RG.call rfl rfl rfl rfl rfl rfl rfl en_45 (newTables_ret _) ?_
          rintro _ w16 ⟨gt16, rfl, hge16, ht16, hx16⟩
          replace hE5 := Ex.tr hE5 hx16
          replace hE7 := Ex.tr hE7 hx16
          replace hE10 := Ex.tr hE10 hx16
          replace hE12 := Ex.tr hE12 hx16
          have hE17 := hx16
          refine RG.local_ rfl rfl rfl rfl (fun _ => rfl) rfl rfl (fun _ => rfl) inf_64 rfl rfl rfl (fun gT2 w18 egT2 hx18 hb18 => ?_)
          have hsb19 := fun e => sep_new (g := gT2) (Own.ext hown3 hE7) egT2 e
          have hle20 : w.heap.size ≤ gT2 := by have := hE5.size; omega
          have hle21 : wk2.heap.size ≤ gT2 := by have := hE7.size; omega
          have hle22 : w6.heap.size ≤ gT2 := by have := hE10.size; omega
          have hle23 : w9.heap.size ≤ gT2 := by have := hE12.size; omega
          have hle24 : w11.heap.size ≤ gT2 := by have := hE17.size; omega
          have hle25 : w16.heap.size ≤ gT2 := by have := (Ex.rfl_ w16).size; omega
          have hlt26 : gt16 < gT2 := by have := Blk.lt ht16; omega
          replace hE5 := Ex.tr hE5 hx18
          replace hE7 := Ex.tr hE7 hx18
          replace hE10 := Ex.tr hE10 hx18
          replace hE12 := Ex.tr hE12 hx18
          replace hE17 := Ex.tr hE17 hx18
          have hE27 := hx18
          refine RG.done ?_
          refine QW.then_ ?_
          refine CW.seq ?_
          refine CW.region ?_
          refine RG.vl rfl rfl rfl (Ev.move rfl rfl) ?_
          refine RG.vl rfl rfl rfl (Ev.move rfl rfl) ?_
          refine RG.vl rfl rfl rfl (Ev.addI rfl rfl rfl (by omega)) ?_
          refine RG.vl rfl rfl rfl (Ev.addI rfl rfl rfl (by omega)) ?_
          replace hl := (hl.ext hE5)
          replace hm := (hm.ext hE5)
          replace hown3 := (Own.ext hown3 hE7)
          replace ht16 := (ht16.ext hE27)
          have hR31 := (Ex.tr hB0 hE5)
          have hR32 := hE7
          have hR33 := hE10
          have hR34 := hE12
          have hR35 := hE17
          refine RG.makeO (m := dg p + dg q - 1) (enc := encN) 0 rfl rfl rfl rfl rfl rfl (by omega) Try.underlying39 inf_5 encN_len rfl rfl (by omega) (by simp only [maxLen]; omega) (fun sv wk28 hxwk28 hown29 hnew30 => ?_)
          have hsep36 : Sep sv _ := Sep.of_new hown3 hnew30
          have hE37 := hxwk28
          obtain ⟨Asv, Csv, rfl⟩ := hown29.shape
          refine RG.local_ rfl rfl rfl rfl (fun _ => rfl) rfl rfl (fun _ => rfl) inf_39 rfl rfl rfl (fun gP w38 egP hx38 hb38 => ?_)
          have hsb39 := fun e => sep_new (g := gP) (Own.ext hown3 hE37) egP e
          have hsb40 := fun e => sep_new (g := gP) hown29 egP e
          have hle41 : w18.heap.size ≤ gP := by have := hE37.size; omega
          have hle42 : wk28.heap.size ≤ gP := by have := (Ex.rfl_ wk28).size; omega
          have hlt43 : gt16 < gP := by have := Blk.lt (ht16.ext hE37); omega
          have hlt44 : gT2 < gP := by have := Blk.lt (hb18.ext hE37); omega
          replace hE37 := Ex.tr hE37 hx38
          have hE45 := hx38
          refine RG.done ?_
          refine QW.sub (S' := [(0, _), (1, _), (4, _), (5, _), (7, _), (8, _), (9, _), (10, _)]) ⟨rfl, rfl, rfl, rfl, rfl, rfl, rfl, rfl, trivial⟩ ?_
          refine QW.then_ ?_
          refine CW.seq ?_
          refine CW.region ?_
          refine RG.vl rfl rfl rfl (Ev.mkFn rfl rfl rfl rfl rfl) ?_
          refine RG.vl rfl rfl rfl (Ev.assign rfl rfl) ?_
          refine RG.done ?_
          refine QW.then_ ?_
          refine CW.seq ?_
          refine CW.seq ?_
          have htp : ((p.take (dg p)).drop 0).length = dg p := by rw [List.length_drop, List.length_take]; omega
          have htq : ((q.take (dg q)).drop 0).length = dg q := by rw [List.length_drop, List.length_take]; omega
          refine CW.region ?_
          refine RG.vl rfl rfl rfl (Ev.move rfl rfl) ?_
          refine RG.vl rfl rfl rfl (Ev.move rfl rfl) ?_
          refine RG.vl rfl rfl rfl ((Ev.addI rfl rfl rfl (by omega)).conv (congrArg (Value.int .i64) (show (dg p : Int) - 1 + 1 = (dg p : Int) by omega))) ?_
          refine RG.sliceL (L := 0) (H := dg p) _ rfl rfl rfl rfl rfl Try.underlying39 sz_5 (hl) (.inl ⟨rfl, rfl⟩) (.inr ⟨_, _, _, rfl, rfl, by omega⟩) (by omega) (by omega) (fun v46 hrv46 => ?_)
          refine RG.vl rfl rfl rfl (Ev.lenL rfl rfl rfl Try.underlying39 ((hrv46.ext hE37))) ?_
          refine RG.vl rfl rfl rfl (Ev.move rfl rfl) ?_
          refine RG.done ?_
          refine QW.then_ ?_
          refine CW.block ?_
          refine CW.loop2 [(1, _), (4, _), (5, _), (8, _), (10, _), (11, _), (48, _), (49, _)] ⟨rfl, rfl, rfl, rfl, rfl, rfl, rfl, rfl, trivial⟩ (fun (i : Nat) (L : List Nat) => [(50, .int .i64 i)]) (fun i L w' => (i ≤ dg p ∧ Cfs L (dg p + dg q - 1) (fun k => cf (pm (p.take i) q) k) ∧ Own w' w18.heap.size 5 1 encN (.slice Asv (List.replicate (dg p + dg q - 1) 0).length Csv) L ∧ Blk w' gP 39 [(.slice Asv (List.replicate (dg p + dg q - 1) 0).length Csv)]) ∧ Ex w18 w') (fun i L => dg p - i) (0) (List.replicate (dg p + dg q - 1) 0) ⟨rfl, trivial⟩ ⟨⟨Nat.zero_le _, (cfs_zero _).congr (fun k _ => by rw [List.take_zero]; exact (cf_nil k).symm), (Own.ext hown29 hE45), hb38⟩, hE37⟩ ?_
          rintro i L wl47 ⟨⟨hi, hL, hown, hP⟩, hxwl47⟩
          refine CW.sub (S' := [(50, _), (1, _), (4, _), (5, _), (8, _), (10, _), (11, _), (48, _), (49, _)]) ⟨rfl, rfl, rfl, rfl, rfl, rfl, rfl, rfl, rfl, trivial⟩ ?_
          refine CW.seq ?_
          refine CW.region ?_
          refine RG.vl rfl rfl rfl (Ev.lss rfl rfl rfl) ?_
          refine RG.done ?_
          refine QW.then_ ?_
          refine CW.seq ?_
          refine CW.condP rfl (fun hc48 => ?_) (fun hc48 => ?_)
          · refine CW.skip ?_
            refine QW.then_ ?_
            refine CW.seq ?_
            refine CW.block ?_
            refine CW.seq ?_
            obtain ⟨a, ha⟩ : ∃ c, p[i]? = some c := ⟨_, List.getElem?_eq_getElem (by omega)⟩
            have ha' : ((p.take (dg p)).drop 0)[i]? = some a := by rw [List.getElem?_drop, List.getElem?_take, Nat.zero_add, if_pos (by omega)]; exact ha
            have ha64 := hpe.get ha
            refine CW.region ?_
            refine RG.vl rfl rfl rfl (Ev.move rfl rfl) ?_
            refine RG.idxL rfl rfl rfl rfl rfl rfl Try.underlying39 sz_5 ((hrv46.ext hxwl47)) (ha') (fun p49 hp49b hp49 => ?_)
            refine RG.vl rfl rfl rfl (Ev.ld0 rfl rfl Try.underlying5 rfl (hp49) (rfl)) ?_
            refine RG.vl rfl rfl rfl (Ev.assign rfl rfl) ?_
            refine RG.vl rfl rfl rfl (Ev.assign rfl rfl) ?_
            refine RG.done ?_
            refine QW.then_ ?_
            refine CW.seq ?_
            refine CW.region ?_
            refine RG.vl rfl rfl rfl (Ev.move rfl rfl) ?_
            refine RG.vl rfl rfl rfl (Ev.move rfl rfl) ?_
            refine RG.vl rfl rfl rfl ((Ev.addI rfl rfl rfl (by omega)).conv (congrArg (Value.int .i64) (show (dg q : Int) - 1 + 1 = (dg q : Int) by omega))) ?_
            refine RG.sliceL (L := 0) (H := dg q) _ rfl rfl rfl rfl rfl Try.underlying39 sz_5 (hm) (.inl ⟨rfl, rfl⟩) (.inr ⟨_, _, _, rfl, rfl, by omega⟩) (by omega) (by omega) (fun v50 hrv50 => ?_)
            refine RG.vl rfl rfl rfl (Ev.lenL rfl rfl rfl Try.underlying39 ((hrv50.ext hxwl47))) ?_
            refine RG.vl rfl rfl rfl (Ev.move rfl rfl) ?_
            refine RG.done ?_
            refine QW.then_ ?_
            refine CW.block ?_
            refine CW.loop2 [(1, _), (4, _), (5, _), (8, _), (10, _), (11, _), (12, _), (13, _), (48, _), (49, _), (50, _), (58, _), (59, _)] ⟨rfl, rfl, rfl, rfl, rfl, rfl, rfl, rfl, rfl, rfl, rfl, rfl, rfl, trivial⟩ (fun (j : Nat) (M : List Nat) => [(60, .int .i64 j)]) (fun j M w' => (j ≤ dg q ∧ Cfs M (dg p + dg q - 1) (pmF p q i a j) ∧ Own w' w18.heap.size 5 1 encN (.slice Asv (List.replicate (dg p + dg q - 1) 0).length Csv) M ∧ Blk w' gP 39 [(.slice Asv (List.replicate (dg p + dg q - 1) 0).length Csv)]) ∧ Ex w18 w') (fun j M => dg q - j) (0) (L) ⟨rfl, trivial⟩ ⟨⟨Nat.zero_le _, hL.congr (fun k _ => (pmF_zero p q i a k).symm), hown, hP⟩, hxwl47⟩ ?_
            rintro j M wl51 ⟨⟨hj, hM, hown, hP⟩, hxwl51⟩
            refine CW.sub (S' := [(60, _), (1, _), (4, _), (5, _), (8, _), (10, _), (11, _), (12, _), (13, _), (48, _), (49, _), (50, _), (58, _), (59, _)]) ⟨rfl, rfl, rfl, rfl, rfl, rfl, rfl, rfl, rfl, rfl, rfl, rfl, rfl, rfl, trivial⟩ ?_
            refine CW.seq ?_
            refine CW.region ?_
            refine RG.vl rfl rfl rfl (Ev.lss rfl rfl rfl) ?_
            refine RG.done ?_
            refine QW.then_ ?_
            refine CW.seq ?_
            refine CW.condP rfl (fun hc52 => ?_) (fun hc52 => ?_)
            · refine CW.skip ?_
              refine QW.then_ ?_
              refine CW.seq ?_
              refine CW.block ?_
              refine CW.seq ?_
              obtain ⟨b, hbb⟩ : ∃ c, q[j]? = some c := ⟨_, List.getElem?_eq_getElem (by omega)⟩
              have hbb' : ((q.take (dg q)).drop 0)[j]? = some b := by rw [List.getElem?_drop, List.getElem?_take, Nat.zero_add, if_pos (by omega)]; exact hbb
              have hb64 := hqe.get hbb
              have hMl := hM.1
              refine CW.region ?_
              refine RG.vl rfl rfl rfl (Ev.move rfl rfl) ?_
              refine RG.idxL rfl rfl rfl rfl rfl rfl Try.underlying39 sz_5 ((hrv50.ext hxwl51)) (hbb') (fun p53 hp53b hp53 => ?_)
              refine RG.vl rfl rfl rfl (Ev.ld0 rfl rfl Try.underlying5 rfl (hp53) (rfl)) ?_
              refine RG.vl rfl rfl rfl (Ev.assign rfl rfl) ?_
              refine RG.vl rfl rfl rfl (Ev.assign rfl rfl) ?_
              refine RG.done ?_
              refine QW.then_ ?_
              refine CW.region ?_
              refine RG.vl rfl rfl rfl (Ev.move rfl rfl) ?_
              refine RG.vl rfl rfl rfl (Ev.move rfl rfl) ?_
              refine RG.vl rfl rfl rfl (Ev.move rfl rfl) ?_
              refine RG.vl rfl rfl rfl ((Ev.addI rfl rfl rfl (by omega)).conv (congrArg (Value.int .i64) (Int.natCast_add i j).symm)) ?_
              refine RG.vl rfl rfl rfl (Ev.move rfl rfl) ?_
              refine RG.vl rfl rfl rfl (Ev.move rfl rfl) ?_
              refine RG.call rfl rfl rfl rfl rfl rfl rfl en_54 (gather_ret (i + j) a b _ gP gT2 _ _ (.slice Asv (List.replicate (dg p + dg q - 1) 0).length Csv) M _ hP (hb18.ext hxwl51) (ht16.ext hxwl51) hown (hM.get (by omega)) (pmF_lt _ _ _ _ _ _) ha64 hb64) ?_
              rintro _ w54 ⟨hown55, hgr56⟩
              have hb57 := Blk.grown hP hgr56 (fun e => hsb40 e.symm)
              replace hxwl51 := own_block hown hxwl51 hgr56 (Nat.le_refl _) hxwl51.size
              refine RG.done ?_
              refine QW.blockN ?_
              refine QW.then_ ?_
              refine CW.region ?_
              refine RG.vl rfl rfl rfl (Ev.addI rfl rfl rfl (by omega)) ?_
              refine RG.vl rfl rfl rfl (Ev.move rfl rfl) ?_
              refine RG.done ?_
              refine QW.sub (S' := [(1, _), (4, _), (5, _), (8, _), (10, _), (11, _), (12, _), (13, _), (48, _), (49, _), (50, _), (58, _), (59, _), (60, _)]) ⟨rfl, rfl, rfl, rfl, rfl, rfl, rfl, rfl, rfl, rfl, rfl, rfl, rfl, rfl, trivial⟩ ?_
              refine QW.round2 (j + 1) (_) ⟨rfl, trivial⟩ ⟨rfl, rfl, rfl, rfl, rfl, rfl, rfl, rfl, rfl, rfl, rfl, rfl, rfl, trivial⟩ ⟨⟨by omega, pm_step hM (by omega) hbb, hown55, hb57⟩, hxwl51⟩ (by omega)
            · refine CW.exit ?_
              refine QW.thenExit ?_
              refine QW.thenExit ?_
              refine QW.blockHit ?_
              refine QW.blockN ?_
              refine QW.then_ ?_
              refine CW.region ?_
              refine RG.vl rfl rfl rfl (Ev.addI rfl rfl rfl (by omega)) ?_
              refine RG.vl rfl rfl rfl (Ev.move rfl rfl) ?_
              refine RG.done ?_
              refine QW.round2 (i + 1) (M) ⟨rfl, trivial⟩ ⟨rfl, rfl, rfl, rfl, rfl, rfl, rfl, rfl, trivial⟩ ⟨⟨by omega, pm_row (by have e : j = dg q := (by omega); rw [e] at hM; exact hM) ha, hown, hP⟩, hxwl51⟩ (by omega)
          · refine CW.exit ?_
            refine QW.thenExit ?_
            refine QW.thenExit ?_
            refine QW.blockHit ?_
            refine QW.then_ ?_
            refine CW.seq ?_
            refine CW.region ?_
            refine RG.vl rfl rfl rfl (Ev.ld0 rfl rfl Try.underlying39 rfl (hP.cells) (rfl)) ?_
            refine RG.vl rfl rfl rfl (Ev.assign rfl rfl) ?_
            refine RG.vl rfl rfl rfl (Ev.assign rfl rfl) ?_
            refine RG.done ?_
            refine QW.then_ ?_
            refine CW.ret ?_
            refine QW.ret2 rfl rfl rfl ?_
            have hB := (Ex.tr hR31 hxwl47)
            have hmE : mulE p q = 0 := by unfold mulE; rw [if_pos he0, if_neg (by omega)]
            have e : i = dg p := by omega
            rw [e] at hL
            exact ⟨_, by rw [hmE], by rw [if_pos hmE, ← pm_end (by omega) (by omega) hL]; exact hown.low (by have := hR31.size; omega), hB⟩

set_option maxRecDepth 100000 in
set_option maxHeartbeats 2000000 in
theorem divide_ret (u v : Value) (p q : List Nat) (w : World) (hl : RdL w 1 encN u p) (hm : RdL w 1 encN v q) (hlen : p.length ≤ 100000) (hlen2 : q.length ≤ 100000) :
    Ret Try.prog 36 [u, v] w (fun v w' => ∃ r1 r2 d r, v = .tuple #[r1, r2, .int .i64 (divE p q)] ∧ Own w' w.heap.size 5 1 encN r1 d ∧ Own w' w.heap.size 5 1 encN r2 r ∧ Sep r1 r2 ∧ (divE p q = 0 → IsDiv p q d r ∧ tr d = d ∧ tr r = r ∧ El d ∧ El r) ∧ (divE p q ≠ 0 → d = [] ∧ r = []) ∧ Ex w w') := by
  obtain ⟨Au, Cu, rfl⟩ := hl.shape
  obtain ⟨Av, Cv, rfl⟩ := hm.shape
  have hB0 : Ex w w := Ex.rfl_ _
  refine Ret.of Try.func36 rfl Try.ntmps36 rfl ?_
  refine CW.seq ?_
  refine CW.region ?_
  refine RG.vl rfl rfl rfl (Ev.assign rfl rfl) ?_
  refine RG.vl rfl rfl rfl (Ev.assign rfl rfl) ?_
  refine RG.vl rfl rfl rfl (Ev.assign rfl rfl) ?_
  refine RG.done ?_
  refine QW.then_ ?_
  refine CW.seq ?_
  refine CW.seq ?_
  refine CW.region ?_
  refine RG.vl rfl rfl rfl (Ev.move rfl rfl) ?_
  refine RG.vl rfl rfl rfl (Ev.move rfl rfl) ?_
  refine RG.litO (os := [.tmp 16, .tmp 17]) (enc := encV) ([_, _]) rfl rfl rfl rfl rfl rfl rfl Try.underlying76 inf_39 rfl rfl rfl rfl rfl encV_len rfl rfl (fun v1 wk2 hxwk2 hown3 hnew4 => ?_)
  have hE5 := hxwk2
  refine RG.call rfl rfl rfl rfl rfl rfl rfl en_44 (check2_ret _ _ _ _ _  _ ((hown3.rdl encV_len)) ((hl.ext hE5)) ((hm.ext hE5))) ?_
  rintro _ w6 ⟨rfl, hx6⟩
  replace hE5 := Ex.tr hE5 hx6
  have hE7 := hx6
  refine RG.vl rfl rfl rfl (Ev.assign rfl rfl) ?_
  refine RG.done ?_
  refine QW.then_ ?_
  refine CW.seq ?_
  refine CW.region ?_
  refine RG.vl rfl rfl rfl (Ev.move rfl rfl) ?_
  refine RG.vl rfl rfl rfl (Ev.neI rfl rfl rfl) ?_
  refine RG.done ?_
  refine QW.then_ ?_
  refine CW.condP rfl (fun hc8 => ?_) (fun hc8 => ?_)
  · refine CW.seq ?_
    refine CW.region ?_
    refine RG.vl rfl rfl rfl (Ev.move rfl rfl) ?_
    refine RG.vl rfl rfl rfl (Ev.assign rfl rfl) ?_
    refine RG.vl rfl rfl rfl (Ev.assign rfl rfl) ?_
    refine RG.vl rfl rfl rfl (Ev.assign rfl rfl) ?_
    refine RG.done ?_
    refine QW.sub (S' := [(0, _), (1, _), (4, _), (5, _), (6, _)]) ⟨rfl, rfl, rfl, rfl, rfl, trivial⟩ ?_
    refine QW.then_ ?_
    refine CW.ret ?_
    refine QW.thenRet ?_
    refine QW.ret3 rfl rfl rfl rfl ?_
    have hB := (Ex.tr hB0 hE5)
    have hmE : divE p q = errL [p, q] := by unfold divE; rw [if_neg (by assumption)]
    exact ⟨_, _, [], [], by rw [hmE], Own.nil_ _ _ _ _ _, Own.nil_ _ _ _ _ _, Sep.nil_ _, fun h => absurd h (by rw [hmE]; assumption), fun _ => ⟨rfl, rfl⟩, hB⟩
  · refine CW.skip ?_
    refine QW.then_ ?_
    refine CW.seq ?_
    have he0 : errL [p, q] = 0 := by omega
    obtain ⟨⟨hp128, hpe⟩, hq128, hqe⟩ := errL2 he0
    have hdp := dg_len p
    have hdq := dg_len q
    refine CW.region ?_
    refine RG.vl rfl rfl rfl (Ev.move rfl rfl) ?_
    refine RG.call rfl rfl rfl rfl rfl rfl rfl en_50 (degree_ret _ _ _ ((hm.ext hE5)) (by first | omega | (rw [List.length_replicate]; omega))) ?_
    rintro _ w9 ⟨rfl, hx9⟩
    replace hE5 := Ex.tr hE5 hx9
    replace hE7 := Ex.tr hE7 hx9
    have hE10 := hx9
    refine RG.vl rfl rfl rfl (Ev.assign rfl rfl) ?_
    refine RG.done ?_
    refine QW.then_ ?_
    refine CW.seq ?_
    refine CW.seq ?_
    refine CW.region ?_
    refine RG.vl rfl rfl rfl (Ev.move rfl rfl) ?_
    refine RG.vl rfl rfl rfl (Ev.lss rfl rfl rfl) ?_
    refine RG.done ?_
    refine QW.sub (S' := [(0, _), (1, _), (4, _), (5, _), (6, _), (8, _), (26, _)]) ⟨rfl, rfl, rfl, rfl, rfl, rfl, rfl, trivial⟩ ?_
    refine QW.then_ ?_
    refine CW.condP rfl (fun hc11 => ?_) (fun hc11 => ?_)
    · refine CW.seq ?_
      refine CW.region ?_
      refine RG.vl rfl rfl rfl (Ev.assign rfl rfl) ?_
      refine RG.vl rfl rfl rfl (Ev.assign rfl rfl) ?_
      refine RG.vl rfl rfl rfl (Ev.assign rfl rfl) ?_
      refine RG.done ?_
      refine QW.then_ ?_
      refine CW.ret ?_
      refine QW.thenRet ?_
      refine QW.ret3 rfl rfl rfl rfl ?_
      have hB := (Ex.tr hB0 hE5)
      have hmE : divE p q = 6 := by unfold divE; rw [if_pos he0, if_pos (by omega)]
      exact ⟨_, _, [], [], by rw [hmE], Own.nil_ _ _ _ _ _, Own.nil_ _ _ _ _ _, Sep.nil_ _, fun h => absurd h (by rw [hmE]; decide), fun _ => ⟨rfl, rfl⟩, hB⟩
    · refine CW.skip ?_
      refine QW.then_ ?_
      refine CW.seq ?_
      refine CW.region ?_
      refine RG.call rfl rfl rfl rfl rfl rfl rfl en_45 (newTables_ret _) ?_
      rintro _ w12 ⟨gt12, rfl, hge12, ht12, hx12⟩
      replace hE5 := Ex.tr hE5 hx12
      replace hE7 := Ex.tr hE7 hx12
      replace hE10 := Ex.tr hE10 hx12
      have hE13 := hx12
      refine RG.vl rfl rfl rfl (Ev.assign rfl rfl) ?_
      refine RG.done ?_
      refine QW.then_ ?_
      refine CW.seq ?_
      refine CW.region ?_
      refine RG.vl rfl rfl rfl (Ev.move rfl rfl) ?_
      replace hl := (hl.ext hE5)
      replace hm := (hm.ext hE5)
      replace hown3 := (Own.ext hown3 hE7)
      have hR14 := (Ex.tr hB0 hE5)
      have hR15 := hE7
      have hR16 := hE10
      have hR17 := hE13
      refine RG.call rfl rfl rfl rfl rfl rfl rfl en_52 (trimmed_ret _ _ _ (hl) (by omega)) ?_
      have hpre18 := hR14
      rintro vt w18 ⟨hvt, hx18⟩
      have hsep19 : Sep vt _ := Sep.of_new hown3 (fun k h => Own.ge hvt h)
      have hE20 := hx18
      refine RG.vl rfl rfl rfl (Ev.assign rfl rfl) ?_
      refine RG.done ?_
      refine QW.then_ ?_
      refine CW.seq ?_
      have htl := tr_len p
      refine CW.region ?_
      refine RG.vl rfl rfl rfl (Ev.move rfl rfl) ?_
      refine RG.vl rfl rfl rfl (Ev.lenL rfl rfl rfl Try.underlying39 ((hvt.rdl encN_len))) ?_
      refine RG.vl rfl rfl rfl (Ev.move rfl rfl) ?_
      refine RG.vl rfl rfl rfl (Ev.subI rfl rfl rfl (by omega)) ?_
      refine RG.vl rfl rfl rfl (Ev.max2 rfl rfl rfl rfl) ?_
      refine RG.makeO (m := dg p - (dg q - 1)) (enc := encN) 0 rfl rfl rfl rfl rfl rfl (by omega) Try.underlying39 inf_5 encN_len rfl rfl (by omega) (by simp only [maxLen]; omega) (fun vq wk21 hxwk21 hown22 hnew23 => ?_)
      have hsep24 : Sep vq _ := Sep.of_new (Own.ext hown3 hE20) hnew23
      have hsep25 : Sep vq _ := Sep.of_new hvt hnew23
      replace hown22 := Own.low (B' := w12.heap.size) hown22 (by have := hE20.size; omega)
      replace hE20 := Ex.tr hE20 hxwk21
      have hE26 := hxwk21
      refine RG.vl rfl rfl rfl (Ev.assign rfl rfl) ?_
      refine RG.done ?_
      refine QW.then_ ?_
      refine CW.seq ?_
      have hq64 := hqe.cf (dg q - 1)
      have hqk : q[dg q - 1]? = some (cf q (dg q - 1)) := getElem?_cf (by omega)
      refine CW.region ?_
      refine RG.vl rfl rfl rfl (Ev.move rfl rfl) ?_
      refine RG.vl rfl rfl rfl (Ev.move rfl rfl) ?_
      refine RG.vl rfl rfl rfl ((Ev.move rfl rfl).conv (congrArg (Value.int .i64) (show (dg q : Int) - 1 = ((dg q - 1 : Nat) : Int) by omega))) ?_
      refine RG.idxL rfl rfl rfl rfl rfl rfl Try.underlying39 sz_5 ((hm.ext hE20)) (hqk) (fun p27 hp27b hp27 => ?_)
      refine RG.vl rfl rfl rfl (Ev.ld0 rfl rfl Try.underlying5 rfl (hp27) (rfl)) ?_
      refine RG.call rfl rfl rfl rfl rfl rfl rfl en_51 (inv_ret _ _ _ (ht12.ext hE20) (by exact hq64)) ?_
      rintro _ w28 ⟨rfl, hx28⟩
      replace hE20 := Ex.tr hE20 hx28
      replace hE26 := Ex.tr hE26 hx28
      have hE29 := hx28
      refine RG.vl rfl rfl rfl (Ev.assign rfl rfl) ?_
      refine RG.done ?_
      refine QW.sub (S' := [(1, _), (4, _), (5, _), (6, _), (8, _), (9, _), (10, _), (11, _), (12, _)]) ⟨rfl, rfl, rfl, rfl, rfl, rfl, rfl, rfl, rfl, trivial⟩ ?_
      refine QW.then_ ?_
      refine CW.seq ?_
      refine CW.seq ?_
      refine CW.region ?_
      refine RG.vl rfl rfl rfl (Ev.move rfl rfl) ?_
      refine RG.vl rfl rfl rfl ((Ev.lenL rfl rfl rfl Try.underlying39 (((Own.ext hown22 hE29).rdl encN_len))).conv (congrArg (Value.int .i64) (show ((List.replicate (dg p - (dg q - 1)) 0).length : Int) = ((dg p - (dg q - 1) : Nat) : Int) by rw [List.length_replicate]))) ?_
      refine RG.vl rfl rfl rfl (Ev.subI rfl rfl rfl (by omega)) ?_
      refine RG.vl rfl rfl rfl (Ev.assign rfl rfl) ?_
      refine RG.done ?_
      refine QW.then_ ?_
      refine CW.block ?_
      refine CW.loop3 [(1, _), (4, _), (5, _), (6, _), (8, _), (9, _), (10, _), (11, _), (12, _)] ⟨rfl, rfl, rfl, rfl, rfl, rfl, rfl, rfl, rfl, trivial⟩ (fun (k1 : Nat) (D : List Nat) (R : List Nat) => [(13, .int .i64 ((k1 : Int) - 1))]) (fun k1 D R w' => (k1 ≤ dg p - (dg q - 1) ∧ Div p q D R k1 ∧ Own w' w12.heap.size 5 1 encN vq D ∧ Own w' w12.heap.size 5 1 encN vt R) ∧ Ex w12 w') (fun k1 D R => k1) (dg p - (dg q - 1)) (List.replicate (dg p - (dg q - 1)) 0) (tr p) ⟨rfl, trivial⟩ ⟨⟨Nat.le_refl _, div_start hpe, (Own.ext hown22 hE29), (Own.ext hvt hE26)⟩, hE20⟩ ?_
      rintro k1 D R wl30 ⟨⟨hk1, hdv, hvq, hvr⟩, hxwl30⟩
      refine CW.sub (S' := [(13, _), (1, _), (4, _), (5, _), (6, _), (8, _), (9, _), (10, _), (11, _), (12, _)]) ⟨rfl, rfl, rfl, rfl, rfl, rfl, rfl, rfl, rfl, rfl, trivial⟩ ?_
      refine CW.seq ?_
      refine CW.seq ?_
      refine CW.region ?_
      refine RG.vl rfl rfl rfl (Ev.move rfl rfl) ?_
      refine RG.vl rfl rfl rfl (Ev.geq rfl rfl rfl) ?_
      refine RG.done ?_
      refine QW.then_ ?_
      refine CW.condP rfl (fun hc31 => ?_) (fun hc31 => ?_)
      · refine CW.skip ?_
        refine QW.then_ ?_
        refine CW.seq ?_
        refine CW.block ?_
        refine CW.seq ?_
        obtain ⟨k, rfl⟩ : ∃ k, k1 = k + 1 := ⟨k1 - 1, by omega⟩
        have hRl := hdv.rl
        have hDl := hdv.dl
        have hR64 := hdv.re.cf (k + (dg q - 1))
        have hgi := (gi_lt (cf q (dg q - 1))).2
        have htq : ((q.take (dg q)).drop 0).length = dg q := by rw [List.length_drop, List.length_take]; omega
        refine CW.region ?_
        refine RG.vl rfl rfl rfl (Ev.move rfl rfl) ?_
        refine RG.vl rfl rfl rfl ((Ev.move rfl rfl).conv (congrArg (Value.int .i64) (show ((k + 1 : Nat) : Int) - 1 = (k : Int) by omega))) ?_
        refine RG.vl rfl rfl rfl (Ev.move rfl rfl) ?_
        refine RG.vl rfl rfl rfl (Ev.move rfl rfl) ?_
        refine RG.vl rfl rfl rfl ((Ev.move rfl rfl).conv (congrArg (Value.int .i64) (show ((k + 1 : Nat) : Int) - 1 = (k : Int) by omega))) ?_
        refine RG.vl rfl rfl rfl ((Ev.move rfl rfl).conv (congrArg (Value.int .i64) (show (dg q : Int) - 1 = ((dg q - 1 : Nat) : Int) by omega))) ?_
        refine RG.vl rfl rfl rfl ((Ev.addI rfl rfl rfl (by omega)).conv (congrArg (Value.int .i64) (Int.natCast_add k (dg q - 1)).symm)) ?_
        refine RG.idxO rfl rfl rfl rfl rfl rfl Try.underlying39 sz_5 encN_len (hvr) (getElem?_cf (by omega)) (fun g33 hg33 hBg33 hp32b hp32 => ?_)
        refine RG.vl rfl rfl rfl (Ev.ld0 rfl rfl Try.underlying5 rfl (hp32) (rfl)) ?_
        refine RG.vl rfl rfl rfl (Ev.move rfl rfl) ?_
        refine RG.call rfl rfl rfl rfl rfl rfl rfl en_46 (mul_ret _ _ _ _ (ht12.ext hxwl30) (by exact hR64) (by exact hgi)) ?_
        rintro _ w34 ⟨rfl, hx34⟩
        replace hxwl30 := Ex.tr hxwl30 hx34
        have hE35 := hx34
        refine RG.idxO rfl rfl rfl rfl rfl rfl Try.underlying39 sz_5 encN_len ((Own.ext hvq hE35)) (getElem?_cf (by omega)) (fun g37 hg37 hBg37 hp36b hp36 => ?_)
        refine RG.stOw0 (g := g37) (_) rfl rfl rfl rfl rfl sz_5 rfl (fun _ => rfl) (Own.ext hvq hE35) hg37 (getElem?_cf (by omega)) rfl (rfl) (fun ws38 hwws38 hown39 => ?_)
        replace hvr := Own.far (Own.ext hvr hE35) hwws38 (fun e => hsep25 _ hg37 e)
        replace hxwl30 := Wr.below hxwl30 hwws38 hBg37
        refine RG.done ?_
        refine QW.sub (S' := [(1, _), (4, _), (5, _), (6, _), (8, _), (9, _), (10, _), (11, _), (12, _), (13, _)]) ⟨rfl, rfl, rfl, rfl, rfl, rfl, rfl, rfl, rfl, rfl, trivial⟩ ?_
        refine QW.then_ ?_
        refine CW.seq ?_
        refine CW.region ?_
        refine RG.vl rfl rfl rfl (Ev.move rfl rfl) ?_
        refine RG.vl rfl rfl rfl ((Ev.move rfl rfl).conv (congrArg (Value.int .i64) (show (dg q : Int) - 1 = ((dg q - 1 : Nat) : Int) by omega))) ?_
        refine RG.vl rfl rfl rfl ((Ev.addI rfl rfl rfl (by omega)).conv (congrArg (Value.int .i64) (show ((dg q - 1 : Nat) : Int) + 1 = (dg q : Int) by omega))) ?_
        refine RG.sliceL (L := 0) (H := dg q) _ rfl rfl rfl rfl rfl Try.underlying39 sz_5 (hm) (.inl ⟨rfl, rfl⟩) (.inr ⟨_, _, _, rfl, rfl, by omega⟩) (by omega) (by omega) (fun v40 hrv40 => ?_)
        refine RG.vl rfl rfl rfl (Ev.lenL rfl rfl rfl Try.underlying39 ((hrv40.ext hxwl30))) ?_
        refine RG.vl rfl rfl rfl (Ev.move rfl rfl) ?_
        refine RG.done ?_
        refine QW.then_ ?_
        refine CW.block ?_
        refine CW.loop2 [(1, _), (4, _), (5, _), (6, _), (8, _), (9, _), (10, _), (11, _), (12, _), (13, _), (64, _), (65, _)] ⟨rfl, rfl, rfl, rfl, rfl, rfl, rfl, rfl, rfl, rfl, rfl, rfl, trivial⟩ (fun (j : Nat) (M : List Nat) => [(66, .int .i64 j)]) (fun j M w' => (j ≤ dg q ∧ Cfs M R.length (divF q R k (gm (cf R (k + (dg q - 1))) (gi (cf q (dg q - 1)))) j) ∧ Own w' w12.heap.size 5 1 encN vq (D.set k (gm (cf R (k + (dg q - 1))) (gi (cf q (dg q - 1))))) ∧ Own w' w12.heap.size 5 1 encN vt M) ∧ Ex w12 w') (fun j M => dg q - j) (0) (R) ⟨rfl, trivial⟩ ⟨⟨Nat.zero_le _, div_cfs q R k _, hown39, hvr⟩, hxwl30⟩ ?_
        rintro j M wl41 ⟨⟨hj, hM, hvq, hvr⟩, hxwl41⟩
        refine CW.sub (S' := [(66, _), (1, _), (4, _), (5, _), (6, _), (8, _), (9, _), (10, _), (11, _), (12, _), (13, _), (64, _), (65, _)]) ⟨rfl, rfl, rfl, rfl, rfl, rfl, rfl, rfl, rfl, rfl, rfl, rfl, rfl, trivial⟩ ?_
        refine CW.seq ?_
        refine CW.region ?_
        refine RG.vl rfl rfl rfl (Ev.lss rfl rfl rfl) ?_
        refine RG.done ?_
        refine QW.then_ ?_
        refine CW.seq ?_
        refine CW.condP rfl (fun hc42 => ?_) (fun hc42 => ?_)
        · refine CW.skip ?_
          refine QW.then_ ?_
          refine CW.seq ?_
          refine CW.block ?_
          refine CW.seq ?_
          obtain ⟨b, hbb⟩ : ∃ c, q[j]? = some c := ⟨_, List.getElem?_eq_getElem (by omega)⟩
          have hbb' : ((q.take (dg q)).drop 0)[j]? = some b := by rw [List.getElem?_drop, List.getElem?_take, Nat.zero_add, if_pos (by omega)]; exact hbb
          have hb64 := hqe.get hbb
          have hMl := hM.1
          have hC64 : (gm (cf R (k + (dg q - 1))) (gi (cf q (dg q - 1)))) < 64 := gm_lt _ _
          refine CW.region ?_
          refine RG.vl rfl rfl rfl (Ev.move rfl rfl) ?_
          refine RG.idxL rfl rfl rfl rfl rfl rfl Try.underlying39 sz_5 ((hrv40.ext hxwl41)) (hbb') (fun p43 hp43b hp43 => ?_)
          refine RG.vl rfl rfl rfl (Ev.ld0 rfl rfl Try.underlying5 rfl (hp43) (rfl)) ?_
          refine RG.vl rfl rfl rfl (Ev.assign rfl rfl) ?_
          refine RG.vl rfl rfl rfl (Ev.assign rfl rfl) ?_
          refine RG.done ?_
          refine QW.then_ ?_
          refine CW.draw [15] (.ex) 16 rfl mixed (fun wd44 hxwd44 => ?_)
          replace hxwl41 := Ex.tr hxwl41 hxwd44
          have hE45 := hxwd44
          refine AG.takeW 0 rfl (by kernel_rfl) (by kernel_rfl) rfl rfl rfl (fun _ => Ev.move rfl rfl) ?_
          refine AG.takeW 1 rfl (by kernel_rfl) (by kernel_rfl) rfl rfl rfl (fun _ => (Ev.move rfl rfl).conv (congrArg (Value.int .i64) (show ((k + 1 : Nat) : Int) - 1 = (k : Int) by omega))) ?_
          refine AG.takeW 2 rfl (by kernel_rfl) (by kernel_rfl) rfl rfl rfl (fun _ => Ev.move rfl rfl) ?_
          refine AG.takeW 3 rfl (by kernel_rfl) (by kernel_rfl) rfl rfl rfl (fun _ => (Ev.addI rfl rfl rfl (by omega)).conv (congrArg (Value.int .i64) (Int.natCast_add k j).symm)) ?_
          refine AG.idxO _ 4 rfl (by kernel_rfl) (by kernel_rfl) rfl rfl rfl rfl rfl rfl Try.underlying39 sz_5 encN_len ((Own.ext hvr hE45)) (hM.get (by omega)) (fun g47 hg47 hBg47 hp46b hp46 => ?_)
          refine AG.take 5 rfl (by kernel_rfl) (by kernel_rfl) rfl rfl rfl (fun wq hq => Ev.ld0 rfl rfl Try.underlying5 rfl (hp46.ext hq hp46b) (rfl)) ?_
          refine AG.takeW 6 rfl (by kernel_rfl) (by kernel_rfl) rfl rfl rfl (fun _ => Ev.move rfl rfl) ?_
          refine AG.takeW 7 rfl (by kernel_rfl) (by kernel_rfl) rfl rfl rfl (fun _ => Ev.move rfl rfl) ?_
          refine AG.takeW 8 rfl (by kernel_rfl) (by kernel_rfl) rfl rfl rfl (fun _ => (Ev.move rfl rfl).conv (congrArg (Value.int .i64) (show ((k + 1 : Nat) : Int) - 1 = (k : Int) by omega))) ?_
          refine AG.idxO _ 9 rfl (by kernel_rfl) (by kernel_rfl) rfl rfl rfl rfl rfl rfl Try.underlying39 sz_5 encN_len ((Own.ext hvq hE45)) (List.getElem?_set_self (by omega)) (fun g49 hg49 hBg49 hp48b hp48 => ?_)
          refine AG.take 10 rfl (by kernel_rfl) (by kernel_rfl) rfl rfl rfl (fun wq hq => Ev.ld0 rfl rfl Try.underlying5 rfl (hp48.ext hq hp48b) (rfl)) ?_
          refine AG.takeW 11 rfl (by kernel_rfl) (by kernel_rfl) rfl rfl rfl (fun _ => Ev.move rfl rfl) ?_
          refine AG.only 12 rfl (by kernel_rfl) ?_
          refine RG.call rfl rfl rfl rfl rfl rfl rfl en_46 (mul_ret _ _ _ _ (ht12.ext hxwl41) (by exact hC64) (by exact hb64)) ?_
          rintro _ w51 ⟨rfl, hx51⟩
          replace hxwl41 := Ex.tr hxwl41 hx51
          replace hE45 := Ex.tr hE45 hx51
          have hE52 := hx51
          refine RG.done ?_
          refine QW.an (fun _ => hE52) ?_
          refine AG.takeW 13 rfl (by kernel_rfl) (by kernel_rfl) rfl rfl rfl (fun _ => Ev.xor8 rfl rfl rfl (by have := divF_lt (q := q) hdv.re k (gm (cf R (k + (dg q - 1))) (gi (cf q (dg q - 1)))) j (k + j); have := gm_lt (gm (cf R (k + (dg q - 1))) (gi (cf q (dg q - 1)))) b; omega) (by have := divF_lt (q := q) hdv.re k (gm (cf R (k + (dg q - 1))) (gi (cf q (dg q - 1)))) j (k + j); have := gm_lt (gm (cf R (k + (dg q - 1))) (gi (cf q (dg q - 1)))) b; omega)) ?_
          refine AG.idxO _ 14 rfl (by kernel_rfl) (by kernel_rfl) rfl rfl rfl rfl rfl rfl Try.underlying39 sz_5 encN_len ((Own.ext hvr hE45)) (hM.get (by omega)) (fun g54 hg54 hBg54 hp53b hp53 => ?_)
          refine AG.only 15 rfl (by kernel_rfl) ?_
          refine RG.stOw0 (g := g54) (_) rfl rfl rfl rfl rfl sz_5 rfl (fun _ => rfl) (Own.ext hvr hE45) hg54 (hM.get (by omega)) rfl (rfl) (fun ws56 hwws56 hown57 => ?_)
          replace hvq := Own.far (Own.ext hvq hE45) hwws56 (fun e => (Sep.symm hsep25) _ hg54 e)
          replace hxwl41 := Wr.below hxwl41 hwws56 hBg54
          refine RG.done ?_
          refine QW.an (fun h => by simp at h) ?_
          refine AG.done (by kernel_rfl) ?_
          refine QW.sub (S' := [(1, _), (4, _), (5, _), (6, _), (8, _), (9, _), (10, _), (11, _), (12, _), (13, _), (64, _), (65, _), (66, _)]) ⟨rfl, rfl, rfl, rfl, rfl, rfl, rfl, rfl, rfl, rfl, rfl, rfl, rfl, trivial⟩ ?_
          refine QW.blockN ?_
          refine QW.then_ ?_
          refine CW.region ?_
          refine RG.vl rfl rfl rfl (Ev.addI rfl rfl rfl (by omega)) ?_
          refine RG.vl rfl rfl rfl (Ev.move rfl rfl) ?_
          refine RG.done ?_
          refine QW.round2 (j + 1) (_) ⟨rfl, trivial⟩ ⟨rfl, rfl, rfl, rfl, rfl, rfl, rfl, rfl, rfl, rfl, rfl, rfl, trivial⟩ ⟨⟨by omega, div_step hM (by omega) hbb, hvq, hown57⟩, hxwl41⟩ (by omega)
        · refine CW.exit ?_
          refine QW.thenExit ?_
          refine QW.thenExit ?_
          refine QW.blockHit ?_
          refine QW.blockN ?_
          refine QW.then_ ?_
          refine CW.region ?_
          refine RG.vl rfl rfl rfl (Ev.move rfl rfl) ?_
          refine RG.vl rfl rfl rfl (Ev.subI rfl rfl rfl (by omega)) ?_
          refine RG.vl rfl rfl rfl (Ev.assign rfl rfl) ?_
          refine RG.done ?_
          refine QW.round3 (k) (D.set k (gm (cf R (k + (dg q - 1))) (gi (cf q (dg q - 1))))) (M) ⟨congrArg (fun x => some (Value.int .i64 x)) (show ((k + 1 : Nat) : Int) - 1 - 1 = (k : Int) - 1 by omega), trivial⟩ ⟨rfl, rfl, rfl, rfl, rfl, rfl, rfl, rfl, rfl, trivial⟩ ⟨⟨by omega, div_row (by omega) hqe hdv (by omega) (by have e : j = dg q := (by omega); rw [e] at hM; exact hM), hvq, hvr⟩, hxwl41⟩ (by omega)
      · refine CW.exit ?_
        refine QW.thenExit ?_
        refine QW.thenExit ?_
        refine QW.blockHit ?_
        refine QW.then_ ?_
        refine CW.seq ?_
        have hRl := hdv.rl
        refine CW.region ?_
        refine RG.vl rfl rfl rfl (Ev.move rfl rfl) ?_
        refine RG.vl rfl rfl rfl (Ev.move rfl rfl) ?_
        refine RG.call rfl rfl rfl rfl rfl rfl rfl en_52 (trimmed_ret _ _ _ ((hvr.rdl encN_len)) (by omega)) ?_
        have hpre58 := (Ex.tr hR14 hxwl30)
        rintro vt58 w58 ⟨hown_t58, hx58⟩
        have hsep59 : Sep vt58 _ := Sep.of_new (Own.ext hown3 hxwl30) (fun k h => Own.ge hown_t58 h)
        have hsep60 : Sep vt58 _ := Sep.of_new hvq (fun k h => Own.ge hown_t58 h)
        have hsep61 : Sep vt58 _ := Sep.of_new hvr (fun k h => Own.ge hown_t58 h)
        replace hxwl30 := Ex.tr hxwl30 hx58
        have hE62 := hx58
        refine RG.vl rfl rfl rfl (Ev.assign rfl rfl) ?_
        refine RG.vl rfl rfl rfl (Ev.assign rfl rfl) ?_
        refine RG.vl rfl rfl rfl (Ev.assign rfl rfl) ?_
        refine RG.done ?_
        refine QW.then_ ?_
        refine CW.ret ?_
        refine QW.ret3 rfl rfl rfl rfl ?_
        have hB := (Ex.tr hR14 hxwl30)
        have hmE : divE p q = 0 := by unfold divE; rw [if_pos he0, if_neg (by omega)]
        obtain rfl : k1 = 0 := by omega
        obtain ⟨hdv1, hdv2⟩ := div_end (by omega) hdv
        exact ⟨_, _, D, tr R, by rw [hmE], (Own.ext hvq hE62).low (by have := hR14.size; omega), hown_t58.low (by have := hpre58.size; omega), (Sep.symm hsep60), fun _ => ⟨hdv1, hdv2, tr_tr R, hdv.de, hdv.re.tr⟩, fun h => absurd hmE h, hB⟩

end Go.Proofs.Ytjaledljhiihmaa
