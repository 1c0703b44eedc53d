/- Walks (SI). Written by program. -/
import Derived.Test.YtjhgihgggofocaaT
import Derived.Test.YtjhgihgggofocaaSH
import Derived.Test.YtjhgihgggofocaaSC
import Derived.Test.YtjhgihgggofocaaLY
namespace Go.Proofs.Ytjhgihgggofocaa
open Go.RowKit
set_option maxRecDepth 100000 in
set_option maxHeartbeats 2000000 in
theorem eqsOf_ret (n : Nat) (u : Value) (P sL : List Nat) (w : World) (hl : RdL w 1 encZ u P) (hP : P.length ≤ 4) (hn : n ≤ 63) (hp : ∀ a ∈ P, a < n) (hs : sL.length = 4) :
    Ret Try.prog 37 [.int .i64 (n : Int), u, .agg (encs4 sL).toArray] w (fun v w' => v = .agg (mc (eqM n P sL)).toArray ∧ Ex w w') := by
  obtain ⟨s0, s1, s2, s3, rfl⟩ : ∃ a b c d, sL = [a, b, c, d] := by match sL, hs with | [a, b, c, d], _ => exact ⟨a, b, c, d, rfl⟩
  obtain ⟨sL, hsL⟩ : ∃ l : List Nat, l = [s0, s1, s2, s3] := ⟨_, rfl⟩
  have hs4 : sL.length = 4 := by rw [hsL]; rfl
  rw [← hsL]
  have hB0 : Ex w w := Ex.rfl_ _
  refine Ret.of Try.func37 rfl Try.ntmps37 rfl ?_
  refine CW.seq ?_
  refine CW.region ?_
  refine RG.box rfl rfl rfl rfl rfl (fun gS w1 egS hx1 hb1 => ?_)
  have hle2 : w.heap.size ≤ gS := by have := (Ex.rfl_ w).size; omega
  have hE3 := hx1
  refine RG.alloc_ rfl rfl rfl rfl inf_64 (fun gR w4 egR hx4 hb4 => ?_)
  have hle5 : w.heap.size ≤ gR := by have := hE3.size; omega
  have hle6 : w1.heap.size ≤ gR := by have := (Ex.rfl_ w1).size; omega
  have hlt7 : gS < gR := by have := Blk.lt hb1; omega
  replace hE3 := Ex.tr hE3 hx4
  have hE8 := hx4
  refine RG.done ?_
  refine QW.then_ ?_
  refine CW.seq ?_
  refine CW.region ?_
  refine RG.alloc_ rfl rfl rfl rfl inf_64 (fun gE w9 egE hx9 hb9 => ?_)
  have hle10 : w.heap.size ≤ gE := by have := hE3.size; omega
  have hle11 : w1.heap.size ≤ gE := by have := hE8.size; omega
  have hle12 : w4.heap.size ≤ gE := by have := (Ex.rfl_ w4).size; omega
  have hlt13 : gS < gE := by have := Blk.lt (hb1.ext hE8); omega
  have hlt14 : gR < gE := by have := Blk.lt hb4; omega
  replace hE3 := Ex.tr hE3 hx9
  replace hE8 := Ex.tr hE8 hx9
  have hE15 := hx9
  refine RG.done ?_
  refine QW.then_ ?_
  refine CW.seq ?_
  refine CW.seq ?_
  refine CW.region ?_
  refine RG.vl rfl rfl rfl (Ev.move rfl rfl) ?_
  refine RG.done ?_
  refine QW.then_ ?_
  refine CW.block ?_
  refine CW.loop1 [(0, _), (1, _), (5, _), (6, _), (7, _)] ⟨rfl, rfl, rfl, rfl, rfl, trivial⟩ (fun (row : Nat) => [(11, .int .i64 (row : Int))]) (fun row w' => (row ≤ 4 ∧ Blk w' gE 64 (mc (stO n P sL row)) ∧ Blk w' gS 57 (encs4 sL) ∧ Blk w' gR 64 (mc fun _ _ => 0)) ∧ Ex w w') (fun row => 4 - row) (0) ⟨rfl, trivial⟩ ⟨⟨by omega, by rw [stO_zero, ← mc_zero]; exact hb9, (hb1.ext hE8), (hb4.ext hE15)⟩, (Ex.tr hB0 hE3)⟩ ?_
  rintro row wl16 ⟨⟨hrow, hbE, hbS, hbR⟩, hxwl16⟩
  refine CW.sub (S' := [(11, _), (0, _), (1, _), (5, _), (6, _), (7, _)]) ⟨rfl, rfl, rfl, rfl, rfl, rfl, trivial⟩ ?_
  refine CW.seq ?_
  refine CW.region ?_
  refine RG.vl rfl rfl rfl (Ev.lss rfl rfl rfl) ?_
  refine RG.done ?_
  refine QW.then_ ?_
  refine CW.seq ?_
  refine CW.condP rfl (fun hc17 => ?_) (fun hc17 => ?_)
  · refine CW.skip ?_
    refine QW.then_ ?_
    refine CW.seq ?_
    refine CW.block ?_
    refine CW.seq ?_
    refine CW.region ?_
    refine RG.vl rfl rfl rfl (Ev.move rfl rfl) ?_
    refine RG.vl rfl rfl rfl (Ev.assign rfl rfl) ?_
    refine RG.done ?_
    refine QW.then_ ?_
    refine CW.seq ?_
    refine CW.seq ?_
    refine CW.region ?_
    refine RG.vl rfl rfl rfl (Ev.move rfl rfl) ?_
    refine RG.vl rfl rfl rfl (Ev.lenL rfl rfl rfl Try.underlying23 ((hl.ext hxwl16))) ?_
    refine RG.vl rfl rfl rfl (Ev.move rfl rfl) ?_
    refine RG.done ?_
    refine QW.then_ ?_
    refine CW.block ?_
    refine CW.loop1 [(0, _), (1, _), (5, _), (6, _), (7, _), (8, _), (11, _), (14, _), (15, _)] ⟨rfl, rfl, rfl, rfl, rfl, rfl, rfl, rfl, rfl, trivial⟩ (fun (j : Nat) => [(16, .int .i64 (j : Int))]) (fun j w' => (j ≤ P.length ∧ Blk w' gE 64 (mc (stI n P sL row j)) ∧ Blk w' gS 57 (encs4 sL) ∧ Blk w' gR 64 (mc fun _ _ => 0)) ∧ Ex w w') (fun j => P.length - j) (0) ⟨rfl, trivial⟩ ⟨⟨Nat.zero_le _, by rw [stI_zero]; exact hbE, hbS, hbR⟩, (Ex.tr hB0 hxwl16)⟩ ?_
    rintro j wl18 ⟨⟨hj, hbE, hbS, hbR⟩, hxwl18⟩
    refine CW.sub (S' := [(16, _), (0, _), (1, _), (5, _), (6, _), (7, _), (8, _), (11, _), (14, _), (15, _)]) ⟨rfl, rfl, rfl, rfl, rfl, rfl, rfl, rfl, rfl, rfl, trivial⟩ ?_
    refine CW.seq ?_
    refine CW.region ?_
    refine RG.vl rfl rfl rfl (Ev.lss rfl rfl rfl) ?_
    refine RG.done ?_
    refine QW.then_ ?_
    refine CW.seq ?_
    refine CW.condP rfl (fun hc19 => ?_) (fun hc19 => ?_)
    · refine CW.skip ?_
      refine QW.then_ ?_
      refine CW.seq ?_
      refine CW.block ?_
      refine CW.seq ?_
      obtain ⟨a, hpl⟩ : ∃ a, P[j]? = some a := ⟨_, List.getElem?_eq_getElem (by omega)⟩
      refine CW.region ?_
      refine RG.vl rfl rfl rfl (Ev.move rfl rfl) ?_
      refine RG.idxL rfl rfl rfl rfl rfl rfl Try.underlying23 sz_3 ((hl.ext hxwl18)) (hpl) (fun p20 hp20b hp20 => ?_)
      refine RG.vl rfl rfl rfl (Ev.ld0 rfl rfl Try.underlying3 rfl (hp20) (rfl)) ?_
      refine RG.vl rfl rfl rfl (Ev.assign rfl rfl) ?_
      refine RG.vl rfl rfl rfl (Ev.assign rfl rfl) ?_
      refine RG.done ?_
      refine QW.then_ ?_
      have han := hp a (List.mem_of_getElem? hpl)
      obtain ⟨m, hm⟩ : ∃ m, m = n - 1 - a := ⟨_, rfl⟩
      have hmul : (row + 1) * m ≤ 4 * 62 := Nat.mul_le_mul (by omega) (by omega)
      refine CW.draw [15] (.ex) 16 rfl mixed (fun wd21 hxwd21 => ?_)
      replace hxwl18 := Ex.tr hxwl18 hxwd21
      have hE22 := hxwd21
      refine AG.takeW 0 rfl (by kernel_rfl) (by kernel_rfl) rfl rfl rfl (fun _ => Ev.move rfl rfl) ?_
      refine AG.takeW 1 rfl (by kernel_rfl) (by kernel_rfl) rfl rfl rfl (fun _ => Ev.move rfl rfl) ?_
      refine AG.takeW 2 rfl (by kernel_rfl) (by kernel_rfl) rfl rfl rfl (fun _ => Ev.move rfl rfl) ?_
      refine AG.takeW 3 rfl (by kernel_rfl) (by kernel_rfl) rfl rfl rfl (fun _ => (Ev.addI rfl rfl rfl (by omega)).conv (congrArg (Value.int .i64) (show (row : Int) + 1 = ((row + 1 : Nat) : Int) by omega))) ?_
      refine AG.takeW 4 rfl (by kernel_rfl) (by kernel_rfl) rfl rfl rfl (fun _ => Ev.move rfl rfl) ?_
      refine AG.takeW 5 rfl (by kernel_rfl) (by kernel_rfl) rfl rfl rfl (fun _ => Ev.subI rfl rfl rfl (by omega)) ?_
      refine AG.takeW 6 rfl (by kernel_rfl) (by kernel_rfl) rfl rfl rfl (fun _ => Ev.move rfl rfl) ?_
      refine AG.takeW 7 rfl (by kernel_rfl) (by kernel_rfl) rfl rfl rfl (fun _ => (Ev.subI rfl rfl rfl (by omega)).conv (congrArg (Value.int .i64) (show _ = (m : Int) by omega))) ?_
      refine AG.takeW 8 rfl (by kernel_rfl) (by kernel_rfl) rfl rfl rfl (fun _ => (Ev.mulI rfl rfl rfl (by rw [← Int.natCast_mul]; omega)).conv (congrArg (Value.int .i64) (Int.natCast_mul (row + 1) m).symm)) ?_
      refine AG.takeW 13 rfl (by kernel_rfl) (by kernel_rfl) rfl rfl rfl (fun _ => Ev.idxA rfl rfl rfl Try.underlying64 sz_62 (by omega)) ?_
      refine AG.only 9 rfl (by kernel_rfl) ?_
      refine RG.call rfl rfl rfl rfl rfl rfl rfl en_55 (Pow_el _ ((row + 1) * m)) ?_
      rintro _ w24 ⟨rfl, hx24⟩
      replace hxwl18 := Ex.tr hxwl18 hx24
      replace hE22 := Ex.tr hE22 hx24
      have hE25 := hx24
      refine RG.done ?_
      refine QW.an (fun _ => hE25) ?_
      refine AG.takeW 10 rfl (by kernel_rfl) (by kernel_rfl) rfl rfl rfl (fun _ => Ev.move rfl rfl) ?_
      refine AG.takeW 11 rfl (by kernel_rfl) (by kernel_rfl) rfl rfl rfl (fun _ => Ev.extract rfl rfl rfl) ?_
      refine AG.takeW 12 rfl (by kernel_rfl) (by kernel_rfl) rfl rfl rfl (fun _ => Ev.extract rfl rfl rfl) ?_
      refine AG.takeW 14 rfl (by kernel_rfl) (by kernel_rfl) rfl rfl rfl (fun _ => Ev.idxA rfl rfl rfl Try.underlying62 sz_5 (by omega)) ?_
      refine AG.only 15 rfl (by kernel_rfl) ?_
      refine RG.st2 (g := gE) rfl rfl rfl rfl rfl sz_5 rfl (hbE.ext hE22) (by rw [mc_len, Nat.blt_eq]; omega) (fun ws27 hwws27 hbws27 => ?_)
      replace hbS := Blk.far (hbS.ext hE22) hwws27 (by omega)
      replace hbR := Blk.far (hbR.ext hE22) hwws27 (by omega)
      replace hxwl18 := Wr.below hxwl18 hwws27 hle10
      rw [mc_set _ _ (by omega), hm, stI_more hP hpl] at hbws27
      refine RG.done ?_
      refine QW.an (fun h => by simp at h) ?_
      refine AG.done (by kernel_rfl) ?_
      refine QW.sub (S' := [(0, _), (1, _), (5, _), (6, _), (7, _), (8, _), (11, _), (14, _), (15, _), (16, _)]) ⟨rfl, rfl, rfl, rfl, rfl, rfl, rfl, rfl, rfl, rfl, trivial⟩ ?_
      refine QW.blockN ?_
      refine QW.then_ ?_
      refine CW.region ?_
      refine RG.vl rfl rfl rfl (Ev.addI rfl rfl rfl (by omega)) ?_
      refine RG.vl rfl rfl rfl (Ev.move rfl rfl) ?_
      refine RG.done ?_
      refine QW.round1 (j + 1) ⟨rfl, trivial⟩ ⟨rfl, rfl, rfl, rfl, rfl, rfl, rfl, rfl, rfl, trivial⟩ ⟨⟨by omega, hbws27, hbS, hbR⟩, (Ex.tr hB0 hxwl18)⟩ (by omega)
    · refine CW.exit ?_
      refine QW.thenExit ?_
      refine QW.thenExit ?_
      refine QW.blockHit ?_
      refine QW.then_ ?_
      obtain rfl : j = P.length := by omega
      refine CW.draw [6] (.ex) 7 rfl mixed (fun wd28 hxwd28 => ?_)
      replace hxwl18 := Ex.tr hxwl18 hxwd28
      have hE29 := hxwd28
      refine AG.takeW 0 rfl (by kernel_rfl) (by kernel_rfl) rfl rfl rfl (fun _ => Ev.move rfl rfl) ?_
      refine AG.takeW 1 rfl (by kernel_rfl) (by kernel_rfl) rfl rfl rfl (fun _ => Ev.move rfl rfl) ?_
      refine AG.takeW 2 rfl (by kernel_rfl) (by kernel_rfl) rfl rfl rfl (fun _ => Ev.idxA rfl rfl rfl Try.underlying57 sz_5 (by omega)) ?_
      refine AG.take 3 rfl (by kernel_rfl) (by kernel_rfl) rfl rfl rfl (fun wq hq => Ev.ldAt rfl rfl Try.underlying5 rfl (((hbS.ext hE29).ext hq).cells) ((show (encs4 sL)[row * 1]? = some (.int .u8 (cf sL row : Int)) by rw [List.getElem?_map, Nat.mul_one, getElem?_cf (by omega)]; rfl))) ?_
      refine AG.takeW 4 rfl (by kernel_rfl) (by kernel_rfl) rfl rfl rfl (fun _ => Ev.idxA rfl rfl rfl Try.underlying64 sz_62 (by omega)) ?_
      refine AG.takeW 5 rfl (by kernel_rfl) (by kernel_rfl) rfl rfl rfl (fun _ => Ev.idxA (i := 4) rfl rfl rfl Try.underlying62 sz_5 (by omega)) ?_
      refine AG.only 6 rfl (by kernel_rfl) ?_
      refine RG.st2 (g := gE) rfl rfl rfl rfl rfl sz_5 rfl (hbE.ext hE29) (by rw [mc_len, Nat.blt_eq]; omega) (fun ws31 hwws31 hbws31 => ?_)
      replace hbS := Blk.far (hbS.ext hE29) hwws31 (by omega)
      replace hbR := Blk.far (hbR.ext hE29) hwws31 (by omega)
      replace hxwl18 := Wr.below hxwl18 hwws31 hle10
      replace hbws31 : Blk ws31 gE 64 ((mc _).set (row * 5 + 4 * 1) _) := hbws31
      rw [mc_set _ _ (by omega), stI_end] at hbws31
      refine RG.done ?_
      refine QW.an (fun h => by simp at h) ?_
      refine AG.done (by kernel_rfl) ?_
      refine QW.blockN ?_
      refine QW.then_ ?_
      refine CW.region ?_
      refine RG.vl rfl rfl rfl (Ev.addI rfl rfl rfl (by omega)) ?_
      refine RG.vl rfl rfl rfl (Ev.move rfl rfl) ?_
      refine RG.done ?_
      refine QW.round1 (row + 1) ⟨rfl, trivial⟩ ⟨rfl, rfl, rfl, rfl, rfl, trivial⟩ ⟨⟨by omega, hbws31, hbS, hbR⟩, (Ex.tr hB0 hxwl18)⟩ (by omega)
  · refine CW.exit ?_
    refine QW.thenExit ?_
    refine QW.thenExit ?_
    refine QW.blockHit ?_
    refine QW.then_ ?_
    refine CW.seq ?_
    obtain rfl : row = 4 := by omega
    rw [stO_end] at hbE
    refine CW.region ?_
    refine RG.vl rfl rfl rfl (Ev.ldAgg rfl rfl Try.underlying64 rfl sz_64 rfl (hbE.cells)) ?_
    refine RG.stAll (g := gR) rfl rfl rfl rfl rfl sz_64 rfl rfl rfl hbR (fun ws32 hwws32 hbws32 => ?_)
    replace hbE := Blk.far hbE hwws32 (by omega)
    replace hbS := Blk.far hbS hwws32 (by omega)
    replace hxwl16 := Wr.below hxwl16 hwws32 hle5
    refine RG.done ?_
    refine QW.then_ ?_
    refine CW.ret ?_
    refine QW.retC rfl rfl Try.underlying64 rfl sz_64 rfl hbws32 ?_
    have hB := (Ex.tr hB0 hxwl16)
    exact ⟨rfl, hB⟩

set_option maxRecDepth 100000 in
set_option maxHeartbeats 1000000 in
theorem cand_ret (n : Nat) (A : Option Addr) (m c : Nat) (cs : List Value) (w : World)  :
    Ret Try.prog 36 [.int .i64 (n : Int), .slice A m c, .agg cs.toArray] w (fun v w' => (∃ gN gE gG, v = .func (.func 53) #[] #[.pointer (some ⟨gE, 0, none⟩), .pointer (some ⟨gN, 0, none⟩), .pointer (some ⟨gG, 0, none⟩)] ∧ Blk w' gN 3 [.int .i64 (n : Int)] ∧ Blk w' gE 23 [.slice A m c] ∧ Blk w' gG 56 cs) ∧ Ex w w') := by
  have hB0 : Ex w w := Ex.rfl_ _
  refine Ret.of Try.func36 rfl Try.ntmps36 rfl ?_
  refine CW.seq ?_
  refine CW.region ?_
  refine RG.box rfl rfl rfl rfl rfl (fun gN w1 egN hx1 hb1 => ?_)
  have hle2 : w.heap.size ≤ gN := by have := (Ex.rfl_ w).size; omega
  have hE3 := hx1
  refine RG.box rfl rfl rfl rfl rfl (fun gE w4 egE hx4 hb4 => ?_)
  have hle5 : w.heap.size ≤ gE := by have := hE3.size; omega
  have hle6 : w1.heap.size ≤ gE := by have := (Ex.rfl_ w1).size; omega
  have hlt7 : gN < gE := by have := Blk.lt hb1; omega
  replace hE3 := Ex.tr hE3 hx4
  have hE8 := hx4
  refine RG.box rfl rfl rfl rfl rfl (fun gG w9 egG hx9 hb9 => ?_)
  have hle10 : w.heap.size ≤ gG := by have := hE3.size; omega
  have hle11 : w1.heap.size ≤ gG := by have := hE8.size; omega
  have hle12 : w4.heap.size ≤ gG := by have := (Ex.rfl_ w4).size; omega
  have hlt13 : gN < gG := by have := Blk.lt (hb1.ext hE8); omega
  have hlt14 : gE < gG := by have := Blk.lt hb4; omega
  replace hE3 := Ex.tr hE3 hx9
  replace hE8 := Ex.tr hE8 hx9
  have hE15 := hx9
  refine RG.vl rfl rfl rfl (Ev.assign rfl rfl) ?_
  refine RG.done ?_
  refine QW.then_ ?_
  refine CW.seq ?_
  refine CW.region ?_
  refine RG.vl rfl rfl rfl (Ev.mkFn rfl rfl rfl rfl rfl) ?_
  refine RG.vl rfl rfl rfl (Ev.assign rfl rfl) ?_
  refine RG.done ?_
  refine QW.then_ ?_
  refine CW.ret ?_
  refine QW.ret1 rfl rfl ?_
  have hB := (Ex.tr hB0 hE3)
  exact ⟨⟨gN, gE, gG, rfl, (hb1.ext hE8), (hb4.ext hE15), hb9⟩, hB⟩

end Go.Proofs.Ytjhgihgggofocaa
